/- Arguments opened: a struct of one-cell fields, whole numbers and slices among them. No condition on a program. -/
import Derived.Test.YtoecglgbmhhdnaaDoorAopen
namespace Go.Proofs.YtoecglgbmhhdnaaDoor.Open
open Go.ChangeShapes Go.WideShapes Go.RowKit Go.Deep Go.Proofs.YtoecglgbmhhdnaaDoorW.PrintWords
section
variable {H : Type} {enc : TypeId × Value → H} {P : Program} {w : World} {base : Nat} {spare : Nat → Bool} {held : Bool}

/-- the one cell of a field -/
theorem field1 {t : TypeId} {fs : Array Field} (ht : P.underlying t = some (.struct fs)) {fuel : Nat} {cs : List Value} {y : DataW H × List MemPlace} (h : DataW.trod enc P w base spare held fuel t cs = some y)
    (j : Nat) {f : Field} (hj : fs[j]? = some f) (ho : f.offset = j) (hc : P.cellsOf f.type = 1) (hn : j < P.cellsOf t) : ∃ v n y', cs[j]? = some v ∧ DataW.trod enc P w base spare held n f.type [v] = some y' := by
  obtain ⟨ys, n', _, _, hlen, hyl, hg⟩ := DataW.trod_struct ht h
  have hjl : j < fs.size := (Array.getElem?_eq_some_iff.1 hj).1
  have hi : j < cs.length := by omega
  have e := hg j f hj
  rw [ho, hc] at e
  have ec : (cs.drop j).take 1 = [cs[j]] := by
    rw [List.drop_eq_getElem_cons hi]; rfl
  rw [ec, List.getElem?_eq_getElem (show j < ys.length by omega)] at e
  exact ⟨cs[j], n', _, List.getElem?_eq_getElem hi, e⟩
theorem len_struct {t : TypeId} {fs : Array Field} (ht : P.underlying t = some (.struct fs)) {fuel : Nat} {cs : List Value} {y : DataW H × List MemPlace} (h : DataW.trod enc P w base spare held fuel t cs = some y) : cs.length = P.cellsOf t := by
  obtain ⟨_, _, _, _, hlen, _, _⟩ := DataW.trod_struct ht h
  exact hlen
theorem int_form {t : TypeId} (ht : P.underlying t = some (.int .i64)) {fuel : Nat} {v : Value} {y : DataW H × List MemPlace} (h : DataW.trod enc P w base spare held fuel t [v] = some y) : ∃ a : Int, v = .int .i64 a ∧ (Lit.int .i64 a).wf = true := by
  obtain ⟨m, hm, _, hw⟩ := DataW.trod_int ht h
  injection hm with hm
  exact ⟨m, hm, hw⟩
theorem str_form {t : TypeId} (ht : P.underlying t = some .string) {fuel : Nat} {v : Value} {y : DataW H × List MemPlace} (h : DataW.trod enc P w base spare held fuel t [v] = some y) : ∃ a : ByteArray, v = .string a ∧ a.size ≤ maxLen := by
  obtain ⟨s, hs, _, hl⟩ := DataW.trod_string ht h
  injection hs with hs
  exact ⟨s, hs, hl⟩
theorem slice_form {t e : TypeId} (ht : P.underlying t = some (.slice e)) {fuel : Nat} {v : Value} {y : DataW H × List MemPlace} (h : DataW.trod enc P w base spare held fuel t [v] = some y) : ∃ A n c, v = .slice A n c ∧ DataW.Trod enc P w base spare held t (.slice A n c) y.1 y.2 := by
  rcases open_slice ht h with ⟨hc, _⟩ | ⟨a, len, cap, m, k, Ds, Pl, hcs, _⟩
  · injection hc with hc
    subst hc
    exact ⟨none, 0, 0, rfl, fuel, by simpa [Value.cells] using h⟩
  · injection hcs with hcs
    subst hcs
    exact ⟨some a, len, cap, rfl, fuel, by simpa [Value.cells] using h⟩
theorem list2 {cs : List Value} {a b : Value} (hl : cs.length = 2) (h0 : cs[0]? = some a) (h1 : cs[1]? = some b) : cs = [a, b] := by
  match cs, hl with
  | [x, y], _ => simp at h0 h1; rw [h0, h1]
theorem list3 {cs : List Value} {a b c : Value} (hl : cs.length = 3) (h0 : cs[0]? = some a) (h1 : cs[1]? = some b) (h2 : cs[2]? = some c) : cs = [a, b, c] := by
  match cs, hl with
  | [x, y, z], _ => simp at h0 h1 h2; rw [h0, h1, h2]
theorem list4 {cs : List Value} {a b c d : Value} (hl : cs.length = 4) (h0 : cs[0]? = some a) (h1 : cs[1]? = some b) (h2 : cs[2]? = some c) (h3 : cs[3]? = some d) : cs = [a, b, c, d] := by
  match cs, hl with
  | [x, y, z, u], _ => simp at h0 h1 h2 h3; rw [h0, h1, h2, h3]
end
end Go.Proofs.YtoecglgbmhhdnaaDoor.Open
