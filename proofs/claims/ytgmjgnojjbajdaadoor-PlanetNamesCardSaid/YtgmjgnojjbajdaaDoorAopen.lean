/- Arguments opened: a slice whose elements can be read, a struct whose cells are all whole numbers. No condition on a program. -/
import Derived.Deep.Slices
import Derived.Deep.Fields
import Derived.ChangeSame
import Derived.OpenShut
import Derived.SizedLaws
import Derived.DataShut
import Derived.Test.YtgmjgnojjbajdaaDoorWAllG
namespace Go.Proofs.YtgmjgnojjbajdaaDoor.Open
open Go.ChangeShapes Go.WideShapes Go.RowKit Go.Deep Go.Proofs.YtgmjgnojjbajdaaDoorW.PrintWords
section
variable {H : Type} {enc : TypeId × Value → H} {P : Program} {w : World} {base : Nat} {spare : Nat → Bool} {held : Bool}

/-- a slice as a list of its elements -/
theorem open_row {α : Type} (d : Kd α) (Q : α → Prop) {t e : TypeId} {A : Option Addr} {n c : Nat} {D : DataW H} {ps : List MemPlace} (ht : P.underlying t = some (.slice e)) (hsz : P.cellsOf e = d.sz)
    (hel : ∀ fuel cs y, DataW.trod enc P w base spare held fuel e cs = some y → ∃ x, d.K w x cs ∧ Q x) (h : DataW.Trod enc P w base spare held t (.slice A n c) D ps) :
    ∃ l : List α, n = l.length ∧ Kd.C d w A l.length l ∧ l.length ≤ c ∧ l.length ≤ maxLen ∧ ∀ x ∈ l, Q x := by
  obtain ⟨fuel, hf⟩ := h
  rcases open_slice ht hf with ⟨hc, _⟩ | ⟨a, len, cap, m, k, Ds, Pl, hcs, _, hl, hm, hmm, _, hi⟩
  · simp [Value.cells] at hc
    obtain ⟨rfl, rfl, rfl⟩ := hc
    exact ⟨[], rfl, ⟨rfl, by simp, fun h => by simp at h⟩, by simp, by simp [maxLen], by simp⟩
  · simp [Value.cells] at hcs
    obtain ⟨rfl, rfl, rfl⟩ := hcs
    have hlm : n ≤ m := by rw [hmm]; split <;> omega
    have each : ∀ i : Nat, i < n → ∃ x, ∃ cs, d.K w x cs ∧ Q x ∧ ∀ j u, cs[j]? = some u → w.cell? (a.add (i * d.sz + j)) = some u := by
      intro i hin
      obtain ⟨cs, hc, ht'⟩ := hi i (by omega)
      obtain ⟨x, hK, hQ⟩ := hel _ _ _ ht'
      refine ⟨x, cs, hK, hQ, fun j u hu => ?_⟩
      obtain ⟨_, hcl, hat⟩ := World.cells?_some hc
      have hj : j < cs.length := (List.getElem?_eq_some_iff.1 hu).1
      have := hat j (by omega)
      rw [hsz, Go.Deep.add_add] at this
      rw [this, hu]
    have all : ∀ k : Nat, k ≤ n → ∃ l : List α, l.length = k ∧ ∀ (i : Nat) x, l[i]? = some x → ∃ cs, d.K w x cs ∧ Q x ∧ ∀ j u, cs[j]? = some u → w.cell? (a.add (i * d.sz + j)) = some u := by
      intro k
      induction k with
      | zero => exact fun _ => ⟨[], rfl, fun i x h => by simp at h⟩
      | succ k ih =>
        intro hk
        obtain ⟨l, hll, hle⟩ := ih (by omega)
        obtain ⟨x, cs, hx⟩ := each k (by omega)
        refine ⟨l ++ [x], by simp [hll], fun i y hy => ?_⟩
        rcases Nat.lt_or_ge i l.length with h1 | h1
        · rw [List.getElem?_append_left h1] at hy
          exact hle i y hy
        · rw [List.getElem?_append_right h1] at hy
          have h2 : i - l.length = 0 := by
            rcases Nat.eq_zero_or_pos (i - l.length) with h3 | h3
            · exact h3
            · rw [List.getElem?_eq_none (by simp; omega)] at hy; cases hy
          rw [h2] at hy
          simp at hy
          subst hy
          rw [show i = k by omega]
          exact ⟨cs, hx⟩
    obtain ⟨l, hll, hle⟩ := all n (Nat.le_refl n)
    have hm2 : n ≤ 9223372036854775807 := by unfold maxLen at hm; omega
    refine ⟨l, hll.symm, ⟨rfl, by omega, fun _ => ⟨a, rfl, fun j p hp => ?_⟩⟩, by omega, by omega, fun x hx => ?_⟩
    · obtain ⟨cs, hK, _, hc⟩ := hle j p hp
      exact ⟨cs, d.K_len hK, hK, hc⟩
    · obtain ⟨j, hj⟩ := List.getElem?_of_mem hx
      obtain ⟨cs, _, hQ, _⟩ := hle j x hj
      exact hQ

/-- cells that are whole numbers -/
def Ints (n : Nat) (cs : List Value) : Prop := cs.length = n ∧ ∀ u ∈ cs, ∃ x : Int, u = .int .i64 x ∧ (Lit.int .i64 x).wf = true

theorem ints_int {t : TypeId} (ht : P.underlying t = some (.int .i64)) {fuel : Nat} {cs : List Value} {y : DataW H × List MemPlace} (h : DataW.trod enc P w base spare held fuel t cs = some y) : Ints 1 cs := by
  obtain ⟨m, rfl, _, hw⟩ := DataW.trod_int ht h
  exact ⟨rfl, fun u hu => by simp at hu; exact ⟨m, hu, hw⟩⟩

theorem ints_take {n : Nat} {cs : List Value} (h1 : ∀ (i : Nat), i < n → ∃ x : Int, cs[i]? = some (.int .i64 x) ∧ (Lit.int .i64 x).wf = true) (hl : cs.length = n) : Ints n cs := by
  refine ⟨hl, fun u hu => ?_⟩
  obtain ⟨i, hi⟩ := List.getElem?_of_mem hu
  have : i < n := by have := (List.getElem?_eq_some_iff.1 hi).1; omega
  obtain ⟨x, hx, hw⟩ := h1 i this
  rw [hi] at hx
  injection hx with hx
  exact ⟨x, hx, hw⟩

/-- a struct each of whose fields is made of whole numbers -/
theorem ints_struct {t : TypeId} {fs : Array Field} (ht : P.underlying t = some (.struct fs))
    (hcov : ∀ i, i < P.cellsOf t → ∃ (j : Nat) (f : Field), fs[j]? = some f ∧ f.offset ≤ i ∧ i < f.offset + P.cellsOf f.type)
    (hf : ∀ (j : Nat) (f : Field), fs[j]? = some f → ∀ fuel cs y, DataW.trod enc P w base spare held fuel f.type cs = some y → Ints (P.cellsOf f.type) cs)
    {fuel : Nat} {cs : List Value} {y : DataW H × List MemPlace} (h : DataW.trod enc P w base spare held fuel t cs = some y) : Ints (P.cellsOf t) cs := by
  obtain ⟨ys, n', hn', hy, hlen, hyl, hg⟩ := DataW.trod_struct ht h
  refine ints_take (fun i hi => ?_) hlen
  obtain ⟨j, f, hj, h1, h2⟩ := hcov i hi
  have hjl : j < fs.size := (Array.getElem?_eq_some_iff.1 hj).1
  have hys : ys[j]? = some (ys[j]'(by omega)) := List.getElem?_eq_getElem (by omega)
  obtain ⟨hl, hu⟩ := hf j f hj _ _ _ ((hg j f hj).trans hys)
  have hi' : i < cs.length := by omega
  have hmem : ((cs.drop f.offset).take (P.cellsOf f.type))[i - f.offset]? = some cs[i] := by
    rw [List.getElem?_take, if_pos (by omega), List.getElem?_drop, show f.offset + (i - f.offset) = i by omega, List.getElem?_eq_getElem hi']
  obtain ⟨x, hx, hw⟩ := hu _ (List.mem_of_getElem? hmem)
  exact ⟨x, by rw [List.getElem?_eq_getElem hi', hx], hw⟩

theorem ints_array {t e : TypeId} {n : Nat} (ht : P.underlying t = some (.array n e)) (he : P.underlying e = some (.int .i64)) (hc : P.cellsOf t = n) (hc1 : P.cellsOf e = 1)
    {fuel : Nat} {cs : List Value} {y : DataW H × List MemPlace} (h : DataW.trod enc P w base spare held fuel t cs = some y) : Ints n cs := by
  obtain ⟨xs, m, _, _, hl, hxl, hg⟩ := DataW.trod_array ht h
  rw [hc] at hl
  refine ints_take (fun i hi => ?_) hl
  have hxs : xs[i]? = some (xs[i]'(by omega)) := List.getElem?_eq_getElem (by omega)
  have h1 := (hg i hi).trans hxs
  rw [hc1, Nat.mul_one] at h1
  obtain ⟨_, hu⟩ := ints_int he h1
  have hi' : i < cs.length := by omega
  have hmem : ((cs.drop i).take 1)[0]? = some cs[i] := by
    rw [List.getElem?_take, if_pos (by omega), List.getElem?_drop, Nat.add_zero, List.getElem?_eq_getElem hi']
  obtain ⟨x, hx, hw⟩ := hu _ (List.mem_of_getElem? hmem)
  exact ⟨x, by rw [List.getElem?_eq_getElem hi', hx], hw⟩

theorem ints1 {cs : List Value} (h : Ints 1 cs) : ∃ a : Int, cs = [.int .i64 a] ∧ (Lit.int .i64 a).wf = true := by
  obtain ⟨hl, hu⟩ := h
  match cs, hl with
  | [x], _ =>
    obtain ⟨a, rfl, ha⟩ := hu x (by simp)
    exact ⟨a, rfl, ha⟩
theorem ints2 {cs : List Value} (h : Ints 2 cs) : ∃ a b : Int, cs = [.int .i64 a, .int .i64 b] ∧ (Lit.int .i64 a).wf = true ∧ (Lit.int .i64 b).wf = true := by
  obtain ⟨hl, hu⟩ := h
  match cs, hl with
  | [x, y], _ =>
    obtain ⟨a, rfl, ha⟩ := hu x (by simp)
    obtain ⟨b, rfl, hb⟩ := hu y (by simp)
    exact ⟨a, b, rfl, ha, hb⟩
theorem ints3 {cs : List Value} (h : Ints 3 cs) : ∃ a b c : Int, cs = [.int .i64 a, .int .i64 b, .int .i64 c] ∧ (Lit.int .i64 a).wf = true ∧ (Lit.int .i64 b).wf = true ∧ (Lit.int .i64 c).wf = true := by
  obtain ⟨hl, hu⟩ := h
  match cs, hl with
  | [x, y, z], _ =>
    obtain ⟨a, rfl, ha⟩ := hu x (by simp)
    obtain ⟨b, rfl, hb⟩ := hu y (by simp)
    obtain ⟨c, rfl, hc⟩ := hu z (by simp)
    exact ⟨a, b, c, rfl, ha, hb, hc⟩
theorem ints4 {cs : List Value} (h : Ints 4 cs) : ∃ a b c d : Int, cs = [.int .i64 a, .int .i64 b, .int .i64 c, .int .i64 d] ∧ (Lit.int .i64 a).wf = true ∧ (Lit.int .i64 b).wf = true ∧ (Lit.int .i64 c).wf = true ∧ (Lit.int .i64 d).wf = true := by
  obtain ⟨hl, hu⟩ := h
  match cs, hl with
  | [x, y, z, t], _ =>
    obtain ⟨a, rfl, ha⟩ := hu x (by simp)
    obtain ⟨b, rfl, hb⟩ := hu y (by simp)
    obtain ⟨c, rfl, hc⟩ := hu z (by simp)
    obtain ⟨d, rfl, hd⟩ := hu t (by simp)
    exact ⟨a, b, c, d, rfl, ha, hb, hc, hd⟩
theorem okWide_array {t e : TypeId} {n : Nat} {r : Reach} {base : Nat} {v : Value} (ht : P.underlying t = some (.array n e)) (h : Value.okWide P w r base t v) : ∃ cs, v = .agg cs ∧ cs.size = P.cellsOf t := by
  simp only [Value.okWide, ht] at h
  obtain ⟨cs, h1, h2, _⟩ := h
  exact ⟨cs, h1, h2⟩
/-- a slice of whole numbers among the elements of a slice -/
theorem inner_ints {t e : TypeId} (ht : P.underlying t = some (.slice e)) (he : P.underlying e = some (.int .i64)) (hsz : P.cellsOf e = 1) {fuel : Nat} {cs : List Value} {y : DataW H × List MemPlace} (h : DataW.trod enc P w base spare held fuel t cs = some y) :
    ∃ x : List Int, (Kd.slice e (Kd.int .i64)).K w x cs ∧ (x.length ≤ maxLen ∧ ∀ z ∈ x, (Lit.int .i64 z).wf = true) := by
  have hv : ∃ A n c, cs = [.slice A n c] := by
    rcases open_slice ht h with ⟨hc, _⟩ | ⟨a, len, cap, m, k, Ds, Pl, hcs, _⟩
    · exact ⟨none, 0, 0, hc⟩
    · exact ⟨some a, len, cap, hcs⟩
  obtain ⟨A, n, c, rfl⟩ := hv
  obtain ⟨l, hl, hC, hc, hm, hQ⟩ := open_row (w := w) (A := A) (n := n) (c := c) (D := y.1) (ps := y.2) (Kd.int .i64) (fun x => (Lit.int .i64 x).wf = true) ht hsz (fun fuel cs y hy => by obtain ⟨m, rfl, _, hw⟩ := DataW.trod_int he hy; exact ⟨m, rfl, hw⟩) ⟨fuel, by simpa [Value.cells] using h⟩
  subst hl
  exact ⟨l, ⟨A, c, rfl, hc, hC⟩, hm, hQ⟩
end
end Go.Proofs.YtgmjgnojjbajdaaDoor.Open
