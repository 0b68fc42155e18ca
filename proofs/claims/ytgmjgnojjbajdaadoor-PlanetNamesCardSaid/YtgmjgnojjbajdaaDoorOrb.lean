/- The package's array of orbits: what it holds, that it stays, and that it is what the row lists. No condition. -/
import Derived.Test.YtgmjgnojjbajdaaDoorProg
import Derived.RowKit
import Derived.Below
import Derived.ChangeArms
import Derived.OpenShut
import Derived.FnData
import Derived.KernelRfl
import Derived.LaidLaws
import Derived.Laws.Cells
import Derived.Lib.Strings
import Derived.Test.YtgmjgnojjbajdaaDoorWAllG
namespace Go.Proofs.YtgmjgnojjbajdaaDoor
open Go.RowKit Go.Proofs.YtgmjgnojjbajdaaDoorW.PrintWords
/-- the orbits: the name, the radius, the longitude, the rate -/
def lt_ : List (ByteArray × Int × Int × Int) := [(⟨#[109, 101, 114, 99, 117, 114, 121]⟩, 387, 986042219, 11367595694444), (⟨#[118, 101, 110, 117, 115]⟩, 723, 204930817, 4450362055556), (⟨#[109, 97, 114, 115]⟩, 1524, 214414189, 1455613000000), (⟨#[106, 117, 112, 105, 116, 101, 114]⟩, 5203, 589101452, 230792472222), (⟨#[115, 97, 116, 117, 114, 110]⟩, 9537, 310632725, 92900388889)]
def lx_ (j : Nat) : ByteArray × Int × Int × Int := lt_.getD j (⟨#[]⟩, 0, 0, 0)
/-- the first orbit of a name -/
def lk_ (s : ByteArray) : List (ByteArray × Int × Int × Int) → Option Nat
  | [] => none
  | x :: l => if x.1.data.toList = s.data.toList then some 0 else (lk_ s l).map (· + 1)
theorem lk_some {s : ByteArray} : ∀ {l : List (ByteArray × Int × Int × Int)} {i : Nat}, lk_ s l = some i → i < l.length ∧ (l.getD i (⟨#[]⟩, 0, 0, 0)).1 = s ∧ ∀ j, j < i → (l.getD j (⟨#[]⟩, 0, 0, 0)).1 ≠ s
  | [], i, h => by cases h
  | x :: l, i, h => by
    unfold lk_ at h
    by_cases c : x.1.data.toList = s.data.toList
    · rw [if_pos c] at h
      obtain rfl := Option.some.inj h
      refine ⟨by simp, ?_, fun j hj => by omega⟩
      apply ByteArray.ext
      apply Array.toList_inj.1
      simpa using c
    · rw [if_neg c] at h
      obtain ⟨m, hm, rfl⟩ := Option.map_eq_some_iff.1 h
      obtain ⟨h1, h2, h3⟩ := lk_some hm
      refine ⟨by simp; omega, by simpa using h2, fun j hj => ?_⟩
      cases j with
      | zero => intro e; exact c (by have e' : x.1 = s := by simpa using e
                                     rw [e'])
      | succ j => simpa using h3 j (by omega)
theorem ne_list_ {a b : ByteArray} (h : a ≠ b) : (a.toList == b.toList) = false := by
  rw [beq_eq_false_iff_ne]
  intro e
  apply h
  rw [Lib.toList_data, Lib.toList_data] at e
  exact ByteArray.ext (Array.toList_inj.1 e)
/-- the variable holds the orbits -/
def Tab_ (w : World) : Prop := ∀ i, i < 5 → w.cell? ⟨1, i * 4, none⟩ = some (.string (lx_ i).1) ∧ w.cell? ⟨1, i * 4 + 1, none⟩ = some (.int .i64 (lx_ i).2.1) ∧ w.cell? ⟨1, i * 4 + 2, none⟩ = some (.int .i64 (lx_ i).2.2.1) ∧ w.cell? ⟨1, i * 4 + 3, none⟩ = some (.int .i64 (lx_ i).2.2.2)
theorem cell_block {w : World} {g o : Nat} {v : Value} (h : w.cell? ⟨g, o, none⟩ = some v) : g < w.heap.size := by
  rcases Nat.lt_or_ge g w.heap.size with c | c
  · exact c
  · simp [World.cell?, Array.getElem?_eq_none c] at h
theorem cell_stays {w W : World} {g o : Nat} (hb : Below w.heap.size w W) (hg : g < w.heap.size) : W.cell? ⟨g, o, none⟩ = w.cell? ⟨g, o, none⟩ := by
  simp [World.cell?, hb.block g hg]
theorem tabz_ {w W : World} (h : Aside0 (Tab_ w)) (hb : Below w.heap.size w W) : Aside0 (Tab_ W) := ⟨fun i hi => by
  obtain ⟨h1, h2, h3, h4⟩ := h.out i hi
  have hg := cell_block h1
  rw [cell_stays hb hg, cell_stays hb hg, cell_stays hb hg, cell_stays hb hg]
  exact ⟨h1, h2, h3, h4⟩⟩
theorem cells4 {H : Type} {enc : TypeId × Value → H} {w : World} {base : Nat} {sp : Nat → Bool} {held : Bool} {fuel : Nat} {cs : List Value} {s : ByteArray} {a b c : Int} {p : List MemPlace}
    (h : DataW.trod enc Tryd.prog w base sp held fuel 59 cs = some (.agg [.lit (.string s.data.toList), .lit (.int .i64 a), .lit (.int .i64 b), .lit (.int .i64 c)], p)) : cs[0]? = some (.string s) ∧ cs[1]? = some (.int .i64 a) ∧ cs[2]? = some (.int .i64 b) ∧ cs[3]? = some (.int .i64 c) := by
  obtain ⟨xs, n, _, hx, hl, hn, he⟩ := DataW.trod_struct Tryd.underlying59 h
  have c4 : Tryd.prog.cellsOf 59 = 4 := by kernel_rfl
  have c9 : Tryd.prog.cellsOf 9 = 1 := by kernel_rfl
  have ci : Tryd.prog.cellsOf 3 = 1 := by kernel_rfl
  rw [c4] at hl
  have hxm : xs.map (·.1) = [.lit (.string s.data.toList), .lit (.int .i64 a), .lit (.int .i64 b), .lit (.int .i64 c)] := by
    have := congrArg Prod.fst hx
    simpa using this.symm
  match xs, hxm, he with
  | [x0, x1, x2, x3], hxm, he =>
    simp only [List.map_cons, List.map_nil, List.cons.injEq] at hxm
    obtain ⟨q0, q1, q2, q3, _⟩ := hxm
    match cs, hl with
    | [v0, v1, v2, v3], _ =>
      have e0 : DataW.trod enc Tryd.prog w base sp held n 9 (([v0, v1, v2, v3].drop 0).take (Tryd.prog.cellsOf 9)) = some x0 := he 0 _ rfl
      have e1 : DataW.trod enc Tryd.prog w base sp held n 3 (([v0, v1, v2, v3].drop 1).take (Tryd.prog.cellsOf 3)) = some x1 := he 1 _ rfl
      have e2 : DataW.trod enc Tryd.prog w base sp held n 3 (([v0, v1, v2, v3].drop 2).take (Tryd.prog.cellsOf 3)) = some x2 := he 2 _ rfl
      have e3 : DataW.trod enc Tryd.prog w base sp held n 3 (([v0, v1, v2, v3].drop 3).take (Tryd.prog.cellsOf 3)) = some x3 := he 3 _ rfl
      rw [c9] at e0
      rw [ci] at e1 e2 e3
      obtain ⟨s', h0, h0', _⟩ := DataW.trod_string Tryd.underlying9 e0
      obtain ⟨m1, h1, h1', _⟩ := DataW.trod_int Tryd.underlying3 e1
      obtain ⟨m2, h2, h2', _⟩ := DataW.trod_int Tryd.underlying3 e2
      obtain ⟨m3, h3, h3', _⟩ := DataW.trod_int Tryd.underlying3 e3
      rw [h0'] at q0
      rw [h1'] at q1
      rw [h2'] at q2
      rw [h3'] at q3
      simp only [DataW.lit.injEq, Lit.string.injEq, Lit.int.injEq, true_and] at q0 q1 q2 q3
      have es : s' = s := ByteArray.ext (Array.toList_inj.1 q0)
      subst es q1 q2 q3
      simp at h0 h1 h2 h3
      rw [h0, h1, h2, h3]
      exact ⟨rfl, rfl, rfl, rfl⟩
theorem tab_head_ {W : World} {rest : List (String × DataW Unit)} (h : laidMet Tryd.prog (("ephemeris/planet.orbits", .agg (lt_.map fun x => .agg [.lit (.string x.1.data.toList), .lit (.int .i64 x.2.1), .lit (.int .i64 x.2.2.1), .lit (.int .i64 x.2.2.2)])) :: rest) W) : Tab_ W := by
  have hgN : Tryd.prog.globalNamed "ephemeris/planet.orbits" = some 1 := by kernel_rfl
  have htN : (Tryd.prog.globals[1]?).map (·.type) = some 60 := by kernel_rfl
  have c4 : Tryd.prog.cellsOf 59 = 4 := by kernel_rfl
  obtain ⟨ps, ⟨g, t, cs, f, p, q, hg, ht, hv, hd, _⟩, _⟩ := h
  obtain rfl := Option.some.inj (hgN.symm.trans hg)
  obtain rfl := Option.some.inj (htN.symm.trans ht)
  obtain ⟨xs, m, _, hx, hlen, hn, hel⟩ := DataW.trod_array Tryd.underlying60 hd
  have hxm : xs.map (·.1) = lt_.map fun x => (DataW.agg [.lit (.string x.1.data.toList), .lit (.int .i64 x.2.1), .lit (.int .i64 x.2.2.1), .lit (.int .i64 x.2.2.2)] : DataW Unit) := by
    have := congrArg Prod.fst hx
    injection this with this
    exact this.symm
  intro i hi
  have he := hel i hi
  rw [c4, List.getElem?_eq_getElem (show i < xs.length by omega)] at he
  have hy : (xs[i]'(by omega)).1 = .agg [.lit (.string (lx_ i).1.data.toList), .lit (.int .i64 (lx_ i).2.1), .lit (.int .i64 (lx_ i).2.2.1), .lit (.int .i64 (lx_ i).2.2.2)] := by
    have h1 : (xs.map (·.1))[i]? = some (xs[i]'(by omega)).1 := by simp [show i < xs.length by omega]
    rw [hxm] at h1
    have h8 : i < lt_.length := hi
    rw [List.getElem?_map, List.getElem?_eq_getElem h8, Option.map_some] at h1
    have h2 : lx_ i = lt_[i]'h8 := by simp [lx_, List.getD, h8]
    rw [h2]
    exact (Option.some.inj h1).symm
  have he2 : DataW.trod (fun _ => ()) Tryd.prog W 0 (fun _ => true) false m 59 (List.take 4 (List.drop (i * 4) cs.toList)) = some ((xs[i]'(by omega)).1, (xs[i]'(by omega)).2) := he
  rw [hy] at he2
  replace he := he2
  obtain ⟨e0, e1, e2, e3⟩ := cells4 he
  have k : ∀ j, j < 4 → W.cell? ⟨1, i * 4 + j, none⟩ = ((cs.toList.drop (i * 4)).take 4)[j]? := fun j hj => by
    rw [World.var?_cell hgN hv, List.getElem?_take_of_lt hj, List.getElem?_drop, Array.getElem?_toList]
  exact ⟨(k 0 (by omega)).trans e0, (k 1 (by omega)).trans e1, (k 2 (by omega)).trans e2, (k 3 (by omega)).trans e3⟩
/-- the array as one value -/
def lts_ : List Value := [.string (lx_ 0).1, .int .i64 (lx_ 0).2.1, .int .i64 (lx_ 0).2.2.1, .int .i64 (lx_ 0).2.2.2, .string (lx_ 1).1, .int .i64 (lx_ 1).2.1, .int .i64 (lx_ 1).2.2.1, .int .i64 (lx_ 1).2.2.2, .string (lx_ 2).1, .int .i64 (lx_ 2).2.1, .int .i64 (lx_ 2).2.2.1, .int .i64 (lx_ 2).2.2.2, .string (lx_ 3).1, .int .i64 (lx_ 3).2.1, .int .i64 (lx_ 3).2.2.1, .int .i64 (lx_ 3).2.2.2, .string (lx_ 4).1, .int .i64 (lx_ 4).2.1, .int .i64 (lx_ 4).2.2.1, .int .i64 (lx_ 4).2.2.2]
theorem ltix_ : ∀ j : Nat, j < 5 → ∀ w : World, (Instr.index 60 (.agg lts_.toArray) (.int .i64 (j : Int))).run Tryd.prog w = .ok (.agg #[.string (lx_ j).1, .int .i64 (lx_ j).2.1, .int .i64 (lx_ j).2.2.1, .int .i64 (lx_ j).2.2.2]) w
  | 0, _ => fun _ => by kernel_rfl
  | 1, _ => fun _ => by kernel_rfl
  | 2, _ => fun _ => by kernel_rfl
  | 3, _ => fun _ => by kernel_rfl
  | 4, _ => fun _ => by kernel_rfl
  | j + 5, h => by omega
theorem ltcell_ {w : World} (h : Tab_ w) : ∀ (j : Nat) (v : Value), lts_[j]? = some v → w.cell? ((⟨1, 0, none⟩ : Addr).add j) = some v
  | 0, v, hv => by
    obtain rfl := Option.some.inj hv
    exact (h 0 (by omega)).1
  | 1, v, hv => by
    obtain rfl := Option.some.inj hv
    exact (h 0 (by omega)).2.1
  | 2, v, hv => by
    obtain rfl := Option.some.inj hv
    exact (h 0 (by omega)).2.2.1
  | 3, v, hv => by
    obtain rfl := Option.some.inj hv
    exact (h 0 (by omega)).2.2.2
  | 4, v, hv => by
    obtain rfl := Option.some.inj hv
    exact (h 1 (by omega)).1
  | 5, v, hv => by
    obtain rfl := Option.some.inj hv
    exact (h 1 (by omega)).2.1
  | 6, v, hv => by
    obtain rfl := Option.some.inj hv
    exact (h 1 (by omega)).2.2.1
  | 7, v, hv => by
    obtain rfl := Option.some.inj hv
    exact (h 1 (by omega)).2.2.2
  | 8, v, hv => by
    obtain rfl := Option.some.inj hv
    exact (h 2 (by omega)).1
  | 9, v, hv => by
    obtain rfl := Option.some.inj hv
    exact (h 2 (by omega)).2.1
  | 10, v, hv => by
    obtain rfl := Option.some.inj hv
    exact (h 2 (by omega)).2.2.1
  | 11, v, hv => by
    obtain rfl := Option.some.inj hv
    exact (h 2 (by omega)).2.2.2
  | 12, v, hv => by
    obtain rfl := Option.some.inj hv
    exact (h 3 (by omega)).1
  | 13, v, hv => by
    obtain rfl := Option.some.inj hv
    exact (h 3 (by omega)).2.1
  | 14, v, hv => by
    obtain rfl := Option.some.inj hv
    exact (h 3 (by omega)).2.2.1
  | 15, v, hv => by
    obtain rfl := Option.some.inj hv
    exact (h 3 (by omega)).2.2.2
  | 16, v, hv => by
    obtain rfl := Option.some.inj hv
    exact (h 4 (by omega)).1
  | 17, v, hv => by
    obtain rfl := Option.some.inj hv
    exact (h 4 (by omega)).2.1
  | 18, v, hv => by
    obtain rfl := Option.some.inj hv
    exact (h 4 (by omega)).2.2.1
  | 19, v, hv => by
    obtain rfl := Option.some.inj hv
    exact (h 4 (by omega)).2.2.2
  | j + 20, v, hv => by
    have : lts_[j + 20]? = none := List.getElem?_eq_none (by show 20 ≤ j + 20; omega)
    rw [this] at hv
    cases hv
theorem m1_ {gk i n : Nat} (c : i < n) (h : gk + i = n) : gk - 1 < gk := by omega
theorem m2_ {gk i n : Nat} (c : i < n) (h : gk + i = n) : gk - 1 + (i + 1) = n := by omega
theorem m3_ {gk i n : Nat} (c : ¬ i < n) (h : gk + i = n) : i = n := by omega
theorem d5_ {i : Nat} (c : i < 5) : decide ((i : Int) < 5) = true := decide_eq_true (by omega)
theorem w5_ {i : Nat} (c : i < 5) : wrap64 ((i : Int) + 1) = (i : Int) + 1 := by unfold wrap64; omega
theorem ltload_ {w : World} (h : Tab_ w) : (Instr.loadAt 60 (.pointer (some ⟨1, 0, none⟩))).run Tryd.prog w = .ok (.agg lts_.toArray) w := by
  have e := run_loadCells_list (P := Tryd.prog) w ⟨1, 0, none⟩ lts_ (ltcell_ h)
  have e2 : (loadCells ⟨1, 0, none⟩ 20).run Tryd.prog w = .ok lts_.toArray w := e
  simp only [Instr.loadAt, Instr.sureAddr, loadVar, Sem.run_bind, Sem.run_pure, Tryd.isAgg60, Tryd.sizeOf60, Result.andThen, if_true, e2]
theorem ldx_ {ρ : Operand → Value} {o : Oper} {w : World} (ho : o.op = .load 60 (.global 1)) (hρ : ρ (.global 1) = .pointer (some ⟨1, 0, none⟩)) (h : Tab_ w) : (execOp ρ o).run Tryd.prog w = .ok (.value (.agg lts_.toArray)) w := by
  unfold execOp
  rw [ho]
  simp only [hρ, Sem.run_bind, ltload_ h, Result.andThen, Sem.run_pure]
end Go.Proofs.YtgmjgnojjbajdaaDoor
