-- Made by a program of this session (wip/hp.py, over the kit's print) out of the translation. Not trusted: Lean checks it.
import Derived.Test.YtoecglgbmhhdnaaJDx0
import Derived.Test.YtoecglgbmhhdnaaJDx1
import Derived.Test.YtoecglgbmhhdnaaJDx2
import Derived.Test.YtoecglgbmhhdnaaJDx3
import Derived.Test.YtoecglgbmhhdnaaJDx4
namespace Go.Proofs.Ytoecglgbmhhdnaa.JD
open Go.RowKit Go.Proofs.YtoecglgbmhhdnaaW.PrintWords Go.Proofs.YtoecglgbmhhdnaaW.PrintLast Go.Proofs.YtoecglgbmhhdnaaW.PrintMore
attribute [local go_sem] max2_int min2_int max_two min_two max_three min_three max_four min_four   -- for this text's walks alone
set_option linter.unusedVariables false
set_option linter.unusedSimpArgs false

/-! ### discipline_Keeper_Feed: function 20 -/
-- hand
-- raw
theorem blk_mono_ {w w1 : World} {g : Nat} {o : Obj} (hb : Below w.heap.size w w1) (h : w.heap[g]? = some o) : w1.heap[g]? = some o := blk_below h hb
theorem hcs_len (hs : List Bool) : (hcs_ hs).length = hs.length := by simp [hcs_]
theorem hcs_cell {w : World} {g : Nat} {hs : List Bool} {b : Bool} {j : Nat} (h : w.heap[g]? = some (.cells (hcs_ hs).toArray 4 (0, 0))) (hj : hs[j]? = some b) : w.cell? ⟨g, j, none⟩ = some (.bool b) := by
  refine (blk_cell h j).trans ?_
  simp [hcs_, hj]
theorem rcs_cell {w : World} {g : Nat} {rs : List S62} {x : S62} {j : Nat} (h : w.heap[g]? = some (.cells (rcs_ rs).toArray 62 (0, 0))) (hj : rs[j]? = some x) : w.cell? ⟨g, j * 3, none⟩ = some (.int .i64 x.f0) ∧ w.cell? ⟨g, j * 3 + 1, none⟩ = some (.int .i64 x.f1.f0) ∧ w.cell? ⟨g, j * 3 + 2, none⟩ = some (.int .i64 x.f1.f1) := by
  obtain ⟨h0, h1, h2⟩ := rcs_get rs j hj
  exact ⟨(blk_cell h _).trans (by simpa using h0), (blk_cell h _).trans (by simpa using h1), (blk_cell h _).trans (by simpa using h2)⟩
set_option maxHeartbeats 8000000 in
set_option maxRecDepth 100000 in
theorem Feed_keeps (B g j : Nat) (d f last tick lo hi : Int) (hs : List Bool) (rs : List S62) (w : World) (hk : Keeps_ B w g d f last hs rs) (hB : B ≤ w.heap.size) (hj : j < hs.length) (hl : rs.length = hs.length) (h40 : hs.length ≤ 40)
    (t0 : 0 ≤ tick) (t1 : last ≤ tick) (hc : source_Check.f 1 tick lo hi = some 0) :
    Calls Try.prog 20 #[.pointer (some ⟨g, 0, none⟩), .int .i64 (j : Int), .agg #[.int .i64 tick, .int .i64 lo, .int .i64 hi]] w fun e w' => e = .returned (.int .i64 0) ∧ Keeps_ B w' g d f tick (hs.set j true) (rs.set j ⟨tick, ⟨lo, hi⟩⟩) ∧ Below B w w' := by
  have hu84 := Try.underlying84
  have hu62 := Try.underlying62
  have hu81 := Try.underlying81
  have hu82 := Try.underlying82
  have c1 : decide ((j : Int) < 0) = false := decide_eq_false (by omega)
  have c2 : decide ((hs.length : Int) ≤ (j : Int)) = false := decide_eq_false (by omega)
  have c3 : decide (tick < last) = false := decide_eq_false (by omega)
  obtain ⟨gh, gr, b1, b2, b3, n1, n2, n3, HG, HH, HR⟩ := hk
  have d3 : w.cell? ⟨g, 3, none⟩ = some (.slice (some ⟨gh, 0, none⟩) hs.length hs.length) := (blk_cell HG 3).trans rfl
  have l1 := blk_lt HG
  have l2 := blk_lt HH
  have l3 := blk_lt HR
  have HG0 := Aside0.mk HG
  have HH0 := Aside0.mk HH
  have HR0 := Aside0.mk HR
  clear HG HH HR
  go_enter Try.func20, Try.ntmps20
  go_wp2_with fail
  refine (source_Check.calls 1 tick lo hi 0 _ hc).mono ?_
  rintro e w1 ⟨rfl, hb⟩
  have HG1 := blk_below (blk_alloc HG0.out (.cells #[.int .i64 tick, .int .i64 lo, .int .i64 hi] 62)) hb
  have HH1 := blk_below (blk_alloc HH0.out (.cells #[.int .i64 tick, .int .i64 lo, .int .i64 hi] 62)) hb
  have HR1 := blk_below (blk_alloc HR0.out (.cells #[.int .i64 tick, .int .i64 lo, .int .i64 hi] 62)) hb
  have HX1 := blk_below (blk_new w (.cells #[.int .i64 tick, .int .i64 lo, .int .i64 hi] 62)) hb
  have HB1 := Aside0.mk (below_step (w := w) (below_alloc (Below.refl _ w) _) hb)
  clear d3 hb
  have x0 : w1.cell? ⟨w.heap.size, 0, none⟩ = some (.int .i64 tick) := (blk_cell HX1 0).trans rfl
  have x1 : w1.cell? ⟨w.heap.size, 1, none⟩ = some (.int .i64 lo) := (blk_cell HX1 1).trans rfl
  have x2 : w1.cell? ⟨w.heap.size, 2, none⟩ = some (.int .i64 hi) := (blk_cell HX1 2).trans rfl
  have d2 : w1.cell? ⟨g, 2, none⟩ = some (.int .i64 last) := (blk_cell HG1 2).trans rfl
  have d3 : w1.cell? ⟨g, 3, none⟩ = some (.slice (some ⟨gh, 0, none⟩) hs.length hs.length) := (blk_cell HG1 3).trans rfl
  have d4 : w1.cell? ⟨g, 4, none⟩ = some (.slice (some ⟨gr, 0, none⟩) rs.length rs.length) := (blk_cell HG1 4).trans rfl
  obtain ⟨bj, hbj⟩ : ∃ b, hs[j]? = some b := ⟨hs[j], List.getElem?_eq_getElem hj⟩
  obtain ⟨xj, hxj⟩ : ∃ x, rs[j]? = some x := ⟨rs[j], List.getElem?_eq_getElem (by omega)⟩
  have e0 := hcs_cell HH1 hbj
  obtain ⟨r0, r1, r2⟩ := rcs_cell HR1 hxj
  have fz2 := blk_frozen HG1 2
  have fh := blk_frozen HH1 j
  have fr0 := blk_frozen HR1 (j * 3)
  have fr1 := blk_frozen HR1 (j * 3 + 1)
  have fr2 := blk_frozen HR1 (j * 3 + 2)
  have nx1 : w.heap.size ≠ g := by omega
  have nx2 : w.heap.size ≠ gh := by omega
  have nx3 : w.heap.size ≠ gr := by omega
  have q1 : (0 ≤ (j : Int)) = True := eq_true (by omega)
  have q2 : ((j : Int) < (hs.length : Int)) = True := eq_true (by omega)
  have q3 : ((j : Int) < (rs.length : Int)) = True := eq_true (by omega)
  go_wp2_with fail
  go_region
  go_wp2_with fail
  go_region
  go_wp2
  go_ret
  refine ⟨rfl, ⟨gh, gr, b1, b2, b3, n1, n2, n3, ?_, ?_, ?_⟩, ?_⟩
  · refine blk_drew (blk_drew ?_)
    refine (Below.heap_setCell _ _ _ _ (Ne.symm n2)).trans ((Below.heap_setCell _ _ _ _ (Ne.symm n2)).trans ((Below.heap_setCell _ _ _ _ (Ne.symm n2)).trans ((Below.heap_setCell _ _ _ _ (Ne.symm n1)).trans ?_)))
    rw [List.length_set, List.length_set]
    exact blk_put HG1 2 _ rfl
  · refine blk_drew (blk_drew ?_)
    refine (Below.heap_setCell _ _ _ _ n3).trans ((Below.heap_setCell _ _ _ _ n3).trans ((Below.heap_setCell _ _ _ _ n3).trans ?_))
    refine blk_put ((Below.heap_setCell _ _ _ _ n1).trans HH1) j _ ?_
    simp [hcs_, List.map_set]
  · refine blk_drew (blk_drew ?_)
    refine blk_put (blk_put (blk_put ((Below.heap_setCell _ _ _ _ (Ne.symm n3)).trans ((Below.heap_setCell _ _ _ _ n2).trans HR1)) (j * 3) _ rfl) (j * 3 + 1) _ rfl) (j * 3 + 2) _ ?_
    simp only [List.setIfInBounds_toArray]
    exact congrArg List.toArray (rcs_set (x := ⟨tick, ⟨lo, hi⟩⟩) rs j)
  · exact below_drew (below_drew (below_setg (below_setg (below_setg (below_setg (below_setg (HB1.out.mono hB) b3) b1) b2) b2) b2))


/-! ### discipline_Keeper_Heard: function 38 -/
-- hand
-- raw
theorem Keeps_.moved {B g : Nat} {d f last : Int} {hs : List Bool} {rs : List S62} {w w1 : World} (h : Keeps_ B w g d f last hs rs) (hb : Below w.heap.size w w1) : Keeps_ B w1 g d f last hs rs := by
  obtain ⟨gh, gr, b1, b2, b3, n1, n2, n3, HG, HH, HR⟩ := h
  exact ⟨gh, gr, b1, b2, b3, n1, n2, n3, blk_below HG hb, blk_below HH hb, blk_below HR hb⟩
set_option maxHeartbeats 8000000 in
set_option maxRecDepth 100000 in
theorem Heard_keeps (B g n : Nat) (d f last : Int) (rs : List S62) (w : World) (hk : Keeps_ B w g d f last (List.replicate n true) rs) (h40 : n ≤ 40) :
    Calls Try.prog 38 #[.pointer (some ⟨g, 0, none⟩)] w fun e w' => e = .returned (.int .i64 n) ∧ Drawn0 w w' := by
  have hu84 := Try.underlying84
  have hu81 := Try.underlying81
  obtain ⟨gh, gr, b1, b2, b3, n1, n2, n3, HG, HH, HR⟩ := hk
  rw [List.length_replicate] at HG
  have d3 : w.cell? ⟨g, 3, none⟩ = some (.slice (some ⟨gh, 0, none⟩) n n) := (blk_cell HG 3).trans rfl
  have HH0 := Aside0.mk HH
  clear HG HH HR
  go_enter Try.func38, Try.ntmps38
  go_wp2
  go_loopw [3, 11] (fun v3 v11 wr => ∃ i : Nat, i ≤ n ∧ v3 = .int .i64 (i : Int) ∧ v11 = .int .i64 (i : Int) ∧ wr = w) (fun _ v11 _ => n - (intOf v11).toNat)
  case atStart => exact ⟨0, by omega, rfl, rfl, rfl⟩
  case round =>
    obtain ⟨i, hi, rfl, rfl, rfl⟩ := hrel
    by_cases c : i < n
    · have c1 : decide ((i : Int) < (n : Int)) = true := decide_eq_true (by omega)
      have e0 := hcs_cell HH0.out (show (List.replicate n true)[i]? = some true by rw [List.getElem?_replicate, if_pos c])
      have q1 : (0 ≤ (i : Int)) = True := eq_true (by omega)
      have q2 : ((i : Int) < (n : Int)) = True := eq_true (by omega)
      have w1 : wrap64 ((i : Int) + 1) = (i : Int) + 1 := wrap_in_ (by omega) (by omega)
      go_wp2
      refine ⟨⟨i + 1, c, rfl, rfl, trivial⟩, ?_⟩
      show n - ((i : Int) + 1).toNat < n - (i : Int).toNat
      omega
    · have c1 : decide ((i : Int) < (n : Int)) = false := decide_eq_false (by omega)
      have hin : i = n := by omega
      go_wp2
      go_ret
      subst hin
      exact ⟨rfl, ⟨0, rfl⟩⟩

/-! ### oscill_New: function 68 -/
-- hand
-- body
set_option maxHeartbeats 400000 in
set_option maxRecDepth 100000 in
theorem New_ok (d : Int) (w : World) (h0 : 0 ≤ d) (h1 : d ≤ 100000) :
    Calls Try.prog 68 #[.int .i64 d] w fun e w' => e = .returned (.tuple #[.pointer (some ⟨w.heap.size, 0, none⟩), .int .i64 0]) ∧ w' = w.alloc (.cells #[.int .i64 d, .bool false, .int .i64 0, .int .i64 0, .int .i64 0] 115) := by
  have hu := Try.underlying115
  go_enter Try.func68, Try.ntmps68
  go_wp2
  go_ret2
  exact ⟨rfl, rfl⟩

/-! ### oscill_Clock_Set: function 69 -/
-- hand
-- raw
set_option maxHeartbeats 400000 in
set_option maxRecDepth 100000 in
theorem Set_ok (d tick lo hi : Int) (v2 v3 v4 : Value) (g : Nat) (w : World) (h0 : 0 ≤ tick) (h1 : tick ≤ 1000000000000) (h2 : -100000000000000000 ≤ lo) (h3 : lo ≤ hi) (h4 : hi ≤ 100000000000000000)
    (hc : w.heap[g]? = some (.cells #[.int .i64 d, .bool false, v2, v3, v4] 115 (0, 0))) (ht : oscill_Times.f 1 lo hi = some 0) :
    Calls Try.prog 69 #[.pointer (some ⟨g, 0, none⟩), .int .i64 tick, .agg #[.int .i64 lo, .int .i64 hi]] w fun e w' => e = .returned (.int .i64 0) ∧ w'.heap[g]? = some (.cells #[.int .i64 d, .bool true, .int .i64 tick, .int .i64 lo, .int .i64 hi] 115 (0, 0)) ∧ KeepBut w w' g none ∧ Below g w w' := by
  have hu := Try.underlying115
  have hu25 := Try.underlying34
  have HC := Aside0.mk hc
  have hcc1 : w.cell? ⟨g, 1, none⟩ = some (.bool false) := (blk_cell hc 1).trans rfl
  clear hc
  have hg : g < w.heap.size := blk_lt HC.out
  go_enter Try.func69, Try.ntmps69
  go_wp2_with (first | (go_at_call 54; refine (oscill_Times.calls 1 lo hi 0 _ ht).mono ?_; rintro e w1 ⟨rfl, hb⟩; have BK := Aside0.mk ((hb.block g (by simp; omega)).trans (blk_alloc HC.out _)); have BX := Aside0.mk ((hb.block w.heap.size (by simp)).trans (heap_alloc_new w _)); have HB := Aside0.mk hb; clear hb; have d1 : w1.cell? ⟨g, 1, none⟩ = some (.bool false) := (blk_cell BK.out 1).trans rfl; have x0 : w1.cell? ⟨w.heap.size, 0, none⟩ = some (.int .i64 lo) := (blk_cell BX.out 0).trans rfl; have x1 : w1.cell? ⟨w.heap.size, 1, none⟩ = some (.int .i64 hi) := (blk_cell BX.out 1).trans rfl; have d2 : w1.cell? ⟨g, 2, none⟩ = some v2 := (blk_cell BK.out 2).trans rfl; have d3 : w1.cell? ⟨g, 3, none⟩ = some v3 := (blk_cell BK.out 3).trans rfl; have d4 : w1.cell? ⟨g, 4, none⟩ = some v4 := (blk_cell BK.out 4).trans rfl; have f1 := blk_frozen BK.out 1; have f2 := blk_frozen BK.out 2; have f3 := blk_frozen BK.out 3; have f4 := blk_frozen BK.out 4))
  go_region
  all_goals go_wp2
  all_goals
    go_ret
    refine ⟨rfl, ?_, ?_, ?_⟩
    · refine blk_drew (blk_put (cs := #[.int .i64 d, .bool true, .int .i64 tick, .int .i64 lo, v4]) ?_ 4 _ rfl)
      refine blk_put (cs := #[.int .i64 d, .bool true, .int .i64 tick, v3, v4]) ?_ 3 _ rfl
      refine blk_put (cs := #[.int .i64 d, .bool true, v2, v3, v4]) ?_ 2 _ rfl
      exact blk_put BK.out 1 _ rfl
    · refine keep_drew (KeepBut.set_ (KeepBut.set_ (KeepBut.set_ (KeepBut.set_ ?_ _ _) _ _) _ _) _ _)
      exact KeepBut.trans (keep_alloc (KeepBut.refl w g none) _) (KeepBut.of_below HB.out g none) (.inl rfl)
    · refine below_drew (below_setg (below_setg (below_setg (below_setg ?_ (Nat.le_refl g)) (Nat.le_refl g)) (Nat.le_refl g)) (Nat.le_refl g))
      exact (below_step (below_alloc (Below.refl _ w) _) HB.out).mono (by omega)

end Go.Proofs.Ytoecglgbmhhdnaa.JD
