-- Made by a program of this session (wip/hp.py, over the kit's print) out of the translation. Not trusted: Lean checks it.
import Derived.Test.YtmoeeneekcbdeaaJAx0
import Derived.Test.YtmoeeneekcbdeaaJAx2
import Derived.Test.YtmoeeneekcbdeaaJAx3
import Derived.Test.YtmoeeneekcbdeaaJAx4
namespace Go.Proofs.Ytmoeeneekcbdeaa.JA
open Go.RowKit Go.Proofs.YtmoeeneekcbdeaaW.PrintWords Go.Proofs.YtmoeeneekcbdeaaW.PrintLast Go.Proofs.YtmoeeneekcbdeaaW.PrintMore
attribute [local go_sem] max2_int min2_int max_two min_two max_three min_three max_four min_four   -- for this text's walks alone
set_option linter.unusedVariables false
set_option linter.unusedSimpArgs false

/-! ### oscill_New: function 24 -/
-- hand
-- body
set_option maxHeartbeats 400000 in
set_option maxRecDepth 100000 in
theorem New_ok (d : Int) (w : World) (h0 : 0 ≤ d) (h1 : d ≤ 100000) :
    Calls Try.prog 24 #[.int .i64 d] w fun e w' => e = .returned (.tuple #[.pointer (some ⟨w.heap.size, 0, none⟩), .int .i64 0]) ∧ w' = w.alloc (.cells #[.int .i64 d, .bool false, .int .i64 0, .int .i64 0, .int .i64 0] 73) := by
  have hu := Try.underlying73
  go_enter Try.func24, Try.ntmps24
  go_wp2
  go_ret2
  exact ⟨rfl, rfl⟩

/-! ### oscill_Clock_Set: function 25 -/
-- hand
-- raw
set_option maxHeartbeats 400000 in
set_option maxRecDepth 100000 in
theorem Set_ok (d tick lo hi : Int) (v2 v3 v4 : Value) (g : Nat) (w : World) (h0 : 0 ≤ tick) (h1 : tick ≤ 1000000000000) (h2 : -100000000000000000 ≤ lo) (h3 : lo ≤ hi) (h4 : hi ≤ 100000000000000000)
    (hc : w.heap[g]? = some (.cells #[.int .i64 d, .bool false, v2, v3, v4] 73 (0, 0))) (ht : oscill_Times.f 1 lo hi = some 0) :
    Calls Try.prog 25 #[.pointer (some ⟨g, 0, none⟩), .int .i64 tick, .agg #[.int .i64 lo, .int .i64 hi]] w fun e w' => e = .returned (.int .i64 0) ∧ w'.heap[g]? = some (.cells #[.int .i64 d, .bool true, .int .i64 tick, .int .i64 lo, .int .i64 hi] 73 (0, 0)) ∧ KeepBut w w' g none ∧ Below g w w' := by
  have hu := Try.underlying73
  have hu25 := Try.underlying25
  have HC := Aside0.mk hc
  have hcc1 : w.cell? ⟨g, 1, none⟩ = some (.bool false) := (blk_cell hc 1).trans rfl
  clear hc
  have hg : g < w.heap.size := blk_lt HC.out
  go_enter Try.func25, Try.ntmps25
  go_wp2_with (first | (go_at_call 44; refine (oscill_Times.calls 1 lo hi 0 _ ht).mono ?_; rintro e w1 ⟨rfl, hb⟩; have BK := Aside0.mk ((hb.block g (by simp; omega)).trans (blk_alloc HC.out _)); have BX := Aside0.mk ((hb.block w.heap.size (by simp)).trans (heap_alloc_new w _)); have HB := Aside0.mk hb; clear hb; have d1 : w1.cell? ⟨g, 1, none⟩ = some (.bool false) := (blk_cell BK.out 1).trans rfl; have x0 : w1.cell? ⟨w.heap.size, 0, none⟩ = some (.int .i64 lo) := (blk_cell BX.out 0).trans rfl; have x1 : w1.cell? ⟨w.heap.size, 1, none⟩ = some (.int .i64 hi) := (blk_cell BX.out 1).trans rfl; have d2 : w1.cell? ⟨g, 2, none⟩ = some v2 := (blk_cell BK.out 2).trans rfl; have d3 : w1.cell? ⟨g, 3, none⟩ = some v3 := (blk_cell BK.out 3).trans rfl; have d4 : w1.cell? ⟨g, 4, none⟩ = some v4 := (blk_cell BK.out 4).trans rfl; have f1 := blk_frozen BK.out 1; have f2 := blk_frozen BK.out 2; have f3 := blk_frozen BK.out 3; have f4 := blk_frozen BK.out 4))
  go_region
  all_goals go_wp2
  all_goals
    go_ret
    refine ⟨rfl, ?_, ?_, ?_⟩
    · refine blk_drew (blk_put (cs := #[.int .i64 d, .bool true, .int .i64 tick, .int .i64 lo, v4]) ?_ 4 _ rfl)
      refine blk_put (cs := #[.int .i64 d, .bool true, .int .i64 tick, v3, v4]) ?_ 3 _ rfl
      refine blk_put (cs := #[.int .i64 d, .bool true, v2, v3, v4]) ?_ 2 _ rfl
      exact blk_put BK.out 1 _ rfl
    · refine keep_drew (KeepBut.set_ (KeepBut.set_ (KeepBut.set_ (KeepBut.set_ ?_ _ _) _ _) _ _) _ _)
      exact KeepBut.trans (keep_alloc (KeepBut.refl w g none) _) (KeepBut.of_below HB.out g none) (.inl rfl)
    · refine below_drew (below_setg (below_setg (below_setg (below_setg ?_ (Nat.le_refl g)) (Nat.le_refl g)) (Nat.le_refl g)) (Nat.le_refl g))
      exact (below_step (below_alloc (Below.refl _ w) _) HB.out).mono (by omega)

/-! ### oscill_Clock_At: function 26 -/
-- hand
-- raw
set_option maxHeartbeats 1000000 in
set_option maxRecDepth 100000 in
theorem At_ok (d tick t0 lo hi a b : Int) (g : Nat) (w : World) (h0 : 0 ≤ tick) (h1 : tick ≤ 1000000000000) (h2 : t0 ≤ tick) (h3 : 0 ≤ t0)
    (hc : w.heap[g]? = some (.cells #[.int .i64 d, .bool true, .int .i64 t0, .int .i64 lo, .int .i64 hi] 73 (0, 0))) (ht : oscill_Elapsed.f 9 d (tick - t0) = some (a, b, 0)) :
    Calls Try.prog 26 #[.pointer (some ⟨g, 0, none⟩), .int .i64 tick] w fun e w' => e = .returned (.tuple #[.agg #[.int .i64 (wrap64 (lo + a)), .int .i64 (wrap64 (hi + b))], .int .i64 0]) ∧ Below w.heap.size w w' := by
  have hu := Try.underlying73
  have hu25 := Try.underlying25
  have HC := Aside0.mk hc
  have hg : g < w.heap.size := blk_lt hc
  have hgn : ¬ w.heap.size = g := by omega
  have hgm : ¬ g = w.heap.size := by omega
  have c0 : w.cell? ⟨g, 0, none⟩ = some (.int .i64 d) := (blk_cell hc 0).trans rfl
  have c1 : w.cell? ⟨g, 1, none⟩ = some (.bool true) := (blk_cell hc 1).trans rfl
  have c2 : w.cell? ⟨g, 2, none⟩ = some (.int .i64 t0) := (blk_cell hc 2).trans rfl
  have c3 : w.cell? ⟨g, 3, none⟩ = some (.int .i64 lo) := (blk_cell hc 3).trans rfl
  have c4 : w.cell? ⟨g, 4, none⟩ = some (.int .i64 hi) := (blk_cell hc 4).trans rfl
  clear hc
  have hgp : ¬ w.heap.size + 1 = g := by omega
  have hgq : ¬ g = w.heap.size + 1 := by omega
  have hw : IntKind.i64.wrap (tick - t0) = tick - t0 := IntWalk.i64_in _ (by omega)
  go_enter Try.func26, Try.ntmps26
  go_wp2
  go_region_held3 (fun w' => w'.cell? ⟨g, 0, none⟩ = some (.int .i64 d) ∧ w'.cell? ⟨g, 2, none⟩ = some (.int .i64 t0)) (go_keep) (first | (go_at_call 22; refine (oscill_Elapsed.calls 9 d (tick - t0) a b 0 _ ht).mono ?_; rintro e w1 ⟨rfl, hb⟩; have BS := Aside0.mk (blk_below (g := w.heap.size + 1) (o := .cells #[.int .i64 0, .int .i64 0] 25 (0, 0)) (by (with_reducible repeat (first | refine blk_drewN ?_ _ | refine blk_drew ?_)); have h_ := blk_new (w.alloc (.cells #[.int .i64 0, .int .i64 0] 25 (0, 0))) (.cells #[.int .i64 0, .int .i64 0] 25 (0, 0)); simpa using h_) hb); have s0 : w1.cell? ⟨w.heap.size + 1, 0, none⟩ = some (.int .i64 0) := (blk_cell BS.out 0).trans rfl; have s1 : w1.cell? ⟨w.heap.size + 1, 1, none⟩ = some (.int .i64 0) := (blk_cell BS.out 1).trans rfl; have sf0 := blk_frozen BS.out 0; have sf1 := blk_frozen BS.out 1; have BK := Aside0.mk (blk_below (g := g) (o := .cells #[.int .i64 d, .bool true, .int .i64 t0, .int .i64 lo, .int .i64 hi] 73 (0, 0)) (by (with_reducible repeat (first | refine blk_drewN ?_ _ | refine blk_drew ?_ | refine blk_alloc ?_ _)); exact HC.out) hb); have BR := Aside0.mk (blk_below (g := w.heap.size) (o := .cells #[.int .i64 0, .int .i64 0] 25 (0, 0)) (by (with_reducible repeat (first | exact blk_new w _ | refine blk_drewN ?_ _ | refine blk_drew ?_ | refine blk_alloc ?_ _))) hb); have hb' := below_step (w := w) (by repeat (first | exact Below.refl _ _ | apply below_alloc | apply pw_below_drewN | apply below_drew)) hb; have e0 : w1.cell? ⟨g, 0, none⟩ = some (.int .i64 d) := (blk_cell BK.out 0).trans rfl; have e2 : w1.cell? ⟨g, 2, none⟩ = some (.int .i64 t0) := (blk_cell BK.out 2).trans rfl; have e3 : w1.cell? ⟨g, 3, none⟩ = some (.int .i64 lo) := (blk_cell BK.out 3).trans rfl; have e4 : w1.cell? ⟨g, 4, none⟩ = some (.int .i64 hi) := (blk_cell BK.out 4).trans rfl; have r0 : w1.cell? ⟨w.heap.size, 0, none⟩ = some (.int .i64 0) := (blk_cell BR.out 0).trans rfl; have r1 : w1.cell? ⟨w.heap.size, 1, none⟩ = some (.int .i64 0) := (blk_cell BR.out 1).trans rfl; have rf0 := blk_frozen BR.out 0; have rf1 := blk_frozen BR.out 1; have n1 : w.heap.size < w1.heap.size := blk_lt BR.out; have n2 : ¬ w1.heap.size = w.heap.size := (by omega); have n3 : ¬ w.heap.size = w1.heap.size := (by omega); have n4 : g < w1.heap.size := blk_lt BK.out; have n5 : ¬ w1.heap.size = g := (by omega); have n6 : ¬ g = w1.heap.size := (by omega); have HB := Aside0.mk hb'; clear hb' hb) | (go_at_call 22; refine (oscill_Elapsed.calls 9 d (tick - t0) a b 0 _ ht).mono ?_; rintro e w1 ⟨rfl, hb⟩; have BK := Aside0.mk (blk_below (g := g) (o := .cells #[.int .i64 d, .bool true, .int .i64 t0, .int .i64 lo, .int .i64 hi] 73 (0, 0)) (by (with_reducible repeat (first | refine blk_drewN ?_ _ | refine blk_drew ?_ | refine blk_alloc ?_ _)); exact HC.out) hb); have BR := Aside0.mk (blk_below (g := w.heap.size) (o := .cells #[.int .i64 0, .int .i64 0] 25 (0, 0)) (by (with_reducible repeat (first | exact blk_new w _ | refine blk_drewN ?_ _ | refine blk_drew ?_ | refine blk_alloc ?_ _))) hb); have hb' := below_step (w := w) (by repeat (first | exact Below.refl _ _ | apply below_alloc | apply pw_below_drewN | apply below_drew)) hb; have e0 : w1.cell? ⟨g, 0, none⟩ = some (.int .i64 d) := (blk_cell BK.out 0).trans rfl; have e2 : w1.cell? ⟨g, 2, none⟩ = some (.int .i64 t0) := (blk_cell BK.out 2).trans rfl; have e3 : w1.cell? ⟨g, 3, none⟩ = some (.int .i64 lo) := (blk_cell BK.out 3).trans rfl; have e4 : w1.cell? ⟨g, 4, none⟩ = some (.int .i64 hi) := (blk_cell BK.out 4).trans rfl; have r0 : w1.cell? ⟨w.heap.size, 0, none⟩ = some (.int .i64 0) := (blk_cell BR.out 0).trans rfl; have r1 : w1.cell? ⟨w.heap.size, 1, none⟩ = some (.int .i64 0) := (blk_cell BR.out 1).trans rfl; have rf0 := blk_frozen BR.out 0; have rf1 := blk_frozen BR.out 1; have n1 : w.heap.size < w1.heap.size := blk_lt BR.out; have n2 : ¬ w1.heap.size = w.heap.size := (by omega); have n3 : ¬ w.heap.size = w1.heap.size := (by omega); have n4 : g < w1.heap.size := blk_lt BK.out; have n5 : ¬ w1.heap.size = g := (by omega); have n6 : ¬ g = w1.heap.size := (by omega); have HB := Aside0.mk hb'; clear hb' hb))
  all_goals go_wp2
  all_goals go_region
  all_goals go_wp2
  all_goals
    refine bodyPost_ret (results_ct rfl _ _ w.heap.size 25 #[.int .i64 (wrap64 (lo + a)), .int .i64 (wrap64 (hi + b))] (0, 0) _ rfl (by
      (with_reducible repeat (first | refine blk_drewN ?_ _ | refine blk_drew ?_ | refine blk_alloc ?_ _)); refine blk_put (cs := #[.int .i64 (wrap64 (lo + a)), .int .i64 0]) ?_ 1 _ rfl; (with_reducible repeat (first | refine blk_drewN ?_ _ | refine blk_drew ?_ | refine blk_alloc ?_ _)); refine blk_put (cs := #[.int .i64 0, .int .i64 0]) ?_ 0 _ rfl; (with_reducible repeat (first | refine blk_drewN ?_ _ | refine blk_drew ?_ | refine blk_alloc ?_ _))
      (try (refine blk_far ?_ (by simp) _)); (try (refine blk_far ?_ (by simp) _)); (with_reducible repeat (first | refine blk_drewN ?_ _ | refine blk_drew ?_ | refine blk_alloc ?_ _))
      exact BR.out) Try.underlying25 rfl (by kernel_rfl)) rfl ⟨rfl, ?_⟩
    repeat (first | exact HB.out | apply below_drew | apply pw_below_drewN | apply below_alloc | refine below_set ?_ (by first | omega | (simp; done) | (simp; omega)))

/-! ### ephemeriskeep2_oscillWorks: function 21 -/
-- hand
set_option maxHeartbeats 400000 in
set_option maxRecDepth 100000 in
theorem ephemeriskeep2_oscillWorks.calls (r : Bool) (w : World) (h : ephemeriskeep2_oscillWorks.f = some r) :
    Calls Try.prog 21 #[] w fun e w' => e = .returned (.bool r) ∧ Below w.heap.size w w' := by
  have hu25 := Try.underlying25
  unfold ephemeriskeep2_oscillWorks.f at h
  obtain rfl := Option.some.inj h
  have e1 : oscill_Elapsed.f 9 100 1000000 = some (999900, 1000101, 0) := by decide +kernel
  have e2 : oscill_Elapsed.f 9 0 (7 - 5) = some (2, 2, 0) := by decide +kernel
  have ht := times_ok_ (a := 1) (b := 2) (by omega) (by omega) (by omega)
  have k3 : wrap64 3 = 3 := wrap_in_ (by omega) (by omega)
  have k4 : wrap64 4 = 4 := wrap_in_ (by omega) (by omega)
  go_enter Try.func21, Try.ntmps21
  go_wp2_with fail
  refine (oscill_Elapsed.calls 9 100 1000000 999900 1000101 0 _ e1).mono ?_
  rintro e w1 ⟨rfl, hb⟩
  have HB := Aside0.mk hb
  clear hb
  go_wp2_with fail
  refine (New_ok 0 _ (by omega) (by omega)).mono ?_
  rintro e w2 ⟨rfl, hw2⟩
  subst hw2
  go_wp2_with fail
  have BG : ((w1.alloc (.cells #[.int .i64 999900, .int .i64 1000101] 25 (0, 0))).alloc (.cells #[.int .i64 0, .bool false, .int .i64 0, .int .i64 0, .int .i64 0] 73 (0, 0))).heap[w1.heap.size + 1]? = some (.cells #[.int .i64 0, .bool false, .int .i64 0, .int .i64 0, .int .i64 0] 73 (0, 0)) := by
    have h_ := blk_new (w1.alloc (.cells #[.int .i64 999900, .int .i64 1000101] 25 (0, 0))) (.cells #[.int .i64 0, .bool false, .int .i64 0, .int .i64 0, .int .i64 0] 73 (0, 0))
    simpa using h_
  refine (Set_ok 0 5 1 2 _ _ _ _ _ (by omega) (by omega) (by omega) (by omega) (by omega) BG ht).mono ?_
  rintro e w3 ⟨rfl, hg, hk, hb3⟩
  have BG3 := Aside0.mk hg
  have HB3 := Aside0.mk (show Below w.heap.size w w3 from (below_alloc (below_alloc HB.out _) _).trans (hb3.mono (by have := HB.out.size; omega)))
  clear hg hk hb3 BG
  go_wp2_with fail
  refine (At_ok 0 7 5 1 2 2 2 _ _ (by omega) (by omega) (by omega) (by omega) BG3.out e2).mono ?_
  rintro e w4 ⟨rfl, hb⟩
  have HB4 := Aside0.mk (below_step HB3.out hb)
  clear hb
  go_wp2
  go_ret
  refine ⟨by first | rfl | (simp; done) | (simp [wrap64]; done), ?_⟩
  repeat (first | exact HB4.out | apply below_drew | apply pw_below_drewN | apply below_alloc | refine below_set ?_ (by first | omega | (simp; done) | (simp; omega)))

end Go.Proofs.Ytmoeeneekcbdeaa.JA
