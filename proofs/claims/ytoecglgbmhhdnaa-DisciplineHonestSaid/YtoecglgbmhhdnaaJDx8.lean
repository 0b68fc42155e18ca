-- Made by a program of this session (wip/hp.py, over the kit's print) out of the translation. Not trusted: Lean checks it.
import Derived.Test.YtoecglgbmhhdnaaJDx0
import Derived.Test.YtoecglgbmhhdnaaJDx1
import Derived.Test.YtoecglgbmhhdnaaJDx4
import Derived.Test.YtoecglgbmhhdnaaJDx5
import Derived.Test.YtoecglgbmhhdnaaJDx7
namespace Go.Proofs.Ytoecglgbmhhdnaa.JD
open Go.RowKit Go.Proofs.YtoecglgbmhhdnaaW.PrintWords Go.Proofs.YtoecglgbmhhdnaaW.PrintLast Go.Proofs.YtoecglgbmhhdnaaW.PrintMore
attribute [local go_sem] max2_int min2_int max_two min_two max_three min_three max_four min_four   -- for this text's walks alone
set_option linter.unusedVariables false
set_option linter.unusedSimpArgs false

/-! ### oscill_Clock_At: function 70 -/
-- hand
-- raw
set_option maxHeartbeats 1000000 in
set_option maxRecDepth 100000 in
theorem At_ok (d tick t0 lo hi a b : Int) (g : Nat) (w : World) (h0 : 0 ≤ tick) (h1 : tick ≤ 1000000000000) (h2 : t0 ≤ tick) (h3 : 0 ≤ t0)
    (hc : w.heap[g]? = some (.cells #[.int .i64 d, .bool true, .int .i64 t0, .int .i64 lo, .int .i64 hi] 115 (0, 0))) (ht : oscill_Elapsed.f 9 d (tick - t0) = some (a, b, 0)) :
    Calls Try.prog 70 #[.pointer (some ⟨g, 0, none⟩), .int .i64 tick] w fun e w' => e = .returned (.tuple #[.agg #[.int .i64 (wrap64 (lo + a)), .int .i64 (wrap64 (hi + b))], .int .i64 0]) ∧ Below w.heap.size w w' := by
  have hu := Try.underlying115
  have hu25 := Try.underlying34
  have HC := Aside0.mk hc
  have hg : g < w.heap.size := blk_lt hc
  have hgn : ¬ w.heap.size = g := by omega
  have hgm : ¬ g = w.heap.size := by omega
  have c0 : w.cell? ⟨g, 0, none⟩ = some (.int .i64 d) := (blk_cell hc 0).trans rfl
  have c1 : w.cell? ⟨g, 1, none⟩ = some (.bool true) := (blk_cell hc 1).trans rfl
  have c2 : w.cell? ⟨g, 2, none⟩ = some (.int .i64 t0) := (blk_cell hc 2).trans rfl
  have c3 : w.cell? ⟨g, 3, none⟩ = some (.int .i64 lo) := (blk_cell hc 3).trans rfl
  have c4 : w.cell? ⟨g, 4, none⟩ = some (.int .i64 hi) := (blk_cell hc 4).trans rfl
  clear hc
  have hgp : ¬ w.heap.size + 1 = g := by omega
  have hgq : ¬ g = w.heap.size + 1 := by omega
  have hw : IntKind.i64.wrap (tick - t0) = tick - t0 := IntWalk.i64_in _ (by omega)
  go_enter Try.func70, Try.ntmps70
  go_wp2
  go_region_held3 (fun w' => w'.cell? ⟨g, 0, none⟩ = some (.int .i64 d) ∧ w'.cell? ⟨g, 2, none⟩ = some (.int .i64 t0)) (go_keep) (first | (go_at_call 79; refine (oscill_Elapsed.calls 9 d (tick - t0) a b 0 _ ht).mono ?_; rintro e w1 ⟨rfl, hb⟩; have BS := Aside0.mk (blk_below (g := w.heap.size + 1) (o := .cells #[.int .i64 0, .int .i64 0] 34 (0, 0)) (by (with_reducible repeat (first | refine blk_drewN ?_ _ | refine blk_drew ?_)); have h_ := blk_new (w.alloc (.cells #[.int .i64 0, .int .i64 0] 34 (0, 0))) (.cells #[.int .i64 0, .int .i64 0] 34 (0, 0)); simpa using h_) hb); have s0 : w1.cell? ⟨w.heap.size + 1, 0, none⟩ = some (.int .i64 0) := (blk_cell BS.out 0).trans rfl; have s1 : w1.cell? ⟨w.heap.size + 1, 1, none⟩ = some (.int .i64 0) := (blk_cell BS.out 1).trans rfl; have sf0 := blk_frozen BS.out 0; have sf1 := blk_frozen BS.out 1; have BK := Aside0.mk (blk_below (g := g) (o := .cells #[.int .i64 d, .bool true, .int .i64 t0, .int .i64 lo, .int .i64 hi] 115 (0, 0)) (by (with_reducible repeat (first | refine blk_drewN ?_ _ | refine blk_drew ?_ | refine blk_alloc ?_ _)); exact HC.out) hb); have BR := Aside0.mk (blk_below (g := w.heap.size) (o := .cells #[.int .i64 0, .int .i64 0] 34 (0, 0)) (by (with_reducible repeat (first | exact blk_new w _ | refine blk_drewN ?_ _ | refine blk_drew ?_ | refine blk_alloc ?_ _))) hb); have hb' := below_step (w := w) (by repeat (first | exact Below.refl _ _ | apply below_alloc | apply pw_below_drewN | apply below_drew)) hb; have e0 : w1.cell? ⟨g, 0, none⟩ = some (.int .i64 d) := (blk_cell BK.out 0).trans rfl; have e2 : w1.cell? ⟨g, 2, none⟩ = some (.int .i64 t0) := (blk_cell BK.out 2).trans rfl; have e3 : w1.cell? ⟨g, 3, none⟩ = some (.int .i64 lo) := (blk_cell BK.out 3).trans rfl; have e4 : w1.cell? ⟨g, 4, none⟩ = some (.int .i64 hi) := (blk_cell BK.out 4).trans rfl; have r0 : w1.cell? ⟨w.heap.size, 0, none⟩ = some (.int .i64 0) := (blk_cell BR.out 0).trans rfl; have r1 : w1.cell? ⟨w.heap.size, 1, none⟩ = some (.int .i64 0) := (blk_cell BR.out 1).trans rfl; have rf0 := blk_frozen BR.out 0; have rf1 := blk_frozen BR.out 1; have n1 : w.heap.size < w1.heap.size := blk_lt BR.out; have n2 : ¬ w1.heap.size = w.heap.size := (by omega); have n3 : ¬ w.heap.size = w1.heap.size := (by omega); have n4 : g < w1.heap.size := blk_lt BK.out; have n5 : ¬ w1.heap.size = g := (by omega); have n6 : ¬ g = w1.heap.size := (by omega); have HB := Aside0.mk hb'; clear hb' hb) | (go_at_call 79; refine (oscill_Elapsed.calls 9 d (tick - t0) a b 0 _ ht).mono ?_; rintro e w1 ⟨rfl, hb⟩; have BK := Aside0.mk (blk_below (g := g) (o := .cells #[.int .i64 d, .bool true, .int .i64 t0, .int .i64 lo, .int .i64 hi] 115 (0, 0)) (by (with_reducible repeat (first | refine blk_drewN ?_ _ | refine blk_drew ?_ | refine blk_alloc ?_ _)); exact HC.out) hb); have BR := Aside0.mk (blk_below (g := w.heap.size) (o := .cells #[.int .i64 0, .int .i64 0] 34 (0, 0)) (by (with_reducible repeat (first | exact blk_new w _ | refine blk_drewN ?_ _ | refine blk_drew ?_ | refine blk_alloc ?_ _))) hb); have hb' := below_step (w := w) (by repeat (first | exact Below.refl _ _ | apply below_alloc | apply pw_below_drewN | apply below_drew)) hb; have e0 : w1.cell? ⟨g, 0, none⟩ = some (.int .i64 d) := (blk_cell BK.out 0).trans rfl; have e2 : w1.cell? ⟨g, 2, none⟩ = some (.int .i64 t0) := (blk_cell BK.out 2).trans rfl; have e3 : w1.cell? ⟨g, 3, none⟩ = some (.int .i64 lo) := (blk_cell BK.out 3).trans rfl; have e4 : w1.cell? ⟨g, 4, none⟩ = some (.int .i64 hi) := (blk_cell BK.out 4).trans rfl; have r0 : w1.cell? ⟨w.heap.size, 0, none⟩ = some (.int .i64 0) := (blk_cell BR.out 0).trans rfl; have r1 : w1.cell? ⟨w.heap.size, 1, none⟩ = some (.int .i64 0) := (blk_cell BR.out 1).trans rfl; have rf0 := blk_frozen BR.out 0; have rf1 := blk_frozen BR.out 1; have n1 : w.heap.size < w1.heap.size := blk_lt BR.out; have n2 : ¬ w1.heap.size = w.heap.size := (by omega); have n3 : ¬ w.heap.size = w1.heap.size := (by omega); have n4 : g < w1.heap.size := blk_lt BK.out; have n5 : ¬ w1.heap.size = g := (by omega); have n6 : ¬ g = w1.heap.size := (by omega); have HB := Aside0.mk hb'; clear hb' hb))
  all_goals go_wp2
  all_goals go_region
  all_goals go_wp2
  all_goals
    refine bodyPost_ret (results_ct rfl _ _ w.heap.size 34 #[.int .i64 (wrap64 (lo + a)), .int .i64 (wrap64 (hi + b))] (0, 0) _ rfl (by
      (with_reducible repeat (first | refine blk_drewN ?_ _ | refine blk_drew ?_ | refine blk_alloc ?_ _)); refine blk_put (cs := #[.int .i64 (wrap64 (lo + a)), .int .i64 0]) ?_ 1 _ rfl; (with_reducible repeat (first | refine blk_drewN ?_ _ | refine blk_drew ?_ | refine blk_alloc ?_ _)); refine blk_put (cs := #[.int .i64 0, .int .i64 0]) ?_ 0 _ rfl; (with_reducible repeat (first | refine blk_drewN ?_ _ | refine blk_drew ?_ | refine blk_alloc ?_ _))
      (try (refine blk_far ?_ (by simp) _)); (try (refine blk_far ?_ (by simp) _)); (with_reducible repeat (first | refine blk_drewN ?_ _ | refine blk_drew ?_ | refine blk_alloc ?_ _))
      exact BR.out) Try.underlying34 rfl (by kernel_rfl)) rfl ⟨rfl, ?_⟩
    repeat (first | exact HB.out | apply below_drew | apply pw_below_drewN | apply below_alloc | refine below_set ?_ (by first | omega | (simp; done) | (simp; omega)))

/-! ### source_Moved: function 55 -/
-- hand
set_option maxHeartbeats 2000000 in
set_option maxRecDepth 100000 in
theorem source_Moved.calls (a0 a1_0 a1_1 a1_2 a2 : Int) (r1 r2 r3 : Int) (w : World) (h : source_Moved.f a0 a1_0 a1_1 a1_2 a2 = some (r1, r2, r3)) :
    Calls Try.prog 55 #[.int .i64 a0, .agg #[.int .i64 a1_0, .int .i64 a1_1, .int .i64 a1_2], .int .i64 a2] w fun e w' => e = .returned (.tuple #[.agg #[.int .i64 r1, .int .i64 r2], .int .i64 r3]) ∧ Below w.heap.size w w' := by
  have hu := Try.underlying62
  have hu25 := Try.underlying34
  unfold source_Moved.f at h
  by_cases hp : 0 ≤ a1_0 ∧ a1_0 ≤ 1000000000000 ∧ -100000000000000000 ≤ a1_1 ∧ a1_1 ≤ a1_2 ∧ a1_2 ≤ 100000000000000000 ∧ 0 ≤ a0 ∧ a0 ≤ 100000 ∧ a1_0 ≤ a2 ∧ a2 ≤ 1000000000000
  · rw [if_pos hp] at h
    obtain ⟨p1, p2, p3, p4, p5, p6, p7, p8, p9⟩ := hp
    obtain ⟨⟨ea, eb, ec⟩, he, h⟩ := Option.bind_eq_some_iff.mp h
    dsimp only at h
    by_cases hc : ec = 0
    · subst hc
      rw [if_pos rfl] at h
      simp only [Option.some.injEq, Prod.mk.injEq] at h
      obtain ⟨rfl, rfl, rfl⟩ := h
      have hs := source_check_ok_ p1 p2 p3 p4 p5
      have ht := times_ok_ p3 p4 p5
      have hw : IntKind.i64.wrap (a2 - a1_0) = a2 - a1_0 := IntWalk.i64_in _ (by omega)
      go_enter Try.func55, Try.ntmps55
      go_wp2_with fail
      refine (source_Check.calls 1 a1_0 a1_1 a1_2 0 _ hs).mono ?_
      rintro e w1 ⟨rfl, hb⟩
      have BK := Aside0.mk (blk_below (g := w.heap.size) (o := .cells #[.int .i64 a1_0, .int .i64 a1_1, .int .i64 a1_2] 62 (0, 0)) (blk_alloc (blk_new w _) _) hb)
      have BR := Aside0.mk (blk_below (g := w.heap.size + 1) (o := .cells #[.int .i64 0, .int .i64 0] 34 (0, 0)) (by have h_ := blk_new (w.alloc (.cells #[.int .i64 a1_0, .int .i64 a1_1, .int .i64 a1_2] 62 (0, 0))) (.cells #[.int .i64 0, .int .i64 0] 34 (0, 0)); simpa using h_) hb)
      have HB := Aside0.mk (below_step (w := w) (below_alloc (below_alloc (Below.refl _ w) _) _) hb)
      have c0 : w1.cell? ⟨w.heap.size, 0, none⟩ = some (.int .i64 a1_0) := (blk_cell BK.out 0).trans rfl
      have c1 : w1.cell? ⟨w.heap.size, 1, none⟩ = some (.int .i64 a1_1) := (blk_cell BK.out 1).trans rfl
      have c2 : w1.cell? ⟨w.heap.size, 2, none⟩ = some (.int .i64 a1_2) := (blk_cell BK.out 2).trans rfl
      have n1 : w.heap.size + 1 < w1.heap.size := blk_lt BR.out
      have n2 : ¬ w1.heap.size = w.heap.size := by omega
      have n3 : ¬ w.heap.size = w1.heap.size := by omega
      clear hb
      go_wp2_with fail
      refine (New_ok a0 _ p6 p7).mono ?_
      rintro e w2 ⟨rfl, hw2⟩
      subst hw2
      have BK2 := Aside0.mk (blk_alloc BK.out (.cells #[.int .i64 a0, .bool false, .int .i64 0, .int .i64 0, .int .i64 0] 115 (0, 0)))
      have d0 : (w1.alloc (.cells #[.int .i64 a0, .bool false, .int .i64 0, .int .i64 0, .int .i64 0] 115 (0, 0))).cell? ⟨w.heap.size, 0, none⟩ = some (.int .i64 a1_0) := (blk_cell BK2.out 0).trans rfl
      have d1 : (w1.alloc (.cells #[.int .i64 a0, .bool false, .int .i64 0, .int .i64 0, .int .i64 0] 115 (0, 0))).cell? ⟨w.heap.size, 1, none⟩ = some (.int .i64 a1_1) := (blk_cell BK2.out 1).trans rfl
      have d2 : (w1.alloc (.cells #[.int .i64 a0, .bool false, .int .i64 0, .int .i64 0, .int .i64 0] 115 (0, 0))).cell? ⟨w.heap.size, 2, none⟩ = some (.int .i64 a1_2) := (blk_cell BK2.out 2).trans rfl
      go_wp2_with fail
      refine (Set_ok a0 a1_0 a1_1 a1_2 _ _ _ w1.heap.size _ p1 p2 p3 p4 p5 (blk_new w1 _) ht).mono ?_
      rintro e w3 ⟨rfl, hg, hk, hb3⟩
      have BG := Aside0.mk hg
      have BR3 := Aside0.mk (hk.blk (blk_alloc BR.out _) (by omega) (by simp))
      have HB3 := Aside0.mk (show Below w.heap.size w w3 from (below_alloc HB.out _).trans (hb3.mono (by omega)))
      clear hg hk hb3
      go_wp2_with fail
      refine (At_ok a0 a2 a1_0 a1_1 a1_2 ea eb w1.heap.size _ (by omega) p9 p8 p1 BG.out he).mono ?_
      rintro e w4 ⟨rfl, hb⟩
      have BR4 := Aside0.mk (blk_below BR3.out hb)
      have HB4 := Aside0.mk (below_step HB3.out hb)
      clear hb
      have r0 : w4.cell? ⟨w.heap.size + 1, 0, none⟩ = some (.int .i64 0) := (blk_cell BR4.out 0).trans rfl
      have r1 : w4.cell? ⟨w.heap.size + 1, 1, none⟩ = some (.int .i64 0) := (blk_cell BR4.out 1).trans rfl
      have rf0 := blk_frozen BR4.out 0
      have rf1 := blk_frozen BR4.out 1
      go_wp2
      refine bodyPost_ret (results_ct rfl _ _ (w.heap.size + 1) 34 #[.int .i64 (wrap64 (a1_1 + ea)), .int .i64 (wrap64 (a1_2 + eb))] (0, 0) _ rfl (by
        (with_reducible repeat (first | refine blk_drewN ?_ _ | refine blk_drew ?_ | refine blk_alloc ?_ _)); refine blk_put (cs := #[.int .i64 (wrap64 (a1_1 + ea)), .int .i64 0]) ?_ 1 _ rfl; (with_reducible repeat (first | refine blk_drewN ?_ _ | refine blk_drew ?_ | refine blk_alloc ?_ _)); refine blk_put (cs := #[.int .i64 0, .int .i64 0]) ?_ 0 _ rfl; (with_reducible repeat (first | refine blk_drewN ?_ _ | refine blk_drew ?_ | refine blk_alloc ?_ _)); exact BR4.out) Try.underlying34 rfl (by kernel_rfl)) rfl ⟨rfl, ?_⟩
      repeat (first | exact HB4.out | apply below_drew | apply pw_below_drewN | apply below_alloc | refine below_set ?_ (by first | omega | (simp; done) | (simp; omega)))
    · rw [if_neg hc] at h; cases h
  · rw [if_neg hp] at h; cases h

end Go.Proofs.Ytoecglgbmhhdnaa.JD
