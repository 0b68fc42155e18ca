-- Made by a program of this session (wip/hp.py, over the kit's print) out of the translation. Not trusted: Lean checks it.
import Derived.Test.YtmoeeneekcbdeaaJAx0
import Derived.Test.YtmoeeneekcbdeaaJAx2
import Derived.Test.YtmoeeneekcbdeaaJAx5
import Derived.Test.YtmoeeneekcbdeaaJAx13
namespace Go.Proofs.Ytmoeeneekcbdeaa.JA
open Go.RowKit Go.Proofs.YtmoeeneekcbdeaaW.PrintWords Go.Proofs.YtmoeeneekcbdeaaW.PrintLast Go.Proofs.YtmoeeneekcbdeaaW.PrintMore
attribute [local go_sem] max2_int min2_int max_two min_two max_three min_three max_four min_four   -- for this text's walks alone
set_option linter.unusedVariables false
set_option linter.unusedSimpArgs false

/-! ### source_Moved: function 36 -/
-- hand
set_option maxHeartbeats 2000000 in
set_option maxRecDepth 100000 in
theorem source_Moved.calls (a0 a1_0 a1_1 a1_2 a2 : Int) (r1 r2 r3 : Int) (w : World) (h : source_Moved.f a0 a1_0 a1_1 a1_2 a2 = some (r1, r2, r3)) :
    Calls Try.prog 36 #[.int .i64 a0, .agg #[.int .i64 a1_0, .int .i64 a1_1, .int .i64 a1_2], .int .i64 a2] w fun e w' => e = .returned (.tuple #[.agg #[.int .i64 r1, .int .i64 r2], .int .i64 r3]) ∧ Below w.heap.size w w' := by
  have hu := Try.underlying61
  have hu25 := Try.underlying25
  unfold source_Moved.f at h
  by_cases hp : 0 ≤ a1_0 ∧ a1_0 ≤ 1000000000000 ∧ -100000000000000000 ≤ a1_1 ∧ a1_1 ≤ a1_2 ∧ a1_2 ≤ 100000000000000000 ∧ 0 ≤ a0 ∧ a0 ≤ 100000 ∧ a1_0 ≤ a2 ∧ a2 ≤ 1000000000000
  · rw [if_pos hp] at h
    obtain ⟨p1, p2, p3, p4, p5, p6, p7, p8, p9⟩ := hp
    obtain ⟨⟨ea, eb, ec⟩, he, h⟩ := Option.bind_eq_some_iff.mp h
    dsimp only at h
    by_cases hc : ec = 0
    · subst hc
      rw [if_pos rfl] at h
      simp only [Option.some.injEq, Prod.mk.injEq] at h
      obtain ⟨rfl, rfl, rfl⟩ := h
      have hs := source_check_ok_ p1 p2 p3 p4 p5
      have ht := times_ok_ p3 p4 p5
      have hw : IntKind.i64.wrap (a2 - a1_0) = a2 - a1_0 := IntWalk.i64_in _ (by omega)
      go_enter Try.func36, Try.ntmps36
      go_wp2_with fail
      refine (source_Check.calls 1 a1_0 a1_1 a1_2 0 _ hs).mono ?_
      rintro e w1 ⟨rfl, hb⟩
      have BK := Aside0.mk (blk_below (g := w.heap.size) (o := .cells #[.int .i64 a1_0, .int .i64 a1_1, .int .i64 a1_2] 61 (0, 0)) (blk_alloc (blk_new w _) _) hb)
      have BR := Aside0.mk (blk_below (g := w.heap.size + 1) (o := .cells #[.int .i64 0, .int .i64 0] 25 (0, 0)) (by have h_ := blk_new (w.alloc (.cells #[.int .i64 a1_0, .int .i64 a1_1, .int .i64 a1_2] 61 (0, 0))) (.cells #[.int .i64 0, .int .i64 0] 25 (0, 0)); simpa using h_) hb)
      have HB := Aside0.mk (below_step (w := w) (below_alloc (below_alloc (Below.refl _ w) _) _) hb)
      have c0 : w1.cell? ⟨w.heap.size, 0, none⟩ = some (.int .i64 a1_0) := (blk_cell BK.out 0).trans rfl
      have c1 : w1.cell? ⟨w.heap.size, 1, none⟩ = some (.int .i64 a1_1) := (blk_cell BK.out 1).trans rfl
      have c2 : w1.cell? ⟨w.heap.size, 2, none⟩ = some (.int .i64 a1_2) := (blk_cell BK.out 2).trans rfl
      have n1 : w.heap.size + 1 < w1.heap.size := blk_lt BR.out
      have n2 : ¬ w1.heap.size = w.heap.size := by omega
      have n3 : ¬ w.heap.size = w1.heap.size := by omega
      clear hb
      go_wp2_with fail
      refine (New_ok a0 _ p6 p7).mono ?_
      rintro e w2 ⟨rfl, hw2⟩
      subst hw2
      have BK2 := Aside0.mk (blk_alloc BK.out (.cells #[.int .i64 a0, .bool false, .int .i64 0, .int .i64 0, .int .i64 0] 73 (0, 0)))
      have d0 : (w1.alloc (.cells #[.int .i64 a0, .bool false, .int .i64 0, .int .i64 0, .int .i64 0] 73 (0, 0))).cell? ⟨w.heap.size, 0, none⟩ = some (.int .i64 a1_0) := (blk_cell BK2.out 0).trans rfl
      have d1 : (w1.alloc (.cells #[.int .i64 a0, .bool false, .int .i64 0, .int .i64 0, .int .i64 0] 73 (0, 0))).cell? ⟨w.heap.size, 1, none⟩ = some (.int .i64 a1_1) := (blk_cell BK2.out 1).trans rfl
      have d2 : (w1.alloc (.cells #[.int .i64 a0, .bool false, .int .i64 0, .int .i64 0, .int .i64 0] 73 (0, 0))).cell? ⟨w.heap.size, 2, none⟩ = some (.int .i64 a1_2) := (blk_cell BK2.out 2).trans rfl
      go_wp2_with fail
      refine (Set_ok a0 a1_0 a1_1 a1_2 _ _ _ w1.heap.size _ p1 p2 p3 p4 p5 (blk_new w1 _) ht).mono ?_
      rintro e w3 ⟨rfl, hg, hk, hb3⟩
      have BG := Aside0.mk hg
      have BR3 := Aside0.mk (hk.blk (blk_alloc BR.out _) (by omega) (by simp))
      have HB3 := Aside0.mk (show Below w.heap.size w w3 from (below_alloc HB.out _).trans (hb3.mono (by omega)))
      clear hg hk hb3
      go_wp2_with fail
      refine (At_ok a0 a2 a1_0 a1_1 a1_2 ea eb w1.heap.size _ (by omega) p9 p8 p1 BG.out he).mono ?_
      rintro e w4 ⟨rfl, hb⟩
      have BR4 := Aside0.mk (blk_below BR3.out hb)
      have HB4 := Aside0.mk (below_step HB3.out hb)
      clear hb
      have r0 : w4.cell? ⟨w.heap.size + 1, 0, none⟩ = some (.int .i64 0) := (blk_cell BR4.out 0).trans rfl
      have r1 : w4.cell? ⟨w.heap.size + 1, 1, none⟩ = some (.int .i64 0) := (blk_cell BR4.out 1).trans rfl
      have rf0 := blk_frozen BR4.out 0
      have rf1 := blk_frozen BR4.out 1
      go_wp2
      refine bodyPost_ret (results_ct rfl _ _ (w.heap.size + 1) 25 #[.int .i64 (wrap64 (a1_1 + ea)), .int .i64 (wrap64 (a1_2 + eb))] (0, 0) _ rfl (by
        (with_reducible repeat (first | refine blk_drewN ?_ _ | refine blk_drew ?_ | refine blk_alloc ?_ _)); refine blk_put (cs := #[.int .i64 (wrap64 (a1_1 + ea)), .int .i64 0]) ?_ 1 _ rfl; (with_reducible repeat (first | refine blk_drewN ?_ _ | refine blk_drew ?_ | refine blk_alloc ?_ _)); refine blk_put (cs := #[.int .i64 0, .int .i64 0]) ?_ 0 _ rfl; (with_reducible repeat (first | refine blk_drewN ?_ _ | refine blk_drew ?_ | refine blk_alloc ?_ _)); exact BR4.out) Try.underlying25 rfl (by kernel_rfl)) rfl ⟨rfl, ?_⟩
      repeat (first | exact HB4.out | apply below_drew | apply pw_below_drewN | apply below_alloc | refine below_set ?_ (by first | omega | (simp; done) | (simp; omega)))
    · rw [if_neg hc] at h; cases h
  · rw [if_neg hp] at h; cases h

end Go.Proofs.Ytmoeeneekcbdeaa.JA
