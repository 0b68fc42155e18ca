-- Made by a program of this session (wip/hp.py, over the kit's print) out of the translation. Not trusted: Lean checks it.
import Derived.Test.YtmoffcpbmigngaaJMx0
import Derived.Test.YtmoffcpbmigngaaJMx1
import Derived.Test.YtmoffcpbmigngaaJMx6
import Derived.Test.YtmoffcpbmigngaaJMx7
import Derived.Test.YtmoffcpbmigngaaJMx8
import Derived.Test.YtmoffcpbmigngaaJMx15
import Derived.Test.YtmoffcpbmigngaaJMx18
import Derived.Test.YtmoffcpbmigngaaJMx19
import Derived.Test.YtmoffcpbmigngaaJMx20
import Derived.Test.YtmoffcpbmigngaaJMx22
import Derived.Test.YtmoffcpbmigngaaJMx23
namespace Go.Proofs.Ytmoffcpbmigngaa.JM
open Go.RowKit Go.Proofs.YtmoffcpbmigngaaW.PrintWords Go.Proofs.YtmoffcpbmigngaaW.PrintLast Go.Proofs.YtmoffcpbmigngaaW.PrintMore
attribute [local go_sem] max2_int min2_int max_two min_two max_three min_three max_four min_four   -- for this text's walks alone
set_option linter.unusedVariables false
set_option linter.unusedSimpArgs false

/-! ### sun_Equator: function 64 -/
def sun_Equator.T17 : Bool × List (List Nat × List Nat) := (true, [([], []), ([], []), ([0, 1], [0, 1]), ([], []), ([], []), ([3, 4, 2], [3, 4]), ([2, 5, 5], [2, 5]), ([], []), ([7, 6, 6, 0, 1, 2, 3, 4, 5, 6, 7], [6, 7])])
def sun_Equator.B17 : List Nat := [0, 0, 3, 0, 0, 31, 63, 0, 255]
theorem sun_Equator.tab17 : rtab .any (opsOf Try.f64 17) = sun_Equator.T17 := by kernel_rfl
theorem sun_Equator.bits17 : waitsOk sun_Equator.T17.2 sun_Equator.B17 = true := by kernel_rfl
def sun_Equator.T18 : Bool × List (List Nat × List Nat) := (true, [([], []), ([], []), ([0, 1], [0, 1]), ([], []), ([], []), ([3, 4, 2], [3, 4]), ([2, 5, 5], [2, 5]), ([], []), ([], []), ([7, 8, 6], [7, 8]), ([6, 9, 9], [6, 9]), ([10], [10]), ([11], [11]), ([11], [11]), ([], []), ([14, 12, 10, 0, 1, 2, 3, 4, 5, 6, 7, 8, 9, 10, 11, 12, 14], [12, 14]), ([13, 15, 0, 1, 2, 3, 4, 5, 6, 7, 8, 9, 10, 11, 12, 13, 14, 15], [13])])
def sun_Equator.B18 : List Nat := [0, 0, 3, 0, 0, 31, 63, 0, 0, 511, 1023, 2047, 4095, 4095, 0, 24575, 65535]
theorem sun_Equator.tab18 : rtab .any (opsOf Try.f64 18) = sun_Equator.T18 := by kernel_rfl
theorem sun_Equator.bits18 : waitsOk sun_Equator.T18.2 sun_Equator.B18 = true := by kernel_rfl
set_option maxHeartbeats 8000000 in
set_option maxRecDepth 100000 in
theorem sun_Equator.calls (k : Nat) (a0_0 : Int) (a0_1 : Int) (a1_0 : Int) (a1_1 : Int) (r1 : Int) (r2 : Int) (r3 : Int) (r4 : Int) (r5 : Int) (w : World) (h : sun_Equator.f k a0_0 a0_1 a1_0 a1_1 = some (r1, r2, r3, r4, r5)) :
  Calls Try.prog 64 #[.agg #[.int .i64 a0_0, .int .i64 a0_1], .agg #[.int .i64 a1_0, .int .i64 a1_1]] w fun e w' => e = .returned (.tuple #[.agg #[.int .i64 r1, .int .i64 r2], .agg #[.int .i64 r3, .int .i64 r4], .int .i64 r5]) ∧ Below w.heap.size w w' := by
 have hu23 := Try.underlying23
 obtain ⟨C1_, C2_, h_⟩ := sun_Equator.f_some h
 clear h
 have h := h_
 clear h_
 have CA1_ := Aside0.mk C1_
 have CA2_ := Aside0.mk C2_
 clear C1_ C2_
 have ix0_ : ∀ w : World, (Instr.index 94 (.agg #[.int .i64 a0_0, .int .i64 a0_1, .int .i64 a1_0, .int .i64 a1_1]) (.int .i64 0)).run Try.prog w = .ok (.agg #[.int .i64 a0_0, .int .i64 a0_1]) w := fun _ => by kernel_rfl
 have ix1_ : ∀ w : World, (Instr.index 94 (.agg #[.int .i64 a0_0, .int .i64 a0_1, .int .i64 a1_0, .int .i64 a1_1]) (.int .i64 1)).run Try.prog w = .ok (.agg #[.int .i64 a1_0, .int .i64 a1_1]) w := fun _ => by kernel_rfl
 have HB := Aside0.mk (Below.refl w.heap.size w)
 have H : (if a1_0 < (-125000000) then (sun_Equator.j0 k true a0_0 a0_1 a1_0 a1_1) else (sun_Equator.j0 k (decide (a1_1 > 125000000)) a0_0 a0_1 a1_0 a1_1)) = some (r1, r2, r3, r4, r5) := h
 clear h
 have HC3 := Aside0.mk H
 clear H
 go_enter Try.func64, Try.ntmps64
 go_wp2_with (first | ((with_reducible refine gate_dst (N := 2) rfl ?_); refine box_event ?hg (N := 2) ?hd (cs := #[.int .i64 a0_0, .int .i64 a0_1]) (t := 23) ?hr ?_; (case hd => rfl); (case hg => rfl); (case hr => first | (go_simp; done) | (go_simp; rfl)); intro gb303 hg w4 hbox hb; have BK303 := Aside0.mk hbox; have GE303 := ge_ (hb_ HB.out) hg; replace HB := hx_ HB hb; clear hb hbox hg) | ((with_reducible refine gate_dst (N := 3) rfl ?_); refine box_event ?hg (N := 3) ?hd (cs := #[.int .i64 a1_0, .int .i64 a1_1]) (t := 23) ?hr ?_; (case hd => rfl); (case hg => rfl); (case hr => first | (go_simp; done) | (go_simp; rfl)); intro gb304 hg w5 hbox hb; have BK304 := Aside0.mk hbox; have GE304 := ge_ (hb_ HB.out) hg; have NB303_304 := nb_ (gr_ BK303.out) hg; replace BK303 := nx_ BK303 hb; replace HB := hx_ HB hb; clear hb hbox hg) | ((with_reducible refine gate_dst (N := 4) rfl ?_); refine box_event ?hg (N := 4) ?hd (cs := #[.int .i64 0, .int .i64 0]) (t := 23) ?hr ?_; (case hd => rfl); (case hg => rfl); (case hr => first | (go_simp; done) | (go_simp; rfl)); intro gb305 hg w6 hbox hb; have BK305 := Aside0.mk hbox; have GE305 := ge_ (hb_ HB.out) hg; have NB303_305 := nb_ (gr_ BK303.out) hg; have NB304_305 := nb_ (gr_ BK304.out) hg; replace BK303 := nx_ BK303 hb; replace BK304 := nx_ BK304 hb; replace HB := hx_ HB hb; clear hb hbox hg) | ((with_reducible refine gate_dst (N := 5) rfl ?_); refine box_event ?hg (N := 5) ?hd (cs := #[.int .i64 0, .int .i64 0]) (t := 23) ?hr ?_; (case hd => rfl); (case hg => rfl); (case hr => first | (go_simp; done) | (go_simp; rfl)); intro gb306 hg w7 hbox hb; have BK306 := Aside0.mk hbox; have GE306 := ge_ (hb_ HB.out) hg; have NB303_306 := nb_ (gr_ BK303.out) hg; have NB304_306 := nb_ (gr_ BK304.out) hg; have NB305_306 := nb_ (gr_ BK305.out) hg; replace BK303 := nx_ BK303 hb; replace BK304 := nx_ BK304 hb; replace BK305 := nx_ BK305 hb; replace HB := hx_ HB hb; clear hb hbox hg; have hcz901_0_0 : w7.cell? ⟨gb303, 0, none⟩ = some (.int .i64 a0_0) := (blk_cell BK303.out 0).trans rfl; have hfz901_0_0 := blk_frozen BK303.out 0; have hcz901_0_1 : w7.cell? ⟨gb303, 1, none⟩ = some (.int .i64 a0_1) := (blk_cell BK303.out 1).trans rfl; have hfz901_0_1 := blk_frozen BK303.out 1; have hcz901_1_0 : w7.cell? ⟨gb304, 0, none⟩ = some (.int .i64 a1_0) := (blk_cell BK304.out 0).trans rfl; have hfz901_1_0 := blk_frozen BK304.out 0; have hcz901_1_1 : w7.cell? ⟨gb304, 1, none⟩ = some (.int .i64 a1_1) := (blk_cell BK304.out 1).trans rfl; have hfz901_1_1 := blk_frozen BK304.out 1; have hnb901_303_304 := NB303_304.out; have hnb901_304_303 := NB303_304.out.symm))
 refine wp_loop_rounds 3 ?_
 rw [rounds_succ]
 go_wp2_with (first | ((with_reducible refine gate_dst (N := 8) rfl ?_); refine box_event ?hg (N := 8) ?hd (cs := #[.int .i64 0, .int .i64 0]) (t := 23) ?hr ?_; (case hd => rfl); (case hg => rfl); (case hr => first | (go_simp; done) | (go_simp; rfl)); intro gb901 hg w901 hbox hb; have BK901 := Aside0.mk hbox; have GE901 := ge_ (hb_ HB.out) hg; have NB303_901 := nb_ (gr_ BK303.out) hg; have NB304_901 := nb_ (gr_ BK304.out) hg; have NB305_901 := nb_ (gr_ BK305.out) hg; have NB306_901 := nb_ (gr_ BK306.out) hg; replace BK303 := nx_ BK303 hb; replace BK304 := nx_ BK304 hb; replace BK305 := nx_ BK305 hb; replace BK306 := nx_ BK306 hb; replace HB := hx_ HB hb; clear hb hbox hg; have hcz902_0_0 : w901.cell? ⟨gb901, 0, none⟩ = some (.int .i64 0) := (blk_cell BK901.out 0).trans rfl; have hfz902_0_0 := blk_frozen BK901.out 0; have hcz902_0_1 : w901.cell? ⟨gb901, 1, none⟩ = some (.int .i64 0) := (blk_cell BK901.out 1).trans rfl; have hfz902_0_1 := blk_frozen BK901.out 1) | ((with_reducible refine gate_callee (f := 55) rfl ?_); refine goesL_ (some 35) rfl rfl Try.func55 (by kernel_rfl) rfl #[.agg #[.int .i64 a0_0, .int .i64 a0_1]] rfl (by (try simp only [List.map_toArray, List.map_cons, List.map_nil]); first | done | rfl | (simp only [List.length_drop, List.length_take]; rfl)) ?_; (with_reducible refine (interval_Check.calls k a0_0 a0_1 0 _ CA1_.out).mono ?_); rintro e w902 ⟨rfl, hb⟩; refine ⟨_, rfl, ?_⟩; replace BK303 := Aside0.mk (blk_below (g := gb303) (o := .cells #[.int .i64 a0_0, .int .i64 a0_1] 23 (0, 0)) (gr_ (blk_far (gr_ (blk_far (gr_ BK303.out) NB303_901.out _)) NB303_901.out _)) hb); replace BK304 := Aside0.mk (blk_below (g := gb304) (o := .cells #[.int .i64 a1_0, .int .i64 a1_1] 23 (0, 0)) (gr_ (blk_far (gr_ (blk_far (gr_ BK304.out) NB304_901.out _)) NB304_901.out _)) hb); replace BK305 := Aside0.mk (blk_below (g := gb305) (o := .cells #[.int .i64 0, .int .i64 0] 23 (0, 0)) (gr_ (blk_far (gr_ (blk_far (gr_ BK305.out) NB305_901.out _)) NB305_901.out _)) hb); replace BK306 := Aside0.mk (blk_below (g := gb306) (o := .cells #[.int .i64 0, .int .i64 0] 23 (0, 0)) (gr_ (blk_far (gr_ (blk_far (gr_ BK306.out) NB306_901.out _)) NB306_901.out _)) hb); replace BK901 := Aside0.mk (blk_below (g := gb901) (o := .cells #[.int .i64 a0_0, .int .i64 a0_1] 23 (0, 0)) (gr_ (blk_put (cs := #[.int .i64 a0_0, .int .i64 0]) (gr_ (blk_put (cs := #[.int .i64 0, .int .i64 0]) (gr_ BK901.out) 0 _ rfl)) 1 _ rfl)) hb); replace HB := Aside0.mk (below_step (by repeat (first | (with_reducible first | exact HB.out | apply below_alloc | apply pw_below_drewN | apply below_drew1 | refine below_set ?_ GE901.out) | exact HB.out)) hb); (try clear hb); have hcz903_0_0 : w902.cell? ⟨gb303, 0, none⟩ = some (.int .i64 a0_0) := (blk_cell BK303.out 0).trans rfl; have hfz903_0_0 := blk_frozen BK303.out 0; have hcz903_0_1 : w902.cell? ⟨gb303, 1, none⟩ = some (.int .i64 a0_1) := (blk_cell BK303.out 1).trans rfl; have hfz903_0_1 := blk_frozen BK303.out 1; have hcz903_1_0 : w902.cell? ⟨gb304, 0, none⟩ = some (.int .i64 a1_0) := (blk_cell BK304.out 0).trans rfl; have hfz903_1_0 := blk_frozen BK304.out 0; have hcz903_1_1 : w902.cell? ⟨gb304, 1, none⟩ = some (.int .i64 a1_1) := (blk_cell BK304.out 1).trans rfl; have hfz903_1_1 := blk_frozen BK304.out 1; have hnb903_303_304 := NB303_304.out; have hnb903_304_303 := NB303_304.out.symm))
 rw [rounds_succ]
 go_wp2_with (first | ((with_reducible refine gate_dst (N := 8) rfl ?_); refine box_event ?hg (N := 8) ?hd (cs := #[.int .i64 0, .int .i64 0]) (t := 23) ?hr ?_; (case hd => rfl); (case hg => rfl); (case hr => first | (go_simp; done) | (go_simp; rfl)); intro gb902 hg w903 hbox hb; have BK902 := Aside0.mk hbox; have GE902 := ge_ (hb_ HB.out) hg; have NB303_902 := nb_ (gr_ BK303.out) hg; have NB304_902 := nb_ (gr_ BK304.out) hg; have NB305_902 := nb_ (gr_ BK305.out) hg; have NB306_902 := nb_ (gr_ BK306.out) hg; replace BK303 := nx_ BK303 hb; replace BK304 := nx_ BK304 hb; replace BK305 := nx_ BK305 hb; replace BK306 := nx_ BK306 hb; replace HB := hx_ HB hb; clear hb hbox hg; have hcz904_0_0 : w903.cell? ⟨gb902, 0, none⟩ = some (.int .i64 0) := (blk_cell BK902.out 0).trans rfl; have hfz904_0_0 := blk_frozen BK902.out 0; have hcz904_0_1 : w903.cell? ⟨gb902, 1, none⟩ = some (.int .i64 0) := (blk_cell BK902.out 1).trans rfl; have hfz904_0_1 := blk_frozen BK902.out 1) | ((with_reducible refine gate_callee (f := 55) rfl ?_); refine goesL_ (some 35) rfl rfl Try.func55 (by kernel_rfl) rfl #[.agg #[.int .i64 a1_0, .int .i64 a1_1]] rfl (by (try simp only [List.map_toArray, List.map_cons, List.map_nil]); first | done | rfl | (simp only [List.length_drop, List.length_take]; rfl)) ?_; (with_reducible refine (interval_Check.calls k a1_0 a1_1 0 _ CA2_.out).mono ?_); rintro e w904 ⟨rfl, hb⟩; refine ⟨_, rfl, ?_⟩; replace BK303 := Aside0.mk (blk_below (g := gb303) (o := .cells #[.int .i64 a0_0, .int .i64 a0_1] 23 (0, 0)) (gr_ (blk_far (gr_ (blk_far (gr_ BK303.out) NB303_902.out _)) NB303_902.out _)) hb); replace BK304 := Aside0.mk (blk_below (g := gb304) (o := .cells #[.int .i64 a1_0, .int .i64 a1_1] 23 (0, 0)) (gr_ (blk_far (gr_ (blk_far (gr_ BK304.out) NB304_902.out _)) NB304_902.out _)) hb); replace BK305 := Aside0.mk (blk_below (g := gb305) (o := .cells #[.int .i64 0, .int .i64 0] 23 (0, 0)) (gr_ (blk_far (gr_ (blk_far (gr_ BK305.out) NB305_902.out _)) NB305_902.out _)) hb); replace BK306 := Aside0.mk (blk_below (g := gb306) (o := .cells #[.int .i64 0, .int .i64 0] 23 (0, 0)) (gr_ (blk_far (gr_ (blk_far (gr_ BK306.out) NB306_902.out _)) NB306_902.out _)) hb); replace BK902 := Aside0.mk (blk_below (g := gb902) (o := .cells #[.int .i64 a1_0, .int .i64 a1_1] 23 (0, 0)) (gr_ (blk_put (cs := #[.int .i64 a1_0, .int .i64 0]) (gr_ (blk_put (cs := #[.int .i64 0, .int .i64 0]) (gr_ BK902.out) 0 _ rfl)) 1 _ rfl)) hb); replace HB := Aside0.mk (below_step (by repeat (first | (with_reducible first | exact HB.out | apply below_alloc | apply pw_below_drewN | apply below_drew1 | refine below_set ?_ GE902.out) | exact HB.out)) hb); (try clear hb); have hcz905_0_0 : w904.cell? ⟨gb303, 0, none⟩ = some (.int .i64 a0_0) := (blk_cell BK303.out 0).trans rfl; have hfz905_0_0 := blk_frozen BK303.out 0; have hcz905_0_1 : w904.cell? ⟨gb303, 1, none⟩ = some (.int .i64 a0_1) := (blk_cell BK303.out 1).trans rfl; have hfz905_0_1 := blk_frozen BK303.out 1; have hcz905_1_0 : w904.cell? ⟨gb304, 0, none⟩ = some (.int .i64 a1_0) := (blk_cell BK304.out 0).trans rfl; have hfz905_1_0 := blk_frozen BK304.out 0; have hcz905_1_1 : w904.cell? ⟨gb304, 1, none⟩ = some (.int .i64 a1_1) := (blk_cell BK304.out 1).trans rfl; have hfz905_1_1 := blk_frozen BK304.out 1; have hnb905_303_304 := NB303_304.out; have hnb905_304_303 := NB303_304.out.symm))
 rw [rounds_succ]
 go_upto_region 8 with fail
 clear hcz901_0_0 hfz901_0_0 hcz901_0_1 hfz901_0_1 hcz901_1_0 hfz901_1_0 hcz901_1_1 hfz901_1_1 hnb901_303_304 hnb901_304_303 hcz902_0_0 hfz902_0_0 hcz902_0_1 hfz902_0_1 hcz903_0_0 hfz903_0_0 hcz903_0_1 hfz903_0_1 hcz903_1_0 hfz903_1_0 hcz903_1_1 hfz903_1_1 hnb903_303_304 hnb903_304_303 hcz904_0_0 hfz904_0_0 hcz904_0_1 hfz904_0_1 hcz905_0_0 hfz905_0_0 hcz905_0_1 hfz905_0_1 hcz905_1_0 hfz905_1_0 hcz905_1_1 hfz905_1_1 hnb905_303_304 hnb905_304_303 CA1_ CA2_ ix0_ ix1_
 (try simp only [Act.put, List.setIfInBounds_toArray, List.set_cons_zero, List.set_cons_succ])
 go_cut [49] (fun v49 wc => ∃ (kq : Nat) (x49_2 : Bool), v49 = .bool x49_2 ∧ Aside0 (sun_Equator.j0 kq x49_2 a0_0 a0_1 a1_0 a1_1 = some (r1, r2, r3, r4, r5)) ∧ Aside0 (kq ≤ k) ∧ Aside0 (wc.heap[gb303]? = some (.cells #[.int .i64 a0_0, .int .i64 a0_1] 23 (0, 0))) ∧ Aside0 (wc.heap[gb304]? = some (.cells #[.int .i64 a1_0, .int .i64 a1_1] 23 (0, 0))) ∧ Aside0 (wc.heap[gb305]? = some (.cells #[.int .i64 0, .int .i64 0] 23 (0, 0))) ∧ Aside0 (wc.heap[gb306]? = some (.cells #[.int .i64 0, .int .i64 0] 23 (0, 0))) ∧ Aside0 (Below w.heap.size w wc))
 case first =>
  have H := HC3.out
  clear HC3
  by_cases c8 : a1_0 < (-125000000)
  ·
   rw [if_pos c8] at H
   have c8b0 : decide (a1_0 < (-125000000)) = true := decide_eq_true c8
   clear c8
   (first | rw [c8b0] | (simp only [i64_w, i32_w]; rw [c8b0]) | rw [c8b1] | skip)
   have H' := Aside0.mk H
   clear H
   have hnb9 := NB303_304.out.symm
   have hnc9 := NB303_304.out
   have hnb10 := NB304_305.out
   have hnc10 := NB304_305.out.symm
   have hnb11 := NB304_306.out
   have hnc11 := NB304_306.out.symm
   have hcz12_0 : w904.cell? ⟨gb304, 0, none⟩ = some (.int .i64 a1_0) := (blk_cell BK304.out 0).trans rfl
   have hcz12_1 : w904.cell? ⟨gb304, 1, none⟩ = some (.int .i64 a1_1) := (blk_cell BK304.out 1).trans rfl
   have hfz12_0 := blk_frozen BK304.out 0
   have hfz12_1 := blk_frozen BK304.out 1
   go_wp2
   go_meet
   case rel => exact ⟨_, (true), (by first | rfl | (simp; done) | (simp [*]; done)), H', ⟨by first | omega | exact Nat.le_refl _⟩, ⟨(gr_ BK303.out)⟩, ⟨(gr_ BK304.out)⟩, ⟨(gr_ BK305.out)⟩, ⟨(gr_ BK306.out)⟩, ⟨by repeat (first | (with_reducible first | exact HB.out | apply below_alloc | apply pw_below_drewN | apply below_drew1 | refine below_set ?_ GE303.out | refine below_set ?_ GE304.out | refine below_set ?_ GE305.out | refine below_set ?_ GE306.out) | exact HB.out)⟩⟩
  ·
   rw [if_neg c8] at H
   have c8b0 : decide (a1_0 < (-125000000)) = false := decide_eq_false c8
   clear c8
   (first | rw [c8b0] | (simp only [i64_w, i32_w]; rw [c8b0]) | rw [c8b1] | skip)
   have H' := Aside0.mk H
   clear H
   have hnb13 := NB303_304.out.symm
   have hnc13 := NB303_304.out
   have hnb14 := NB304_305.out
   have hnc14 := NB304_305.out.symm
   have hnb15 := NB304_306.out
   have hnc15 := NB304_306.out.symm
   have hcz16_0 : w904.cell? ⟨gb304, 0, none⟩ = some (.int .i64 a1_0) := (blk_cell BK304.out 0).trans rfl
   have hcz16_1 : w904.cell? ⟨gb304, 1, none⟩ = some (.int .i64 a1_1) := (blk_cell BK304.out 1).trans rfl
   have hfz16_0 := blk_frozen BK304.out 0
   have hfz16_1 := blk_frozen BK304.out 1
   go_wp2
   go_meet
   case rel => exact ⟨_, (decide (a1_1 > 125000000)), (by first | rfl | (simp; done) | (simp [*]; done)), H', ⟨by first | omega | exact Nat.le_refl _⟩, ⟨(gr_ BK303.out)⟩, ⟨(gr_ BK304.out)⟩, ⟨(gr_ BK305.out)⟩, ⟨(gr_ BK306.out)⟩, ⟨by repeat (first | (with_reducible first | exact HB.out | apply below_alloc | apply pw_below_drewN | apply below_drew1 | refine below_set ?_ GE303.out | refine below_set ?_ GE304.out | refine below_set ?_ GE305.out | refine below_set ?_ GE306.out) | exact HB.out)⟩⟩
 case rest =>
  clear HC3
  try clear c1
  try clear p2
  try clear c6
  try clear c8
  try clear c8b0
  try clear c9
  try clear c10
  try clear c11
  try clear c13
  try clear c14
  try clear c15
  try clear hcz12_0
  try clear hcz12_1
  try clear hcz16_0
  try clear hcz16_1
  try clear hfz12_0
  try clear hfz12_1
  try clear hfz16_0
  try clear hfz16_1
  obtain ⟨kq, x49_2, rfl, HA, HJ2, BK303, BK304, BK305, BK306, HB⟩ := hcut
  cases kq with
  | zero => exact absurd HA.out (by simp [sun_Equator.j0])
  | succ kj2 =>
   have H := HA.out
   clear HA
   simp only [sun_Equator.j0] at H
   by_cases c17 : x49_2 = true
   ·
    subst c17
    have H1 : (none) = some (r1, r2, r3, r4, r5) := by rw [if_pos rfl] at H; exact H
    clear H
    have H := H1
    clear H1
    exact absurd H (by simp)
   ·
    replace c17 := Bool.eq_false_iff.mpr c17
    subst c17
    have H1 : ((trig_Sin.f kj2 65109000).bind fun bt307 => ((trig_Cos.f kj2 65109000).bind fun bt311 => ((trig_SinOver.f kj2 a0_0 a0_1).bind fun bt315 => ((trig_CosOver.f kj2 a0_0 a0_1).bind fun bt319 => ((trig_SinOver.f kj2 a1_0 a1_1).bind fun bt323 => ((trig_CosOver.f kj2 a1_0 a1_1).bind fun bt327 => ((sun_Unit.f bt327.1 bt327.2.1 bt315.1 bt315.2.1).bind fun bt331 => ((sun_Unit.f bt331.1 bt331.2 bt307.1 bt307.2.1).bind fun bt334 => ((sun_Unit.f bt323.1 bt323.2.1 bt311.1 bt311.2.1).bind fun bt336 => ((sun_plus.f bt334.1 bt334.2 bt336.1 bt336.2).bind fun bt338 => ((sun_Unit.f bt331.1 bt331.2 bt311.1 bt311.2.1).bind fun bt341 => ((sun_Unit.f bt323.1 bt323.2.1 bt307.1 bt307.2.1).bind fun bt343 => ((sun_less.f bt341.1 bt341.2 bt343.1 bt343.2).bind fun bt345 => ((sun_Unit.f bt327.1 bt327.2.1 bt319.1 bt319.2.1).bind fun bt347 => ((trig_Arc.f kj2 bt345.1 bt345.2 bt347.1 bt347.2).bind fun bt349 => (if bt349.2.2 = 0 then ((trig_ArcSin.f kj2 bt338.1 bt338.2).bind fun bt353 => (some (bt349.1, bt349.2.1, bt353.1, bt353.2.1, 0))) else (none))))))))))))))))) = some (r1, r2, r3, r4, r5) := by rw [if_neg (show ¬ (false = true) by decide)] at H; exact H
    clear H
    have H := H1
    clear H1
    replace H := Option.bind_eq_some_iff.mp H
    obtain ⟨⟨t307, t308, t309⟩, A180, H⟩ := H
    replace H : ((trig_Cos.f kj2 65109000).bind fun bt311 => ((trig_SinOver.f kj2 a0_0 a0_1).bind fun bt315 => ((trig_CosOver.f kj2 a0_0 a0_1).bind fun bt319 => ((trig_SinOver.f kj2 a1_0 a1_1).bind fun bt323 => ((trig_CosOver.f kj2 a1_0 a1_1).bind fun bt327 => ((sun_Unit.f bt327.1 bt327.2.1 bt315.1 bt315.2.1).bind fun bt331 => ((sun_Unit.f bt331.1 bt331.2 t307 t308).bind fun bt334 => ((sun_Unit.f bt323.1 bt323.2.1 bt311.1 bt311.2.1).bind fun bt336 => ((sun_plus.f bt334.1 bt334.2 bt336.1 bt336.2).bind fun bt338 => ((sun_Unit.f bt331.1 bt331.2 bt311.1 bt311.2.1).bind fun bt341 => ((sun_Unit.f bt323.1 bt323.2.1 t307 t308).bind fun bt343 => ((sun_less.f bt341.1 bt341.2 bt343.1 bt343.2).bind fun bt345 => ((sun_Unit.f bt327.1 bt327.2.1 bt319.1 bt319.2.1).bind fun bt347 => ((trig_Arc.f kj2 bt345.1 bt345.2 bt347.1 bt347.2).bind fun bt349 => (if bt349.2.2 = 0 then ((trig_ArcSin.f kj2 bt338.1 bt338.2).bind fun bt353 => (some (bt349.1, bt349.2.1, bt353.1, bt353.2.1, 0))) else (none)))))))))))))))) = some (r1, r2, r3, r4, r5) := H
    have A18 := Aside0.mk A180
    clear A180
    replace H := Option.bind_eq_some_iff.mp H
    obtain ⟨⟨t311, t312, t313⟩, A190, H⟩ := H
    replace H : ((trig_SinOver.f kj2 a0_0 a0_1).bind fun bt315 => ((trig_CosOver.f kj2 a0_0 a0_1).bind fun bt319 => ((trig_SinOver.f kj2 a1_0 a1_1).bind fun bt323 => ((trig_CosOver.f kj2 a1_0 a1_1).bind fun bt327 => ((sun_Unit.f bt327.1 bt327.2.1 bt315.1 bt315.2.1).bind fun bt331 => ((sun_Unit.f bt331.1 bt331.2 t307 t308).bind fun bt334 => ((sun_Unit.f bt323.1 bt323.2.1 t311 t312).bind fun bt336 => ((sun_plus.f bt334.1 bt334.2 bt336.1 bt336.2).bind fun bt338 => ((sun_Unit.f bt331.1 bt331.2 t311 t312).bind fun bt341 => ((sun_Unit.f bt323.1 bt323.2.1 t307 t308).bind fun bt343 => ((sun_less.f bt341.1 bt341.2 bt343.1 bt343.2).bind fun bt345 => ((sun_Unit.f bt327.1 bt327.2.1 bt319.1 bt319.2.1).bind fun bt347 => ((trig_Arc.f kj2 bt345.1 bt345.2 bt347.1 bt347.2).bind fun bt349 => (if bt349.2.2 = 0 then ((trig_ArcSin.f kj2 bt338.1 bt338.2).bind fun bt353 => (some (bt349.1, bt349.2.1, bt353.1, bt353.2.1, 0))) else (none))))))))))))))) = some (r1, r2, r3, r4, r5) := H
    have A19 := Aside0.mk A190
    clear A190
    replace H := Option.bind_eq_some_iff.mp H
    obtain ⟨⟨t315, t316, t317⟩, A200, H⟩ := H
    replace H : ((trig_CosOver.f kj2 a0_0 a0_1).bind fun bt319 => ((trig_SinOver.f kj2 a1_0 a1_1).bind fun bt323 => ((trig_CosOver.f kj2 a1_0 a1_1).bind fun bt327 => ((sun_Unit.f bt327.1 bt327.2.1 t315 t316).bind fun bt331 => ((sun_Unit.f bt331.1 bt331.2 t307 t308).bind fun bt334 => ((sun_Unit.f bt323.1 bt323.2.1 t311 t312).bind fun bt336 => ((sun_plus.f bt334.1 bt334.2 bt336.1 bt336.2).bind fun bt338 => ((sun_Unit.f bt331.1 bt331.2 t311 t312).bind fun bt341 => ((sun_Unit.f bt323.1 bt323.2.1 t307 t308).bind fun bt343 => ((sun_less.f bt341.1 bt341.2 bt343.1 bt343.2).bind fun bt345 => ((sun_Unit.f bt327.1 bt327.2.1 bt319.1 bt319.2.1).bind fun bt347 => ((trig_Arc.f kj2 bt345.1 bt345.2 bt347.1 bt347.2).bind fun bt349 => (if bt349.2.2 = 0 then ((trig_ArcSin.f kj2 bt338.1 bt338.2).bind fun bt353 => (some (bt349.1, bt349.2.1, bt353.1, bt353.2.1, 0))) else (none)))))))))))))) = some (r1, r2, r3, r4, r5) := H
    have A20 := Aside0.mk A200
    clear A200
    replace H := Option.bind_eq_some_iff.mp H
    obtain ⟨⟨t319, t320, t321⟩, A210, H⟩ := H
    replace H : ((trig_SinOver.f kj2 a1_0 a1_1).bind fun bt323 => ((trig_CosOver.f kj2 a1_0 a1_1).bind fun bt327 => ((sun_Unit.f bt327.1 bt327.2.1 t315 t316).bind fun bt331 => ((sun_Unit.f bt331.1 bt331.2 t307 t308).bind fun bt334 => ((sun_Unit.f bt323.1 bt323.2.1 t311 t312).bind fun bt336 => ((sun_plus.f bt334.1 bt334.2 bt336.1 bt336.2).bind fun bt338 => ((sun_Unit.f bt331.1 bt331.2 t311 t312).bind fun bt341 => ((sun_Unit.f bt323.1 bt323.2.1 t307 t308).bind fun bt343 => ((sun_less.f bt341.1 bt341.2 bt343.1 bt343.2).bind fun bt345 => ((sun_Unit.f bt327.1 bt327.2.1 t319 t320).bind fun bt347 => ((trig_Arc.f kj2 bt345.1 bt345.2 bt347.1 bt347.2).bind fun bt349 => (if bt349.2.2 = 0 then ((trig_ArcSin.f kj2 bt338.1 bt338.2).bind fun bt353 => (some (bt349.1, bt349.2.1, bt353.1, bt353.2.1, 0))) else (none))))))))))))) = some (r1, r2, r3, r4, r5) := H
    have A21 := Aside0.mk A210
    clear A210
    replace H := Option.bind_eq_some_iff.mp H
    obtain ⟨⟨t323, t324, t325⟩, A220, H⟩ := H
    replace H : ((trig_CosOver.f kj2 a1_0 a1_1).bind fun bt327 => ((sun_Unit.f bt327.1 bt327.2.1 t315 t316).bind fun bt331 => ((sun_Unit.f bt331.1 bt331.2 t307 t308).bind fun bt334 => ((sun_Unit.f t323 t324 t311 t312).bind fun bt336 => ((sun_plus.f bt334.1 bt334.2 bt336.1 bt336.2).bind fun bt338 => ((sun_Unit.f bt331.1 bt331.2 t311 t312).bind fun bt341 => ((sun_Unit.f t323 t324 t307 t308).bind fun bt343 => ((sun_less.f bt341.1 bt341.2 bt343.1 bt343.2).bind fun bt345 => ((sun_Unit.f bt327.1 bt327.2.1 t319 t320).bind fun bt347 => ((trig_Arc.f kj2 bt345.1 bt345.2 bt347.1 bt347.2).bind fun bt349 => (if bt349.2.2 = 0 then ((trig_ArcSin.f kj2 bt338.1 bt338.2).bind fun bt353 => (some (bt349.1, bt349.2.1, bt353.1, bt353.2.1, 0))) else (none)))))))))))) = some (r1, r2, r3, r4, r5) := H
    have A22 := Aside0.mk A220
    clear A220
    replace H := Option.bind_eq_some_iff.mp H
    obtain ⟨⟨t327, t328, t329⟩, A230, H⟩ := H
    replace H : ((sun_Unit.f t327 t328 t315 t316).bind fun bt331 => ((sun_Unit.f bt331.1 bt331.2 t307 t308).bind fun bt334 => ((sun_Unit.f t323 t324 t311 t312).bind fun bt336 => ((sun_plus.f bt334.1 bt334.2 bt336.1 bt336.2).bind fun bt338 => ((sun_Unit.f bt331.1 bt331.2 t311 t312).bind fun bt341 => ((sun_Unit.f t323 t324 t307 t308).bind fun bt343 => ((sun_less.f bt341.1 bt341.2 bt343.1 bt343.2).bind fun bt345 => ((sun_Unit.f t327 t328 t319 t320).bind fun bt347 => ((trig_Arc.f kj2 bt345.1 bt345.2 bt347.1 bt347.2).bind fun bt349 => (if bt349.2.2 = 0 then ((trig_ArcSin.f kj2 bt338.1 bt338.2).bind fun bt353 => (some (bt349.1, bt349.2.1, bt353.1, bt353.2.1, 0))) else (none))))))))))) = some (r1, r2, r3, r4, r5) := H
    have A23 := Aside0.mk A230
    clear A230
    replace H := Option.bind_eq_some_iff.mp H
    obtain ⟨⟨t331, t332⟩, A240, H⟩ := H
    replace H : ((sun_Unit.f t331 t332 t307 t308).bind fun bt334 => ((sun_Unit.f t323 t324 t311 t312).bind fun bt336 => ((sun_plus.f bt334.1 bt334.2 bt336.1 bt336.2).bind fun bt338 => ((sun_Unit.f t331 t332 t311 t312).bind fun bt341 => ((sun_Unit.f t323 t324 t307 t308).bind fun bt343 => ((sun_less.f bt341.1 bt341.2 bt343.1 bt343.2).bind fun bt345 => ((sun_Unit.f t327 t328 t319 t320).bind fun bt347 => ((trig_Arc.f kj2 bt345.1 bt345.2 bt347.1 bt347.2).bind fun bt349 => (if bt349.2.2 = 0 then ((trig_ArcSin.f kj2 bt338.1 bt338.2).bind fun bt353 => (some (bt349.1, bt349.2.1, bt353.1, bt353.2.1, 0))) else (none)))))))))) = some (r1, r2, r3, r4, r5) := H
    have A24 := Aside0.mk A240
    clear A240
    replace H := Option.bind_eq_some_iff.mp H
    obtain ⟨⟨t334, t335⟩, A250, H⟩ := H
    replace H : ((sun_Unit.f t323 t324 t311 t312).bind fun bt336 => ((sun_plus.f t334 t335 bt336.1 bt336.2).bind fun bt338 => ((sun_Unit.f t331 t332 t311 t312).bind fun bt341 => ((sun_Unit.f t323 t324 t307 t308).bind fun bt343 => ((sun_less.f bt341.1 bt341.2 bt343.1 bt343.2).bind fun bt345 => ((sun_Unit.f t327 t328 t319 t320).bind fun bt347 => ((trig_Arc.f kj2 bt345.1 bt345.2 bt347.1 bt347.2).bind fun bt349 => (if bt349.2.2 = 0 then ((trig_ArcSin.f kj2 bt338.1 bt338.2).bind fun bt353 => (some (bt349.1, bt349.2.1, bt353.1, bt353.2.1, 0))) else (none))))))))) = some (r1, r2, r3, r4, r5) := H
    have A25 := Aside0.mk A250
    clear A250
    replace H := Option.bind_eq_some_iff.mp H
    obtain ⟨⟨t336, t337⟩, A260, H⟩ := H
    replace H : ((sun_plus.f t334 t335 t336 t337).bind fun bt338 => ((sun_Unit.f t331 t332 t311 t312).bind fun bt341 => ((sun_Unit.f t323 t324 t307 t308).bind fun bt343 => ((sun_less.f bt341.1 bt341.2 bt343.1 bt343.2).bind fun bt345 => ((sun_Unit.f t327 t328 t319 t320).bind fun bt347 => ((trig_Arc.f kj2 bt345.1 bt345.2 bt347.1 bt347.2).bind fun bt349 => (if bt349.2.2 = 0 then ((trig_ArcSin.f kj2 bt338.1 bt338.2).bind fun bt353 => (some (bt349.1, bt349.2.1, bt353.1, bt353.2.1, 0))) else (none)))))))) = some (r1, r2, r3, r4, r5) := H
    have A26 := Aside0.mk A260
    clear A260
    replace H := Option.bind_eq_some_iff.mp H
    obtain ⟨⟨t338, t339⟩, A270, H⟩ := H
    replace H : ((sun_Unit.f t331 t332 t311 t312).bind fun bt341 => ((sun_Unit.f t323 t324 t307 t308).bind fun bt343 => ((sun_less.f bt341.1 bt341.2 bt343.1 bt343.2).bind fun bt345 => ((sun_Unit.f t327 t328 t319 t320).bind fun bt347 => ((trig_Arc.f kj2 bt345.1 bt345.2 bt347.1 bt347.2).bind fun bt349 => (if bt349.2.2 = 0 then ((trig_ArcSin.f kj2 t338 t339).bind fun bt353 => (some (bt349.1, bt349.2.1, bt353.1, bt353.2.1, 0))) else (none))))))) = some (r1, r2, r3, r4, r5) := H
    have A27 := Aside0.mk A270
    clear A270
    replace H := Option.bind_eq_some_iff.mp H
    obtain ⟨⟨t341, t342⟩, A280, H⟩ := H
    replace H : ((sun_Unit.f t323 t324 t307 t308).bind fun bt343 => ((sun_less.f t341 t342 bt343.1 bt343.2).bind fun bt345 => ((sun_Unit.f t327 t328 t319 t320).bind fun bt347 => ((trig_Arc.f kj2 bt345.1 bt345.2 bt347.1 bt347.2).bind fun bt349 => (if bt349.2.2 = 0 then ((trig_ArcSin.f kj2 t338 t339).bind fun bt353 => (some (bt349.1, bt349.2.1, bt353.1, bt353.2.1, 0))) else (none)))))) = some (r1, r2, r3, r4, r5) := H
    have A28 := Aside0.mk A280
    clear A280
    replace H := Option.bind_eq_some_iff.mp H
    obtain ⟨⟨t343, t344⟩, A290, H⟩ := H
    replace H : ((sun_less.f t341 t342 t343 t344).bind fun bt345 => ((sun_Unit.f t327 t328 t319 t320).bind fun bt347 => ((trig_Arc.f kj2 bt345.1 bt345.2 bt347.1 bt347.2).bind fun bt349 => (if bt349.2.2 = 0 then ((trig_ArcSin.f kj2 t338 t339).bind fun bt353 => (some (bt349.1, bt349.2.1, bt353.1, bt353.2.1, 0))) else (none))))) = some (r1, r2, r3, r4, r5) := H
    have A29 := Aside0.mk A290
    clear A290
    replace H := Option.bind_eq_some_iff.mp H
    obtain ⟨⟨t345, t346⟩, A300, H⟩ := H
    replace H : ((sun_Unit.f t327 t328 t319 t320).bind fun bt347 => ((trig_Arc.f kj2 t345 t346 bt347.1 bt347.2).bind fun bt349 => (if bt349.2.2 = 0 then ((trig_ArcSin.f kj2 t338 t339).bind fun bt353 => (some (bt349.1, bt349.2.1, bt353.1, bt353.2.1, 0))) else (none)))) = some (r1, r2, r3, r4, r5) := H
    have A30 := Aside0.mk A300
    clear A300
    replace H := Option.bind_eq_some_iff.mp H
    obtain ⟨⟨t347, t348⟩, A310, H⟩ := H
    replace H : ((trig_Arc.f kj2 t345 t346 t347 t348).bind fun bt349 => (if bt349.2.2 = 0 then ((trig_ArcSin.f kj2 t338 t339).bind fun bt353 => (some (bt349.1, bt349.2.1, bt353.1, bt353.2.1, 0))) else (none))) = some (r1, r2, r3, r4, r5) := H
    have A31 := Aside0.mk A310
    clear A310
    replace H := Option.bind_eq_some_iff.mp H
    obtain ⟨⟨t349, t350, t351⟩, A320, H⟩ := H
    replace H : (if t351 = 0 then ((trig_ArcSin.f kj2 t338 t339).bind fun bt353 => (some (t349, t350, bt353.1, bt353.2.1, 0))) else (none)) = some (r1, r2, r3, r4, r5) := H
    have A32 := Aside0.mk A320
    clear A320
    by_cases c33 : t351 = 0
    ·
     rw [if_pos c33] at H
     have c33b0 : (t351 == 0) = true := beq_iff_eq.mpr c33
     have c33b1 : (t351 != 0) = false := bne_eq_false_iff_eq.mpr c33
     clear c33
     replace H := Option.bind_eq_some_iff.mp H
     obtain ⟨⟨t353, t354, t355⟩, A340, H⟩ := H
     replace H : (some (t349, t350, t353, t354, 0)) = some (r1, r2, r3, r4, r5) := H
     have A34 := Aside0.mk A340
     clear A340
     simp only [Option.some.injEq, Prod.mk.injEq] at H
     obtain ⟨rfl, rfl, rfl, rfl, rfl⟩ := H
     try go_wp2_with (first | ((with_reducible refine gate_callee (f := 51) rfl ?_); refine goesL_ (some 53) rfl rfl Try.func51 (by kernel_rfl) rfl #[.int .i64 65109000] rfl (by (try simp only [List.map_toArray, List.map_cons, List.map_nil]); first | done | rfl | (simp only [List.length_drop, List.length_take]; rfl)) ?_; (with_reducible refine (trig_Sin.calls kj2 65109000 t307 t308 t309 _ A18.out).mono ?_); rintro e w35 ⟨rfl, hb⟩; refine ⟨_, rfl, ?_⟩; replace BK303 := nx_ BK303 hb; replace BK304 := nx_ BK304 hb; replace BK305 := nx_ BK305 hb; replace BK306 := nx_ BK306 hb; replace HB := hx_ HB hb; (try clear hb); (try clear hb2); (try clear hk); (try clear hi)) | ((with_reducible refine gate_dst (N := 10) rfl ?_); refine box_event ?hg (N := 10) ?hd (cs := #[.int .i64 0, .int .i64 0]) (t := 23) ?hr ?_; (case hd => rfl); (case hg => rfl); (case hr => first | (go_simp; done) | (go_simp; rfl)); intro gb310 hg w36 hbox hb; have BK310 := Aside0.mk hbox; have GE310 := ge_ (hb_ HB.out) hg; have NB303_310 := nb_ (gr_ BK303.out) hg; have NB304_310 := nb_ (gr_ BK304.out) hg; have NB305_310 := nb_ (gr_ BK305.out) hg; have NB306_310 := nb_ (gr_ BK306.out) hg; replace BK303 := nx_ BK303 hb; replace BK304 := nx_ BK304 hb; replace BK305 := nx_ BK305 hb; replace BK306 := nx_ BK306 hb; replace HB := hx_ HB hb; clear hb hbox hg; have hnb37 := NB303_310.out.symm; have hnc37 := NB303_310.out; have hnb38 := NB304_310.out.symm; have hnc38 := NB304_310.out; have hnb39 := NB305_310.out.symm; have hnc39 := NB305_310.out; have hnb40 := NB306_310.out.symm; have hnc40 := NB306_310.out; have hcz41_0 : w36.cell? ⟨gb310, 0, none⟩ = some (.int .i64 0) := (blk_cell BK310.out 0).trans rfl; have hcz41_1 : w36.cell? ⟨gb310, 1, none⟩ = some (.int .i64 0) := (blk_cell BK310.out 1).trans rfl; have hfz41_0 := blk_frozen BK310.out 0; have hfz41_1 := blk_frozen BK310.out 1) | ((with_reducible refine gate_callee (f := 53) rfl ?_); refine goesL_ (some 57) rfl rfl Try.func53 (by kernel_rfl) rfl #[.int .i64 65109000] rfl (by (try simp only [List.map_toArray, List.map_cons, List.map_nil]); first | done | rfl | (simp only [List.length_drop, List.length_take]; rfl)) ?_; (with_reducible refine (trig_Cos.calls kj2 65109000 t311 t312 t313 _ A19.out).mono ?_); rintro e w42 ⟨rfl, hb⟩; refine ⟨_, rfl, ?_⟩; replace BK303 := Aside0.mk (blk_below (g := gb303) (o := .cells #[.int .i64 a0_0, .int .i64 a0_1] 23 (0, 0)) (gr_ (blk_far (gr_ (blk_far (gr_ BK303.out) NB303_310.out _)) NB303_310.out _)) hb); replace BK304 := Aside0.mk (blk_below (g := gb304) (o := .cells #[.int .i64 a1_0, .int .i64 a1_1] 23 (0, 0)) (gr_ (blk_far (gr_ (blk_far (gr_ BK304.out) NB304_310.out _)) NB304_310.out _)) hb); replace BK305 := Aside0.mk (blk_below (g := gb305) (o := .cells #[.int .i64 0, .int .i64 0] 23 (0, 0)) (gr_ (blk_far (gr_ (blk_far (gr_ BK305.out) NB305_310.out _)) NB305_310.out _)) hb); replace BK306 := Aside0.mk (blk_below (g := gb306) (o := .cells #[.int .i64 0, .int .i64 0] 23 (0, 0)) (gr_ (blk_far (gr_ (blk_far (gr_ BK306.out) NB306_310.out _)) NB306_310.out _)) hb); replace BK310 := Aside0.mk (blk_below (g := gb310) (o := .cells #[.int .i64 t307, .int .i64 t308] 23 (0, 0)) (gr_ (blk_put (cs := #[.int .i64 t307, .int .i64 0]) (gr_ (blk_put (cs := #[.int .i64 0, .int .i64 0]) (gr_ BK310.out) 0 _ rfl)) 1 _ rfl)) hb); replace HB := Aside0.mk (below_step (by repeat (first | (with_reducible first | exact HB.out | apply below_alloc | apply pw_below_drewN | apply below_drew1 | refine below_set ?_ GE310.out) | exact HB.out)) hb); (try clear hb); (try clear hb2); (try clear hk); (try clear hi)) | ((with_reducible refine gate_dst (N := 12) rfl ?_); refine box_event ?hg (N := 12) ?hd (cs := #[.int .i64 0, .int .i64 0]) (t := 23) ?hr ?_; (case hd => rfl); (case hg => rfl); (case hr => first | (go_simp; done) | (go_simp; rfl)); intro gb314 hg w43 hbox hb; have BK314 := Aside0.mk hbox; have GE314 := ge_ (hb_ HB.out) hg; have NB303_314 := nb_ (gr_ BK303.out) hg; have NB304_314 := nb_ (gr_ BK304.out) hg; have NB305_314 := nb_ (gr_ BK305.out) hg; have NB306_314 := nb_ (gr_ BK306.out) hg; have NB310_314 := nb_ (gr_ BK310.out) hg; replace BK303 := nx_ BK303 hb; replace BK304 := nx_ BK304 hb; replace BK305 := nx_ BK305 hb; replace BK306 := nx_ BK306 hb; replace BK310 := nx_ BK310 hb; replace HB := hx_ HB hb; clear hb hbox hg; have hnb44 := NB303_314.out.symm; have hnc44 := NB303_314.out; have hnb45 := NB304_314.out.symm; have hnc45 := NB304_314.out; have hnb46 := NB305_314.out.symm; have hnc46 := NB305_314.out; have hnb47 := NB306_314.out.symm; have hnc47 := NB306_314.out; have hnb48 := NB310_314.out.symm; have hnc48 := NB310_314.out; have hcz49_0 : w43.cell? ⟨gb314, 0, none⟩ = some (.int .i64 0) := (blk_cell BK314.out 0).trans rfl; have hcz49_1 : w43.cell? ⟨gb314, 1, none⟩ = some (.int .i64 0) := (blk_cell BK314.out 1).trans rfl; have hfz49_0 := blk_frozen BK314.out 0; have hfz49_1 := blk_frozen BK314.out 1; have hnb50 := NB303_304.out; have hnc50 := NB303_304.out.symm; have hnb51 := NB303_305.out; have hnc51 := NB303_305.out.symm; have hnb52 := NB303_306.out; have hnc52 := NB303_306.out.symm; have hcz53_0 : w43.cell? ⟨gb303, 0, none⟩ = some (.int .i64 a0_0) := (blk_cell BK303.out 0).trans rfl; have hcz53_1 : w43.cell? ⟨gb303, 1, none⟩ = some (.int .i64 a0_1) := (blk_cell BK303.out 1).trans rfl; have hfz53_0 := blk_frozen BK303.out 0; have hfz53_1 := blk_frozen BK303.out 1) | ((with_reducible refine gate_callee (f := 17) rfl ?_); refine goesL_ (some 62) rfl rfl Try.func17 (by kernel_rfl) rfl #[.agg #[.int .i64 a0_0, .int .i64 a0_1]] rfl (by (try simp only [List.map_toArray, List.map_cons, List.map_nil]); first | done | rfl | (simp only [List.length_drop, List.length_take]; rfl)) ?_; (with_reducible refine (trig_SinOver.calls kj2 a0_0 a0_1 t315 t316 t317 _ A20.out).mono ?_); rintro e w54 ⟨rfl, hb⟩; refine ⟨_, rfl, ?_⟩; replace BK303 := Aside0.mk (blk_below (g := gb303) (o := .cells #[.int .i64 a0_0, .int .i64 a0_1] 23 (0, 0)) (gr_ (blk_far (gr_ (blk_far (gr_ BK303.out) NB303_314.out _)) NB303_314.out _)) hb); replace BK304 := Aside0.mk (blk_below (g := gb304) (o := .cells #[.int .i64 a1_0, .int .i64 a1_1] 23 (0, 0)) (gr_ (blk_far (gr_ (blk_far (gr_ BK304.out) NB304_314.out _)) NB304_314.out _)) hb); replace BK305 := Aside0.mk (blk_below (g := gb305) (o := .cells #[.int .i64 0, .int .i64 0] 23 (0, 0)) (gr_ (blk_far (gr_ (blk_far (gr_ BK305.out) NB305_314.out _)) NB305_314.out _)) hb); replace BK306 := Aside0.mk (blk_below (g := gb306) (o := .cells #[.int .i64 0, .int .i64 0] 23 (0, 0)) (gr_ (blk_far (gr_ (blk_far (gr_ BK306.out) NB306_314.out _)) NB306_314.out _)) hb); replace BK310 := Aside0.mk (blk_below (g := gb310) (o := .cells #[.int .i64 t307, .int .i64 t308] 23 (0, 0)) (gr_ (blk_far (gr_ (blk_far (gr_ BK310.out) NB310_314.out _)) NB310_314.out _)) hb); replace BK314 := Aside0.mk (blk_below (g := gb314) (o := .cells #[.int .i64 t311, .int .i64 t312] 23 (0, 0)) (gr_ (blk_put (cs := #[.int .i64 t311, .int .i64 0]) (gr_ (blk_put (cs := #[.int .i64 0, .int .i64 0]) (gr_ BK314.out) 0 _ rfl)) 1 _ rfl)) hb); replace HB := Aside0.mk (below_step (by repeat (first | (with_reducible first | exact HB.out | apply below_alloc | apply pw_below_drewN | apply below_drew1 | refine below_set ?_ GE314.out) | exact HB.out)) hb); (try clear hb); (try clear hb2); (try clear hk); (try clear hi)) | ((with_reducible refine gate_dst (N := 14) rfl ?_); refine box_event ?hg (N := 14) ?hd (cs := #[.int .i64 0, .int .i64 0]) (t := 23) ?hr ?_; (case hd => rfl); (case hg => rfl); (case hr => first | (go_simp; done) | (go_simp; rfl)); intro gb318 hg w55 hbox hb; have BK318 := Aside0.mk hbox; have GE318 := ge_ (hb_ HB.out) hg; have NB303_318 := nb_ (gr_ BK303.out) hg; have NB304_318 := nb_ (gr_ BK304.out) hg; have NB305_318 := nb_ (gr_ BK305.out) hg; have NB306_318 := nb_ (gr_ BK306.out) hg; have NB310_318 := nb_ (gr_ BK310.out) hg; have NB314_318 := nb_ (gr_ BK314.out) hg; replace BK303 := nx_ BK303 hb; replace BK304 := nx_ BK304 hb; replace BK305 := nx_ BK305 hb; replace BK306 := nx_ BK306 hb; replace BK310 := nx_ BK310 hb; replace BK314 := nx_ BK314 hb; replace HB := hx_ HB hb; clear hb hbox hg; have hnb56 := NB303_318.out.symm; have hnc56 := NB303_318.out; have hnb57 := NB304_318.out.symm; have hnc57 := NB304_318.out; have hnb58 := NB305_318.out.symm; have hnc58 := NB305_318.out; have hnb59 := NB306_318.out.symm; have hnc59 := NB306_318.out; have hnb60 := NB310_318.out.symm; have hnc60 := NB310_318.out; have hnb61 := NB314_318.out.symm; have hnc61 := NB314_318.out; have hcz62_0 : w55.cell? ⟨gb318, 0, none⟩ = some (.int .i64 0) := (blk_cell BK318.out 0).trans rfl; have hcz62_1 : w55.cell? ⟨gb318, 1, none⟩ = some (.int .i64 0) := (blk_cell BK318.out 1).trans rfl; have hfz62_0 := blk_frozen BK318.out 0; have hfz62_1 := blk_frozen BK318.out 1; have hcz63_0 : w55.cell? ⟨gb303, 0, none⟩ = some (.int .i64 a0_0) := (blk_cell BK303.out 0).trans rfl; have hcz63_1 : w55.cell? ⟨gb303, 1, none⟩ = some (.int .i64 a0_1) := (blk_cell BK303.out 1).trans rfl; have hfz63_0 := blk_frozen BK303.out 0; have hfz63_1 := blk_frozen BK303.out 1) | ((with_reducible refine gate_callee (f := 18) rfl ?_); refine goesL_ (some 67) rfl rfl Try.func18 (by kernel_rfl) rfl #[.agg #[.int .i64 a0_0, .int .i64 a0_1]] rfl (by (try simp only [List.map_toArray, List.map_cons, List.map_nil]); first | done | rfl | (simp only [List.length_drop, List.length_take]; rfl)) ?_; (with_reducible refine (trig_CosOver.calls kj2 a0_0 a0_1 t319 t320 t321 _ A21.out).mono ?_); rintro e w64 ⟨rfl, hb⟩; refine ⟨_, rfl, ?_⟩; replace BK303 := Aside0.mk (blk_below (g := gb303) (o := .cells #[.int .i64 a0_0, .int .i64 a0_1] 23 (0, 0)) (gr_ (blk_far (gr_ (blk_far (gr_ BK303.out) NB303_318.out _)) NB303_318.out _)) hb); replace BK304 := Aside0.mk (blk_below (g := gb304) (o := .cells #[.int .i64 a1_0, .int .i64 a1_1] 23 (0, 0)) (gr_ (blk_far (gr_ (blk_far (gr_ BK304.out) NB304_318.out _)) NB304_318.out _)) hb); replace BK305 := Aside0.mk (blk_below (g := gb305) (o := .cells #[.int .i64 0, .int .i64 0] 23 (0, 0)) (gr_ (blk_far (gr_ (blk_far (gr_ BK305.out) NB305_318.out _)) NB305_318.out _)) hb); replace BK306 := Aside0.mk (blk_below (g := gb306) (o := .cells #[.int .i64 0, .int .i64 0] 23 (0, 0)) (gr_ (blk_far (gr_ (blk_far (gr_ BK306.out) NB306_318.out _)) NB306_318.out _)) hb); replace BK310 := Aside0.mk (blk_below (g := gb310) (o := .cells #[.int .i64 t307, .int .i64 t308] 23 (0, 0)) (gr_ (blk_far (gr_ (blk_far (gr_ BK310.out) NB310_318.out _)) NB310_318.out _)) hb); replace BK314 := Aside0.mk (blk_below (g := gb314) (o := .cells #[.int .i64 t311, .int .i64 t312] 23 (0, 0)) (gr_ (blk_far (gr_ (blk_far (gr_ BK314.out) NB314_318.out _)) NB314_318.out _)) hb); replace BK318 := Aside0.mk (blk_below (g := gb318) (o := .cells #[.int .i64 t315, .int .i64 t316] 23 (0, 0)) (gr_ (blk_put (cs := #[.int .i64 t315, .int .i64 0]) (gr_ (blk_put (cs := #[.int .i64 0, .int .i64 0]) (gr_ BK318.out) 0 _ rfl)) 1 _ rfl)) hb); replace HB := Aside0.mk (below_step (by repeat (first | (with_reducible first | exact HB.out | apply below_alloc | apply pw_below_drewN | apply below_drew1 | refine below_set ?_ GE318.out) | exact HB.out)) hb); (try clear hb); (try clear hb2); (try clear hk); (try clear hi)) | ((with_reducible refine gate_dst (N := 16) rfl ?_); refine box_event ?hg (N := 16) ?hd (cs := #[.int .i64 0, .int .i64 0]) (t := 23) ?hr ?_; (case hd => rfl); (case hg => rfl); (case hr => first | (go_simp; done) | (go_simp; rfl)); intro gb322 hg w65 hbox hb; have BK322 := Aside0.mk hbox; have GE322 := ge_ (hb_ HB.out) hg; have NB304_322 := nb_ (gr_ BK304.out) hg; have NB305_322 := nb_ (gr_ BK305.out) hg; have NB306_322 := nb_ (gr_ BK306.out) hg; have NB310_322 := nb_ (gr_ BK310.out) hg; have NB314_322 := nb_ (gr_ BK314.out) hg; have NB318_322 := nb_ (gr_ BK318.out) hg; replace BK304 := nx_ BK304 hb; replace BK305 := nx_ BK305 hb; replace BK306 := nx_ BK306 hb; replace BK310 := nx_ BK310 hb; replace BK314 := nx_ BK314 hb; replace BK318 := nx_ BK318 hb; replace HB := hx_ HB hb; clear hb hbox hg; have hnb66 := NB304_322.out.symm; have hnc66 := NB304_322.out; have hnb67 := NB305_322.out.symm; have hnc67 := NB305_322.out; have hnb68 := NB306_322.out.symm; have hnc68 := NB306_322.out; have hnb69 := NB310_322.out.symm; have hnc69 := NB310_322.out; have hnb70 := NB314_322.out.symm; have hnc70 := NB314_322.out; have hnb71 := NB318_322.out.symm; have hnc71 := NB318_322.out; have hcz72_0 : w65.cell? ⟨gb322, 0, none⟩ = some (.int .i64 0) := (blk_cell BK322.out 0).trans rfl; have hcz72_1 : w65.cell? ⟨gb322, 1, none⟩ = some (.int .i64 0) := (blk_cell BK322.out 1).trans rfl; have hfz72_0 := blk_frozen BK322.out 0; have hfz72_1 := blk_frozen BK322.out 1; have hnb73 := NB304_305.out; have hnc73 := NB304_305.out.symm; have hnb74 := NB304_306.out; have hnc74 := NB304_306.out.symm; have hcz75_0 : w65.cell? ⟨gb304, 0, none⟩ = some (.int .i64 a1_0) := (blk_cell BK304.out 0).trans rfl; have hcz75_1 : w65.cell? ⟨gb304, 1, none⟩ = some (.int .i64 a1_1) := (blk_cell BK304.out 1).trans rfl; have hfz75_0 := blk_frozen BK304.out 0; have hfz75_1 := blk_frozen BK304.out 1) | ((with_reducible refine gate_callee (f := 17) rfl ?_); refine goesL_ (some 72) rfl rfl Try.func17 (by kernel_rfl) rfl #[.agg #[.int .i64 a1_0, .int .i64 a1_1]] rfl (by (try simp only [List.map_toArray, List.map_cons, List.map_nil]); first | done | rfl | (simp only [List.length_drop, List.length_take]; rfl)) ?_; (with_reducible refine (trig_SinOver.calls kj2 a1_0 a1_1 t323 t324 t325 _ A22.out).mono ?_); rintro e w76 ⟨rfl, hb⟩; refine ⟨_, rfl, ?_⟩; replace BK304 := Aside0.mk (blk_below (g := gb304) (o := .cells #[.int .i64 a1_0, .int .i64 a1_1] 23 (0, 0)) (gr_ (blk_far (gr_ (blk_far (gr_ BK304.out) NB304_322.out _)) NB304_322.out _)) hb); replace BK305 := Aside0.mk (blk_below (g := gb305) (o := .cells #[.int .i64 0, .int .i64 0] 23 (0, 0)) (gr_ (blk_far (gr_ (blk_far (gr_ BK305.out) NB305_322.out _)) NB305_322.out _)) hb); replace BK306 := Aside0.mk (blk_below (g := gb306) (o := .cells #[.int .i64 0, .int .i64 0] 23 (0, 0)) (gr_ (blk_far (gr_ (blk_far (gr_ BK306.out) NB306_322.out _)) NB306_322.out _)) hb); replace BK310 := Aside0.mk (blk_below (g := gb310) (o := .cells #[.int .i64 t307, .int .i64 t308] 23 (0, 0)) (gr_ (blk_far (gr_ (blk_far (gr_ BK310.out) NB310_322.out _)) NB310_322.out _)) hb); replace BK314 := Aside0.mk (blk_below (g := gb314) (o := .cells #[.int .i64 t311, .int .i64 t312] 23 (0, 0)) (gr_ (blk_far (gr_ (blk_far (gr_ BK314.out) NB314_322.out _)) NB314_322.out _)) hb); replace BK318 := Aside0.mk (blk_below (g := gb318) (o := .cells #[.int .i64 t315, .int .i64 t316] 23 (0, 0)) (gr_ (blk_far (gr_ (blk_far (gr_ BK318.out) NB318_322.out _)) NB318_322.out _)) hb); replace BK322 := Aside0.mk (blk_below (g := gb322) (o := .cells #[.int .i64 t319, .int .i64 t320] 23 (0, 0)) (gr_ (blk_put (cs := #[.int .i64 t319, .int .i64 0]) (gr_ (blk_put (cs := #[.int .i64 0, .int .i64 0]) (gr_ BK322.out) 0 _ rfl)) 1 _ rfl)) hb); replace HB := Aside0.mk (below_step (by repeat (first | (with_reducible first | exact HB.out | apply below_alloc | apply pw_below_drewN | apply below_drew1 | refine below_set ?_ GE322.out) | exact HB.out)) hb); (try clear hb); (try clear hb2); (try clear hk); (try clear hi)) | ((with_reducible refine gate_dst (N := 18) rfl ?_); refine box_event ?hg (N := 18) ?hd (cs := #[.int .i64 0, .int .i64 0]) (t := 23) ?hr ?_; (case hd => rfl); (case hg => rfl); (case hr => first | (go_simp; done) | (go_simp; rfl)); intro gb326 hg w77 hbox hb; have BK326 := Aside0.mk hbox; have GE326 := ge_ (hb_ HB.out) hg; have NB304_326 := nb_ (gr_ BK304.out) hg; have NB305_326 := nb_ (gr_ BK305.out) hg; have NB306_326 := nb_ (gr_ BK306.out) hg; have NB310_326 := nb_ (gr_ BK310.out) hg; have NB314_326 := nb_ (gr_ BK314.out) hg; have NB318_326 := nb_ (gr_ BK318.out) hg; have NB322_326 := nb_ (gr_ BK322.out) hg; replace BK304 := nx_ BK304 hb; replace BK305 := nx_ BK305 hb; replace BK306 := nx_ BK306 hb; replace BK310 := nx_ BK310 hb; replace BK314 := nx_ BK314 hb; replace BK318 := nx_ BK318 hb; replace BK322 := nx_ BK322 hb; replace HB := hx_ HB hb; clear hb hbox hg; have hnb78 := NB304_326.out.symm; have hnc78 := NB304_326.out; have hnb79 := NB305_326.out.symm; have hnc79 := NB305_326.out; have hnb80 := NB306_326.out.symm; have hnc80 := NB306_326.out; have hnb81 := NB310_326.out.symm; have hnc81 := NB310_326.out; have hnb82 := NB314_326.out.symm; have hnc82 := NB314_326.out; have hnb83 := NB318_326.out.symm; have hnc83 := NB318_326.out; have hnb84 := NB322_326.out.symm; have hnc84 := NB322_326.out; have hcz85_0 : w77.cell? ⟨gb326, 0, none⟩ = some (.int .i64 0) := (blk_cell BK326.out 0).trans rfl; have hcz85_1 : w77.cell? ⟨gb326, 1, none⟩ = some (.int .i64 0) := (blk_cell BK326.out 1).trans rfl; have hfz85_0 := blk_frozen BK326.out 0; have hfz85_1 := blk_frozen BK326.out 1; have hcz86_0 : w77.cell? ⟨gb304, 0, none⟩ = some (.int .i64 a1_0) := (blk_cell BK304.out 0).trans rfl; have hcz86_1 : w77.cell? ⟨gb304, 1, none⟩ = some (.int .i64 a1_1) := (blk_cell BK304.out 1).trans rfl; have hfz86_0 := blk_frozen BK304.out 0; have hfz86_1 := blk_frozen BK304.out 1) | ((with_reducible refine gate_callee (f := 18) rfl ?_); refine goesL_ (some 77) rfl rfl Try.func18 (by kernel_rfl) rfl #[.agg #[.int .i64 a1_0, .int .i64 a1_1]] rfl (by (try simp only [List.map_toArray, List.map_cons, List.map_nil]); first | done | rfl | (simp only [List.length_drop, List.length_take]; rfl)) ?_; (with_reducible refine (trig_CosOver.calls kj2 a1_0 a1_1 t327 t328 t329 _ A23.out).mono ?_); rintro e w87 ⟨rfl, hb⟩; refine ⟨_, rfl, ?_⟩; replace BK304 := Aside0.mk (blk_below (g := gb304) (o := .cells #[.int .i64 a1_0, .int .i64 a1_1] 23 (0, 0)) (gr_ (blk_far (gr_ (blk_far (gr_ BK304.out) NB304_326.out _)) NB304_326.out _)) hb); replace BK305 := Aside0.mk (blk_below (g := gb305) (o := .cells #[.int .i64 0, .int .i64 0] 23 (0, 0)) (gr_ (blk_far (gr_ (blk_far (gr_ BK305.out) NB305_326.out _)) NB305_326.out _)) hb); replace BK306 := Aside0.mk (blk_below (g := gb306) (o := .cells #[.int .i64 0, .int .i64 0] 23 (0, 0)) (gr_ (blk_far (gr_ (blk_far (gr_ BK306.out) NB306_326.out _)) NB306_326.out _)) hb); replace BK310 := Aside0.mk (blk_below (g := gb310) (o := .cells #[.int .i64 t307, .int .i64 t308] 23 (0, 0)) (gr_ (blk_far (gr_ (blk_far (gr_ BK310.out) NB310_326.out _)) NB310_326.out _)) hb); replace BK314 := Aside0.mk (blk_below (g := gb314) (o := .cells #[.int .i64 t311, .int .i64 t312] 23 (0, 0)) (gr_ (blk_far (gr_ (blk_far (gr_ BK314.out) NB314_326.out _)) NB314_326.out _)) hb); replace BK318 := Aside0.mk (blk_below (g := gb318) (o := .cells #[.int .i64 t315, .int .i64 t316] 23 (0, 0)) (gr_ (blk_far (gr_ (blk_far (gr_ BK318.out) NB318_326.out _)) NB318_326.out _)) hb); replace BK322 := Aside0.mk (blk_below (g := gb322) (o := .cells #[.int .i64 t319, .int .i64 t320] 23 (0, 0)) (gr_ (blk_far (gr_ (blk_far (gr_ BK322.out) NB322_326.out _)) NB322_326.out _)) hb); replace BK326 := Aside0.mk (blk_below (g := gb326) (o := .cells #[.int .i64 t323, .int .i64 t324] 23 (0, 0)) (gr_ (blk_put (cs := #[.int .i64 t323, .int .i64 0]) (gr_ (blk_put (cs := #[.int .i64 0, .int .i64 0]) (gr_ BK326.out) 0 _ rfl)) 1 _ rfl)) hb); replace HB := Aside0.mk (below_step (by repeat (first | (with_reducible first | exact HB.out | apply below_alloc | apply pw_below_drewN | apply below_drew1 | refine below_set ?_ GE326.out) | exact HB.out)) hb); (try clear hb); (try clear hb2); (try clear hk); (try clear hi)) | ((with_reducible refine gate_dst (N := 20) rfl ?_); refine box_event ?hg (N := 20) ?hd (cs := #[.int .i64 0, .int .i64 0]) (t := 23) ?hr ?_; (case hd => rfl); (case hg => rfl); (case hr => first | (go_simp; done) | (go_simp; rfl)); intro gb330 hg w88 hbox hb; have BK330 := Aside0.mk hbox; have GE330 := ge_ (hb_ HB.out) hg; have NB305_330 := nb_ (gr_ BK305.out) hg; have NB306_330 := nb_ (gr_ BK306.out) hg; have NB310_330 := nb_ (gr_ BK310.out) hg; have NB314_330 := nb_ (gr_ BK314.out) hg; have NB318_330 := nb_ (gr_ BK318.out) hg; have NB322_330 := nb_ (gr_ BK322.out) hg; have NB326_330 := nb_ (gr_ BK326.out) hg; replace BK305 := nx_ BK305 hb; replace BK306 := nx_ BK306 hb; replace BK310 := nx_ BK310 hb; replace BK314 := nx_ BK314 hb; replace BK318 := nx_ BK318 hb; replace BK322 := nx_ BK322 hb; replace BK326 := nx_ BK326 hb; replace HB := hx_ HB hb; clear hb hbox hg; have hnb89 := NB305_330.out.symm; have hnc89 := NB305_330.out; have hnb90 := NB306_330.out.symm; have hnc90 := NB306_330.out; have hnb91 := NB310_330.out.symm; have hnc91 := NB310_330.out; have hnb92 := NB314_330.out.symm; have hnc92 := NB314_330.out; have hnb93 := NB318_330.out.symm; have hnc93 := NB318_330.out; have hnb94 := NB322_330.out.symm; have hnc94 := NB322_330.out; have hnb95 := NB326_330.out.symm; have hnc95 := NB326_330.out; have hcz96_0 : w88.cell? ⟨gb330, 0, none⟩ = some (.int .i64 0) := (blk_cell BK330.out 0).trans rfl; have hcz96_1 : w88.cell? ⟨gb330, 1, none⟩ = some (.int .i64 0) := (blk_cell BK330.out 1).trans rfl; have hfz96_0 := blk_frozen BK330.out 0; have hfz96_1 := blk_frozen BK330.out 1; have hcz97_0 : w88.cell? ⟨gb318, 0, none⟩ = some (.int .i64 t315) := (blk_cell BK318.out 0).trans rfl; have hcz97_1 : w88.cell? ⟨gb318, 1, none⟩ = some (.int .i64 t316) := (blk_cell BK318.out 1).trans rfl; have hfz97_0 := blk_frozen BK318.out 0; have hfz97_1 := blk_frozen BK318.out 1) | ((with_reducible refine gate_callee (f := 61) rfl ?_); refine goesL_ (some 82) rfl rfl Try.func61 (by kernel_rfl) rfl #[.agg #[.int .i64 t327, .int .i64 t328], .agg #[.int .i64 t315, .int .i64 t316]] rfl (by (try simp only [List.map_toArray, List.map_cons, List.map_nil]); first | done | rfl | (simp only [List.length_drop, List.length_take]; rfl)) ?_; (with_reducible refine (sun_Unit.calls t327 t328 t315 t316 t331 t332 _ A24.out).mono ?_); rintro e w98 ⟨rfl, hb⟩; refine ⟨_, rfl, ?_⟩; replace BK305 := Aside0.mk (blk_below (g := gb305) (o := .cells #[.int .i64 0, .int .i64 0] 23 (0, 0)) (gr_ (blk_far (gr_ (blk_far (gr_ BK305.out) NB305_330.out _)) NB305_330.out _)) hb); replace BK306 := Aside0.mk (blk_below (g := gb306) (o := .cells #[.int .i64 0, .int .i64 0] 23 (0, 0)) (gr_ (blk_far (gr_ (blk_far (gr_ BK306.out) NB306_330.out _)) NB306_330.out _)) hb); replace BK310 := Aside0.mk (blk_below (g := gb310) (o := .cells #[.int .i64 t307, .int .i64 t308] 23 (0, 0)) (gr_ (blk_far (gr_ (blk_far (gr_ BK310.out) NB310_330.out _)) NB310_330.out _)) hb); replace BK314 := Aside0.mk (blk_below (g := gb314) (o := .cells #[.int .i64 t311, .int .i64 t312] 23 (0, 0)) (gr_ (blk_far (gr_ (blk_far (gr_ BK314.out) NB314_330.out _)) NB314_330.out _)) hb); replace BK318 := Aside0.mk (blk_below (g := gb318) (o := .cells #[.int .i64 t315, .int .i64 t316] 23 (0, 0)) (gr_ (blk_far (gr_ (blk_far (gr_ BK318.out) NB318_330.out _)) NB318_330.out _)) hb); replace BK322 := Aside0.mk (blk_below (g := gb322) (o := .cells #[.int .i64 t319, .int .i64 t320] 23 (0, 0)) (gr_ (blk_far (gr_ (blk_far (gr_ BK322.out) NB322_330.out _)) NB322_330.out _)) hb); replace BK326 := Aside0.mk (blk_below (g := gb326) (o := .cells #[.int .i64 t323, .int .i64 t324] 23 (0, 0)) (gr_ (blk_far (gr_ (blk_far (gr_ BK326.out) NB326_330.out _)) NB326_330.out _)) hb); replace BK330 := Aside0.mk (blk_below (g := gb330) (o := .cells #[.int .i64 t327, .int .i64 t328] 23 (0, 0)) (gr_ (blk_put (cs := #[.int .i64 t327, .int .i64 0]) (gr_ (blk_put (cs := #[.int .i64 0, .int .i64 0]) (gr_ BK330.out) 0 _ rfl)) 1 _ rfl)) hb); replace HB := Aside0.mk (below_step (by repeat (first | (with_reducible first | exact HB.out | apply below_alloc | apply pw_below_drewN | apply below_drew1 | refine below_set ?_ GE330.out) | exact HB.out)) hb); (try clear hb); (try clear hb2); (try clear hk); (try clear hi)) | ((with_reducible refine gate_dst (N := 22) rfl ?_); refine box_event ?hg (N := 22) ?hd (cs := #[.int .i64 0, .int .i64 0]) (t := 23) ?hr ?_; (case hd => rfl); (case hg => rfl); (case hr => first | (go_simp; done) | (go_simp; rfl)); intro gb333 hg w99 hbox hb; have BK333 := Aside0.mk hbox; have GE333 := ge_ (hb_ HB.out) hg; have NB305_333 := nb_ (gr_ BK305.out) hg; have NB306_333 := nb_ (gr_ BK306.out) hg; have NB310_333 := nb_ (gr_ BK310.out) hg; have NB314_333 := nb_ (gr_ BK314.out) hg; have NB322_333 := nb_ (gr_ BK322.out) hg; have NB326_333 := nb_ (gr_ BK326.out) hg; have NB330_333 := nb_ (gr_ BK330.out) hg; replace BK305 := nx_ BK305 hb; replace BK306 := nx_ BK306 hb; replace BK310 := nx_ BK310 hb; replace BK314 := nx_ BK314 hb; replace BK322 := nx_ BK322 hb; replace BK326 := nx_ BK326 hb; replace BK330 := nx_ BK330 hb; replace HB := hx_ HB hb; clear hb hbox hg; have hnb100 := NB305_333.out.symm; have hnc100 := NB305_333.out; have hnb101 := NB306_333.out.symm; have hnc101 := NB306_333.out; have hnb102 := NB310_333.out.symm; have hnc102 := NB310_333.out; have hnb103 := NB314_333.out.symm; have hnc103 := NB314_333.out; have hnb104 := NB322_333.out.symm; have hnc104 := NB322_333.out; have hnb105 := NB326_333.out.symm; have hnc105 := NB326_333.out; have hnb106 := NB330_333.out.symm; have hnc106 := NB330_333.out; have hcz107_0 : w99.cell? ⟨gb333, 0, none⟩ = some (.int .i64 0) := (blk_cell BK333.out 0).trans rfl; have hcz107_1 : w99.cell? ⟨gb333, 1, none⟩ = some (.int .i64 0) := (blk_cell BK333.out 1).trans rfl; have hfz107_0 := blk_frozen BK333.out 0; have hfz107_1 := blk_frozen BK333.out 1))
     have n0_ : Aside0 (((w99.setCell ⟨gb333, 0, none⟩ (.int .i64 t331)).setCell ⟨gb333, 1, none⟩ (.int .i64 t332)).heap[gb305]? = some (.cells #[.int .i64 0, .int .i64 0] 23 (0, 0))) := ⟨(gr_ (blk_far (gr_ (blk_far (gr_ BK305.out) NB305_333.out _)) NB305_333.out _))⟩
     have n1_ : Aside0 (((w99.setCell ⟨gb333, 0, none⟩ (.int .i64 t331)).setCell ⟨gb333, 1, none⟩ (.int .i64 t332)).heap[gb306]? = some (.cells #[.int .i64 0, .int .i64 0] 23 (0, 0))) := ⟨(gr_ (blk_far (gr_ (blk_far (gr_ BK306.out) NB306_333.out _)) NB306_333.out _))⟩
     have n2_ : Aside0 (((w99.setCell ⟨gb333, 0, none⟩ (.int .i64 t331)).setCell ⟨gb333, 1, none⟩ (.int .i64 t332)).heap[gb310]? = some (.cells #[.int .i64 t307, .int .i64 t308] 23 (0, 0))) := ⟨(gr_ (blk_far (gr_ (blk_far (gr_ BK310.out) NB310_333.out _)) NB310_333.out _))⟩
     have n3_ : Aside0 (((w99.setCell ⟨gb333, 0, none⟩ (.int .i64 t331)).setCell ⟨gb333, 1, none⟩ (.int .i64 t332)).heap[gb314]? = some (.cells #[.int .i64 t311, .int .i64 t312] 23 (0, 0))) := ⟨(gr_ (blk_far (gr_ (blk_far (gr_ BK314.out) NB314_333.out _)) NB314_333.out _))⟩
     have n4_ : Aside0 (((w99.setCell ⟨gb333, 0, none⟩ (.int .i64 t331)).setCell ⟨gb333, 1, none⟩ (.int .i64 t332)).heap[gb322]? = some (.cells #[.int .i64 t319, .int .i64 t320] 23 (0, 0))) := ⟨(gr_ (blk_far (gr_ (blk_far (gr_ BK322.out) NB322_333.out _)) NB322_333.out _))⟩
     have n5_ : Aside0 (((w99.setCell ⟨gb333, 0, none⟩ (.int .i64 t331)).setCell ⟨gb333, 1, none⟩ (.int .i64 t332)).heap[gb326]? = some (.cells #[.int .i64 t323, .int .i64 t324] 23 (0, 0))) := ⟨(gr_ (blk_far (gr_ (blk_far (gr_ BK326.out) NB326_333.out _)) NB326_333.out _))⟩
     have n6_ : Aside0 (((w99.setCell ⟨gb333, 0, none⟩ (.int .i64 t331)).setCell ⟨gb333, 1, none⟩ (.int .i64 t332)).heap[gb330]? = some (.cells #[.int .i64 t327, .int .i64 t328] 23 (0, 0))) := ⟨(gr_ (blk_far (gr_ (blk_far (gr_ BK330.out) NB330_333.out _)) NB330_333.out _))⟩
     have n7_ : Aside0 (((w99.setCell ⟨gb333, 0, none⟩ (.int .i64 t331)).setCell ⟨gb333, 1, none⟩ (.int .i64 t332)).heap[gb333]? = some (.cells #[.int .i64 t331, .int .i64 t332] 23 (0, 0))) := ⟨(gr_ (blk_put (cs := #[.int .i64 t331, .int .i64 0]) (gr_ (blk_put (cs := #[.int .i64 0, .int .i64 0]) (gr_ BK333.out) 0 _ rfl)) 1 _ rfl))⟩
     have n8_ : Aside0 (Below w.heap.size w ((w99.setCell ⟨gb333, 0, none⟩ (.int .i64 t331)).setCell ⟨gb333, 1, none⟩ (.int .i64 t332))) := ⟨by repeat (first | (with_reducible first | exact HB.out | apply below_alloc | apply pw_below_drewN | apply below_drew1 | refine below_set ?_ GE305.out | refine below_set ?_ GE306.out | refine below_set ?_ GE310.out | refine below_set ?_ GE314.out | refine below_set ?_ GE322.out | refine below_set ?_ GE326.out | refine below_set ?_ GE330.out | refine below_set ?_ GE333.out) | exact HB.out)⟩
     (try clear BK305)
     (try clear BK306)
     (try clear BK310)
     (try clear BK314)
     (try clear BK322)
     (try clear BK326)
     (try clear BK330)
     (try clear BK333)
     (try clear HB)
     generalize ((w99.setCell ⟨gb333, 0, none⟩ (.int .i64 t331)).setCell ⟨gb333, 1, none⟩ (.int .i64 t332)) = w108 at n0_ n1_ n2_ n3_ n4_ n5_ n6_ n7_ n8_ ⊢
     have BK305 := n0_
     have BK306 := n1_
     have BK310 := n2_
     have BK314 := n3_
     have BK322 := n4_
     have BK326 := n5_
     have BK330 := n6_
     have BK333 := n7_
     have HB := n8_
     clear n0_ n1_ n2_ n3_ n4_ n5_ n6_ n7_ n8_
     have n0_ := Aside0.mk (blk_drew BK305.out)
     have n1_ := Aside0.mk (blk_drew BK306.out)
     have n2_ := Aside0.mk (blk_drew BK310.out)
     have n3_ := Aside0.mk (blk_drew BK314.out)
     have n4_ := Aside0.mk (blk_drew BK322.out)
     have n5_ := Aside0.mk (blk_drew BK326.out)
     have n6_ := Aside0.mk (blk_drew BK330.out)
     have n7_ := Aside0.mk (blk_drew BK333.out)
     have n8_ := Aside0.mk (below_drew1 HB.out)
     clear BK305
     clear BK306
     clear BK310
     clear BK314
     clear BK322
     clear BK326
     clear BK330
     clear BK333
     clear HB
     have BK305 := n0_
     have BK306 := n1_
     have BK310 := n2_
     have BK314 := n3_
     have BK322 := n4_
     have BK326 := n5_
     have BK330 := n6_
     have BK333 := n7_
     have HB := n8_
     clear n0_ n1_ n2_ n3_ n4_ n5_ n6_ n7_ n8_
     refine start_ (n := 9) (S := fun w' => w'.cell? ⟨gb333, 0, none⟩ = some (.int .i64 t331) ∧ w'.cell? ⟨gb333, 1, none⟩ = some (.int .i64 t332) ∧ w'.cell? ⟨gb310, 0, none⟩ = some (.int .i64 t307) ∧ w'.cell? ⟨gb310, 1, none⟩ = some (.int .i64 t308) ∧ w'.cell? ⟨gb326, 0, none⟩ = some (.int .i64 t323) ∧ w'.cell? ⟨gb326, 1, none⟩ = some (.int .i64 t324) ∧ w'.cell? ⟨gb314, 0, none⟩ = some (.int .i64 t311) ∧ w'.cell? ⟨gb314, 1, none⟩ = some (.int .i64 t312)) (ds := []) #[false, false, false, false, false, false, false, false, false] (by kernel_rfl) rfl rfl ⟨(blk_cell BK333.out 0).trans rfl, (blk_cell BK333.out 1).trans rfl, (blk_cell BK310.out 0).trans rfl, (blk_cell BK310.out 1).trans rfl, (blk_cell BK326.out 0).trans rfl, (blk_cell BK326.out 1).trans rfl, (blk_cell BK314.out 0).trans rfl, (blk_cell BK314.out 1).trans rfl⟩ (fun hHeld => ?_); refine with_tabW sun_Equator.tab17 sun_Equator.bits17 (fun HT_ HW_ => ?_)
     generalize w108.drew = w109 at BK305 BK306 BK310 BK314 BK322 BK326 BK330 BK333 HB hHeld ⊢
     refine take_ (i := 0) (N := some 83) (v := ?_) (a' := ?_) #[true, false, false, false, false, false, false, false, false] rfl rfl (take_ofW HT_.out HW_.out (by kernel_rfl)) (fun _ _ _ h => h) (Or.inl ⟨by rfl, ?_⟩) hHeld ?_ ?_
     rotate_left
     ·
      rintro w' ⟨s0, s1, s2, s3, s4, s5, s6, s7⟩
      go_simp
      with_reducible rfl
     rotate_left
     ·
      simp only [Act.put, List.setIfInBounds_toArray, List.set_cons_zero, List.set_cons_succ, i64_w, i32_w]
      rfl
     refine take_ (i := 1) (N := some 84) (v := ?_) (a' := ?_) #[true, true, false, false, false, false, false, false, false] rfl rfl (take_ofW HT_.out HW_.out (by kernel_rfl)) (fun _ _ _ h => h) (Or.inl ⟨by rfl, ?_⟩) hHeld ?_ ?_
     rotate_left
     ·
      rintro w' ⟨s0, s1, s2, s3, s4, s5, s6, s7⟩
      go_simp
      with_reducible rfl
     rotate_left
     ·
      simp only [Act.put, List.setIfInBounds_toArray, List.set_cons_zero, List.set_cons_succ, i64_w, i32_w]
      rfl
     refine take_ (i := 3) (N := some 86) (v := ?_) (a' := ?_) #[true, true, false, true, false, false, false, false, false] rfl rfl (take_ofW HT_.out HW_.out (by kernel_rfl)) (fun _ _ _ h => h) (Or.inl ⟨by rfl, ?_⟩) hHeld ?_ ?_
     rotate_left
     ·
      rintro w' ⟨s0, s1, s2, s3, s4, s5, s6, s7⟩
      go_simp
      with_reducible rfl
     rotate_left
     ·
      simp only [Act.put, List.setIfInBounds_toArray, List.set_cons_zero, List.set_cons_succ, i64_w, i32_w]
      rfl
     refine take_ (i := 4) (N := some 87) (v := ?_) (a' := ?_) #[true, true, false, true, true, false, false, false, false] rfl rfl (take_ofW HT_.out HW_.out (by kernel_rfl)) (fun _ _ _ h => h) (Or.inl ⟨by rfl, ?_⟩) hHeld ?_ ?_
     rotate_left
     ·
      rintro w' ⟨s0, s1, s2, s3, s4, s5, s6, s7⟩
      go_simp
      with_reducible rfl
     rotate_left
     ·
      simp only [Act.put, List.setIfInBounds_toArray, List.set_cons_zero, List.set_cons_succ, i64_w, i32_w]
      rfl
     refine join_ (σ := Nat) 1 #[true, true, true, true, true, true, true, true, false] (fun s_ => [(85, .agg #[.int .i64 t334, .int .i64 t335]), (88, .agg #[.int .i64 t336, .int .i64 t337]), (89, .agg #[.int .i64 t338, .int .i64 t339]), (23, .pointer (some ⟨s_, 0, none⟩))]) (fun s_ w' => (w'.cell? ⟨gb333, 0, none⟩ = some (.int .i64 t331) ∧ w'.cell? ⟨gb333, 1, none⟩ = some (.int .i64 t332) ∧ w'.cell? ⟨gb310, 0, none⟩ = some (.int .i64 t307) ∧ w'.cell? ⟨gb310, 1, none⟩ = some (.int .i64 t308) ∧ w'.cell? ⟨gb326, 0, none⟩ = some (.int .i64 t323) ∧ w'.cell? ⟨gb326, 1, none⟩ = some (.int .i64 t324) ∧ w'.cell? ⟨gb314, 0, none⟩ = some (.int .i64 t311) ∧ w'.cell? ⟨gb314, 1, none⟩ = some (.int .i64 t312)) ∧ (w'.heap[gb305]? = some (.cells #[.int .i64 0, .int .i64 0] 23 (0, 0))) ∧ (w'.heap[gb306]? = some (.cells #[.int .i64 0, .int .i64 0] 23 (0, 0))) ∧ (w'.heap[gb310]? = some (.cells #[.int .i64 t307, .int .i64 t308] 23 (0, 0))) ∧ (w'.heap[gb314]? = some (.cells #[.int .i64 t311, .int .i64 t312] 23 (0, 0))) ∧ (w'.heap[gb322]? = some (.cells #[.int .i64 t319, .int .i64 t320] 23 (0, 0))) ∧ (w'.heap[gb326]? = some (.cells #[.int .i64 t323, .int .i64 t324] 23 (0, 0))) ∧ (w'.heap[gb330]? = some (.cells #[.int .i64 t327, .int .i64 t328] 23 (0, 0))) ∧ (w'.heap[gb333]? = some (.cells #[.int .i64 t331, .int .i64 t332] 23 (0, 0))) ∧ (w'.heap[s_]? = some (.cells #[.int .i64 0, .int .i64 0] 23 (0, 0))) ∧ (w.heap.size ≤ s_) ∧ (w.heap.size ≤ s_) ∧ (gb305 ≠ s_) ∧ (s_ ≠ gb305) ∧ (gb306 ≠ s_) ∧ (s_ ≠ gb306) ∧ (gb310 ≠ s_) ∧ (s_ ≠ gb310) ∧ (gb314 ≠ s_) ∧ (s_ ≠ gb314) ∧ (gb322 ≠ s_) ∧ (s_ ≠ gb322) ∧ (gb326 ≠ s_) ∧ (s_ ≠ gb326) ∧ (gb330 ≠ s_) ∧ (s_ ≠ gb330) ∧ (gb333 ≠ s_) ∧ (s_ ≠ gb333) ∧ (Below w.heap.size w w')) ?_ ?_
     rotate_left
     ·
      intro hCont
      refine two_ (i := 2) (j := 7) (Ni := some 85) (Nj := some 23) #[true, true, true, true, true, false, false, false, false] #[true, true, false, true, true, false, false, true, false] rfl rfl rfl rfl (two_of HT_.out (by kernel_rfl)) (by decide) (by decide) (fun K hK => ?_) (fun K hK => ?_)
      ·
       skip
       refine goes_ Try.func61 (by kernel_rfl) rfl #[.agg #[.int .i64 t331, .int .i64 t332], .agg #[.int .i64 t307, .int .i64 t308]] (by rfl) rfl rfl (by (try simp only [List.map_toArray, List.map_cons, List.map_nil]); first | done | rfl | (simp only [List.length_drop, List.length_take]; rfl)) ?_
       with_reducible refine (sun_Unit.calls t331 t332 t307 t308 t334 t335 _ A25.out).mono ?_
       rintro e w110 ⟨rfl, hb⟩
       refine ⟨_, rfl, ?_⟩
       replace BK305 := nx_ BK305 hb
       replace BK306 := nx_ BK306 hb
       replace BK310 := nx_ BK310 hb
       replace BK314 := nx_ BK314 hb
       replace BK322 := nx_ BK322 hb
       replace BK326 := nx_ BK326 hb
       replace BK330 := nx_ BK330 hb
       replace BK333 := nx_ BK333 hb
       replace HB := hx_ HB hb
       (try clear hb)
       (try clear hb2)
       (try clear hk)
       (try clear hi)
       refine hK.out _ _ ⟨(blk_cell BK333.out 0).trans rfl, (blk_cell BK333.out 1).trans rfl, (blk_cell BK310.out 0).trans rfl, (blk_cell BK310.out 1).trans rfl, (blk_cell BK326.out 0).trans rfl, (blk_cell BK326.out 1).trans rfl, (blk_cell BK314.out 0).trans rfl, (blk_cell BK314.out 1).trans rfl⟩ (fun hHeld => ?_)
       clear hK K
       refine norm_ (a' := ?_) ?_ ?_
       rotate_left
       ·
        show Act.put _ (some 85) _ = _
        simp only [Act.put, List.setIfInBounds_toArray, List.set_cons_zero, List.set_cons_succ, i64_w, i32_w]
        rfl
       refine two_ (i := 5) (j := 7) (Ni := some 88) (Nj := some 23) #[true, true, true, true, true, true, false, false, false] #[true, true, true, true, true, false, false, true, false] rfl rfl rfl rfl (two_of HT_.out (by kernel_rfl)) (by decide) (by decide) (fun K hK => ?_) (fun K hK => ?_)
       ·
        skip
        refine goes_ Try.func61 (by kernel_rfl) rfl #[.agg #[.int .i64 t323, .int .i64 t324], .agg #[.int .i64 t311, .int .i64 t312]] (by rfl) rfl rfl (by (try simp only [List.map_toArray, List.map_cons, List.map_nil]); first | done | rfl | (simp only [List.length_drop, List.length_take]; rfl)) ?_
        with_reducible refine (sun_Unit.calls t323 t324 t311 t312 t336 t337 _ A26.out).mono ?_
        rintro e w111 ⟨rfl, hb⟩
        refine ⟨_, rfl, ?_⟩
        replace BK305 := nx_ BK305 hb
        replace BK306 := nx_ BK306 hb
        replace BK310 := nx_ BK310 hb
        replace BK314 := nx_ BK314 hb
        replace BK322 := nx_ BK322 hb
        replace BK326 := nx_ BK326 hb
        replace BK330 := nx_ BK330 hb
        replace BK333 := nx_ BK333 hb
        replace HB := hx_ HB hb
        (try clear hb)
        (try clear hb2)
        (try clear hk)
        (try clear hi)
        refine hK.out _ _ ⟨(blk_cell BK333.out 0).trans rfl, (blk_cell BK333.out 1).trans rfl, (blk_cell BK310.out 0).trans rfl, (blk_cell BK310.out 1).trans rfl, (blk_cell BK326.out 0).trans rfl, (blk_cell BK326.out 1).trans rfl, (blk_cell BK314.out 0).trans rfl, (blk_cell BK314.out 1).trans rfl⟩ (fun hHeld => ?_)
        clear hK K
        refine norm_ (a' := ?_) ?_ ?_
        rotate_left
        ·
         show Act.put _ (some 88) _ = _
         simp only [Act.put, List.setIfInBounds_toArray, List.set_cons_zero, List.set_cons_succ, i64_w, i32_w]
         rfl
        refine two_ (i := 6) (j := 7) (Ni := some 89) (Nj := some 23) #[true, true, true, true, true, true, true, false, false] #[true, true, true, true, true, true, false, true, false] rfl rfl rfl rfl (two_of HT_.out (by kernel_rfl)) (by decide) (by decide) (fun K hK => ?_) (fun K hK => ?_)
        ·
         skip
         refine goes_ Try.func101 (by kernel_rfl) rfl #[.agg #[.int .i64 t334, .int .i64 t335], .agg #[.int .i64 t336, .int .i64 t337]] (by rfl) rfl rfl (by (try simp only [List.map_toArray, List.map_cons, List.map_nil]); first | done | rfl | (simp only [List.length_drop, List.length_take]; rfl)) ?_
         with_reducible refine (sun_plus.calls t334 t335 t336 t337 t338 t339 _ A27.out).mono ?_
         rintro e w112 ⟨rfl, hb⟩
         refine ⟨_, rfl, ?_⟩
         replace BK305 := nx_ BK305 hb
         replace BK306 := nx_ BK306 hb
         replace BK310 := nx_ BK310 hb
         replace BK314 := nx_ BK314 hb
         replace BK322 := nx_ BK322 hb
         replace BK326 := nx_ BK326 hb
         replace BK330 := nx_ BK330 hb
         replace BK333 := nx_ BK333 hb
         replace HB := hx_ HB hb
         (try clear hb)
         (try clear hb2)
         (try clear hk)
         (try clear hi)
         refine hK.out _ _ ⟨(blk_cell BK333.out 0).trans rfl, (blk_cell BK333.out 1).trans rfl, (blk_cell BK310.out 0).trans rfl, (blk_cell BK310.out 1).trans rfl, (blk_cell BK326.out 0).trans rfl, (blk_cell BK326.out 1).trans rfl, (blk_cell BK314.out 0).trans rfl, (blk_cell BK314.out 1).trans rfl⟩ (fun hHeld => ?_)
         clear hK K
         refine norm_ (a' := ?_) ?_ ?_
         rotate_left
         ·
          show Act.put _ (some 89) _ = _
          simp only [Act.put, List.setIfInBounds_toArray, List.set_cons_zero, List.set_cons_succ, i64_w, i32_w]
          rfl
         refine one_ (i := 7) (N := some 23) #[true, true, true, true, true, true, true, true, false] rfl rfl (one_of HT_.out (by kernel_rfl)) (by decide) (fun K hK => ?_)
         refine box_step ?hg (N := 23) ?hd (cs := #[.int .i64 0, .int .i64 0]) (t := 23) ?hr ?_; (case hd => rfl); (case hg => rfl); (case hr => first | (go_simp; done) | (go_simp; rfl))
         intro gb340 hg w113 hbox hb
         have BK340 := Aside0.mk hbox
         have GW340 := ge_ (hb_ HB.out) hg
         have GE340 := ge_ (hb_ HB.out) hg
         have NB305_340 := nb_ (gr_ BK305.out) hg
         have NB306_340 := nb_ (gr_ BK306.out) hg
         have NB310_340 := nb_ (gr_ BK310.out) hg
         have NB314_340 := nb_ (gr_ BK314.out) hg
         have NB322_340 := nb_ (gr_ BK322.out) hg
         have NB326_340 := nb_ (gr_ BK326.out) hg
         have NB330_340 := nb_ (gr_ BK330.out) hg
         have NB333_340 := nb_ (gr_ BK333.out) hg
         replace BK305 := nx_ BK305 hb
         replace BK306 := nx_ BK306 hb
         replace BK310 := nx_ BK310 hb
         replace BK314 := nx_ BK314 hb
         replace BK322 := nx_ BK322 hb
         replace BK326 := nx_ BK326 hb
         replace BK330 := nx_ BK330 hb
         replace BK333 := nx_ BK333 hb
         replace HB := hx_ HB hb
         clear hb hbox hg
         refine hK.out _ _ ⟨(blk_cell BK333.out 0).trans rfl, (blk_cell BK333.out 1).trans rfl, (blk_cell BK310.out 0).trans rfl, (blk_cell BK310.out 1).trans rfl, (blk_cell BK326.out 0).trans rfl, (blk_cell BK326.out 1).trans rfl, (blk_cell BK314.out 0).trans rfl, (blk_cell BK314.out 1).trans rfl⟩ (fun hHeld => ?_)
         clear hK K
         refine norm_ (a' := ?_) ?_ ?_
         rotate_left
         ·
          show Act.put _ (some 23) _ = _
          simp only [Act.put, List.setIfInBounds_toArray, List.set_cons_zero, List.set_cons_succ, i64_w, i32_w]
          rfl
         exact norm_ (by simp only [putAll, Act.put, List.setIfInBounds_toArray, List.set_cons_zero, List.set_cons_succ]) (hCont (gb340) _ ⟨hHeld, (gr_ BK305.out), (gr_ BK306.out), (gr_ BK310.out), (gr_ BK314.out), (gr_ BK322.out), (gr_ BK326.out), (gr_ BK330.out), (gr_ BK333.out), (gr_ BK340.out), GW340.out, GE340.out, NB305_340.out, NB305_340.out.symm, NB306_340.out, NB306_340.out.symm, NB310_340.out, NB310_340.out.symm, NB314_340.out, NB314_340.out.symm, NB322_340.out, NB322_340.out.symm, NB326_340.out, NB326_340.out.symm, NB330_340.out, NB330_340.out.symm, NB333_340.out, NB333_340.out.symm, (by repeat (first | (with_reducible first | exact HB.out | apply below_alloc | apply pw_below_drewN | apply below_drew1 | refine below_set ?_ GE305.out | refine below_set ?_ GE306.out | refine below_set ?_ GE310.out | refine below_set ?_ GE314.out | refine below_set ?_ GE322.out | refine below_set ?_ GE326.out | refine below_set ?_ GE330.out | refine below_set ?_ GE333.out | refine below_set ?_ GE340.out) | exact HB.out))⟩)
        ·
         skip
         refine box_step ?hg (N := 23) ?hd (cs := #[.int .i64 0, .int .i64 0]) (t := 23) ?hr ?_; (case hd => rfl); (case hg => rfl); (case hr => first | (go_simp; done) | (go_simp; rfl))
         intro gb340 hg w112 hbox hb
         have BK340 := Aside0.mk hbox
         have GW340 := ge_ (hb_ HB.out) hg
         have GE340 := ge_ (hb_ HB.out) hg
         have NB305_340 := nb_ (gr_ BK305.out) hg
         have NB306_340 := nb_ (gr_ BK306.out) hg
         have NB310_340 := nb_ (gr_ BK310.out) hg
         have NB314_340 := nb_ (gr_ BK314.out) hg
         have NB322_340 := nb_ (gr_ BK322.out) hg
         have NB326_340 := nb_ (gr_ BK326.out) hg
         have NB330_340 := nb_ (gr_ BK330.out) hg
         have NB333_340 := nb_ (gr_ BK333.out) hg
         replace BK305 := nx_ BK305 hb
         replace BK306 := nx_ BK306 hb
         replace BK310 := nx_ BK310 hb
         replace BK314 := nx_ BK314 hb
         replace BK322 := nx_ BK322 hb
         replace BK326 := nx_ BK326 hb
         replace BK330 := nx_ BK330 hb
         replace BK333 := nx_ BK333 hb
         replace HB := hx_ HB hb
         clear hb hbox hg
         refine hK.out _ _ ⟨(blk_cell BK333.out 0).trans rfl, (blk_cell BK333.out 1).trans rfl, (blk_cell BK310.out 0).trans rfl, (blk_cell BK310.out 1).trans rfl, (blk_cell BK326.out 0).trans rfl, (blk_cell BK326.out 1).trans rfl, (blk_cell BK314.out 0).trans rfl, (blk_cell BK314.out 1).trans rfl⟩ (fun hHeld => ?_)
         clear hK K
         refine norm_ (a' := ?_) ?_ ?_
         rotate_left
         ·
          show Act.put _ (some 23) _ = _
          simp only [Act.put, List.setIfInBounds_toArray, List.set_cons_zero, List.set_cons_succ, i64_w, i32_w]
          rfl
         refine one_ (i := 6) (N := some 89) #[true, true, true, true, true, true, true, true, false] rfl rfl (one_of HT_.out (by kernel_rfl)) (by decide) (fun K hK => ?_)
         refine goes_ Try.func101 (by kernel_rfl) rfl #[.agg #[.int .i64 t334, .int .i64 t335], .agg #[.int .i64 t336, .int .i64 t337]] (by rfl) rfl rfl (by (try simp only [List.map_toArray, List.map_cons, List.map_nil]); first | done | rfl | (simp only [List.length_drop, List.length_take]; rfl)) ?_
         with_reducible refine (sun_plus.calls t334 t335 t336 t337 t338 t339 _ A27.out).mono ?_
         rintro e w113 ⟨rfl, hb⟩
         refine ⟨_, rfl, ?_⟩
         replace BK305 := nx_ BK305 hb
         replace BK306 := nx_ BK306 hb
         replace BK310 := nx_ BK310 hb
         replace BK314 := nx_ BK314 hb
         replace BK322 := nx_ BK322 hb
         replace BK326 := nx_ BK326 hb
         replace BK330 := nx_ BK330 hb
         replace BK333 := nx_ BK333 hb
         replace BK340 := nx_ BK340 hb
         replace HB := hx_ HB hb
         (try clear hb)
         (try clear hb2)
         (try clear hk)
         (try clear hi)
         refine hK.out _ _ ⟨(blk_cell BK333.out 0).trans rfl, (blk_cell BK333.out 1).trans rfl, (blk_cell BK310.out 0).trans rfl, (blk_cell BK310.out 1).trans rfl, (blk_cell BK326.out 0).trans rfl, (blk_cell BK326.out 1).trans rfl, (blk_cell BK314.out 0).trans rfl, (blk_cell BK314.out 1).trans rfl⟩ (fun hHeld => ?_)
         clear hK K
         refine norm_ (a' := ?_) ?_ ?_
         rotate_left
         ·
          show Act.put _ (some 89) _ = _
          simp only [Act.put, List.setIfInBounds_toArray, List.set_cons_zero, List.set_cons_succ, i64_w, i32_w]
          rfl
         exact norm_ (by simp only [putAll, Act.put, List.setIfInBounds_toArray, List.set_cons_zero, List.set_cons_succ]) (hCont (gb340) _ ⟨hHeld, (gr_ BK305.out), (gr_ BK306.out), (gr_ BK310.out), (gr_ BK314.out), (gr_ BK322.out), (gr_ BK326.out), (gr_ BK330.out), (gr_ BK333.out), (gr_ BK340.out), GW340.out, GE340.out, NB305_340.out, NB305_340.out.symm, NB306_340.out, NB306_340.out.symm, NB310_340.out, NB310_340.out.symm, NB314_340.out, NB314_340.out.symm, NB322_340.out, NB322_340.out.symm, NB326_340.out, NB326_340.out.symm, NB330_340.out, NB330_340.out.symm, NB333_340.out, NB333_340.out.symm, (by repeat (first | (with_reducible first | exact HB.out | apply below_alloc | apply pw_below_drewN | apply below_drew1 | refine below_set ?_ GE305.out | refine below_set ?_ GE306.out | refine below_set ?_ GE310.out | refine below_set ?_ GE314.out | refine below_set ?_ GE322.out | refine below_set ?_ GE326.out | refine below_set ?_ GE330.out | refine below_set ?_ GE333.out | refine below_set ?_ GE340.out) | exact HB.out))⟩)
       ·
        skip
        refine box_step ?hg (N := 23) ?hd (cs := #[.int .i64 0, .int .i64 0]) (t := 23) ?hr ?_; (case hd => rfl); (case hg => rfl); (case hr => first | (go_simp; done) | (go_simp; rfl))
        intro gb340 hg w111 hbox hb
        have BK340 := Aside0.mk hbox
        have GW340 := ge_ (hb_ HB.out) hg
        have GE340 := ge_ (hb_ HB.out) hg
        have NB305_340 := nb_ (gr_ BK305.out) hg
        have NB306_340 := nb_ (gr_ BK306.out) hg
        have NB310_340 := nb_ (gr_ BK310.out) hg
        have NB314_340 := nb_ (gr_ BK314.out) hg
        have NB322_340 := nb_ (gr_ BK322.out) hg
        have NB326_340 := nb_ (gr_ BK326.out) hg
        have NB330_340 := nb_ (gr_ BK330.out) hg
        have NB333_340 := nb_ (gr_ BK333.out) hg
        replace BK305 := nx_ BK305 hb
        replace BK306 := nx_ BK306 hb
        replace BK310 := nx_ BK310 hb
        replace BK314 := nx_ BK314 hb
        replace BK322 := nx_ BK322 hb
        replace BK326 := nx_ BK326 hb
        replace BK330 := nx_ BK330 hb
        replace BK333 := nx_ BK333 hb
        replace HB := hx_ HB hb
        clear hb hbox hg
        refine hK.out _ _ ⟨(blk_cell BK333.out 0).trans rfl, (blk_cell BK333.out 1).trans rfl, (blk_cell BK310.out 0).trans rfl, (blk_cell BK310.out 1).trans rfl, (blk_cell BK326.out 0).trans rfl, (blk_cell BK326.out 1).trans rfl, (blk_cell BK314.out 0).trans rfl, (blk_cell BK314.out 1).trans rfl⟩ (fun hHeld => ?_)
        clear hK K
        refine norm_ (a' := ?_) ?_ ?_
        rotate_left
        ·
         show Act.put _ (some 23) _ = _
         simp only [Act.put, List.setIfInBounds_toArray, List.set_cons_zero, List.set_cons_succ, i64_w, i32_w]
         rfl
        refine one_ (i := 5) (N := some 88) #[true, true, true, true, true, true, false, true, false] rfl rfl (one_of HT_.out (by kernel_rfl)) (by decide) (fun K hK => ?_)
        refine goes_ Try.func61 (by kernel_rfl) rfl #[.agg #[.int .i64 t323, .int .i64 t324], .agg #[.int .i64 t311, .int .i64 t312]] (by rfl) rfl rfl (by (try simp only [List.map_toArray, List.map_cons, List.map_nil]); first | done | rfl | (simp only [List.length_drop, List.length_take]; rfl)) ?_
        with_reducible refine (sun_Unit.calls t323 t324 t311 t312 t336 t337 _ A26.out).mono ?_
        rintro e w112 ⟨rfl, hb⟩
        refine ⟨_, rfl, ?_⟩
        replace BK305 := nx_ BK305 hb
        replace BK306 := nx_ BK306 hb
        replace BK310 := nx_ BK310 hb
        replace BK314 := nx_ BK314 hb
        replace BK322 := nx_ BK322 hb
        replace BK326 := nx_ BK326 hb
        replace BK330 := nx_ BK330 hb
        replace BK333 := nx_ BK333 hb
        replace BK340 := nx_ BK340 hb
        replace HB := hx_ HB hb
        (try clear hb)
        (try clear hb2)
        (try clear hk)
        (try clear hi)
        refine hK.out _ _ ⟨(blk_cell BK333.out 0).trans rfl, (blk_cell BK333.out 1).trans rfl, (blk_cell BK310.out 0).trans rfl, (blk_cell BK310.out 1).trans rfl, (blk_cell BK326.out 0).trans rfl, (blk_cell BK326.out 1).trans rfl, (blk_cell BK314.out 0).trans rfl, (blk_cell BK314.out 1).trans rfl⟩ (fun hHeld => ?_)
        clear hK K
        refine norm_ (a' := ?_) ?_ ?_
        rotate_left
        ·
         show Act.put _ (some 88) _ = _
         simp only [Act.put, List.setIfInBounds_toArray, List.set_cons_zero, List.set_cons_succ, i64_w, i32_w]
         rfl
        refine one_ (i := 6) (N := some 89) #[true, true, true, true, true, true, true, true, false] rfl rfl (one_of HT_.out (by kernel_rfl)) (by decide) (fun K hK => ?_)
        refine goes_ Try.func101 (by kernel_rfl) rfl #[.agg #[.int .i64 t334, .int .i64 t335], .agg #[.int .i64 t336, .int .i64 t337]] (by rfl) rfl rfl (by (try simp only [List.map_toArray, List.map_cons, List.map_nil]); first | done | rfl | (simp only [List.length_drop, List.length_take]; rfl)) ?_
        with_reducible refine (sun_plus.calls t334 t335 t336 t337 t338 t339 _ A27.out).mono ?_
        rintro e w113 ⟨rfl, hb⟩
        refine ⟨_, rfl, ?_⟩
        replace BK305 := nx_ BK305 hb
        replace BK306 := nx_ BK306 hb
        replace BK310 := nx_ BK310 hb
        replace BK314 := nx_ BK314 hb
        replace BK322 := nx_ BK322 hb
        replace BK326 := nx_ BK326 hb
        replace BK330 := nx_ BK330 hb
        replace BK333 := nx_ BK333 hb
        replace BK340 := nx_ BK340 hb
        replace HB := hx_ HB hb
        (try clear hb)
        (try clear hb2)
        (try clear hk)
        (try clear hi)
        refine hK.out _ _ ⟨(blk_cell BK333.out 0).trans rfl, (blk_cell BK333.out 1).trans rfl, (blk_cell BK310.out 0).trans rfl, (blk_cell BK310.out 1).trans rfl, (blk_cell BK326.out 0).trans rfl, (blk_cell BK326.out 1).trans rfl, (blk_cell BK314.out 0).trans rfl, (blk_cell BK314.out 1).trans rfl⟩ (fun hHeld => ?_)
        clear hK K
        refine norm_ (a' := ?_) ?_ ?_
        rotate_left
        ·
         show Act.put _ (some 89) _ = _
         simp only [Act.put, List.setIfInBounds_toArray, List.set_cons_zero, List.set_cons_succ, i64_w, i32_w]
         rfl
        exact norm_ (by simp only [putAll, Act.put, List.setIfInBounds_toArray, List.set_cons_zero, List.set_cons_succ]) (hCont (gb340) _ ⟨hHeld, (gr_ BK305.out), (gr_ BK306.out), (gr_ BK310.out), (gr_ BK314.out), (gr_ BK322.out), (gr_ BK326.out), (gr_ BK330.out), (gr_ BK333.out), (gr_ BK340.out), GW340.out, GE340.out, NB305_340.out, NB305_340.out.symm, NB306_340.out, NB306_340.out.symm, NB310_340.out, NB310_340.out.symm, NB314_340.out, NB314_340.out.symm, NB322_340.out, NB322_340.out.symm, NB326_340.out, NB326_340.out.symm, NB330_340.out, NB330_340.out.symm, NB333_340.out, NB333_340.out.symm, (by repeat (first | (with_reducible first | exact HB.out | apply below_alloc | apply pw_below_drewN | apply below_drew1 | refine below_set ?_ GE305.out | refine below_set ?_ GE306.out | refine below_set ?_ GE310.out | refine below_set ?_ GE314.out | refine below_set ?_ GE322.out | refine below_set ?_ GE326.out | refine below_set ?_ GE330.out | refine below_set ?_ GE333.out | refine below_set ?_ GE340.out) | exact HB.out))⟩)
      ·
       skip
       refine box_step ?hg (N := 23) ?hd (cs := #[.int .i64 0, .int .i64 0]) (t := 23) ?hr ?_; (case hd => rfl); (case hg => rfl); (case hr => first | (go_simp; done) | (go_simp; rfl))
       intro gb340 hg w110 hbox hb
       have BK340 := Aside0.mk hbox
       have GW340 := ge_ (hb_ HB.out) hg
       have GE340 := ge_ (hb_ HB.out) hg
       have NB305_340 := nb_ (gr_ BK305.out) hg
       have NB306_340 := nb_ (gr_ BK306.out) hg
       have NB310_340 := nb_ (gr_ BK310.out) hg
       have NB314_340 := nb_ (gr_ BK314.out) hg
       have NB322_340 := nb_ (gr_ BK322.out) hg
       have NB326_340 := nb_ (gr_ BK326.out) hg
       have NB330_340 := nb_ (gr_ BK330.out) hg
       have NB333_340 := nb_ (gr_ BK333.out) hg
       replace BK305 := nx_ BK305 hb
       replace BK306 := nx_ BK306 hb
       replace BK310 := nx_ BK310 hb
       replace BK314 := nx_ BK314 hb
       replace BK322 := nx_ BK322 hb
       replace BK326 := nx_ BK326 hb
       replace BK330 := nx_ BK330 hb
       replace BK333 := nx_ BK333 hb
       replace HB := hx_ HB hb
       clear hb hbox hg
       refine hK.out _ _ ⟨(blk_cell BK333.out 0).trans rfl, (blk_cell BK333.out 1).trans rfl, (blk_cell BK310.out 0).trans rfl, (blk_cell BK310.out 1).trans rfl, (blk_cell BK326.out 0).trans rfl, (blk_cell BK326.out 1).trans rfl, (blk_cell BK314.out 0).trans rfl, (blk_cell BK314.out 1).trans rfl⟩ (fun hHeld => ?_)
       clear hK K
       refine norm_ (a' := ?_) ?_ ?_
       rotate_left
       ·
        show Act.put _ (some 23) _ = _
        simp only [Act.put, List.setIfInBounds_toArray, List.set_cons_zero, List.set_cons_succ, i64_w, i32_w]
        rfl
       refine one_ (i := 2) (N := some 85) #[true, true, true, true, true, false, false, true, false] rfl rfl (one_of HT_.out (by kernel_rfl)) (by decide) (fun K hK => ?_)
       refine goes_ Try.func61 (by kernel_rfl) rfl #[.agg #[.int .i64 t331, .int .i64 t332], .agg #[.int .i64 t307, .int .i64 t308]] (by rfl) rfl rfl (by (try simp only [List.map_toArray, List.map_cons, List.map_nil]); first | done | rfl | (simp only [List.length_drop, List.length_take]; rfl)) ?_
       with_reducible refine (sun_Unit.calls t331 t332 t307 t308 t334 t335 _ A25.out).mono ?_
       rintro e w111 ⟨rfl, hb⟩
       refine ⟨_, rfl, ?_⟩
       replace BK305 := nx_ BK305 hb
       replace BK306 := nx_ BK306 hb
       replace BK310 := nx_ BK310 hb
       replace BK314 := nx_ BK314 hb
       replace BK322 := nx_ BK322 hb
       replace BK326 := nx_ BK326 hb
       replace BK330 := nx_ BK330 hb
       replace BK333 := nx_ BK333 hb
       replace BK340 := nx_ BK340 hb
       replace HB := hx_ HB hb
       (try clear hb)
       (try clear hb2)
       (try clear hk)
       (try clear hi)
       refine hK.out _ _ ⟨(blk_cell BK333.out 0).trans rfl, (blk_cell BK333.out 1).trans rfl, (blk_cell BK310.out 0).trans rfl, (blk_cell BK310.out 1).trans rfl, (blk_cell BK326.out 0).trans rfl, (blk_cell BK326.out 1).trans rfl, (blk_cell BK314.out 0).trans rfl, (blk_cell BK314.out 1).trans rfl⟩ (fun hHeld => ?_)
       clear hK K
       refine norm_ (a' := ?_) ?_ ?_
       rotate_left
       ·
        show Act.put _ (some 85) _ = _
        simp only [Act.put, List.setIfInBounds_toArray, List.set_cons_zero, List.set_cons_succ, i64_w, i32_w]
        rfl
       refine one_ (i := 5) (N := some 88) #[true, true, true, true, true, true, false, true, false] rfl rfl (one_of HT_.out (by kernel_rfl)) (by decide) (fun K hK => ?_)
       refine goes_ Try.func61 (by kernel_rfl) rfl #[.agg #[.int .i64 t323, .int .i64 t324], .agg #[.int .i64 t311, .int .i64 t312]] (by rfl) rfl rfl (by (try simp only [List.map_toArray, List.map_cons, List.map_nil]); first | done | rfl | (simp only [List.length_drop, List.length_take]; rfl)) ?_
       with_reducible refine (sun_Unit.calls t323 t324 t311 t312 t336 t337 _ A26.out).mono ?_
       rintro e w112 ⟨rfl, hb⟩
       refine ⟨_, rfl, ?_⟩
       replace BK305 := nx_ BK305 hb
       replace BK306 := nx_ BK306 hb
       replace BK310 := nx_ BK310 hb
       replace BK314 := nx_ BK314 hb
       replace BK322 := nx_ BK322 hb
       replace BK326 := nx_ BK326 hb
       replace BK330 := nx_ BK330 hb
       replace BK333 := nx_ BK333 hb
       replace BK340 := nx_ BK340 hb
       replace HB := hx_ HB hb
       (try clear hb)
       (try clear hb2)
       (try clear hk)
       (try clear hi)
       refine hK.out _ _ ⟨(blk_cell BK333.out 0).trans rfl, (blk_cell BK333.out 1).trans rfl, (blk_cell BK310.out 0).trans rfl, (blk_cell BK310.out 1).trans rfl, (blk_cell BK326.out 0).trans rfl, (blk_cell BK326.out 1).trans rfl, (blk_cell BK314.out 0).trans rfl, (blk_cell BK314.out 1).trans rfl⟩ (fun hHeld => ?_)
       clear hK K
       refine norm_ (a' := ?_) ?_ ?_
       rotate_left
       ·
        show Act.put _ (some 88) _ = _
        simp only [Act.put, List.setIfInBounds_toArray, List.set_cons_zero, List.set_cons_succ, i64_w, i32_w]
        rfl
       refine one_ (i := 6) (N := some 89) #[true, true, true, true, true, true, true, true, false] rfl rfl (one_of HT_.out (by kernel_rfl)) (by decide) (fun K hK => ?_)
       refine goes_ Try.func101 (by kernel_rfl) rfl #[.agg #[.int .i64 t334, .int .i64 t335], .agg #[.int .i64 t336, .int .i64 t337]] (by rfl) rfl rfl (by (try simp only [List.map_toArray, List.map_cons, List.map_nil]); first | done | rfl | (simp only [List.length_drop, List.length_take]; rfl)) ?_
       with_reducible refine (sun_plus.calls t334 t335 t336 t337 t338 t339 _ A27.out).mono ?_
       rintro e w113 ⟨rfl, hb⟩
       refine ⟨_, rfl, ?_⟩
       replace BK305 := nx_ BK305 hb
       replace BK306 := nx_ BK306 hb
       replace BK310 := nx_ BK310 hb
       replace BK314 := nx_ BK314 hb
       replace BK322 := nx_ BK322 hb
       replace BK326 := nx_ BK326 hb
       replace BK330 := nx_ BK330 hb
       replace BK333 := nx_ BK333 hb
       replace BK340 := nx_ BK340 hb
       replace HB := hx_ HB hb
       (try clear hb)
       (try clear hb2)
       (try clear hk)
       (try clear hi)
       refine hK.out _ _ ⟨(blk_cell BK333.out 0).trans rfl, (blk_cell BK333.out 1).trans rfl, (blk_cell BK310.out 0).trans rfl, (blk_cell BK310.out 1).trans rfl, (blk_cell BK326.out 0).trans rfl, (blk_cell BK326.out 1).trans rfl, (blk_cell BK314.out 0).trans rfl, (blk_cell BK314.out 1).trans rfl⟩ (fun hHeld => ?_)
       clear hK K
       refine norm_ (a' := ?_) ?_ ?_
       rotate_left
       ·
        show Act.put _ (some 89) _ = _
        simp only [Act.put, List.setIfInBounds_toArray, List.set_cons_zero, List.set_cons_succ, i64_w, i32_w]
        rfl
       exact norm_ (by simp only [putAll, Act.put, List.setIfInBounds_toArray, List.set_cons_zero, List.set_cons_succ]) (hCont (gb340) _ ⟨hHeld, (gr_ BK305.out), (gr_ BK306.out), (gr_ BK310.out), (gr_ BK314.out), (gr_ BK322.out), (gr_ BK326.out), (gr_ BK330.out), (gr_ BK333.out), (gr_ BK340.out), GW340.out, GE340.out, NB305_340.out, NB305_340.out.symm, NB306_340.out, NB306_340.out.symm, NB310_340.out, NB310_340.out.symm, NB314_340.out, NB314_340.out.symm, NB322_340.out, NB322_340.out.symm, NB326_340.out, NB326_340.out.symm, NB330_340.out, NB330_340.out.symm, NB333_340.out, NB333_340.out.symm, (by repeat (first | (with_reducible first | exact HB.out | apply below_alloc | apply pw_below_drewN | apply below_drew1 | refine below_set ?_ GE305.out | refine below_set ?_ GE306.out | refine below_set ?_ GE310.out | refine below_set ?_ GE314.out | refine below_set ?_ GE322.out | refine below_set ?_ GE326.out | refine below_set ?_ GE330.out | refine below_set ?_ GE333.out | refine below_set ?_ GE340.out) | exact HB.out))⟩)
     rintro gb340 w114 ⟨hS_, h0_, h1_, h2_, h3_, h4_, h5_, h6_, h7_, h8_, h9_, h10_, h11_, h12_, h13_, h14_, h15_, h16_, h17_, h18_, h19_, h20_, h21_, h22_, h23_, h24_, h25_, h26_, h27_⟩
     replace BK305 : Aside0 (w114.heap[gb305]? = some (.cells #[.int .i64 0, .int .i64 0] 23 (0, 0))) := ⟨h0_⟩
     replace BK306 : Aside0 (w114.heap[gb306]? = some (.cells #[.int .i64 0, .int .i64 0] 23 (0, 0))) := ⟨h1_⟩
     replace BK310 : Aside0 (w114.heap[gb310]? = some (.cells #[.int .i64 t307, .int .i64 t308] 23 (0, 0))) := ⟨h2_⟩
     replace BK314 : Aside0 (w114.heap[gb314]? = some (.cells #[.int .i64 t311, .int .i64 t312] 23 (0, 0))) := ⟨h3_⟩
     replace BK322 : Aside0 (w114.heap[gb322]? = some (.cells #[.int .i64 t319, .int .i64 t320] 23 (0, 0))) := ⟨h4_⟩
     replace BK326 : Aside0 (w114.heap[gb326]? = some (.cells #[.int .i64 t323, .int .i64 t324] 23 (0, 0))) := ⟨h5_⟩
     replace BK330 : Aside0 (w114.heap[gb330]? = some (.cells #[.int .i64 t327, .int .i64 t328] 23 (0, 0))) := ⟨h6_⟩
     replace BK333 : Aside0 (w114.heap[gb333]? = some (.cells #[.int .i64 t331, .int .i64 t332] 23 (0, 0))) := ⟨h7_⟩
     have BK340 : Aside0 (w114.heap[gb340]? = some (.cells #[.int .i64 0, .int .i64 0] 23 (0, 0))) := ⟨h8_⟩
     have GW340 : Aside0 (w.heap.size ≤ gb340) := ⟨h9_⟩
     have GE340 : Aside0 (w.heap.size ≤ gb340) := ⟨h10_⟩
     have NB305_340 : Aside0 (gb305 ≠ gb340) := ⟨h11_⟩
     have NB306_340 : Aside0 (gb306 ≠ gb340) := ⟨h13_⟩
     have NB310_340 : Aside0 (gb310 ≠ gb340) := ⟨h15_⟩
     have NB314_340 : Aside0 (gb314 ≠ gb340) := ⟨h17_⟩
     have NB322_340 : Aside0 (gb322 ≠ gb340) := ⟨h19_⟩
     have NB326_340 : Aside0 (gb326 ≠ gb340) := ⟨h21_⟩
     have NB330_340 : Aside0 (gb330 ≠ gb340) := ⟨h23_⟩
     have NB333_340 : Aside0 (gb333 ≠ gb340) := ⟨h25_⟩
     replace HB : Aside0 (Below w.heap.size w w114) := ⟨h27_⟩
     clear h0_ h1_ h2_ h3_ h4_ h5_ h6_ h7_ h8_ h9_ h10_ h11_ h12_ h13_ h14_ h15_ h16_ h17_ h18_ h19_ h20_ h21_ h22_ h23_ h24_ h25_ h26_ h27_
     have hHeld : w114.cell? ⟨gb333, 0, none⟩ = some (.int .i64 t331) ∧ w114.cell? ⟨gb333, 1, none⟩ = some (.int .i64 t332) ∧ w114.cell? ⟨gb310, 0, none⟩ = some (.int .i64 t307) ∧ w114.cell? ⟨gb310, 1, none⟩ = some (.int .i64 t308) ∧ w114.cell? ⟨gb326, 0, none⟩ = some (.int .i64 t323) ∧ w114.cell? ⟨gb326, 1, none⟩ = some (.int .i64 t324) ∧ w114.cell? ⟨gb314, 0, none⟩ = some (.int .i64 t311) ∧ w114.cell? ⟨gb314, 1, none⟩ = some (.int .i64 t312) := hS_
     refine norm_ (a' := ?_) ?_ ?_
     rotate_left
     ·
      simp only [putAll, Act.put, List.setIfInBounds_toArray, List.set_cons_zero, List.set_cons_succ]
      rfl
     refine one_ (i := 8) (N := none) #[true, true, true, true, true, true, true, true, true] rfl rfl (one_of HT_.out (by kernel_rfl)) (by decide) (fun K hK => ?_)
     have hs115 : w114.cell? ⟨gb340, 0, none⟩ = some (.int .i64 0) := (blk_cell BK340.out 0).trans rfl
     have hfs115 := blk_frozen BK340.out 0
     have hns115_0 := NB305_340.out
     have hns115_1 := NB306_340.out
     have hns115_2 := NB310_340.out
     have hns115_3 := NB314_340.out
     have hns115_4 := NB322_340.out
     have hns115_5 := NB326_340.out
     have hns115_6 := NB330_340.out
     have hns115_7 := NB333_340.out
     have hms115_0 := NB305_340.out.symm
     have hms115_1 := NB306_340.out.symm
     have hms115_2 := NB310_340.out.symm
     have hms115_3 := NB314_340.out.symm
     have hms115_4 := NB322_340.out.symm
     have hms115_5 := NB326_340.out.symm
     have hms115_6 := NB330_340.out.symm
     have hms115_7 := NB333_340.out.symm
     have hs116 : w114.cell? ⟨gb340, 1, none⟩ = some (.int .i64 0) := (blk_cell BK340.out 1).trans rfl
     have hfs116 := blk_frozen BK340.out 1
     have hns116_0 := NB305_340.out
     have hns116_1 := NB306_340.out
     have hns116_2 := NB310_340.out
     have hns116_3 := NB314_340.out
     have hns116_4 := NB322_340.out
     have hns116_5 := NB326_340.out
     have hns116_6 := NB330_340.out
     have hns116_7 := NB333_340.out
     have hms116_0 := NB305_340.out.symm
     have hms116_1 := NB306_340.out.symm
     have hms116_2 := NB310_340.out.symm
     have hms116_3 := NB314_340.out.symm
     have hms116_4 := NB322_340.out.symm
     have hms116_5 := NB326_340.out.symm
     have hms116_6 := NB330_340.out.symm
     have hms116_7 := NB333_340.out.symm
     refine skip_ (w1 := ?_) (by rfl) rfl ?_ ?_
     rotate_left
     ·
      go_simp
      rfl
     refine hK.out _ _ ⟨((cell_far (p := ⟨gb340, _, none⟩) NB333_340.out _).trans (((cell_far (p := ⟨gb340, _, none⟩) NB333_340.out _).trans (hHeld.1)))), ((cell_far (p := ⟨gb340, _, none⟩) NB333_340.out _).trans (((cell_far (p := ⟨gb340, _, none⟩) NB333_340.out _).trans (hHeld.2.1)))), ((cell_far (p := ⟨gb340, _, none⟩) NB310_340.out _).trans (((cell_far (p := ⟨gb340, _, none⟩) NB310_340.out _).trans (hHeld.2.2.1)))), ((cell_far (p := ⟨gb340, _, none⟩) NB310_340.out _).trans (((cell_far (p := ⟨gb340, _, none⟩) NB310_340.out _).trans (hHeld.2.2.2.1)))), ((cell_far (p := ⟨gb340, _, none⟩) NB326_340.out _).trans (((cell_far (p := ⟨gb340, _, none⟩) NB326_340.out _).trans (hHeld.2.2.2.2.1)))), ((cell_far (p := ⟨gb340, _, none⟩) NB326_340.out _).trans (((cell_far (p := ⟨gb340, _, none⟩) NB326_340.out _).trans (hHeld.2.2.2.2.2.1)))), ((cell_far (p := ⟨gb340, _, none⟩) NB314_340.out _).trans (((cell_far (p := ⟨gb340, _, none⟩) NB314_340.out _).trans (hHeld.2.2.2.2.2.2.1)))), ((cell_far (p := ⟨gb340, _, none⟩) NB314_340.out _).trans (((cell_far (p := ⟨gb340, _, none⟩) NB314_340.out _).trans (hHeld.2.2.2.2.2.2.2))))⟩ (fun hHeld => ?_)
     clear hK K
     refine done_ (done_of HT_.out (by kernel_rfl)) ?_
     try go_wp2
     have n0_ : Aside0 (((w114.setCell ⟨gb340, 0, none⟩ (.int .i64 t338)).setCell ⟨gb340, 1, none⟩ (.int .i64 t339)).heap[gb305]? = some (.cells #[.int .i64 0, .int .i64 0] 23 (0, 0))) := ⟨(gr_ (blk_far (gr_ (blk_far (gr_ BK305.out) NB305_340.out _)) NB305_340.out _))⟩
     have n1_ : Aside0 (((w114.setCell ⟨gb340, 0, none⟩ (.int .i64 t338)).setCell ⟨gb340, 1, none⟩ (.int .i64 t339)).heap[gb306]? = some (.cells #[.int .i64 0, .int .i64 0] 23 (0, 0))) := ⟨(gr_ (blk_far (gr_ (blk_far (gr_ BK306.out) NB306_340.out _)) NB306_340.out _))⟩
     have n2_ : Aside0 (((w114.setCell ⟨gb340, 0, none⟩ (.int .i64 t338)).setCell ⟨gb340, 1, none⟩ (.int .i64 t339)).heap[gb310]? = some (.cells #[.int .i64 t307, .int .i64 t308] 23 (0, 0))) := ⟨(gr_ (blk_far (gr_ (blk_far (gr_ BK310.out) NB310_340.out _)) NB310_340.out _))⟩
     have n3_ : Aside0 (((w114.setCell ⟨gb340, 0, none⟩ (.int .i64 t338)).setCell ⟨gb340, 1, none⟩ (.int .i64 t339)).heap[gb314]? = some (.cells #[.int .i64 t311, .int .i64 t312] 23 (0, 0))) := ⟨(gr_ (blk_far (gr_ (blk_far (gr_ BK314.out) NB314_340.out _)) NB314_340.out _))⟩
     have n4_ : Aside0 (((w114.setCell ⟨gb340, 0, none⟩ (.int .i64 t338)).setCell ⟨gb340, 1, none⟩ (.int .i64 t339)).heap[gb322]? = some (.cells #[.int .i64 t319, .int .i64 t320] 23 (0, 0))) := ⟨(gr_ (blk_far (gr_ (blk_far (gr_ BK322.out) NB322_340.out _)) NB322_340.out _))⟩
     have n5_ : Aside0 (((w114.setCell ⟨gb340, 0, none⟩ (.int .i64 t338)).setCell ⟨gb340, 1, none⟩ (.int .i64 t339)).heap[gb326]? = some (.cells #[.int .i64 t323, .int .i64 t324] 23 (0, 0))) := ⟨(gr_ (blk_far (gr_ (blk_far (gr_ BK326.out) NB326_340.out _)) NB326_340.out _))⟩
     have n6_ : Aside0 (((w114.setCell ⟨gb340, 0, none⟩ (.int .i64 t338)).setCell ⟨gb340, 1, none⟩ (.int .i64 t339)).heap[gb330]? = some (.cells #[.int .i64 t327, .int .i64 t328] 23 (0, 0))) := ⟨(gr_ (blk_far (gr_ (blk_far (gr_ BK330.out) NB330_340.out _)) NB330_340.out _))⟩
     have n7_ : Aside0 (((w114.setCell ⟨gb340, 0, none⟩ (.int .i64 t338)).setCell ⟨gb340, 1, none⟩ (.int .i64 t339)).heap[gb333]? = some (.cells #[.int .i64 t331, .int .i64 t332] 23 (0, 0))) := ⟨(gr_ (blk_far (gr_ (blk_far (gr_ BK333.out) NB333_340.out _)) NB333_340.out _))⟩
     have n8_ : Aside0 (((w114.setCell ⟨gb340, 0, none⟩ (.int .i64 t338)).setCell ⟨gb340, 1, none⟩ (.int .i64 t339)).heap[gb340]? = some (.cells #[.int .i64 t338, .int .i64 t339] 23 (0, 0))) := ⟨(gr_ (blk_put (cs := #[.int .i64 t338, .int .i64 0]) (gr_ (blk_put (cs := #[.int .i64 0, .int .i64 0]) (gr_ BK340.out) 0 _ rfl)) 1 _ rfl))⟩
     have n9_ : Aside0 (Below w.heap.size w ((w114.setCell ⟨gb340, 0, none⟩ (.int .i64 t338)).setCell ⟨gb340, 1, none⟩ (.int .i64 t339))) := ⟨by repeat (first | (with_reducible first | exact HB.out | apply below_alloc | apply pw_below_drewN | apply below_drew1 | refine below_set ?_ GE305.out | refine below_set ?_ GE306.out | refine below_set ?_ GE310.out | refine below_set ?_ GE314.out | refine below_set ?_ GE322.out | refine below_set ?_ GE326.out | refine below_set ?_ GE330.out | refine below_set ?_ GE333.out | refine below_set ?_ GE340.out) | exact HB.out)⟩
     (try clear BK305)
     (try clear BK306)
     (try clear BK310)
     (try clear BK314)
     (try clear BK322)
     (try clear BK326)
     (try clear BK330)
     (try clear BK333)
     (try clear BK340)
     (try clear HB)
     generalize ((w114.setCell ⟨gb340, 0, none⟩ (.int .i64 t338)).setCell ⟨gb340, 1, none⟩ (.int .i64 t339)) = w117 at n0_ n1_ n2_ n3_ n4_ n5_ n6_ n7_ n8_ n9_ ⊢
     have BK305 := n0_
     have BK306 := n1_
     have BK310 := n2_
     have BK314 := n3_
     have BK322 := n4_
     have BK326 := n5_
     have BK330 := n6_
     have BK333 := n7_
     have BK340 := n8_
     have HB := n9_
     clear n0_ n1_ n2_ n3_ n4_ n5_ n6_ n7_ n8_ n9_
     have n0_ := Aside0.mk (blk_drew BK305.out)
     have n1_ := Aside0.mk (blk_drew BK306.out)
     have n2_ := Aside0.mk (blk_drew BK310.out)
     have n3_ := Aside0.mk (blk_drew BK314.out)
     have n4_ := Aside0.mk (blk_drew BK322.out)
     have n5_ := Aside0.mk (blk_drew BK326.out)
     have n6_ := Aside0.mk (blk_drew BK330.out)
     have n7_ := Aside0.mk (blk_drew BK333.out)
     have n8_ := Aside0.mk (blk_drew BK340.out)
     have n9_ := Aside0.mk (below_drew1 HB.out)
     clear BK305
     clear BK306
     clear BK310
     clear BK314
     clear BK322
     clear BK326
     clear BK330
     clear BK333
     clear BK340
     clear HB
     have BK305 := n0_
     have BK306 := n1_
     have BK310 := n2_
     have BK314 := n3_
     have BK322 := n4_
     have BK326 := n5_
     have BK330 := n6_
     have BK333 := n7_
     have BK340 := n8_
     have HB := n9_
     clear n0_ n1_ n2_ n3_ n4_ n5_ n6_ n7_ n8_ n9_
     refine start_ (n := 17) (S := fun w' => w'.cell? ⟨gb333, 0, none⟩ = some (.int .i64 t331) ∧ w'.cell? ⟨gb333, 1, none⟩ = some (.int .i64 t332) ∧ w'.cell? ⟨gb314, 0, none⟩ = some (.int .i64 t311) ∧ w'.cell? ⟨gb314, 1, none⟩ = some (.int .i64 t312) ∧ w'.cell? ⟨gb326, 0, none⟩ = some (.int .i64 t323) ∧ w'.cell? ⟨gb326, 1, none⟩ = some (.int .i64 t324) ∧ w'.cell? ⟨gb310, 0, none⟩ = some (.int .i64 t307) ∧ w'.cell? ⟨gb310, 1, none⟩ = some (.int .i64 t308) ∧ w'.cell? ⟨gb330, 0, none⟩ = some (.int .i64 t327) ∧ w'.cell? ⟨gb330, 1, none⟩ = some (.int .i64 t328) ∧ w'.cell? ⟨gb322, 0, none⟩ = some (.int .i64 t319) ∧ w'.cell? ⟨gb322, 1, none⟩ = some (.int .i64 t320)) (ds := []) #[false, false, false, false, false, false, false, false, false, false, false, false, false, false, false, false, false] (by kernel_rfl) rfl rfl ⟨(blk_cell BK333.out 0).trans rfl, (blk_cell BK333.out 1).trans rfl, (blk_cell BK314.out 0).trans rfl, (blk_cell BK314.out 1).trans rfl, (blk_cell BK326.out 0).trans rfl, (blk_cell BK326.out 1).trans rfl, (blk_cell BK310.out 0).trans rfl, (blk_cell BK310.out 1).trans rfl, (blk_cell BK330.out 0).trans rfl, (blk_cell BK330.out 1).trans rfl, (blk_cell BK322.out 0).trans rfl, (blk_cell BK322.out 1).trans rfl⟩ (fun hHeld => ?_); refine with_tabW sun_Equator.tab18 sun_Equator.bits18 (fun HT_ HW_ => ?_)
     generalize w117.drew = w118 at BK305 BK306 BK310 BK314 BK322 BK326 BK330 BK333 BK340 HB hHeld ⊢
     refine take_ (i := 0) (N := some 91) (v := ?_) (a' := ?_) #[true, false, false, false, false, false, false, false, false, false, false, false, false, false, false, false, false] rfl rfl (take_ofW HT_.out HW_.out (by kernel_rfl)) (fun _ _ _ h => h) (Or.inl ⟨by rfl, ?_⟩) hHeld ?_ ?_
     rotate_left
     ·
      rintro w' ⟨s0, s1, s2, s3, s4, s5, s6, s7, s8, s9, s10, s11⟩
      go_simp
      with_reducible rfl
     rotate_left
     ·
      simp only [Act.put, List.setIfInBounds_toArray, List.set_cons_zero, List.set_cons_succ, i64_w, i32_w]
      rfl
     refine take_ (i := 1) (N := some 92) (v := ?_) (a' := ?_) #[true, true, false, false, false, false, false, false, false, false, false, false, false, false, false, false, false] rfl rfl (take_ofW HT_.out HW_.out (by kernel_rfl)) (fun _ _ _ h => h) (Or.inl ⟨by rfl, ?_⟩) hHeld ?_ ?_
     rotate_left
     ·
      rintro w' ⟨s0, s1, s2, s3, s4, s5, s6, s7, s8, s9, s10, s11⟩
      go_simp
      with_reducible rfl
     rotate_left
     ·
      simp only [Act.put, List.setIfInBounds_toArray, List.set_cons_zero, List.set_cons_succ, i64_w, i32_w]
      rfl
     refine take_ (i := 3) (N := some 94) (v := ?_) (a' := ?_) #[true, true, false, true, false, false, false, false, false, false, false, false, false, false, false, false, false] rfl rfl (take_ofW HT_.out HW_.out (by kernel_rfl)) (fun _ _ _ h => h) (Or.inl ⟨by rfl, ?_⟩) hHeld ?_ ?_
     rotate_left
     ·
      rintro w' ⟨s0, s1, s2, s3, s4, s5, s6, s7, s8, s9, s10, s11⟩
      go_simp
      with_reducible rfl
     rotate_left
     ·
      simp only [Act.put, List.setIfInBounds_toArray, List.set_cons_zero, List.set_cons_succ, i64_w, i32_w]
      rfl
     refine take_ (i := 4) (N := some 95) (v := ?_) (a' := ?_) #[true, true, false, true, true, false, false, false, false, false, false, false, false, false, false, false, false] rfl rfl (take_ofW HT_.out HW_.out (by kernel_rfl)) (fun _ _ _ h => h) (Or.inl ⟨by rfl, ?_⟩) hHeld ?_ ?_
     rotate_left
     ·
      rintro w' ⟨s0, s1, s2, s3, s4, s5, s6, s7, s8, s9, s10, s11⟩
      go_simp
      with_reducible rfl
     rotate_left
     ·
      simp only [Act.put, List.setIfInBounds_toArray, List.set_cons_zero, List.set_cons_succ, i64_w, i32_w]
      rfl
     refine take_ (i := 7) (N := some 98) (v := ?_) (a' := ?_) #[true, true, false, true, true, false, false, true, false, false, false, false, false, false, false, false, false] rfl rfl (take_ofW HT_.out HW_.out (by kernel_rfl)) (fun _ _ _ h => h) (Or.inl ⟨by rfl, ?_⟩) hHeld ?_ ?_
     rotate_left
     ·
      rintro w' ⟨s0, s1, s2, s3, s4, s5, s6, s7, s8, s9, s10, s11⟩
      go_simp
      with_reducible rfl
     rotate_left
     ·
      simp only [Act.put, List.setIfInBounds_toArray, List.set_cons_zero, List.set_cons_succ, i64_w, i32_w]
      rfl
     refine take_ (i := 8) (N := some 99) (v := ?_) (a' := ?_) #[true, true, false, true, true, false, false, true, true, false, false, false, false, false, false, false, false] rfl rfl (take_ofW HT_.out HW_.out (by kernel_rfl)) (fun _ _ _ h => h) (Or.inl ⟨by rfl, ?_⟩) hHeld ?_ ?_
     rotate_left
     ·
      rintro w' ⟨s0, s1, s2, s3, s4, s5, s6, s7, s8, s9, s10, s11⟩
      go_simp
      with_reducible rfl
     rotate_left
     ·
      simp only [Act.put, List.setIfInBounds_toArray, List.set_cons_zero, List.set_cons_succ, i64_w, i32_w]
      rfl
     refine join_ (σ := Nat) 2 #[true, true, true, true, true, true, true, true, true, true, true, true, true, true, true, false, false] (fun s_ => [(93, .agg #[.int .i64 t341, .int .i64 t342]), (96, .agg #[.int .i64 t343, .int .i64 t344]), (97, .agg #[.int .i64 t345, .int .i64 t346]), (100, .agg #[.int .i64 t347, .int .i64 t348]), (101, .tuple #[.agg #[.int .i64 t349, .int .i64 t350], .int .i64 t351]), (24, .pointer (some ⟨s_, 0, none⟩)), (90, .tuple #[.agg #[.int .i64 t349, .int .i64 t350], .int .i64 t351]), (102, .agg #[.int .i64 t349, .int .i64 t350]), (103, .int .i64 t351)]) (fun s_ w' => (w'.cell? ⟨gb333, 0, none⟩ = some (.int .i64 t331) ∧ w'.cell? ⟨gb333, 1, none⟩ = some (.int .i64 t332) ∧ w'.cell? ⟨gb314, 0, none⟩ = some (.int .i64 t311) ∧ w'.cell? ⟨gb314, 1, none⟩ = some (.int .i64 t312) ∧ w'.cell? ⟨gb326, 0, none⟩ = some (.int .i64 t323) ∧ w'.cell? ⟨gb326, 1, none⟩ = some (.int .i64 t324) ∧ w'.cell? ⟨gb310, 0, none⟩ = some (.int .i64 t307) ∧ w'.cell? ⟨gb310, 1, none⟩ = some (.int .i64 t308) ∧ w'.cell? ⟨gb330, 0, none⟩ = some (.int .i64 t327) ∧ w'.cell? ⟨gb330, 1, none⟩ = some (.int .i64 t328) ∧ w'.cell? ⟨gb322, 0, none⟩ = some (.int .i64 t319) ∧ w'.cell? ⟨gb322, 1, none⟩ = some (.int .i64 t320)) ∧ (w'.heap[gb305]? = some (.cells #[.int .i64 0, .int .i64 0] 23 (0, 0))) ∧ (w'.heap[gb306]? = some (.cells #[.int .i64 0, .int .i64 0] 23 (0, 0))) ∧ (w'.heap[gb310]? = some (.cells #[.int .i64 t307, .int .i64 t308] 23 (0, 0))) ∧ (w'.heap[gb314]? = some (.cells #[.int .i64 t311, .int .i64 t312] 23 (0, 0))) ∧ (w'.heap[gb322]? = some (.cells #[.int .i64 t319, .int .i64 t320] 23 (0, 0))) ∧ (w'.heap[gb326]? = some (.cells #[.int .i64 t323, .int .i64 t324] 23 (0, 0))) ∧ (w'.heap[gb330]? = some (.cells #[.int .i64 t327, .int .i64 t328] 23 (0, 0))) ∧ (w'.heap[gb333]? = some (.cells #[.int .i64 t331, .int .i64 t332] 23 (0, 0))) ∧ (w'.heap[gb340]? = some (.cells #[.int .i64 t338, .int .i64 t339] 23 (0, 0))) ∧ (w'.heap[s_]? = some (.cells #[.int .i64 0, .int .i64 0] 23 (0, 0))) ∧ (w.heap.size ≤ s_) ∧ (w.heap.size ≤ s_) ∧ (gb305 ≠ s_) ∧ (s_ ≠ gb305) ∧ (gb306 ≠ s_) ∧ (s_ ≠ gb306) ∧ (gb310 ≠ s_) ∧ (s_ ≠ gb310) ∧ (gb314 ≠ s_) ∧ (s_ ≠ gb314) ∧ (gb322 ≠ s_) ∧ (s_ ≠ gb322) ∧ (gb326 ≠ s_) ∧ (s_ ≠ gb326) ∧ (gb330 ≠ s_) ∧ (s_ ≠ gb330) ∧ (gb333 ≠ s_) ∧ (s_ ≠ gb333) ∧ (gb340 ≠ s_) ∧ (s_ ≠ gb340) ∧ (Below w.heap.size w w')) ?_ ?_
     rotate_left
     ·
      intro hJ2_5_6_9_10_14
      refine join_ (σ := Unit) 3 #[true, true, true, true, true, true, true, true, true, true, true, true, true, true, false, false, false] (fun s_ => [(93, .agg #[.int .i64 t341, .int .i64 t342]), (96, .agg #[.int .i64 t343, .int .i64 t344]), (97, .agg #[.int .i64 t345, .int .i64 t346]), (100, .agg #[.int .i64 t347, .int .i64 t348]), (101, .tuple #[.agg #[.int .i64 t349, .int .i64 t350], .int .i64 t351]), (90, .tuple #[.agg #[.int .i64 t349, .int .i64 t350], .int .i64 t351]), (102, .agg #[.int .i64 t349, .int .i64 t350]), (103, .int .i64 t351)]) (fun s_ w' => (w'.cell? ⟨gb333, 0, none⟩ = some (.int .i64 t331) ∧ w'.cell? ⟨gb333, 1, none⟩ = some (.int .i64 t332) ∧ w'.cell? ⟨gb314, 0, none⟩ = some (.int .i64 t311) ∧ w'.cell? ⟨gb314, 1, none⟩ = some (.int .i64 t312) ∧ w'.cell? ⟨gb326, 0, none⟩ = some (.int .i64 t323) ∧ w'.cell? ⟨gb326, 1, none⟩ = some (.int .i64 t324) ∧ w'.cell? ⟨gb310, 0, none⟩ = some (.int .i64 t307) ∧ w'.cell? ⟨gb310, 1, none⟩ = some (.int .i64 t308) ∧ w'.cell? ⟨gb330, 0, none⟩ = some (.int .i64 t327) ∧ w'.cell? ⟨gb330, 1, none⟩ = some (.int .i64 t328) ∧ w'.cell? ⟨gb322, 0, none⟩ = some (.int .i64 t319) ∧ w'.cell? ⟨gb322, 1, none⟩ = some (.int .i64 t320)) ∧ (w'.heap[gb305]? = some (.cells #[.int .i64 0, .int .i64 0] 23 (0, 0))) ∧ (w'.heap[gb306]? = some (.cells #[.int .i64 0, .int .i64 0] 23 (0, 0))) ∧ (w'.heap[gb310]? = some (.cells #[.int .i64 t307, .int .i64 t308] 23 (0, 0))) ∧ (w'.heap[gb314]? = some (.cells #[.int .i64 t311, .int .i64 t312] 23 (0, 0))) ∧ (w'.heap[gb322]? = some (.cells #[.int .i64 t319, .int .i64 t320] 23 (0, 0))) ∧ (w'.heap[gb326]? = some (.cells #[.int .i64 t323, .int .i64 t324] 23 (0, 0))) ∧ (w'.heap[gb330]? = some (.cells #[.int .i64 t327, .int .i64 t328] 23 (0, 0))) ∧ (w'.heap[gb333]? = some (.cells #[.int .i64 t331, .int .i64 t332] 23 (0, 0))) ∧ (w'.heap[gb340]? = some (.cells #[.int .i64 t338, .int .i64 t339] 23 (0, 0))) ∧ (Below w.heap.size w w')) ?_ ?_
      rotate_left
      ·
       intro hJ2_5_6_9_10
       refine join_ (σ := Nat) 6 #[true, true, true, true, true, true, true, true, true, true, false, false, false, false, true, false, false] (fun s_ => [(93, .agg #[.int .i64 t341, .int .i64 t342]), (96, .agg #[.int .i64 t343, .int .i64 t344]), (97, .agg #[.int .i64 t345, .int .i64 t346]), (100, .agg #[.int .i64 t347, .int .i64 t348]), (24, .pointer (some ⟨s_, 0, none⟩))]) (fun s_ w' => (w'.cell? ⟨gb333, 0, none⟩ = some (.int .i64 t331) ∧ w'.cell? ⟨gb333, 1, none⟩ = some (.int .i64 t332) ∧ w'.cell? ⟨gb314, 0, none⟩ = some (.int .i64 t311) ∧ w'.cell? ⟨gb314, 1, none⟩ = some (.int .i64 t312) ∧ w'.cell? ⟨gb326, 0, none⟩ = some (.int .i64 t323) ∧ w'.cell? ⟨gb326, 1, none⟩ = some (.int .i64 t324) ∧ w'.cell? ⟨gb310, 0, none⟩ = some (.int .i64 t307) ∧ w'.cell? ⟨gb310, 1, none⟩ = some (.int .i64 t308) ∧ w'.cell? ⟨gb330, 0, none⟩ = some (.int .i64 t327) ∧ w'.cell? ⟨gb330, 1, none⟩ = some (.int .i64 t328) ∧ w'.cell? ⟨gb322, 0, none⟩ = some (.int .i64 t319) ∧ w'.cell? ⟨gb322, 1, none⟩ = some (.int .i64 t320)) ∧ (w'.heap[gb305]? = some (.cells #[.int .i64 0, .int .i64 0] 23 (0, 0))) ∧ (w'.heap[gb306]? = some (.cells #[.int .i64 0, .int .i64 0] 23 (0, 0))) ∧ (w'.heap[gb310]? = some (.cells #[.int .i64 t307, .int .i64 t308] 23 (0, 0))) ∧ (w'.heap[gb314]? = some (.cells #[.int .i64 t311, .int .i64 t312] 23 (0, 0))) ∧ (w'.heap[gb322]? = some (.cells #[.int .i64 t319, .int .i64 t320] 23 (0, 0))) ∧ (w'.heap[gb326]? = some (.cells #[.int .i64 t323, .int .i64 t324] 23 (0, 0))) ∧ (w'.heap[gb330]? = some (.cells #[.int .i64 t327, .int .i64 t328] 23 (0, 0))) ∧ (w'.heap[gb333]? = some (.cells #[.int .i64 t331, .int .i64 t332] 23 (0, 0))) ∧ (w'.heap[gb340]? = some (.cells #[.int .i64 t338, .int .i64 t339] 23 (0, 0))) ∧ (w'.heap[s_]? = some (.cells #[.int .i64 0, .int .i64 0] 23 (0, 0))) ∧ (w.heap.size ≤ s_) ∧ (w.heap.size ≤ s_) ∧ (gb305 ≠ s_) ∧ (s_ ≠ gb305) ∧ (gb306 ≠ s_) ∧ (s_ ≠ gb306) ∧ (gb310 ≠ s_) ∧ (s_ ≠ gb310) ∧ (gb314 ≠ s_) ∧ (s_ ≠ gb314) ∧ (gb322 ≠ s_) ∧ (s_ ≠ gb322) ∧ (gb326 ≠ s_) ∧ (s_ ≠ gb326) ∧ (gb330 ≠ s_) ∧ (s_ ≠ gb330) ∧ (gb333 ≠ s_) ∧ (s_ ≠ gb333) ∧ (gb340 ≠ s_) ∧ (s_ ≠ gb340) ∧ (Below w.heap.size w w')) ?_ ?_
       rotate_left
       ·
        intro hJ2_5_6_9_14
        refine join_ (σ := Unit) 7 #[true, true, true, true, true, true, true, true, true, true, false, false, false, false, false, false, false] (fun s_ => [(93, .agg #[.int .i64 t341, .int .i64 t342]), (96, .agg #[.int .i64 t343, .int .i64 t344]), (97, .agg #[.int .i64 t345, .int .i64 t346]), (100, .agg #[.int .i64 t347, .int .i64 t348])]) (fun s_ w' => (w'.cell? ⟨gb333, 0, none⟩ = some (.int .i64 t331) ∧ w'.cell? ⟨gb333, 1, none⟩ = some (.int .i64 t332) ∧ w'.cell? ⟨gb314, 0, none⟩ = some (.int .i64 t311) ∧ w'.cell? ⟨gb314, 1, none⟩ = some (.int .i64 t312) ∧ w'.cell? ⟨gb326, 0, none⟩ = some (.int .i64 t323) ∧ w'.cell? ⟨gb326, 1, none⟩ = some (.int .i64 t324) ∧ w'.cell? ⟨gb310, 0, none⟩ = some (.int .i64 t307) ∧ w'.cell? ⟨gb310, 1, none⟩ = some (.int .i64 t308) ∧ w'.cell? ⟨gb330, 0, none⟩ = some (.int .i64 t327) ∧ w'.cell? ⟨gb330, 1, none⟩ = some (.int .i64 t328) ∧ w'.cell? ⟨gb322, 0, none⟩ = some (.int .i64 t319) ∧ w'.cell? ⟨gb322, 1, none⟩ = some (.int .i64 t320)) ∧ (w'.heap[gb305]? = some (.cells #[.int .i64 0, .int .i64 0] 23 (0, 0))) ∧ (w'.heap[gb306]? = some (.cells #[.int .i64 0, .int .i64 0] 23 (0, 0))) ∧ (w'.heap[gb310]? = some (.cells #[.int .i64 t307, .int .i64 t308] 23 (0, 0))) ∧ (w'.heap[gb314]? = some (.cells #[.int .i64 t311, .int .i64 t312] 23 (0, 0))) ∧ (w'.heap[gb322]? = some (.cells #[.int .i64 t319, .int .i64 t320] 23 (0, 0))) ∧ (w'.heap[gb326]? = some (.cells #[.int .i64 t323, .int .i64 t324] 23 (0, 0))) ∧ (w'.heap[gb330]? = some (.cells #[.int .i64 t327, .int .i64 t328] 23 (0, 0))) ∧ (w'.heap[gb333]? = some (.cells #[.int .i64 t331, .int .i64 t332] 23 (0, 0))) ∧ (w'.heap[gb340]? = some (.cells #[.int .i64 t338, .int .i64 t339] 23 (0, 0))) ∧ (Below w.heap.size w w')) ?_ ?_
        rotate_left
        ·
         intro hJ2_5_6_9
         refine join_ (σ := Nat) 7 #[true, true, true, true, true, true, true, true, true, false, false, false, false, false, true, false, false] (fun s_ => [(93, .agg #[.int .i64 t341, .int .i64 t342]), (96, .agg #[.int .i64 t343, .int .i64 t344]), (97, .agg #[.int .i64 t345, .int .i64 t346]), (24, .pointer (some ⟨s_, 0, none⟩))]) (fun s_ w' => (w'.cell? ⟨gb333, 0, none⟩ = some (.int .i64 t331) ∧ w'.cell? ⟨gb333, 1, none⟩ = some (.int .i64 t332) ∧ w'.cell? ⟨gb314, 0, none⟩ = some (.int .i64 t311) ∧ w'.cell? ⟨gb314, 1, none⟩ = some (.int .i64 t312) ∧ w'.cell? ⟨gb326, 0, none⟩ = some (.int .i64 t323) ∧ w'.cell? ⟨gb326, 1, none⟩ = some (.int .i64 t324) ∧ w'.cell? ⟨gb310, 0, none⟩ = some (.int .i64 t307) ∧ w'.cell? ⟨gb310, 1, none⟩ = some (.int .i64 t308) ∧ w'.cell? ⟨gb330, 0, none⟩ = some (.int .i64 t327) ∧ w'.cell? ⟨gb330, 1, none⟩ = some (.int .i64 t328) ∧ w'.cell? ⟨gb322, 0, none⟩ = some (.int .i64 t319) ∧ w'.cell? ⟨gb322, 1, none⟩ = some (.int .i64 t320)) ∧ (w'.heap[gb305]? = some (.cells #[.int .i64 0, .int .i64 0] 23 (0, 0))) ∧ (w'.heap[gb306]? = some (.cells #[.int .i64 0, .int .i64 0] 23 (0, 0))) ∧ (w'.heap[gb310]? = some (.cells #[.int .i64 t307, .int .i64 t308] 23 (0, 0))) ∧ (w'.heap[gb314]? = some (.cells #[.int .i64 t311, .int .i64 t312] 23 (0, 0))) ∧ (w'.heap[gb322]? = some (.cells #[.int .i64 t319, .int .i64 t320] 23 (0, 0))) ∧ (w'.heap[gb326]? = some (.cells #[.int .i64 t323, .int .i64 t324] 23 (0, 0))) ∧ (w'.heap[gb330]? = some (.cells #[.int .i64 t327, .int .i64 t328] 23 (0, 0))) ∧ (w'.heap[gb333]? = some (.cells #[.int .i64 t331, .int .i64 t332] 23 (0, 0))) ∧ (w'.heap[gb340]? = some (.cells #[.int .i64 t338, .int .i64 t339] 23 (0, 0))) ∧ (w'.heap[s_]? = some (.cells #[.int .i64 0, .int .i64 0] 23 (0, 0))) ∧ (w.heap.size ≤ s_) ∧ (w.heap.size ≤ s_) ∧ (gb305 ≠ s_) ∧ (s_ ≠ gb305) ∧ (gb306 ≠ s_) ∧ (s_ ≠ gb306) ∧ (gb310 ≠ s_) ∧ (s_ ≠ gb310) ∧ (gb314 ≠ s_) ∧ (s_ ≠ gb314) ∧ (gb322 ≠ s_) ∧ (s_ ≠ gb322) ∧ (gb326 ≠ s_) ∧ (s_ ≠ gb326) ∧ (gb330 ≠ s_) ∧ (s_ ≠ gb330) ∧ (gb333 ≠ s_) ∧ (s_ ≠ gb333) ∧ (gb340 ≠ s_) ∧ (s_ ≠ gb340) ∧ (Below w.heap.size w w')) ?_ ?_
         rotate_left
         ·
          intro hJ2_5_6_14
          refine join_ (σ := Unit) 8 #[true, true, true, true, true, true, true, true, true, false, false, false, false, false, false, false, false] (fun s_ => [(93, .agg #[.int .i64 t341, .int .i64 t342]), (96, .agg #[.int .i64 t343, .int .i64 t344]), (97, .agg #[.int .i64 t345, .int .i64 t346])]) (fun s_ w' => (w'.cell? ⟨gb333, 0, none⟩ = some (.int .i64 t331) ∧ w'.cell? ⟨gb333, 1, none⟩ = some (.int .i64 t332) ∧ w'.cell? ⟨gb314, 0, none⟩ = some (.int .i64 t311) ∧ w'.cell? ⟨gb314, 1, none⟩ = some (.int .i64 t312) ∧ w'.cell? ⟨gb326, 0, none⟩ = some (.int .i64 t323) ∧ w'.cell? ⟨gb326, 1, none⟩ = some (.int .i64 t324) ∧ w'.cell? ⟨gb310, 0, none⟩ = some (.int .i64 t307) ∧ w'.cell? ⟨gb310, 1, none⟩ = some (.int .i64 t308) ∧ w'.cell? ⟨gb330, 0, none⟩ = some (.int .i64 t327) ∧ w'.cell? ⟨gb330, 1, none⟩ = some (.int .i64 t328) ∧ w'.cell? ⟨gb322, 0, none⟩ = some (.int .i64 t319) ∧ w'.cell? ⟨gb322, 1, none⟩ = some (.int .i64 t320)) ∧ (w'.heap[gb305]? = some (.cells #[.int .i64 0, .int .i64 0] 23 (0, 0))) ∧ (w'.heap[gb306]? = some (.cells #[.int .i64 0, .int .i64 0] 23 (0, 0))) ∧ (w'.heap[gb310]? = some (.cells #[.int .i64 t307, .int .i64 t308] 23 (0, 0))) ∧ (w'.heap[gb314]? = some (.cells #[.int .i64 t311, .int .i64 t312] 23 (0, 0))) ∧ (w'.heap[gb322]? = some (.cells #[.int .i64 t319, .int .i64 t320] 23 (0, 0))) ∧ (w'.heap[gb326]? = some (.cells #[.int .i64 t323, .int .i64 t324] 23 (0, 0))) ∧ (w'.heap[gb330]? = some (.cells #[.int .i64 t327, .int .i64 t328] 23 (0, 0))) ∧ (w'.heap[gb333]? = some (.cells #[.int .i64 t331, .int .i64 t332] 23 (0, 0))) ∧ (w'.heap[gb340]? = some (.cells #[.int .i64 t338, .int .i64 t339] 23 (0, 0))) ∧ (Below w.heap.size w w')) ?_ ?_
          rotate_left
          ·
           intro hJ2_5_6
           refine join_ (σ := Nat) 8 #[true, true, true, true, true, true, false, true, true, false, false, false, false, false, true, false, false] (fun s_ => [(93, .agg #[.int .i64 t341, .int .i64 t342]), (96, .agg #[.int .i64 t343, .int .i64 t344]), (24, .pointer (some ⟨s_, 0, none⟩))]) (fun s_ w' => (w'.cell? ⟨gb333, 0, none⟩ = some (.int .i64 t331) ∧ w'.cell? ⟨gb333, 1, none⟩ = some (.int .i64 t332) ∧ w'.cell? ⟨gb314, 0, none⟩ = some (.int .i64 t311) ∧ w'.cell? ⟨gb314, 1, none⟩ = some (.int .i64 t312) ∧ w'.cell? ⟨gb326, 0, none⟩ = some (.int .i64 t323) ∧ w'.cell? ⟨gb326, 1, none⟩ = some (.int .i64 t324) ∧ w'.cell? ⟨gb310, 0, none⟩ = some (.int .i64 t307) ∧ w'.cell? ⟨gb310, 1, none⟩ = some (.int .i64 t308) ∧ w'.cell? ⟨gb330, 0, none⟩ = some (.int .i64 t327) ∧ w'.cell? ⟨gb330, 1, none⟩ = some (.int .i64 t328) ∧ w'.cell? ⟨gb322, 0, none⟩ = some (.int .i64 t319) ∧ w'.cell? ⟨gb322, 1, none⟩ = some (.int .i64 t320)) ∧ (w'.heap[gb305]? = some (.cells #[.int .i64 0, .int .i64 0] 23 (0, 0))) ∧ (w'.heap[gb306]? = some (.cells #[.int .i64 0, .int .i64 0] 23 (0, 0))) ∧ (w'.heap[gb310]? = some (.cells #[.int .i64 t307, .int .i64 t308] 23 (0, 0))) ∧ (w'.heap[gb314]? = some (.cells #[.int .i64 t311, .int .i64 t312] 23 (0, 0))) ∧ (w'.heap[gb322]? = some (.cells #[.int .i64 t319, .int .i64 t320] 23 (0, 0))) ∧ (w'.heap[gb326]? = some (.cells #[.int .i64 t323, .int .i64 t324] 23 (0, 0))) ∧ (w'.heap[gb330]? = some (.cells #[.int .i64 t327, .int .i64 t328] 23 (0, 0))) ∧ (w'.heap[gb333]? = some (.cells #[.int .i64 t331, .int .i64 t332] 23 (0, 0))) ∧ (w'.heap[gb340]? = some (.cells #[.int .i64 t338, .int .i64 t339] 23 (0, 0))) ∧ (w'.heap[s_]? = some (.cells #[.int .i64 0, .int .i64 0] 23 (0, 0))) ∧ (w.heap.size ≤ s_) ∧ (w.heap.size ≤ s_) ∧ (gb305 ≠ s_) ∧ (s_ ≠ gb305) ∧ (gb306 ≠ s_) ∧ (s_ ≠ gb306) ∧ (gb310 ≠ s_) ∧ (s_ ≠ gb310) ∧ (gb314 ≠ s_) ∧ (s_ ≠ gb314) ∧ (gb322 ≠ s_) ∧ (s_ ≠ gb322) ∧ (gb326 ≠ s_) ∧ (s_ ≠ gb326) ∧ (gb330 ≠ s_) ∧ (s_ ≠ gb330) ∧ (gb333 ≠ s_) ∧ (s_ ≠ gb333) ∧ (gb340 ≠ s_) ∧ (s_ ≠ gb340) ∧ (Below w.heap.size w w')) ?_ ?_
           rotate_left
           ·
            intro hJ2_5_14
            refine join_ (σ := Unit) 9 #[true, true, true, true, true, true, false, true, true, false, false, false, false, false, false, false, false] (fun s_ => [(93, .agg #[.int .i64 t341, .int .i64 t342]), (96, .agg #[.int .i64 t343, .int .i64 t344])]) (fun s_ w' => (w'.cell? ⟨gb333, 0, none⟩ = some (.int .i64 t331) ∧ w'.cell? ⟨gb333, 1, none⟩ = some (.int .i64 t332) ∧ w'.cell? ⟨gb314, 0, none⟩ = some (.int .i64 t311) ∧ w'.cell? ⟨gb314, 1, none⟩ = some (.int .i64 t312) ∧ w'.cell? ⟨gb326, 0, none⟩ = some (.int .i64 t323) ∧ w'.cell? ⟨gb326, 1, none⟩ = some (.int .i64 t324) ∧ w'.cell? ⟨gb310, 0, none⟩ = some (.int .i64 t307) ∧ w'.cell? ⟨gb310, 1, none⟩ = some (.int .i64 t308) ∧ w'.cell? ⟨gb330, 0, none⟩ = some (.int .i64 t327) ∧ w'.cell? ⟨gb330, 1, none⟩ = some (.int .i64 t328) ∧ w'.cell? ⟨gb322, 0, none⟩ = some (.int .i64 t319) ∧ w'.cell? ⟨gb322, 1, none⟩ = some (.int .i64 t320)) ∧ (w'.heap[gb305]? = some (.cells #[.int .i64 0, .int .i64 0] 23 (0, 0))) ∧ (w'.heap[gb306]? = some (.cells #[.int .i64 0, .int .i64 0] 23 (0, 0))) ∧ (w'.heap[gb310]? = some (.cells #[.int .i64 t307, .int .i64 t308] 23 (0, 0))) ∧ (w'.heap[gb314]? = some (.cells #[.int .i64 t311, .int .i64 t312] 23 (0, 0))) ∧ (w'.heap[gb322]? = some (.cells #[.int .i64 t319, .int .i64 t320] 23 (0, 0))) ∧ (w'.heap[gb326]? = some (.cells #[.int .i64 t323, .int .i64 t324] 23 (0, 0))) ∧ (w'.heap[gb330]? = some (.cells #[.int .i64 t327, .int .i64 t328] 23 (0, 0))) ∧ (w'.heap[gb333]? = some (.cells #[.int .i64 t331, .int .i64 t332] 23 (0, 0))) ∧ (w'.heap[gb340]? = some (.cells #[.int .i64 t338, .int .i64 t339] 23 (0, 0))) ∧ (Below w.heap.size w w')) ?_ ?_
            rotate_left
            ·
             intro hJ2_5
             refine join_ (σ := Nat) 9 #[true, true, true, true, true, false, false, true, true, false, false, false, false, false, true, false, false] (fun s_ => [(93, .agg #[.int .i64 t341, .int .i64 t342]), (24, .pointer (some ⟨s_, 0, none⟩))]) (fun s_ w' => (w'.cell? ⟨gb333, 0, none⟩ = some (.int .i64 t331) ∧ w'.cell? ⟨gb333, 1, none⟩ = some (.int .i64 t332) ∧ w'.cell? ⟨gb314, 0, none⟩ = some (.int .i64 t311) ∧ w'.cell? ⟨gb314, 1, none⟩ = some (.int .i64 t312) ∧ w'.cell? ⟨gb326, 0, none⟩ = some (.int .i64 t323) ∧ w'.cell? ⟨gb326, 1, none⟩ = some (.int .i64 t324) ∧ w'.cell? ⟨gb310, 0, none⟩ = some (.int .i64 t307) ∧ w'.cell? ⟨gb310, 1, none⟩ = some (.int .i64 t308) ∧ w'.cell? ⟨gb330, 0, none⟩ = some (.int .i64 t327) ∧ w'.cell? ⟨gb330, 1, none⟩ = some (.int .i64 t328) ∧ w'.cell? ⟨gb322, 0, none⟩ = some (.int .i64 t319) ∧ w'.cell? ⟨gb322, 1, none⟩ = some (.int .i64 t320)) ∧ (w'.heap[gb305]? = some (.cells #[.int .i64 0, .int .i64 0] 23 (0, 0))) ∧ (w'.heap[gb306]? = some (.cells #[.int .i64 0, .int .i64 0] 23 (0, 0))) ∧ (w'.heap[gb310]? = some (.cells #[.int .i64 t307, .int .i64 t308] 23 (0, 0))) ∧ (w'.heap[gb314]? = some (.cells #[.int .i64 t311, .int .i64 t312] 23 (0, 0))) ∧ (w'.heap[gb322]? = some (.cells #[.int .i64 t319, .int .i64 t320] 23 (0, 0))) ∧ (w'.heap[gb326]? = some (.cells #[.int .i64 t323, .int .i64 t324] 23 (0, 0))) ∧ (w'.heap[gb330]? = some (.cells #[.int .i64 t327, .int .i64 t328] 23 (0, 0))) ∧ (w'.heap[gb333]? = some (.cells #[.int .i64 t331, .int .i64 t332] 23 (0, 0))) ∧ (w'.heap[gb340]? = some (.cells #[.int .i64 t338, .int .i64 t339] 23 (0, 0))) ∧ (w'.heap[s_]? = some (.cells #[.int .i64 0, .int .i64 0] 23 (0, 0))) ∧ (w.heap.size ≤ s_) ∧ (w.heap.size ≤ s_) ∧ (gb305 ≠ s_) ∧ (s_ ≠ gb305) ∧ (gb306 ≠ s_) ∧ (s_ ≠ gb306) ∧ (gb310 ≠ s_) ∧ (s_ ≠ gb310) ∧ (gb314 ≠ s_) ∧ (s_ ≠ gb314) ∧ (gb322 ≠ s_) ∧ (s_ ≠ gb322) ∧ (gb326 ≠ s_) ∧ (s_ ≠ gb326) ∧ (gb330 ≠ s_) ∧ (s_ ≠ gb330) ∧ (gb333 ≠ s_) ∧ (s_ ≠ gb333) ∧ (gb340 ≠ s_) ∧ (s_ ≠ gb340) ∧ (Below w.heap.size w w')) ?_ ?_
             rotate_left
             ·
              intro hJ2_14
              refine join_ (σ := Unit) 10 #[true, true, true, true, true, false, false, true, true, false, false, false, false, false, false, false, false] (fun s_ => [(93, .agg #[.int .i64 t341, .int .i64 t342])]) (fun s_ w' => (w'.cell? ⟨gb333, 0, none⟩ = some (.int .i64 t331) ∧ w'.cell? ⟨gb333, 1, none⟩ = some (.int .i64 t332) ∧ w'.cell? ⟨gb314, 0, none⟩ = some (.int .i64 t311) ∧ w'.cell? ⟨gb314, 1, none⟩ = some (.int .i64 t312) ∧ w'.cell? ⟨gb326, 0, none⟩ = some (.int .i64 t323) ∧ w'.cell? ⟨gb326, 1, none⟩ = some (.int .i64 t324) ∧ w'.cell? ⟨gb310, 0, none⟩ = some (.int .i64 t307) ∧ w'.cell? ⟨gb310, 1, none⟩ = some (.int .i64 t308) ∧ w'.cell? ⟨gb330, 0, none⟩ = some (.int .i64 t327) ∧ w'.cell? ⟨gb330, 1, none⟩ = some (.int .i64 t328) ∧ w'.cell? ⟨gb322, 0, none⟩ = some (.int .i64 t319) ∧ w'.cell? ⟨gb322, 1, none⟩ = some (.int .i64 t320)) ∧ (w'.heap[gb305]? = some (.cells #[.int .i64 0, .int .i64 0] 23 (0, 0))) ∧ (w'.heap[gb306]? = some (.cells #[.int .i64 0, .int .i64 0] 23 (0, 0))) ∧ (w'.heap[gb310]? = some (.cells #[.int .i64 t307, .int .i64 t308] 23 (0, 0))) ∧ (w'.heap[gb314]? = some (.cells #[.int .i64 t311, .int .i64 t312] 23 (0, 0))) ∧ (w'.heap[gb322]? = some (.cells #[.int .i64 t319, .int .i64 t320] 23 (0, 0))) ∧ (w'.heap[gb326]? = some (.cells #[.int .i64 t323, .int .i64 t324] 23 (0, 0))) ∧ (w'.heap[gb330]? = some (.cells #[.int .i64 t327, .int .i64 t328] 23 (0, 0))) ∧ (w'.heap[gb333]? = some (.cells #[.int .i64 t331, .int .i64 t332] 23 (0, 0))) ∧ (w'.heap[gb340]? = some (.cells #[.int .i64 t338, .int .i64 t339] 23 (0, 0))) ∧ (Below w.heap.size w w')) ?_ ?_
              rotate_left
              ·
               intro hJ2
               refine join_ (σ := Nat) 10 #[true, true, false, true, true, false, false, true, true, false, false, false, false, false, true, false, false] (fun s_ => [(24, .pointer (some ⟨s_, 0, none⟩))]) (fun s_ w' => (w'.cell? ⟨gb333, 0, none⟩ = some (.int .i64 t331) ∧ w'.cell? ⟨gb333, 1, none⟩ = some (.int .i64 t332) ∧ w'.cell? ⟨gb314, 0, none⟩ = some (.int .i64 t311) ∧ w'.cell? ⟨gb314, 1, none⟩ = some (.int .i64 t312) ∧ w'.cell? ⟨gb326, 0, none⟩ = some (.int .i64 t323) ∧ w'.cell? ⟨gb326, 1, none⟩ = some (.int .i64 t324) ∧ w'.cell? ⟨gb310, 0, none⟩ = some (.int .i64 t307) ∧ w'.cell? ⟨gb310, 1, none⟩ = some (.int .i64 t308) ∧ w'.cell? ⟨gb330, 0, none⟩ = some (.int .i64 t327) ∧ w'.cell? ⟨gb330, 1, none⟩ = some (.int .i64 t328) ∧ w'.cell? ⟨gb322, 0, none⟩ = some (.int .i64 t319) ∧ w'.cell? ⟨gb322, 1, none⟩ = some (.int .i64 t320)) ∧ (w'.heap[gb305]? = some (.cells #[.int .i64 0, .int .i64 0] 23 (0, 0))) ∧ (w'.heap[gb306]? = some (.cells #[.int .i64 0, .int .i64 0] 23 (0, 0))) ∧ (w'.heap[gb310]? = some (.cells #[.int .i64 t307, .int .i64 t308] 23 (0, 0))) ∧ (w'.heap[gb314]? = some (.cells #[.int .i64 t311, .int .i64 t312] 23 (0, 0))) ∧ (w'.heap[gb322]? = some (.cells #[.int .i64 t319, .int .i64 t320] 23 (0, 0))) ∧ (w'.heap[gb326]? = some (.cells #[.int .i64 t323, .int .i64 t324] 23 (0, 0))) ∧ (w'.heap[gb330]? = some (.cells #[.int .i64 t327, .int .i64 t328] 23 (0, 0))) ∧ (w'.heap[gb333]? = some (.cells #[.int .i64 t331, .int .i64 t332] 23 (0, 0))) ∧ (w'.heap[gb340]? = some (.cells #[.int .i64 t338, .int .i64 t339] 23 (0, 0))) ∧ (w'.heap[s_]? = some (.cells #[.int .i64 0, .int .i64 0] 23 (0, 0))) ∧ (w.heap.size ≤ s_) ∧ (w.heap.size ≤ s_) ∧ (gb305 ≠ s_) ∧ (s_ ≠ gb305) ∧ (gb306 ≠ s_) ∧ (s_ ≠ gb306) ∧ (gb310 ≠ s_) ∧ (s_ ≠ gb310) ∧ (gb314 ≠ s_) ∧ (s_ ≠ gb314) ∧ (gb322 ≠ s_) ∧ (s_ ≠ gb322) ∧ (gb326 ≠ s_) ∧ (s_ ≠ gb326) ∧ (gb330 ≠ s_) ∧ (s_ ≠ gb330) ∧ (gb333 ≠ s_) ∧ (s_ ≠ gb333) ∧ (gb340 ≠ s_) ∧ (s_ ≠ gb340) ∧ (Below w.heap.size w w')) ?_ ?_
               rotate_left
               ·
                intro hJ14
                refine two_ (i := 2) (j := 14) (Ni := some 93) (Nj := some 24) #[true, true, true, true, true, false, false, true, true, false, false, false, false, false, false, false, false] #[true, true, false, true, true, false, false, true, true, false, false, false, false, false, true, false, false] rfl rfl rfl rfl (two_of HT_.out (by kernel_rfl)) (by decide) (by decide) (fun K hK => ?_) (fun K hK => ?_)
                ·
                 skip
                 refine goes_ Try.func61 (by kernel_rfl) rfl #[.agg #[.int .i64 t331, .int .i64 t332], .agg #[.int .i64 t311, .int .i64 t312]] (by rfl) rfl rfl (by (try simp only [List.map_toArray, List.map_cons, List.map_nil]); first | done | rfl | (simp only [List.length_drop, List.length_take]; rfl)) ?_
                 with_reducible refine (sun_Unit.calls t331 t332 t311 t312 t341 t342 _ A28.out).mono ?_
                 rintro e w119 ⟨rfl, hb⟩
                 refine ⟨_, rfl, ?_⟩
                 replace BK305 := nx_ BK305 hb
                 replace BK306 := nx_ BK306 hb
                 replace BK310 := nx_ BK310 hb
                 replace BK314 := nx_ BK314 hb
                 replace BK322 := nx_ BK322 hb
                 replace BK326 := nx_ BK326 hb
                 replace BK330 := nx_ BK330 hb
                 replace BK333 := nx_ BK333 hb
                 replace BK340 := nx_ BK340 hb
                 replace HB := hx_ HB hb
                 (try clear hb)
                 (try clear hb2)
                 (try clear hk)
                 (try clear hi)
                 refine hK.out _ _ ⟨(blk_cell BK333.out 0).trans rfl, (blk_cell BK333.out 1).trans rfl, (blk_cell BK314.out 0).trans rfl, (blk_cell BK314.out 1).trans rfl, (blk_cell BK326.out 0).trans rfl, (blk_cell BK326.out 1).trans rfl, (blk_cell BK310.out 0).trans rfl, (blk_cell BK310.out 1).trans rfl, (blk_cell BK330.out 0).trans rfl, (blk_cell BK330.out 1).trans rfl, (blk_cell BK322.out 0).trans rfl, (blk_cell BK322.out 1).trans rfl⟩ (fun hHeld => ?_)
                 clear hK K
                 refine norm_ (a' := ?_) ?_ ?_
                 rotate_left
                 ·
                  show Act.put _ (some 93) _ = _
                  simp only [Act.put, List.setIfInBounds_toArray, List.set_cons_zero, List.set_cons_succ, i64_w, i32_w]
                  rfl
                 exact norm_ (by (simp only [putAll, Act.put, List.setIfInBounds_toArray, List.set_cons_zero, List.set_cons_succ]) <;> rfl) (hJ2 () _ ⟨hHeld, (gr_ BK305.out), (gr_ BK306.out), (gr_ BK310.out), (gr_ BK314.out), (gr_ BK322.out), (gr_ BK326.out), (gr_ BK330.out), (gr_ BK333.out), (gr_ BK340.out), (by repeat (first | (with_reducible first | exact HB.out | apply below_alloc | apply pw_below_drewN | apply below_drew1 | refine below_set ?_ GE305.out | refine below_set ?_ GE306.out | refine below_set ?_ GE310.out | refine below_set ?_ GE314.out | refine below_set ?_ GE322.out | refine below_set ?_ GE326.out | refine below_set ?_ GE330.out | refine below_set ?_ GE333.out | refine below_set ?_ GE340.out) | exact HB.out))⟩)
                ·
                 skip
                 refine box_step ?hg (N := 24) ?hd (cs := #[.int .i64 0, .int .i64 0]) (t := 23) ?hr ?_; (case hd => rfl); (case hg => rfl); (case hr => first | (go_simp; done) | (go_simp; rfl))
                 intro gb352 hg w119 hbox hb
                 have BK352 := Aside0.mk hbox
                 have GW352 := ge_ (hb_ HB.out) hg
                 have GE352 := ge_ (hb_ HB.out) hg
                 have NB305_352 := nb_ (gr_ BK305.out) hg
                 have NB306_352 := nb_ (gr_ BK306.out) hg
                 have NB310_352 := nb_ (gr_ BK310.out) hg
                 have NB314_352 := nb_ (gr_ BK314.out) hg
                 have NB322_352 := nb_ (gr_ BK322.out) hg
                 have NB326_352 := nb_ (gr_ BK326.out) hg
                 have NB330_352 := nb_ (gr_ BK330.out) hg
                 have NB333_352 := nb_ (gr_ BK333.out) hg
                 have NB340_352 := nb_ (gr_ BK340.out) hg
                 replace BK305 := nx_ BK305 hb
                 replace BK306 := nx_ BK306 hb
                 replace BK310 := nx_ BK310 hb
                 replace BK314 := nx_ BK314 hb
                 replace BK322 := nx_ BK322 hb
                 replace BK326 := nx_ BK326 hb
                 replace BK330 := nx_ BK330 hb
                 replace BK333 := nx_ BK333 hb
                 replace BK340 := nx_ BK340 hb
                 replace HB := hx_ HB hb
                 clear hb hbox hg
                 refine hK.out _ _ ⟨(blk_cell BK333.out 0).trans rfl, (blk_cell BK333.out 1).trans rfl, (blk_cell BK314.out 0).trans rfl, (blk_cell BK314.out 1).trans rfl, (blk_cell BK326.out 0).trans rfl, (blk_cell BK326.out 1).trans rfl, (blk_cell BK310.out 0).trans rfl, (blk_cell BK310.out 1).trans rfl, (blk_cell BK330.out 0).trans rfl, (blk_cell BK330.out 1).trans rfl, (blk_cell BK322.out 0).trans rfl, (blk_cell BK322.out 1).trans rfl⟩ (fun hHeld => ?_)
                 clear hK K
                 refine norm_ (a' := ?_) ?_ ?_
                 rotate_left
                 ·
                  show Act.put _ (some 24) _ = _
                  simp only [Act.put, List.setIfInBounds_toArray, List.set_cons_zero, List.set_cons_succ, i64_w, i32_w]
                  rfl
                 exact norm_ (by (simp only [putAll, Act.put, List.setIfInBounds_toArray, List.set_cons_zero, List.set_cons_succ]) <;> rfl) (hJ14 (gb352) _ ⟨hHeld, (gr_ BK305.out), (gr_ BK306.out), (gr_ BK310.out), (gr_ BK314.out), (gr_ BK322.out), (gr_ BK326.out), (gr_ BK330.out), (gr_ BK333.out), (gr_ BK340.out), (gr_ BK352.out), GW352.out, GE352.out, NB305_352.out, NB305_352.out.symm, NB306_352.out, NB306_352.out.symm, NB310_352.out, NB310_352.out.symm, NB314_352.out, NB314_352.out.symm, NB322_352.out, NB322_352.out.symm, NB326_352.out, NB326_352.out.symm, NB330_352.out, NB330_352.out.symm, NB333_352.out, NB333_352.out.symm, NB340_352.out, NB340_352.out.symm, (by repeat (first | (with_reducible first | exact HB.out | apply below_alloc | apply pw_below_drewN | apply below_drew1 | refine below_set ?_ GE305.out | refine below_set ?_ GE306.out | refine below_set ?_ GE310.out | refine below_set ?_ GE314.out | refine below_set ?_ GE322.out | refine below_set ?_ GE326.out | refine below_set ?_ GE330.out | refine below_set ?_ GE333.out | refine below_set ?_ GE340.out | refine below_set ?_ GE352.out) | exact HB.out))⟩)
               ·
                skip
                rintro gb352 w120 ⟨hS_, h0_, h1_, h2_, h3_, h4_, h5_, h6_, h7_, h8_, h9_, h10_, h11_, h12_, h13_, h14_, h15_, h16_, h17_, h18_, h19_, h20_, h21_, h22_, h23_, h24_, h25_, h26_, h27_, h28_, h29_, h30_⟩
                replace BK305 : Aside0 (w120.heap[gb305]? = some (.cells #[.int .i64 0, .int .i64 0] 23 (0, 0))) := ⟨h0_⟩
                replace BK306 : Aside0 (w120.heap[gb306]? = some (.cells #[.int .i64 0, .int .i64 0] 23 (0, 0))) := ⟨h1_⟩
                replace BK310 : Aside0 (w120.heap[gb310]? = some (.cells #[.int .i64 t307, .int .i64 t308] 23 (0, 0))) := ⟨h2_⟩
                replace BK314 : Aside0 (w120.heap[gb314]? = some (.cells #[.int .i64 t311, .int .i64 t312] 23 (0, 0))) := ⟨h3_⟩
                replace BK322 : Aside0 (w120.heap[gb322]? = some (.cells #[.int .i64 t319, .int .i64 t320] 23 (0, 0))) := ⟨h4_⟩
                replace BK326 : Aside0 (w120.heap[gb326]? = some (.cells #[.int .i64 t323, .int .i64 t324] 23 (0, 0))) := ⟨h5_⟩
                replace BK330 : Aside0 (w120.heap[gb330]? = some (.cells #[.int .i64 t327, .int .i64 t328] 23 (0, 0))) := ⟨h6_⟩
                replace BK333 : Aside0 (w120.heap[gb333]? = some (.cells #[.int .i64 t331, .int .i64 t332] 23 (0, 0))) := ⟨h7_⟩
                replace BK340 : Aside0 (w120.heap[gb340]? = some (.cells #[.int .i64 t338, .int .i64 t339] 23 (0, 0))) := ⟨h8_⟩
                have BK352 : Aside0 (w120.heap[gb352]? = some (.cells #[.int .i64 0, .int .i64 0] 23 (0, 0))) := ⟨h9_⟩
                have GW352 : Aside0 (w.heap.size ≤ gb352) := ⟨h10_⟩
                have GE352 : Aside0 (w.heap.size ≤ gb352) := ⟨h11_⟩
                have NB305_352 : Aside0 (gb305 ≠ gb352) := ⟨h12_⟩
                have NB306_352 : Aside0 (gb306 ≠ gb352) := ⟨h14_⟩
                have NB310_352 : Aside0 (gb310 ≠ gb352) := ⟨h16_⟩
                have NB314_352 : Aside0 (gb314 ≠ gb352) := ⟨h18_⟩
                have NB322_352 : Aside0 (gb322 ≠ gb352) := ⟨h20_⟩
                have NB326_352 : Aside0 (gb326 ≠ gb352) := ⟨h22_⟩
                have NB330_352 : Aside0 (gb330 ≠ gb352) := ⟨h24_⟩
                have NB333_352 : Aside0 (gb333 ≠ gb352) := ⟨h26_⟩
                have NB340_352 : Aside0 (gb340 ≠ gb352) := ⟨h28_⟩
                replace HB : Aside0 (Below w.heap.size w w120) := ⟨h30_⟩
                clear h0_ h1_ h2_ h3_ h4_ h5_ h6_ h7_ h8_ h9_ h10_ h11_ h12_ h13_ h14_ h15_ h16_ h17_ h18_ h19_ h20_ h21_ h22_ h23_ h24_ h25_ h26_ h27_ h28_ h29_ h30_
                have hHeld : w120.cell? ⟨gb333, 0, none⟩ = some (.int .i64 t331) ∧ w120.cell? ⟨gb333, 1, none⟩ = some (.int .i64 t332) ∧ w120.cell? ⟨gb314, 0, none⟩ = some (.int .i64 t311) ∧ w120.cell? ⟨gb314, 1, none⟩ = some (.int .i64 t312) ∧ w120.cell? ⟨gb326, 0, none⟩ = some (.int .i64 t323) ∧ w120.cell? ⟨gb326, 1, none⟩ = some (.int .i64 t324) ∧ w120.cell? ⟨gb310, 0, none⟩ = some (.int .i64 t307) ∧ w120.cell? ⟨gb310, 1, none⟩ = some (.int .i64 t308) ∧ w120.cell? ⟨gb330, 0, none⟩ = some (.int .i64 t327) ∧ w120.cell? ⟨gb330, 1, none⟩ = some (.int .i64 t328) ∧ w120.cell? ⟨gb322, 0, none⟩ = some (.int .i64 t319) ∧ w120.cell? ⟨gb322, 1, none⟩ = some (.int .i64 t320) := hS_
                refine norm_ (a' := ?_) ?_ ?_
                rotate_left
                ·
                 simp only [putAll, Act.put, List.setIfInBounds_toArray, List.set_cons_zero, List.set_cons_succ]
                 rfl
                refine one_ (i := 2) (N := some 93) #[true, true, true, true, true, false, false, true, true, false, false, false, false, false, true, false, false] rfl rfl (one_of HT_.out (by kernel_rfl)) (by decide) (fun K hK => ?_)
                refine goes_ Try.func61 (by kernel_rfl) rfl #[.agg #[.int .i64 t331, .int .i64 t332], .agg #[.int .i64 t311, .int .i64 t312]] (by rfl) rfl rfl (by (try simp only [List.map_toArray, List.map_cons, List.map_nil]); first | done | rfl | (simp only [List.length_drop, List.length_take]; rfl)) ?_
                with_reducible refine (sun_Unit.calls t331 t332 t311 t312 t341 t342 _ A28.out).mono ?_
                rintro e w121 ⟨rfl, hb⟩
                refine ⟨_, rfl, ?_⟩
                replace BK305 := nx_ BK305 hb
                replace BK306 := nx_ BK306 hb
                replace BK310 := nx_ BK310 hb
                replace BK314 := nx_ BK314 hb
                replace BK322 := nx_ BK322 hb
                replace BK326 := nx_ BK326 hb
                replace BK330 := nx_ BK330 hb
                replace BK333 := nx_ BK333 hb
                replace BK340 := nx_ BK340 hb
                replace BK352 := nx_ BK352 hb
                replace HB := hx_ HB hb
                (try clear hb)
                (try clear hb2)
                (try clear hk)
                (try clear hi)
                refine hK.out _ _ ⟨(blk_cell BK333.out 0).trans rfl, (blk_cell BK333.out 1).trans rfl, (blk_cell BK314.out 0).trans rfl, (blk_cell BK314.out 1).trans rfl, (blk_cell BK326.out 0).trans rfl, (blk_cell BK326.out 1).trans rfl, (blk_cell BK310.out 0).trans rfl, (blk_cell BK310.out 1).trans rfl, (blk_cell BK330.out 0).trans rfl, (blk_cell BK330.out 1).trans rfl, (blk_cell BK322.out 0).trans rfl, (blk_cell BK322.out 1).trans rfl⟩ (fun hHeld => ?_)
                clear hK K
                refine norm_ (a' := ?_) ?_ ?_
                rotate_left
                ·
                 show Act.put _ (some 93) _ = _
                 simp only [Act.put, List.setIfInBounds_toArray, List.set_cons_zero, List.set_cons_succ, i64_w, i32_w]
                 rfl
                exact norm_ (by (simp only [putAll, Act.put, List.setIfInBounds_toArray, List.set_cons_zero, List.set_cons_succ]) <;> rfl) (hJ2_14 (gb352) _ ⟨hHeld, (gr_ BK305.out), (gr_ BK306.out), (gr_ BK310.out), (gr_ BK314.out), (gr_ BK322.out), (gr_ BK326.out), (gr_ BK330.out), (gr_ BK333.out), (gr_ BK340.out), (gr_ BK352.out), GW352.out, GE352.out, NB305_352.out, NB305_352.out.symm, NB306_352.out, NB306_352.out.symm, NB310_352.out, NB310_352.out.symm, NB314_352.out, NB314_352.out.symm, NB322_352.out, NB322_352.out.symm, NB326_352.out, NB326_352.out.symm, NB330_352.out, NB330_352.out.symm, NB333_352.out, NB333_352.out.symm, NB340_352.out, NB340_352.out.symm, (by repeat (first | (with_reducible first | exact HB.out | apply below_alloc | apply pw_below_drewN | apply below_drew1 | refine below_set ?_ GE305.out | refine below_set ?_ GE306.out | refine below_set ?_ GE310.out | refine below_set ?_ GE314.out | refine below_set ?_ GE322.out | refine below_set ?_ GE326.out | refine below_set ?_ GE330.out | refine below_set ?_ GE333.out | refine below_set ?_ GE340.out | refine below_set ?_ GE352.out) | exact HB.out))⟩)
              ·
               skip
               rintro _ w120 ⟨hS_, h0_, h1_, h2_, h3_, h4_, h5_, h6_, h7_, h8_, h9_⟩
               replace BK305 : Aside0 (w120.heap[gb305]? = some (.cells #[.int .i64 0, .int .i64 0] 23 (0, 0))) := ⟨h0_⟩
               replace BK306 : Aside0 (w120.heap[gb306]? = some (.cells #[.int .i64 0, .int .i64 0] 23 (0, 0))) := ⟨h1_⟩
               replace BK310 : Aside0 (w120.heap[gb310]? = some (.cells #[.int .i64 t307, .int .i64 t308] 23 (0, 0))) := ⟨h2_⟩
               replace BK314 : Aside0 (w120.heap[gb314]? = some (.cells #[.int .i64 t311, .int .i64 t312] 23 (0, 0))) := ⟨h3_⟩
               replace BK322 : Aside0 (w120.heap[gb322]? = some (.cells #[.int .i64 t319, .int .i64 t320] 23 (0, 0))) := ⟨h4_⟩
               replace BK326 : Aside0 (w120.heap[gb326]? = some (.cells #[.int .i64 t323, .int .i64 t324] 23 (0, 0))) := ⟨h5_⟩
               replace BK330 : Aside0 (w120.heap[gb330]? = some (.cells #[.int .i64 t327, .int .i64 t328] 23 (0, 0))) := ⟨h6_⟩
               replace BK333 : Aside0 (w120.heap[gb333]? = some (.cells #[.int .i64 t331, .int .i64 t332] 23 (0, 0))) := ⟨h7_⟩
               replace BK340 : Aside0 (w120.heap[gb340]? = some (.cells #[.int .i64 t338, .int .i64 t339] 23 (0, 0))) := ⟨h8_⟩
               replace HB : Aside0 (Below w.heap.size w w120) := ⟨h9_⟩
               clear h0_ h1_ h2_ h3_ h4_ h5_ h6_ h7_ h8_ h9_
               have hHeld : w120.cell? ⟨gb333, 0, none⟩ = some (.int .i64 t331) ∧ w120.cell? ⟨gb333, 1, none⟩ = some (.int .i64 t332) ∧ w120.cell? ⟨gb314, 0, none⟩ = some (.int .i64 t311) ∧ w120.cell? ⟨gb314, 1, none⟩ = some (.int .i64 t312) ∧ w120.cell? ⟨gb326, 0, none⟩ = some (.int .i64 t323) ∧ w120.cell? ⟨gb326, 1, none⟩ = some (.int .i64 t324) ∧ w120.cell? ⟨gb310, 0, none⟩ = some (.int .i64 t307) ∧ w120.cell? ⟨gb310, 1, none⟩ = some (.int .i64 t308) ∧ w120.cell? ⟨gb330, 0, none⟩ = some (.int .i64 t327) ∧ w120.cell? ⟨gb330, 1, none⟩ = some (.int .i64 t328) ∧ w120.cell? ⟨gb322, 0, none⟩ = some (.int .i64 t319) ∧ w120.cell? ⟨gb322, 1, none⟩ = some (.int .i64 t320) := hS_
               refine norm_ (a' := ?_) ?_ ?_
               rotate_left
               ·
                simp only [putAll, Act.put, List.setIfInBounds_toArray, List.set_cons_zero, List.set_cons_succ]
                rfl
               refine two_ (i := 5) (j := 14) (Ni := some 96) (Nj := some 24) #[true, true, true, true, true, true, false, true, true, false, false, false, false, false, false, false, false] #[true, true, true, true, true, false, false, true, true, false, false, false, false, false, true, false, false] rfl rfl rfl rfl (two_of HT_.out (by kernel_rfl)) (by decide) (by decide) (fun K hK => ?_) (fun K hK => ?_)
               ·
                skip
                refine goes_ Try.func61 (by kernel_rfl) rfl #[.agg #[.int .i64 t323, .int .i64 t324], .agg #[.int .i64 t307, .int .i64 t308]] (by rfl) rfl rfl (by (try simp only [List.map_toArray, List.map_cons, List.map_nil]); first | done | rfl | (simp only [List.length_drop, List.length_take]; rfl)) ?_
                with_reducible refine (sun_Unit.calls t323 t324 t307 t308 t343 t344 _ A29.out).mono ?_
                rintro e w121 ⟨rfl, hb⟩
                refine ⟨_, rfl, ?_⟩
                replace BK305 := nx_ BK305 hb
                replace BK306 := nx_ BK306 hb
                replace BK310 := nx_ BK310 hb
                replace BK314 := nx_ BK314 hb
                replace BK322 := nx_ BK322 hb
                replace BK326 := nx_ BK326 hb
                replace BK330 := nx_ BK330 hb
                replace BK333 := nx_ BK333 hb
                replace BK340 := nx_ BK340 hb
                replace HB := hx_ HB hb
                (try clear hb)
                (try clear hb2)
                (try clear hk)
                (try clear hi)
                refine hK.out _ _ ⟨(blk_cell BK333.out 0).trans rfl, (blk_cell BK333.out 1).trans rfl, (blk_cell BK314.out 0).trans rfl, (blk_cell BK314.out 1).trans rfl, (blk_cell BK326.out 0).trans rfl, (blk_cell BK326.out 1).trans rfl, (blk_cell BK310.out 0).trans rfl, (blk_cell BK310.out 1).trans rfl, (blk_cell BK330.out 0).trans rfl, (blk_cell BK330.out 1).trans rfl, (blk_cell BK322.out 0).trans rfl, (blk_cell BK322.out 1).trans rfl⟩ (fun hHeld => ?_)
                clear hK K
                refine norm_ (a' := ?_) ?_ ?_
                rotate_left
                ·
                 show Act.put _ (some 96) _ = _
                 simp only [Act.put, List.setIfInBounds_toArray, List.set_cons_zero, List.set_cons_succ, i64_w, i32_w]
                 rfl
                exact norm_ (by (simp only [putAll, Act.put, List.setIfInBounds_toArray, List.set_cons_zero, List.set_cons_succ]) <;> rfl) (hJ2_5 () _ ⟨hHeld, (gr_ BK305.out), (gr_ BK306.out), (gr_ BK310.out), (gr_ BK314.out), (gr_ BK322.out), (gr_ BK326.out), (gr_ BK330.out), (gr_ BK333.out), (gr_ BK340.out), (by repeat (first | (with_reducible first | exact HB.out | apply below_alloc | apply pw_below_drewN | apply below_drew1 | refine below_set ?_ GE305.out | refine below_set ?_ GE306.out | refine below_set ?_ GE310.out | refine below_set ?_ GE314.out | refine below_set ?_ GE322.out | refine below_set ?_ GE326.out | refine below_set ?_ GE330.out | refine below_set ?_ GE333.out | refine below_set ?_ GE340.out) | exact HB.out))⟩)
               ·
                skip
                refine box_step ?hg (N := 24) ?hd (cs := #[.int .i64 0, .int .i64 0]) (t := 23) ?hr ?_; (case hd => rfl); (case hg => rfl); (case hr => first | (go_simp; done) | (go_simp; rfl))
                intro gb352 hg w121 hbox hb
                have BK352 := Aside0.mk hbox
                have GW352 := ge_ (hb_ HB.out) hg
                have GE352 := ge_ (hb_ HB.out) hg
                have NB305_352 := nb_ (gr_ BK305.out) hg
                have NB306_352 := nb_ (gr_ BK306.out) hg
                have NB310_352 := nb_ (gr_ BK310.out) hg
                have NB314_352 := nb_ (gr_ BK314.out) hg
                have NB322_352 := nb_ (gr_ BK322.out) hg
                have NB326_352 := nb_ (gr_ BK326.out) hg
                have NB330_352 := nb_ (gr_ BK330.out) hg
                have NB333_352 := nb_ (gr_ BK333.out) hg
                have NB340_352 := nb_ (gr_ BK340.out) hg
                replace BK305 := nx_ BK305 hb
                replace BK306 := nx_ BK306 hb
                replace BK310 := nx_ BK310 hb
                replace BK314 := nx_ BK314 hb
                replace BK322 := nx_ BK322 hb
                replace BK326 := nx_ BK326 hb
                replace BK330 := nx_ BK330 hb
                replace BK333 := nx_ BK333 hb
                replace BK340 := nx_ BK340 hb
                replace HB := hx_ HB hb
                clear hb hbox hg
                refine hK.out _ _ ⟨(blk_cell BK333.out 0).trans rfl, (blk_cell BK333.out 1).trans rfl, (blk_cell BK314.out 0).trans rfl, (blk_cell BK314.out 1).trans rfl, (blk_cell BK326.out 0).trans rfl, (blk_cell BK326.out 1).trans rfl, (blk_cell BK310.out 0).trans rfl, (blk_cell BK310.out 1).trans rfl, (blk_cell BK330.out 0).trans rfl, (blk_cell BK330.out 1).trans rfl, (blk_cell BK322.out 0).trans rfl, (blk_cell BK322.out 1).trans rfl⟩ (fun hHeld => ?_)
                clear hK K
                refine norm_ (a' := ?_) ?_ ?_
                rotate_left
                ·
                 show Act.put _ (some 24) _ = _
                 simp only [Act.put, List.setIfInBounds_toArray, List.set_cons_zero, List.set_cons_succ, i64_w, i32_w]
                 rfl
                exact norm_ (by (simp only [putAll, Act.put, List.setIfInBounds_toArray, List.set_cons_zero, List.set_cons_succ]) <;> rfl) (hJ2_14 (gb352) _ ⟨hHeld, (gr_ BK305.out), (gr_ BK306.out), (gr_ BK310.out), (gr_ BK314.out), (gr_ BK322.out), (gr_ BK326.out), (gr_ BK330.out), (gr_ BK333.out), (gr_ BK340.out), (gr_ BK352.out), GW352.out, GE352.out, NB305_352.out, NB305_352.out.symm, NB306_352.out, NB306_352.out.symm, NB310_352.out, NB310_352.out.symm, NB314_352.out, NB314_352.out.symm, NB322_352.out, NB322_352.out.symm, NB326_352.out, NB326_352.out.symm, NB330_352.out, NB330_352.out.symm, NB333_352.out, NB333_352.out.symm, NB340_352.out, NB340_352.out.symm, (by repeat (first | (with_reducible first | exact HB.out | apply below_alloc | apply pw_below_drewN | apply below_drew1 | refine below_set ?_ GE305.out | refine below_set ?_ GE306.out | refine below_set ?_ GE310.out | refine below_set ?_ GE314.out | refine below_set ?_ GE322.out | refine below_set ?_ GE326.out | refine below_set ?_ GE330.out | refine below_set ?_ GE333.out | refine below_set ?_ GE340.out | refine below_set ?_ GE352.out) | exact HB.out))⟩)
             ·
              skip
              rintro gb352 w121 ⟨hS_, h0_, h1_, h2_, h3_, h4_, h5_, h6_, h7_, h8_, h9_, h10_, h11_, h12_, h13_, h14_, h15_, h16_, h17_, h18_, h19_, h20_, h21_, h22_, h23_, h24_, h25_, h26_, h27_, h28_, h29_, h30_⟩
              replace BK305 : Aside0 (w121.heap[gb305]? = some (.cells #[.int .i64 0, .int .i64 0] 23 (0, 0))) := ⟨h0_⟩
              replace BK306 : Aside0 (w121.heap[gb306]? = some (.cells #[.int .i64 0, .int .i64 0] 23 (0, 0))) := ⟨h1_⟩
              replace BK310 : Aside0 (w121.heap[gb310]? = some (.cells #[.int .i64 t307, .int .i64 t308] 23 (0, 0))) := ⟨h2_⟩
              replace BK314 : Aside0 (w121.heap[gb314]? = some (.cells #[.int .i64 t311, .int .i64 t312] 23 (0, 0))) := ⟨h3_⟩
              replace BK322 : Aside0 (w121.heap[gb322]? = some (.cells #[.int .i64 t319, .int .i64 t320] 23 (0, 0))) := ⟨h4_⟩
              replace BK326 : Aside0 (w121.heap[gb326]? = some (.cells #[.int .i64 t323, .int .i64 t324] 23 (0, 0))) := ⟨h5_⟩
              replace BK330 : Aside0 (w121.heap[gb330]? = some (.cells #[.int .i64 t327, .int .i64 t328] 23 (0, 0))) := ⟨h6_⟩
              replace BK333 : Aside0 (w121.heap[gb333]? = some (.cells #[.int .i64 t331, .int .i64 t332] 23 (0, 0))) := ⟨h7_⟩
              replace BK340 : Aside0 (w121.heap[gb340]? = some (.cells #[.int .i64 t338, .int .i64 t339] 23 (0, 0))) := ⟨h8_⟩
              have BK352 : Aside0 (w121.heap[gb352]? = some (.cells #[.int .i64 0, .int .i64 0] 23 (0, 0))) := ⟨h9_⟩
              have GW352 : Aside0 (w.heap.size ≤ gb352) := ⟨h10_⟩
              have GE352 : Aside0 (w.heap.size ≤ gb352) := ⟨h11_⟩
              have NB305_352 : Aside0 (gb305 ≠ gb352) := ⟨h12_⟩
              have NB306_352 : Aside0 (gb306 ≠ gb352) := ⟨h14_⟩
              have NB310_352 : Aside0 (gb310 ≠ gb352) := ⟨h16_⟩
              have NB314_352 : Aside0 (gb314 ≠ gb352) := ⟨h18_⟩
              have NB322_352 : Aside0 (gb322 ≠ gb352) := ⟨h20_⟩
              have NB326_352 : Aside0 (gb326 ≠ gb352) := ⟨h22_⟩
              have NB330_352 : Aside0 (gb330 ≠ gb352) := ⟨h24_⟩
              have NB333_352 : Aside0 (gb333 ≠ gb352) := ⟨h26_⟩
              have NB340_352 : Aside0 (gb340 ≠ gb352) := ⟨h28_⟩
              replace HB : Aside0 (Below w.heap.size w w121) := ⟨h30_⟩
              clear h0_ h1_ h2_ h3_ h4_ h5_ h6_ h7_ h8_ h9_ h10_ h11_ h12_ h13_ h14_ h15_ h16_ h17_ h18_ h19_ h20_ h21_ h22_ h23_ h24_ h25_ h26_ h27_ h28_ h29_ h30_
              have hHeld : w121.cell? ⟨gb333, 0, none⟩ = some (.int .i64 t331) ∧ w121.cell? ⟨gb333, 1, none⟩ = some (.int .i64 t332) ∧ w121.cell? ⟨gb314, 0, none⟩ = some (.int .i64 t311) ∧ w121.cell? ⟨gb314, 1, none⟩ = some (.int .i64 t312) ∧ w121.cell? ⟨gb326, 0, none⟩ = some (.int .i64 t323) ∧ w121.cell? ⟨gb326, 1, none⟩ = some (.int .i64 t324) ∧ w121.cell? ⟨gb310, 0, none⟩ = some (.int .i64 t307) ∧ w121.cell? ⟨gb310, 1, none⟩ = some (.int .i64 t308) ∧ w121.cell? ⟨gb330, 0, none⟩ = some (.int .i64 t327) ∧ w121.cell? ⟨gb330, 1, none⟩ = some (.int .i64 t328) ∧ w121.cell? ⟨gb322, 0, none⟩ = some (.int .i64 t319) ∧ w121.cell? ⟨gb322, 1, none⟩ = some (.int .i64 t320) := hS_
              refine norm_ (a' := ?_) ?_ ?_
              rotate_left
              ·
               simp only [putAll, Act.put, List.setIfInBounds_toArray, List.set_cons_zero, List.set_cons_succ]
               rfl
              refine one_ (i := 5) (N := some 96) #[true, true, true, true, true, true, false, true, true, false, false, false, false, false, true, false, false] rfl rfl (one_of HT_.out (by kernel_rfl)) (by decide) (fun K hK => ?_)
              refine goes_ Try.func61 (by kernel_rfl) rfl #[.agg #[.int .i64 t323, .int .i64 t324], .agg #[.int .i64 t307, .int .i64 t308]] (by rfl) rfl rfl (by (try simp only [List.map_toArray, List.map_cons, List.map_nil]); first | done | rfl | (simp only [List.length_drop, List.length_take]; rfl)) ?_
              with_reducible refine (sun_Unit.calls t323 t324 t307 t308 t343 t344 _ A29.out).mono ?_
              rintro e w122 ⟨rfl, hb⟩
              refine ⟨_, rfl, ?_⟩
              replace BK305 := nx_ BK305 hb
              replace BK306 := nx_ BK306 hb
              replace BK310 := nx_ BK310 hb
              replace BK314 := nx_ BK314 hb
              replace BK322 := nx_ BK322 hb
              replace BK326 := nx_ BK326 hb
              replace BK330 := nx_ BK330 hb
              replace BK333 := nx_ BK333 hb
              replace BK340 := nx_ BK340 hb
              replace BK352 := nx_ BK352 hb
              replace HB := hx_ HB hb
              (try clear hb)
              (try clear hb2)
              (try clear hk)
              (try clear hi)
              refine hK.out _ _ ⟨(blk_cell BK333.out 0).trans rfl, (blk_cell BK333.out 1).trans rfl, (blk_cell BK314.out 0).trans rfl, (blk_cell BK314.out 1).trans rfl, (blk_cell BK326.out 0).trans rfl, (blk_cell BK326.out 1).trans rfl, (blk_cell BK310.out 0).trans rfl, (blk_cell BK310.out 1).trans rfl, (blk_cell BK330.out 0).trans rfl, (blk_cell BK330.out 1).trans rfl, (blk_cell BK322.out 0).trans rfl, (blk_cell BK322.out 1).trans rfl⟩ (fun hHeld => ?_)
              clear hK K
              refine norm_ (a' := ?_) ?_ ?_
              rotate_left
              ·
               show Act.put _ (some 96) _ = _
               simp only [Act.put, List.setIfInBounds_toArray, List.set_cons_zero, List.set_cons_succ, i64_w, i32_w]
               rfl
              exact norm_ (by (simp only [putAll, Act.put, List.setIfInBounds_toArray, List.set_cons_zero, List.set_cons_succ]) <;> rfl) (hJ2_5_14 (gb352) _ ⟨hHeld, (gr_ BK305.out), (gr_ BK306.out), (gr_ BK310.out), (gr_ BK314.out), (gr_ BK322.out), (gr_ BK326.out), (gr_ BK330.out), (gr_ BK333.out), (gr_ BK340.out), (gr_ BK352.out), GW352.out, GE352.out, NB305_352.out, NB305_352.out.symm, NB306_352.out, NB306_352.out.symm, NB310_352.out, NB310_352.out.symm, NB314_352.out, NB314_352.out.symm, NB322_352.out, NB322_352.out.symm, NB326_352.out, NB326_352.out.symm, NB330_352.out, NB330_352.out.symm, NB333_352.out, NB333_352.out.symm, NB340_352.out, NB340_352.out.symm, (by repeat (first | (with_reducible first | exact HB.out | apply below_alloc | apply pw_below_drewN | apply below_drew1 | refine below_set ?_ GE305.out | refine below_set ?_ GE306.out | refine below_set ?_ GE310.out | refine below_set ?_ GE314.out | refine below_set ?_ GE322.out | refine below_set ?_ GE326.out | refine below_set ?_ GE330.out | refine below_set ?_ GE333.out | refine below_set ?_ GE340.out | refine below_set ?_ GE352.out) | exact HB.out))⟩)
            ·
             skip
             rintro _ w121 ⟨hS_, h0_, h1_, h2_, h3_, h4_, h5_, h6_, h7_, h8_, h9_⟩
             replace BK305 : Aside0 (w121.heap[gb305]? = some (.cells #[.int .i64 0, .int .i64 0] 23 (0, 0))) := ⟨h0_⟩
             replace BK306 : Aside0 (w121.heap[gb306]? = some (.cells #[.int .i64 0, .int .i64 0] 23 (0, 0))) := ⟨h1_⟩
             replace BK310 : Aside0 (w121.heap[gb310]? = some (.cells #[.int .i64 t307, .int .i64 t308] 23 (0, 0))) := ⟨h2_⟩
             replace BK314 : Aside0 (w121.heap[gb314]? = some (.cells #[.int .i64 t311, .int .i64 t312] 23 (0, 0))) := ⟨h3_⟩
             replace BK322 : Aside0 (w121.heap[gb322]? = some (.cells #[.int .i64 t319, .int .i64 t320] 23 (0, 0))) := ⟨h4_⟩
             replace BK326 : Aside0 (w121.heap[gb326]? = some (.cells #[.int .i64 t323, .int .i64 t324] 23 (0, 0))) := ⟨h5_⟩
             replace BK330 : Aside0 (w121.heap[gb330]? = some (.cells #[.int .i64 t327, .int .i64 t328] 23 (0, 0))) := ⟨h6_⟩
             replace BK333 : Aside0 (w121.heap[gb333]? = some (.cells #[.int .i64 t331, .int .i64 t332] 23 (0, 0))) := ⟨h7_⟩
             replace BK340 : Aside0 (w121.heap[gb340]? = some (.cells #[.int .i64 t338, .int .i64 t339] 23 (0, 0))) := ⟨h8_⟩
             replace HB : Aside0 (Below w.heap.size w w121) := ⟨h9_⟩
             clear h0_ h1_ h2_ h3_ h4_ h5_ h6_ h7_ h8_ h9_
             have hHeld : w121.cell? ⟨gb333, 0, none⟩ = some (.int .i64 t331) ∧ w121.cell? ⟨gb333, 1, none⟩ = some (.int .i64 t332) ∧ w121.cell? ⟨gb314, 0, none⟩ = some (.int .i64 t311) ∧ w121.cell? ⟨gb314, 1, none⟩ = some (.int .i64 t312) ∧ w121.cell? ⟨gb326, 0, none⟩ = some (.int .i64 t323) ∧ w121.cell? ⟨gb326, 1, none⟩ = some (.int .i64 t324) ∧ w121.cell? ⟨gb310, 0, none⟩ = some (.int .i64 t307) ∧ w121.cell? ⟨gb310, 1, none⟩ = some (.int .i64 t308) ∧ w121.cell? ⟨gb330, 0, none⟩ = some (.int .i64 t327) ∧ w121.cell? ⟨gb330, 1, none⟩ = some (.int .i64 t328) ∧ w121.cell? ⟨gb322, 0, none⟩ = some (.int .i64 t319) ∧ w121.cell? ⟨gb322, 1, none⟩ = some (.int .i64 t320) := hS_
             refine norm_ (a' := ?_) ?_ ?_
             rotate_left
             ·
              simp only [putAll, Act.put, List.setIfInBounds_toArray, List.set_cons_zero, List.set_cons_succ]
              rfl
             refine two_ (i := 6) (j := 14) (Ni := some 97) (Nj := some 24) #[true, true, true, true, true, true, true, true, true, false, false, false, false, false, false, false, false] #[true, true, true, true, true, true, false, true, true, false, false, false, false, false, true, false, false] rfl rfl rfl rfl (two_of HT_.out (by kernel_rfl)) (by decide) (by decide) (fun K hK => ?_) (fun K hK => ?_)
             ·
              skip
              refine goes_ Try.func102 (by kernel_rfl) rfl #[.agg #[.int .i64 t341, .int .i64 t342], .agg #[.int .i64 t343, .int .i64 t344]] (by rfl) rfl rfl (by (try simp only [List.map_toArray, List.map_cons, List.map_nil]); first | done | rfl | (simp only [List.length_drop, List.length_take]; rfl)) ?_
              with_reducible refine (sun_less.calls t341 t342 t343 t344 t345 t346 _ A30.out).mono ?_
              rintro e w122 ⟨rfl, hb⟩
              refine ⟨_, rfl, ?_⟩
              replace BK305 := nx_ BK305 hb
              replace BK306 := nx_ BK306 hb
              replace BK310 := nx_ BK310 hb
              replace BK314 := nx_ BK314 hb
              replace BK322 := nx_ BK322 hb
              replace BK326 := nx_ BK326 hb
              replace BK330 := nx_ BK330 hb
              replace BK333 := nx_ BK333 hb
              replace BK340 := nx_ BK340 hb
              replace HB := hx_ HB hb
              (try clear hb)
              (try clear hb2)
              (try clear hk)
              (try clear hi)
              refine hK.out _ _ ⟨(blk_cell BK333.out 0).trans rfl, (blk_cell BK333.out 1).trans rfl, (blk_cell BK314.out 0).trans rfl, (blk_cell BK314.out 1).trans rfl, (blk_cell BK326.out 0).trans rfl, (blk_cell BK326.out 1).trans rfl, (blk_cell BK310.out 0).trans rfl, (blk_cell BK310.out 1).trans rfl, (blk_cell BK330.out 0).trans rfl, (blk_cell BK330.out 1).trans rfl, (blk_cell BK322.out 0).trans rfl, (blk_cell BK322.out 1).trans rfl⟩ (fun hHeld => ?_)
              clear hK K
              refine norm_ (a' := ?_) ?_ ?_
              rotate_left
              ·
               show Act.put _ (some 97) _ = _
               simp only [Act.put, List.setIfInBounds_toArray, List.set_cons_zero, List.set_cons_succ, i64_w, i32_w]
               rfl
              exact norm_ (by (simp only [putAll, Act.put, List.setIfInBounds_toArray, List.set_cons_zero, List.set_cons_succ]) <;> rfl) (hJ2_5_6 () _ ⟨hHeld, (gr_ BK305.out), (gr_ BK306.out), (gr_ BK310.out), (gr_ BK314.out), (gr_ BK322.out), (gr_ BK326.out), (gr_ BK330.out), (gr_ BK333.out), (gr_ BK340.out), (by repeat (first | (with_reducible first | exact HB.out | apply below_alloc | apply pw_below_drewN | apply below_drew1 | refine below_set ?_ GE305.out | refine below_set ?_ GE306.out | refine below_set ?_ GE310.out | refine below_set ?_ GE314.out | refine below_set ?_ GE322.out | refine below_set ?_ GE326.out | refine below_set ?_ GE330.out | refine below_set ?_ GE333.out | refine below_set ?_ GE340.out) | exact HB.out))⟩)
             ·
              skip
              refine box_step ?hg (N := 24) ?hd (cs := #[.int .i64 0, .int .i64 0]) (t := 23) ?hr ?_; (case hd => rfl); (case hg => rfl); (case hr => first | (go_simp; done) | (go_simp; rfl))
              intro gb352 hg w122 hbox hb
              have BK352 := Aside0.mk hbox
              have GW352 := ge_ (hb_ HB.out) hg
              have GE352 := ge_ (hb_ HB.out) hg
              have NB305_352 := nb_ (gr_ BK305.out) hg
              have NB306_352 := nb_ (gr_ BK306.out) hg
              have NB310_352 := nb_ (gr_ BK310.out) hg
              have NB314_352 := nb_ (gr_ BK314.out) hg
              have NB322_352 := nb_ (gr_ BK322.out) hg
              have NB326_352 := nb_ (gr_ BK326.out) hg
              have NB330_352 := nb_ (gr_ BK330.out) hg
              have NB333_352 := nb_ (gr_ BK333.out) hg
              have NB340_352 := nb_ (gr_ BK340.out) hg
              replace BK305 := nx_ BK305 hb
              replace BK306 := nx_ BK306 hb
              replace BK310 := nx_ BK310 hb
              replace BK314 := nx_ BK314 hb
              replace BK322 := nx_ BK322 hb
              replace BK326 := nx_ BK326 hb
              replace BK330 := nx_ BK330 hb
              replace BK333 := nx_ BK333 hb
              replace BK340 := nx_ BK340 hb
              replace HB := hx_ HB hb
              clear hb hbox hg
              refine hK.out _ _ ⟨(blk_cell BK333.out 0).trans rfl, (blk_cell BK333.out 1).trans rfl, (blk_cell BK314.out 0).trans rfl, (blk_cell BK314.out 1).trans rfl, (blk_cell BK326.out 0).trans rfl, (blk_cell BK326.out 1).trans rfl, (blk_cell BK310.out 0).trans rfl, (blk_cell BK310.out 1).trans rfl, (blk_cell BK330.out 0).trans rfl, (blk_cell BK330.out 1).trans rfl, (blk_cell BK322.out 0).trans rfl, (blk_cell BK322.out 1).trans rfl⟩ (fun hHeld => ?_)
              clear hK K
              refine norm_ (a' := ?_) ?_ ?_
              rotate_left
              ·
               show Act.put _ (some 24) _ = _
               simp only [Act.put, List.setIfInBounds_toArray, List.set_cons_zero, List.set_cons_succ, i64_w, i32_w]
               rfl
              exact norm_ (by (simp only [putAll, Act.put, List.setIfInBounds_toArray, List.set_cons_zero, List.set_cons_succ]) <;> rfl) (hJ2_5_14 (gb352) _ ⟨hHeld, (gr_ BK305.out), (gr_ BK306.out), (gr_ BK310.out), (gr_ BK314.out), (gr_ BK322.out), (gr_ BK326.out), (gr_ BK330.out), (gr_ BK333.out), (gr_ BK340.out), (gr_ BK352.out), GW352.out, GE352.out, NB305_352.out, NB305_352.out.symm, NB306_352.out, NB306_352.out.symm, NB310_352.out, NB310_352.out.symm, NB314_352.out, NB314_352.out.symm, NB322_352.out, NB322_352.out.symm, NB326_352.out, NB326_352.out.symm, NB330_352.out, NB330_352.out.symm, NB333_352.out, NB333_352.out.symm, NB340_352.out, NB340_352.out.symm, (by repeat (first | (with_reducible first | exact HB.out | apply below_alloc | apply pw_below_drewN | apply below_drew1 | refine below_set ?_ GE305.out | refine below_set ?_ GE306.out | refine below_set ?_ GE310.out | refine below_set ?_ GE314.out | refine below_set ?_ GE322.out | refine below_set ?_ GE326.out | refine below_set ?_ GE330.out | refine below_set ?_ GE333.out | refine below_set ?_ GE340.out | refine below_set ?_ GE352.out) | exact HB.out))⟩)
           ·
            skip
            rintro gb352 w122 ⟨hS_, h0_, h1_, h2_, h3_, h4_, h5_, h6_, h7_, h8_, h9_, h10_, h11_, h12_, h13_, h14_, h15_, h16_, h17_, h18_, h19_, h20_, h21_, h22_, h23_, h24_, h25_, h26_, h27_, h28_, h29_, h30_⟩
            replace BK305 : Aside0 (w122.heap[gb305]? = some (.cells #[.int .i64 0, .int .i64 0] 23 (0, 0))) := ⟨h0_⟩
            replace BK306 : Aside0 (w122.heap[gb306]? = some (.cells #[.int .i64 0, .int .i64 0] 23 (0, 0))) := ⟨h1_⟩
            replace BK310 : Aside0 (w122.heap[gb310]? = some (.cells #[.int .i64 t307, .int .i64 t308] 23 (0, 0))) := ⟨h2_⟩
            replace BK314 : Aside0 (w122.heap[gb314]? = some (.cells #[.int .i64 t311, .int .i64 t312] 23 (0, 0))) := ⟨h3_⟩
            replace BK322 : Aside0 (w122.heap[gb322]? = some (.cells #[.int .i64 t319, .int .i64 t320] 23 (0, 0))) := ⟨h4_⟩
            replace BK326 : Aside0 (w122.heap[gb326]? = some (.cells #[.int .i64 t323, .int .i64 t324] 23 (0, 0))) := ⟨h5_⟩
            replace BK330 : Aside0 (w122.heap[gb330]? = some (.cells #[.int .i64 t327, .int .i64 t328] 23 (0, 0))) := ⟨h6_⟩
            replace BK333 : Aside0 (w122.heap[gb333]? = some (.cells #[.int .i64 t331, .int .i64 t332] 23 (0, 0))) := ⟨h7_⟩
            replace BK340 : Aside0 (w122.heap[gb340]? = some (.cells #[.int .i64 t338, .int .i64 t339] 23 (0, 0))) := ⟨h8_⟩
            have BK352 : Aside0 (w122.heap[gb352]? = some (.cells #[.int .i64 0, .int .i64 0] 23 (0, 0))) := ⟨h9_⟩
            have GW352 : Aside0 (w.heap.size ≤ gb352) := ⟨h10_⟩
            have GE352 : Aside0 (w.heap.size ≤ gb352) := ⟨h11_⟩
            have NB305_352 : Aside0 (gb305 ≠ gb352) := ⟨h12_⟩
            have NB306_352 : Aside0 (gb306 ≠ gb352) := ⟨h14_⟩
            have NB310_352 : Aside0 (gb310 ≠ gb352) := ⟨h16_⟩
            have NB314_352 : Aside0 (gb314 ≠ gb352) := ⟨h18_⟩
            have NB322_352 : Aside0 (gb322 ≠ gb352) := ⟨h20_⟩
            have NB326_352 : Aside0 (gb326 ≠ gb352) := ⟨h22_⟩
            have NB330_352 : Aside0 (gb330 ≠ gb352) := ⟨h24_⟩
            have NB333_352 : Aside0 (gb333 ≠ gb352) := ⟨h26_⟩
            have NB340_352 : Aside0 (gb340 ≠ gb352) := ⟨h28_⟩
            replace HB : Aside0 (Below w.heap.size w w122) := ⟨h30_⟩
            clear h0_ h1_ h2_ h3_ h4_ h5_ h6_ h7_ h8_ h9_ h10_ h11_ h12_ h13_ h14_ h15_ h16_ h17_ h18_ h19_ h20_ h21_ h22_ h23_ h24_ h25_ h26_ h27_ h28_ h29_ h30_
            have hHeld : w122.cell? ⟨gb333, 0, none⟩ = some (.int .i64 t331) ∧ w122.cell? ⟨gb333, 1, none⟩ = some (.int .i64 t332) ∧ w122.cell? ⟨gb314, 0, none⟩ = some (.int .i64 t311) ∧ w122.cell? ⟨gb314, 1, none⟩ = some (.int .i64 t312) ∧ w122.cell? ⟨gb326, 0, none⟩ = some (.int .i64 t323) ∧ w122.cell? ⟨gb326, 1, none⟩ = some (.int .i64 t324) ∧ w122.cell? ⟨gb310, 0, none⟩ = some (.int .i64 t307) ∧ w122.cell? ⟨gb310, 1, none⟩ = some (.int .i64 t308) ∧ w122.cell? ⟨gb330, 0, none⟩ = some (.int .i64 t327) ∧ w122.cell? ⟨gb330, 1, none⟩ = some (.int .i64 t328) ∧ w122.cell? ⟨gb322, 0, none⟩ = some (.int .i64 t319) ∧ w122.cell? ⟨gb322, 1, none⟩ = some (.int .i64 t320) := hS_
            refine norm_ (a' := ?_) ?_ ?_
            rotate_left
            ·
             simp only [putAll, Act.put, List.setIfInBounds_toArray, List.set_cons_zero, List.set_cons_succ]
             rfl
            refine one_ (i := 6) (N := some 97) #[true, true, true, true, true, true, true, true, true, false, false, false, false, false, true, false, false] rfl rfl (one_of HT_.out (by kernel_rfl)) (by decide) (fun K hK => ?_)
            refine goes_ Try.func102 (by kernel_rfl) rfl #[.agg #[.int .i64 t341, .int .i64 t342], .agg #[.int .i64 t343, .int .i64 t344]] (by rfl) rfl rfl (by (try simp only [List.map_toArray, List.map_cons, List.map_nil]); first | done | rfl | (simp only [List.length_drop, List.length_take]; rfl)) ?_
            with_reducible refine (sun_less.calls t341 t342 t343 t344 t345 t346 _ A30.out).mono ?_
            rintro e w123 ⟨rfl, hb⟩
            refine ⟨_, rfl, ?_⟩
            replace BK305 := nx_ BK305 hb
            replace BK306 := nx_ BK306 hb
            replace BK310 := nx_ BK310 hb
            replace BK314 := nx_ BK314 hb
            replace BK322 := nx_ BK322 hb
            replace BK326 := nx_ BK326 hb
            replace BK330 := nx_ BK330 hb
            replace BK333 := nx_ BK333 hb
            replace BK340 := nx_ BK340 hb
            replace BK352 := nx_ BK352 hb
            replace HB := hx_ HB hb
            (try clear hb)
            (try clear hb2)
            (try clear hk)
            (try clear hi)
            refine hK.out _ _ ⟨(blk_cell BK333.out 0).trans rfl, (blk_cell BK333.out 1).trans rfl, (blk_cell BK314.out 0).trans rfl, (blk_cell BK314.out 1).trans rfl, (blk_cell BK326.out 0).trans rfl, (blk_cell BK326.out 1).trans rfl, (blk_cell BK310.out 0).trans rfl, (blk_cell BK310.out 1).trans rfl, (blk_cell BK330.out 0).trans rfl, (blk_cell BK330.out 1).trans rfl, (blk_cell BK322.out 0).trans rfl, (blk_cell BK322.out 1).trans rfl⟩ (fun hHeld => ?_)
            clear hK K
            refine norm_ (a' := ?_) ?_ ?_
            rotate_left
            ·
             show Act.put _ (some 97) _ = _
             simp only [Act.put, List.setIfInBounds_toArray, List.set_cons_zero, List.set_cons_succ, i64_w, i32_w]
             rfl
            exact norm_ (by (simp only [putAll, Act.put, List.setIfInBounds_toArray, List.set_cons_zero, List.set_cons_succ]) <;> rfl) (hJ2_5_6_14 (gb352) _ ⟨hHeld, (gr_ BK305.out), (gr_ BK306.out), (gr_ BK310.out), (gr_ BK314.out), (gr_ BK322.out), (gr_ BK326.out), (gr_ BK330.out), (gr_ BK333.out), (gr_ BK340.out), (gr_ BK352.out), GW352.out, GE352.out, NB305_352.out, NB305_352.out.symm, NB306_352.out, NB306_352.out.symm, NB310_352.out, NB310_352.out.symm, NB314_352.out, NB314_352.out.symm, NB322_352.out, NB322_352.out.symm, NB326_352.out, NB326_352.out.symm, NB330_352.out, NB330_352.out.symm, NB333_352.out, NB333_352.out.symm, NB340_352.out, NB340_352.out.symm, (by repeat (first | (with_reducible first | exact HB.out | apply below_alloc | apply pw_below_drewN | apply below_drew1 | refine below_set ?_ GE305.out | refine below_set ?_ GE306.out | refine below_set ?_ GE310.out | refine below_set ?_ GE314.out | refine below_set ?_ GE322.out | refine below_set ?_ GE326.out | refine below_set ?_ GE330.out | refine below_set ?_ GE333.out | refine below_set ?_ GE340.out | refine below_set ?_ GE352.out) | exact HB.out))⟩)
          ·
           skip
           rintro _ w122 ⟨hS_, h0_, h1_, h2_, h3_, h4_, h5_, h6_, h7_, h8_, h9_⟩
           replace BK305 : Aside0 (w122.heap[gb305]? = some (.cells #[.int .i64 0, .int .i64 0] 23 (0, 0))) := ⟨h0_⟩
           replace BK306 : Aside0 (w122.heap[gb306]? = some (.cells #[.int .i64 0, .int .i64 0] 23 (0, 0))) := ⟨h1_⟩
           replace BK310 : Aside0 (w122.heap[gb310]? = some (.cells #[.int .i64 t307, .int .i64 t308] 23 (0, 0))) := ⟨h2_⟩
           replace BK314 : Aside0 (w122.heap[gb314]? = some (.cells #[.int .i64 t311, .int .i64 t312] 23 (0, 0))) := ⟨h3_⟩
           replace BK322 : Aside0 (w122.heap[gb322]? = some (.cells #[.int .i64 t319, .int .i64 t320] 23 (0, 0))) := ⟨h4_⟩
           replace BK326 : Aside0 (w122.heap[gb326]? = some (.cells #[.int .i64 t323, .int .i64 t324] 23 (0, 0))) := ⟨h5_⟩
           replace BK330 : Aside0 (w122.heap[gb330]? = some (.cells #[.int .i64 t327, .int .i64 t328] 23 (0, 0))) := ⟨h6_⟩
           replace BK333 : Aside0 (w122.heap[gb333]? = some (.cells #[.int .i64 t331, .int .i64 t332] 23 (0, 0))) := ⟨h7_⟩
           replace BK340 : Aside0 (w122.heap[gb340]? = some (.cells #[.int .i64 t338, .int .i64 t339] 23 (0, 0))) := ⟨h8_⟩
           replace HB : Aside0 (Below w.heap.size w w122) := ⟨h9_⟩
           clear h0_ h1_ h2_ h3_ h4_ h5_ h6_ h7_ h8_ h9_
           have hHeld : w122.cell? ⟨gb333, 0, none⟩ = some (.int .i64 t331) ∧ w122.cell? ⟨gb333, 1, none⟩ = some (.int .i64 t332) ∧ w122.cell? ⟨gb314, 0, none⟩ = some (.int .i64 t311) ∧ w122.cell? ⟨gb314, 1, none⟩ = some (.int .i64 t312) ∧ w122.cell? ⟨gb326, 0, none⟩ = some (.int .i64 t323) ∧ w122.cell? ⟨gb326, 1, none⟩ = some (.int .i64 t324) ∧ w122.cell? ⟨gb310, 0, none⟩ = some (.int .i64 t307) ∧ w122.cell? ⟨gb310, 1, none⟩ = some (.int .i64 t308) ∧ w122.cell? ⟨gb330, 0, none⟩ = some (.int .i64 t327) ∧ w122.cell? ⟨gb330, 1, none⟩ = some (.int .i64 t328) ∧ w122.cell? ⟨gb322, 0, none⟩ = some (.int .i64 t319) ∧ w122.cell? ⟨gb322, 1, none⟩ = some (.int .i64 t320) := hS_
           refine norm_ (a' := ?_) ?_ ?_
           rotate_left
           ·
            simp only [putAll, Act.put, List.setIfInBounds_toArray, List.set_cons_zero, List.set_cons_succ]
            rfl
           refine two_ (i := 9) (j := 14) (Ni := some 100) (Nj := some 24) #[true, true, true, true, true, true, true, true, true, true, false, false, false, false, false, false, false] #[true, true, true, true, true, true, true, true, true, false, false, false, false, false, true, false, false] rfl rfl rfl rfl (two_of HT_.out (by kernel_rfl)) (by decide) (by decide) (fun K hK => ?_) (fun K hK => ?_)
           ·
            skip
            refine goes_ Try.func61 (by kernel_rfl) rfl #[.agg #[.int .i64 t327, .int .i64 t328], .agg #[.int .i64 t319, .int .i64 t320]] (by rfl) rfl rfl (by (try simp only [List.map_toArray, List.map_cons, List.map_nil]); first | done | rfl | (simp only [List.length_drop, List.length_take]; rfl)) ?_
            with_reducible refine (sun_Unit.calls t327 t328 t319 t320 t347 t348 _ A31.out).mono ?_
            rintro e w123 ⟨rfl, hb⟩
            refine ⟨_, rfl, ?_⟩
            replace BK305 := nx_ BK305 hb
            replace BK306 := nx_ BK306 hb
            replace BK310 := nx_ BK310 hb
            replace BK314 := nx_ BK314 hb
            replace BK322 := nx_ BK322 hb
            replace BK326 := nx_ BK326 hb
            replace BK330 := nx_ BK330 hb
            replace BK333 := nx_ BK333 hb
            replace BK340 := nx_ BK340 hb
            replace HB := hx_ HB hb
            (try clear hb)
            (try clear hb2)
            (try clear hk)
            (try clear hi)
            refine hK.out _ _ ⟨(blk_cell BK333.out 0).trans rfl, (blk_cell BK333.out 1).trans rfl, (blk_cell BK314.out 0).trans rfl, (blk_cell BK314.out 1).trans rfl, (blk_cell BK326.out 0).trans rfl, (blk_cell BK326.out 1).trans rfl, (blk_cell BK310.out 0).trans rfl, (blk_cell BK310.out 1).trans rfl, (blk_cell BK330.out 0).trans rfl, (blk_cell BK330.out 1).trans rfl, (blk_cell BK322.out 0).trans rfl, (blk_cell BK322.out 1).trans rfl⟩ (fun hHeld => ?_)
            clear hK K
            refine norm_ (a' := ?_) ?_ ?_
            rotate_left
            ·
             show Act.put _ (some 100) _ = _
             simp only [Act.put, List.setIfInBounds_toArray, List.set_cons_zero, List.set_cons_succ, i64_w, i32_w]
             rfl
            exact norm_ (by (simp only [putAll, Act.put, List.setIfInBounds_toArray, List.set_cons_zero, List.set_cons_succ]) <;> rfl) (hJ2_5_6_9 () _ ⟨hHeld, (gr_ BK305.out), (gr_ BK306.out), (gr_ BK310.out), (gr_ BK314.out), (gr_ BK322.out), (gr_ BK326.out), (gr_ BK330.out), (gr_ BK333.out), (gr_ BK340.out), (by repeat (first | (with_reducible first | exact HB.out | apply below_alloc | apply pw_below_drewN | apply below_drew1 | refine below_set ?_ GE305.out | refine below_set ?_ GE306.out | refine below_set ?_ GE310.out | refine below_set ?_ GE314.out | refine below_set ?_ GE322.out | refine below_set ?_ GE326.out | refine below_set ?_ GE330.out | refine below_set ?_ GE333.out | refine below_set ?_ GE340.out) | exact HB.out))⟩)
           ·
            skip
            refine box_step ?hg (N := 24) ?hd (cs := #[.int .i64 0, .int .i64 0]) (t := 23) ?hr ?_; (case hd => rfl); (case hg => rfl); (case hr => first | (go_simp; done) | (go_simp; rfl))
            intro gb352 hg w123 hbox hb
            have BK352 := Aside0.mk hbox
            have GW352 := ge_ (hb_ HB.out) hg
            have GE352 := ge_ (hb_ HB.out) hg
            have NB305_352 := nb_ (gr_ BK305.out) hg
            have NB306_352 := nb_ (gr_ BK306.out) hg
            have NB310_352 := nb_ (gr_ BK310.out) hg
            have NB314_352 := nb_ (gr_ BK314.out) hg
            have NB322_352 := nb_ (gr_ BK322.out) hg
            have NB326_352 := nb_ (gr_ BK326.out) hg
            have NB330_352 := nb_ (gr_ BK330.out) hg
            have NB333_352 := nb_ (gr_ BK333.out) hg
            have NB340_352 := nb_ (gr_ BK340.out) hg
            replace BK305 := nx_ BK305 hb
            replace BK306 := nx_ BK306 hb
            replace BK310 := nx_ BK310 hb
            replace BK314 := nx_ BK314 hb
            replace BK322 := nx_ BK322 hb
            replace BK326 := nx_ BK326 hb
            replace BK330 := nx_ BK330 hb
            replace BK333 := nx_ BK333 hb
            replace BK340 := nx_ BK340 hb
            replace HB := hx_ HB hb
            clear hb hbox hg
            refine hK.out _ _ ⟨(blk_cell BK333.out 0).trans rfl, (blk_cell BK333.out 1).trans rfl, (blk_cell BK314.out 0).trans rfl, (blk_cell BK314.out 1).trans rfl, (blk_cell BK326.out 0).trans rfl, (blk_cell BK326.out 1).trans rfl, (blk_cell BK310.out 0).trans rfl, (blk_cell BK310.out 1).trans rfl, (blk_cell BK330.out 0).trans rfl, (blk_cell BK330.out 1).trans rfl, (blk_cell BK322.out 0).trans rfl, (blk_cell BK322.out 1).trans rfl⟩ (fun hHeld => ?_)
            clear hK K
            refine norm_ (a' := ?_) ?_ ?_
            rotate_left
            ·
             show Act.put _ (some 24) _ = _
             simp only [Act.put, List.setIfInBounds_toArray, List.set_cons_zero, List.set_cons_succ, i64_w, i32_w]
             rfl
            exact norm_ (by (simp only [putAll, Act.put, List.setIfInBounds_toArray, List.set_cons_zero, List.set_cons_succ]) <;> rfl) (hJ2_5_6_14 (gb352) _ ⟨hHeld, (gr_ BK305.out), (gr_ BK306.out), (gr_ BK310.out), (gr_ BK314.out), (gr_ BK322.out), (gr_ BK326.out), (gr_ BK330.out), (gr_ BK333.out), (gr_ BK340.out), (gr_ BK352.out), GW352.out, GE352.out, NB305_352.out, NB305_352.out.symm, NB306_352.out, NB306_352.out.symm, NB310_352.out, NB310_352.out.symm, NB314_352.out, NB314_352.out.symm, NB322_352.out, NB322_352.out.symm, NB326_352.out, NB326_352.out.symm, NB330_352.out, NB330_352.out.symm, NB333_352.out, NB333_352.out.symm, NB340_352.out, NB340_352.out.symm, (by repeat (first | (with_reducible first | exact HB.out | apply below_alloc | apply pw_below_drewN | apply below_drew1 | refine below_set ?_ GE305.out | refine below_set ?_ GE306.out | refine below_set ?_ GE310.out | refine below_set ?_ GE314.out | refine below_set ?_ GE322.out | refine below_set ?_ GE326.out | refine below_set ?_ GE330.out | refine below_set ?_ GE333.out | refine below_set ?_ GE340.out | refine below_set ?_ GE352.out) | exact HB.out))⟩)
         ·
          skip
          rintro gb352 w123 ⟨hS_, h0_, h1_, h2_, h3_, h4_, h5_, h6_, h7_, h8_, h9_, h10_, h11_, h12_, h13_, h14_, h15_, h16_, h17_, h18_, h19_, h20_, h21_, h22_, h23_, h24_, h25_, h26_, h27_, h28_, h29_, h30_⟩
          replace BK305 : Aside0 (w123.heap[gb305]? = some (.cells #[.int .i64 0, .int .i64 0] 23 (0, 0))) := ⟨h0_⟩
          replace BK306 : Aside0 (w123.heap[gb306]? = some (.cells #[.int .i64 0, .int .i64 0] 23 (0, 0))) := ⟨h1_⟩
          replace BK310 : Aside0 (w123.heap[gb310]? = some (.cells #[.int .i64 t307, .int .i64 t308] 23 (0, 0))) := ⟨h2_⟩
          replace BK314 : Aside0 (w123.heap[gb314]? = some (.cells #[.int .i64 t311, .int .i64 t312] 23 (0, 0))) := ⟨h3_⟩
          replace BK322 : Aside0 (w123.heap[gb322]? = some (.cells #[.int .i64 t319, .int .i64 t320] 23 (0, 0))) := ⟨h4_⟩
          replace BK326 : Aside0 (w123.heap[gb326]? = some (.cells #[.int .i64 t323, .int .i64 t324] 23 (0, 0))) := ⟨h5_⟩
          replace BK330 : Aside0 (w123.heap[gb330]? = some (.cells #[.int .i64 t327, .int .i64 t328] 23 (0, 0))) := ⟨h6_⟩
          replace BK333 : Aside0 (w123.heap[gb333]? = some (.cells #[.int .i64 t331, .int .i64 t332] 23 (0, 0))) := ⟨h7_⟩
          replace BK340 : Aside0 (w123.heap[gb340]? = some (.cells #[.int .i64 t338, .int .i64 t339] 23 (0, 0))) := ⟨h8_⟩
          have BK352 : Aside0 (w123.heap[gb352]? = some (.cells #[.int .i64 0, .int .i64 0] 23 (0, 0))) := ⟨h9_⟩
          have GW352 : Aside0 (w.heap.size ≤ gb352) := ⟨h10_⟩
          have GE352 : Aside0 (w.heap.size ≤ gb352) := ⟨h11_⟩
          have NB305_352 : Aside0 (gb305 ≠ gb352) := ⟨h12_⟩
          have NB306_352 : Aside0 (gb306 ≠ gb352) := ⟨h14_⟩
          have NB310_352 : Aside0 (gb310 ≠ gb352) := ⟨h16_⟩
          have NB314_352 : Aside0 (gb314 ≠ gb352) := ⟨h18_⟩
          have NB322_352 : Aside0 (gb322 ≠ gb352) := ⟨h20_⟩
          have NB326_352 : Aside0 (gb326 ≠ gb352) := ⟨h22_⟩
          have NB330_352 : Aside0 (gb330 ≠ gb352) := ⟨h24_⟩
          have NB333_352 : Aside0 (gb333 ≠ gb352) := ⟨h26_⟩
          have NB340_352 : Aside0 (gb340 ≠ gb352) := ⟨h28_⟩
          replace HB : Aside0 (Below w.heap.size w w123) := ⟨h30_⟩
          clear h0_ h1_ h2_ h3_ h4_ h5_ h6_ h7_ h8_ h9_ h10_ h11_ h12_ h13_ h14_ h15_ h16_ h17_ h18_ h19_ h20_ h21_ h22_ h23_ h24_ h25_ h26_ h27_ h28_ h29_ h30_
          have hHeld : w123.cell? ⟨gb333, 0, none⟩ = some (.int .i64 t331) ∧ w123.cell? ⟨gb333, 1, none⟩ = some (.int .i64 t332) ∧ w123.cell? ⟨gb314, 0, none⟩ = some (.int .i64 t311) ∧ w123.cell? ⟨gb314, 1, none⟩ = some (.int .i64 t312) ∧ w123.cell? ⟨gb326, 0, none⟩ = some (.int .i64 t323) ∧ w123.cell? ⟨gb326, 1, none⟩ = some (.int .i64 t324) ∧ w123.cell? ⟨gb310, 0, none⟩ = some (.int .i64 t307) ∧ w123.cell? ⟨gb310, 1, none⟩ = some (.int .i64 t308) ∧ w123.cell? ⟨gb330, 0, none⟩ = some (.int .i64 t327) ∧ w123.cell? ⟨gb330, 1, none⟩ = some (.int .i64 t328) ∧ w123.cell? ⟨gb322, 0, none⟩ = some (.int .i64 t319) ∧ w123.cell? ⟨gb322, 1, none⟩ = some (.int .i64 t320) := hS_
          refine norm_ (a' := ?_) ?_ ?_
          rotate_left
          ·
           simp only [putAll, Act.put, List.setIfInBounds_toArray, List.set_cons_zero, List.set_cons_succ]
           rfl
          refine one_ (i := 9) (N := some 100) #[true, true, true, true, true, true, true, true, true, true, false, false, false, false, true, false, false] rfl rfl (one_of HT_.out (by kernel_rfl)) (by decide) (fun K hK => ?_)
          refine goes_ Try.func61 (by kernel_rfl) rfl #[.agg #[.int .i64 t327, .int .i64 t328], .agg #[.int .i64 t319, .int .i64 t320]] (by rfl) rfl rfl (by (try simp only [List.map_toArray, List.map_cons, List.map_nil]); first | done | rfl | (simp only [List.length_drop, List.length_take]; rfl)) ?_
          with_reducible refine (sun_Unit.calls t327 t328 t319 t320 t347 t348 _ A31.out).mono ?_
          rintro e w124 ⟨rfl, hb⟩
          refine ⟨_, rfl, ?_⟩
          replace BK305 := nx_ BK305 hb
          replace BK306 := nx_ BK306 hb
          replace BK310 := nx_ BK310 hb
          replace BK314 := nx_ BK314 hb
          replace BK322 := nx_ BK322 hb
          replace BK326 := nx_ BK326 hb
          replace BK330 := nx_ BK330 hb
          replace BK333 := nx_ BK333 hb
          replace BK340 := nx_ BK340 hb
          replace BK352 := nx_ BK352 hb
          replace HB := hx_ HB hb
          (try clear hb)
          (try clear hb2)
          (try clear hk)
          (try clear hi)
          refine hK.out _ _ ⟨(blk_cell BK333.out 0).trans rfl, (blk_cell BK333.out 1).trans rfl, (blk_cell BK314.out 0).trans rfl, (blk_cell BK314.out 1).trans rfl, (blk_cell BK326.out 0).trans rfl, (blk_cell BK326.out 1).trans rfl, (blk_cell BK310.out 0).trans rfl, (blk_cell BK310.out 1).trans rfl, (blk_cell BK330.out 0).trans rfl, (blk_cell BK330.out 1).trans rfl, (blk_cell BK322.out 0).trans rfl, (blk_cell BK322.out 1).trans rfl⟩ (fun hHeld => ?_)
          clear hK K
          refine norm_ (a' := ?_) ?_ ?_
          rotate_left
          ·
           show Act.put _ (some 100) _ = _
           simp only [Act.put, List.setIfInBounds_toArray, List.set_cons_zero, List.set_cons_succ, i64_w, i32_w]
           rfl
          exact norm_ (by (simp only [putAll, Act.put, List.setIfInBounds_toArray, List.set_cons_zero, List.set_cons_succ]) <;> rfl) (hJ2_5_6_9_14 (gb352) _ ⟨hHeld, (gr_ BK305.out), (gr_ BK306.out), (gr_ BK310.out), (gr_ BK314.out), (gr_ BK322.out), (gr_ BK326.out), (gr_ BK330.out), (gr_ BK333.out), (gr_ BK340.out), (gr_ BK352.out), GW352.out, GE352.out, NB305_352.out, NB305_352.out.symm, NB306_352.out, NB306_352.out.symm, NB310_352.out, NB310_352.out.symm, NB314_352.out, NB314_352.out.symm, NB322_352.out, NB322_352.out.symm, NB326_352.out, NB326_352.out.symm, NB330_352.out, NB330_352.out.symm, NB333_352.out, NB333_352.out.symm, NB340_352.out, NB340_352.out.symm, (by repeat (first | (with_reducible first | exact HB.out | apply below_alloc | apply pw_below_drewN | apply below_drew1 | refine below_set ?_ GE305.out | refine below_set ?_ GE306.out | refine below_set ?_ GE310.out | refine below_set ?_ GE314.out | refine below_set ?_ GE322.out | refine below_set ?_ GE326.out | refine below_set ?_ GE330.out | refine below_set ?_ GE333.out | refine below_set ?_ GE340.out | refine below_set ?_ GE352.out) | exact HB.out))⟩)
        ·
         skip
         rintro _ w123 ⟨hS_, h0_, h1_, h2_, h3_, h4_, h5_, h6_, h7_, h8_, h9_⟩
         replace BK305 : Aside0 (w123.heap[gb305]? = some (.cells #[.int .i64 0, .int .i64 0] 23 (0, 0))) := ⟨h0_⟩
         replace BK306 : Aside0 (w123.heap[gb306]? = some (.cells #[.int .i64 0, .int .i64 0] 23 (0, 0))) := ⟨h1_⟩
         replace BK310 : Aside0 (w123.heap[gb310]? = some (.cells #[.int .i64 t307, .int .i64 t308] 23 (0, 0))) := ⟨h2_⟩
         replace BK314 : Aside0 (w123.heap[gb314]? = some (.cells #[.int .i64 t311, .int .i64 t312] 23 (0, 0))) := ⟨h3_⟩
         replace BK322 : Aside0 (w123.heap[gb322]? = some (.cells #[.int .i64 t319, .int .i64 t320] 23 (0, 0))) := ⟨h4_⟩
         replace BK326 : Aside0 (w123.heap[gb326]? = some (.cells #[.int .i64 t323, .int .i64 t324] 23 (0, 0))) := ⟨h5_⟩
         replace BK330 : Aside0 (w123.heap[gb330]? = some (.cells #[.int .i64 t327, .int .i64 t328] 23 (0, 0))) := ⟨h6_⟩
         replace BK333 : Aside0 (w123.heap[gb333]? = some (.cells #[.int .i64 t331, .int .i64 t332] 23 (0, 0))) := ⟨h7_⟩
         replace BK340 : Aside0 (w123.heap[gb340]? = some (.cells #[.int .i64 t338, .int .i64 t339] 23 (0, 0))) := ⟨h8_⟩
         replace HB : Aside0 (Below w.heap.size w w123) := ⟨h9_⟩
         clear h0_ h1_ h2_ h3_ h4_ h5_ h6_ h7_ h8_ h9_
         have hHeld : w123.cell? ⟨gb333, 0, none⟩ = some (.int .i64 t331) ∧ w123.cell? ⟨gb333, 1, none⟩ = some (.int .i64 t332) ∧ w123.cell? ⟨gb314, 0, none⟩ = some (.int .i64 t311) ∧ w123.cell? ⟨gb314, 1, none⟩ = some (.int .i64 t312) ∧ w123.cell? ⟨gb326, 0, none⟩ = some (.int .i64 t323) ∧ w123.cell? ⟨gb326, 1, none⟩ = some (.int .i64 t324) ∧ w123.cell? ⟨gb310, 0, none⟩ = some (.int .i64 t307) ∧ w123.cell? ⟨gb310, 1, none⟩ = some (.int .i64 t308) ∧ w123.cell? ⟨gb330, 0, none⟩ = some (.int .i64 t327) ∧ w123.cell? ⟨gb330, 1, none⟩ = some (.int .i64 t328) ∧ w123.cell? ⟨gb322, 0, none⟩ = some (.int .i64 t319) ∧ w123.cell? ⟨gb322, 1, none⟩ = some (.int .i64 t320) := hS_
         refine norm_ (a' := ?_) ?_ ?_
         rotate_left
         ·
          simp only [putAll, Act.put, List.setIfInBounds_toArray, List.set_cons_zero, List.set_cons_succ]
          rfl
         refine two_ (i := 10) (j := 14) (Ni := some 101) (Nj := some 24) #[true, true, true, true, true, true, true, true, true, true, true, false, false, false, false, false, false] #[true, true, true, true, true, true, true, true, true, true, false, false, false, false, true, false, false] rfl rfl rfl rfl (two_of HT_.out (by kernel_rfl)) (by decide) (by decide) (fun K hK => ?_) (fun K hK => ?_)
         ·
          skip
          refine goes_ Try.func20 (by kernel_rfl) rfl #[.agg #[.int .i64 t345, .int .i64 t346], .agg #[.int .i64 t347, .int .i64 t348]] (by rfl) rfl rfl (by (try simp only [List.map_toArray, List.map_cons, List.map_nil]); first | done | rfl | (simp only [List.length_drop, List.length_take]; rfl)) ?_
          with_reducible refine (trig_Arc.calls kj2 t345 t346 t347 t348 t349 t350 t351 _ A32.out).mono ?_
          rintro e w124 ⟨rfl, hb⟩
          refine ⟨_, rfl, ?_⟩
          replace BK305 := nx_ BK305 hb
          replace BK306 := nx_ BK306 hb
          replace BK310 := nx_ BK310 hb
          replace BK314 := nx_ BK314 hb
          replace BK322 := nx_ BK322 hb
          replace BK326 := nx_ BK326 hb
          replace BK330 := nx_ BK330 hb
          replace BK333 := nx_ BK333 hb
          replace BK340 := nx_ BK340 hb
          replace HB := hx_ HB hb
          (try clear hb)
          (try clear hb2)
          (try clear hk)
          (try clear hi)
          refine hK.out _ _ ⟨(blk_cell BK333.out 0).trans rfl, (blk_cell BK333.out 1).trans rfl, (blk_cell BK314.out 0).trans rfl, (blk_cell BK314.out 1).trans rfl, (blk_cell BK326.out 0).trans rfl, (blk_cell BK326.out 1).trans rfl, (blk_cell BK310.out 0).trans rfl, (blk_cell BK310.out 1).trans rfl, (blk_cell BK330.out 0).trans rfl, (blk_cell BK330.out 1).trans rfl, (blk_cell BK322.out 0).trans rfl, (blk_cell BK322.out 1).trans rfl⟩ (fun hHeld => ?_)
          clear hK K
          refine norm_ (a' := ?_) ?_ ?_
          rotate_left
          ·
           show Act.put _ (some 101) _ = _
           simp only [Act.put, List.setIfInBounds_toArray, List.set_cons_zero, List.set_cons_succ, i64_w, i32_w]
           rfl
          refine pure_ (i := 11) (N := some 90) (v := ?_) (a' := ?_) #[true, true, true, true, true, true, true, true, true, true, true, true, false, false, false, false, false] rfl rfl (any_of HT_.out (by kernel_rfl)) (fun _ _ _ h => h) (Or.inl ⟨by rfl, ?_⟩) ?_ ?_
          rotate_left
          ·
           intro w'
           go_simp
           with_reducible rfl
          rotate_left
          ·
           simp only [Act.put, List.setIfInBounds_toArray, List.set_cons_zero, List.set_cons_succ, i64_w, i32_w]
           rfl
          refine pure_ (i := 12) (N := some 102) (v := ?_) (a' := ?_) #[true, true, true, true, true, true, true, true, true, true, true, true, true, false, false, false, false] rfl rfl (any_of HT_.out (by kernel_rfl)) (fun _ _ _ h => h) (Or.inl ⟨by rfl, ?_⟩) ?_ ?_
          rotate_left
          ·
           intro w'
           go_simp
           with_reducible rfl
          rotate_left
          ·
           simp only [Act.put, List.setIfInBounds_toArray, List.set_cons_zero, List.set_cons_succ, i64_w, i32_w]
           rfl
          refine pure_ (i := 13) (N := some 103) (v := ?_) (a' := ?_) #[true, true, true, true, true, true, true, true, true, true, true, true, true, true, false, false, false] rfl rfl (any_of HT_.out (by kernel_rfl)) (fun _ _ _ h => h) (Or.inl ⟨by rfl, ?_⟩) ?_ ?_
          rotate_left
          ·
           intro w'
           go_simp
           with_reducible rfl
          rotate_left
          ·
           simp only [Act.put, List.setIfInBounds_toArray, List.set_cons_zero, List.set_cons_succ, i64_w, i32_w]
           rfl
          exact norm_ (by (simp only [putAll, Act.put, List.setIfInBounds_toArray, List.set_cons_zero, List.set_cons_succ]) <;> rfl) (hJ2_5_6_9_10 () _ ⟨hHeld, (gr_ BK305.out), (gr_ BK306.out), (gr_ BK310.out), (gr_ BK314.out), (gr_ BK322.out), (gr_ BK326.out), (gr_ BK330.out), (gr_ BK333.out), (gr_ BK340.out), (by repeat (first | (with_reducible first | exact HB.out | apply below_alloc | apply pw_below_drewN | apply below_drew1 | refine below_set ?_ GE305.out | refine below_set ?_ GE306.out | refine below_set ?_ GE310.out | refine below_set ?_ GE314.out | refine below_set ?_ GE322.out | refine below_set ?_ GE326.out | refine below_set ?_ GE330.out | refine below_set ?_ GE333.out | refine below_set ?_ GE340.out) | exact HB.out))⟩)
         ·
          skip
          refine box_step ?hg (N := 24) ?hd (cs := #[.int .i64 0, .int .i64 0]) (t := 23) ?hr ?_; (case hd => rfl); (case hg => rfl); (case hr => first | (go_simp; done) | (go_simp; rfl))
          intro gb352 hg w124 hbox hb
          have BK352 := Aside0.mk hbox
          have GW352 := ge_ (hb_ HB.out) hg
          have GE352 := ge_ (hb_ HB.out) hg
          have NB305_352 := nb_ (gr_ BK305.out) hg
          have NB306_352 := nb_ (gr_ BK306.out) hg
          have NB310_352 := nb_ (gr_ BK310.out) hg
          have NB314_352 := nb_ (gr_ BK314.out) hg
          have NB322_352 := nb_ (gr_ BK322.out) hg
          have NB326_352 := nb_ (gr_ BK326.out) hg
          have NB330_352 := nb_ (gr_ BK330.out) hg
          have NB333_352 := nb_ (gr_ BK333.out) hg
          have NB340_352 := nb_ (gr_ BK340.out) hg
          replace BK305 := nx_ BK305 hb
          replace BK306 := nx_ BK306 hb
          replace BK310 := nx_ BK310 hb
          replace BK314 := nx_ BK314 hb
          replace BK322 := nx_ BK322 hb
          replace BK326 := nx_ BK326 hb
          replace BK330 := nx_ BK330 hb
          replace BK333 := nx_ BK333 hb
          replace BK340 := nx_ BK340 hb
          replace HB := hx_ HB hb
          clear hb hbox hg
          refine hK.out _ _ ⟨(blk_cell BK333.out 0).trans rfl, (blk_cell BK333.out 1).trans rfl, (blk_cell BK314.out 0).trans rfl, (blk_cell BK314.out 1).trans rfl, (blk_cell BK326.out 0).trans rfl, (blk_cell BK326.out 1).trans rfl, (blk_cell BK310.out 0).trans rfl, (blk_cell BK310.out 1).trans rfl, (blk_cell BK330.out 0).trans rfl, (blk_cell BK330.out 1).trans rfl, (blk_cell BK322.out 0).trans rfl, (blk_cell BK322.out 1).trans rfl⟩ (fun hHeld => ?_)
          clear hK K
          refine norm_ (a' := ?_) ?_ ?_
          rotate_left
          ·
           show Act.put _ (some 24) _ = _
           simp only [Act.put, List.setIfInBounds_toArray, List.set_cons_zero, List.set_cons_succ, i64_w, i32_w]
           rfl
          exact norm_ (by (simp only [putAll, Act.put, List.setIfInBounds_toArray, List.set_cons_zero, List.set_cons_succ]) <;> rfl) (hJ2_5_6_9_14 (gb352) _ ⟨hHeld, (gr_ BK305.out), (gr_ BK306.out), (gr_ BK310.out), (gr_ BK314.out), (gr_ BK322.out), (gr_ BK326.out), (gr_ BK330.out), (gr_ BK333.out), (gr_ BK340.out), (gr_ BK352.out), GW352.out, GE352.out, NB305_352.out, NB305_352.out.symm, NB306_352.out, NB306_352.out.symm, NB310_352.out, NB310_352.out.symm, NB314_352.out, NB314_352.out.symm, NB322_352.out, NB322_352.out.symm, NB326_352.out, NB326_352.out.symm, NB330_352.out, NB330_352.out.symm, NB333_352.out, NB333_352.out.symm, NB340_352.out, NB340_352.out.symm, (by repeat (first | (with_reducible first | exact HB.out | apply below_alloc | apply pw_below_drewN | apply below_drew1 | refine below_set ?_ GE305.out | refine below_set ?_ GE306.out | refine below_set ?_ GE310.out | refine below_set ?_ GE314.out | refine below_set ?_ GE322.out | refine below_set ?_ GE326.out | refine below_set ?_ GE330.out | refine below_set ?_ GE333.out | refine below_set ?_ GE340.out | refine below_set ?_ GE352.out) | exact HB.out))⟩)
       ·
        skip
        rintro gb352 w124 ⟨hS_, h0_, h1_, h2_, h3_, h4_, h5_, h6_, h7_, h8_, h9_, h10_, h11_, h12_, h13_, h14_, h15_, h16_, h17_, h18_, h19_, h20_, h21_, h22_, h23_, h24_, h25_, h26_, h27_, h28_, h29_, h30_⟩
        replace BK305 : Aside0 (w124.heap[gb305]? = some (.cells #[.int .i64 0, .int .i64 0] 23 (0, 0))) := ⟨h0_⟩
        replace BK306 : Aside0 (w124.heap[gb306]? = some (.cells #[.int .i64 0, .int .i64 0] 23 (0, 0))) := ⟨h1_⟩
        replace BK310 : Aside0 (w124.heap[gb310]? = some (.cells #[.int .i64 t307, .int .i64 t308] 23 (0, 0))) := ⟨h2_⟩
        replace BK314 : Aside0 (w124.heap[gb314]? = some (.cells #[.int .i64 t311, .int .i64 t312] 23 (0, 0))) := ⟨h3_⟩
        replace BK322 : Aside0 (w124.heap[gb322]? = some (.cells #[.int .i64 t319, .int .i64 t320] 23 (0, 0))) := ⟨h4_⟩
        replace BK326 : Aside0 (w124.heap[gb326]? = some (.cells #[.int .i64 t323, .int .i64 t324] 23 (0, 0))) := ⟨h5_⟩
        replace BK330 : Aside0 (w124.heap[gb330]? = some (.cells #[.int .i64 t327, .int .i64 t328] 23 (0, 0))) := ⟨h6_⟩
        replace BK333 : Aside0 (w124.heap[gb333]? = some (.cells #[.int .i64 t331, .int .i64 t332] 23 (0, 0))) := ⟨h7_⟩
        replace BK340 : Aside0 (w124.heap[gb340]? = some (.cells #[.int .i64 t338, .int .i64 t339] 23 (0, 0))) := ⟨h8_⟩
        have BK352 : Aside0 (w124.heap[gb352]? = some (.cells #[.int .i64 0, .int .i64 0] 23 (0, 0))) := ⟨h9_⟩
        have GW352 : Aside0 (w.heap.size ≤ gb352) := ⟨h10_⟩
        have GE352 : Aside0 (w.heap.size ≤ gb352) := ⟨h11_⟩
        have NB305_352 : Aside0 (gb305 ≠ gb352) := ⟨h12_⟩
        have NB306_352 : Aside0 (gb306 ≠ gb352) := ⟨h14_⟩
        have NB310_352 : Aside0 (gb310 ≠ gb352) := ⟨h16_⟩
        have NB314_352 : Aside0 (gb314 ≠ gb352) := ⟨h18_⟩
        have NB322_352 : Aside0 (gb322 ≠ gb352) := ⟨h20_⟩
        have NB326_352 : Aside0 (gb326 ≠ gb352) := ⟨h22_⟩
        have NB330_352 : Aside0 (gb330 ≠ gb352) := ⟨h24_⟩
        have NB333_352 : Aside0 (gb333 ≠ gb352) := ⟨h26_⟩
        have NB340_352 : Aside0 (gb340 ≠ gb352) := ⟨h28_⟩
        replace HB : Aside0 (Below w.heap.size w w124) := ⟨h30_⟩
        clear h0_ h1_ h2_ h3_ h4_ h5_ h6_ h7_ h8_ h9_ h10_ h11_ h12_ h13_ h14_ h15_ h16_ h17_ h18_ h19_ h20_ h21_ h22_ h23_ h24_ h25_ h26_ h27_ h28_ h29_ h30_
        have hHeld : w124.cell? ⟨gb333, 0, none⟩ = some (.int .i64 t331) ∧ w124.cell? ⟨gb333, 1, none⟩ = some (.int .i64 t332) ∧ w124.cell? ⟨gb314, 0, none⟩ = some (.int .i64 t311) ∧ w124.cell? ⟨gb314, 1, none⟩ = some (.int .i64 t312) ∧ w124.cell? ⟨gb326, 0, none⟩ = some (.int .i64 t323) ∧ w124.cell? ⟨gb326, 1, none⟩ = some (.int .i64 t324) ∧ w124.cell? ⟨gb310, 0, none⟩ = some (.int .i64 t307) ∧ w124.cell? ⟨gb310, 1, none⟩ = some (.int .i64 t308) ∧ w124.cell? ⟨gb330, 0, none⟩ = some (.int .i64 t327) ∧ w124.cell? ⟨gb330, 1, none⟩ = some (.int .i64 t328) ∧ w124.cell? ⟨gb322, 0, none⟩ = some (.int .i64 t319) ∧ w124.cell? ⟨gb322, 1, none⟩ = some (.int .i64 t320) := hS_
        refine norm_ (a' := ?_) ?_ ?_
        rotate_left
        ·
         simp only [putAll, Act.put, List.setIfInBounds_toArray, List.set_cons_zero, List.set_cons_succ]
         rfl
        refine one_ (i := 10) (N := some 101) #[true, true, true, true, true, true, true, true, true, true, true, false, false, false, true, false, false] rfl rfl (one_of HT_.out (by kernel_rfl)) (by decide) (fun K hK => ?_)
        refine goes_ Try.func20 (by kernel_rfl) rfl #[.agg #[.int .i64 t345, .int .i64 t346], .agg #[.int .i64 t347, .int .i64 t348]] (by rfl) rfl rfl (by (try simp only [List.map_toArray, List.map_cons, List.map_nil]); first | done | rfl | (simp only [List.length_drop, List.length_take]; rfl)) ?_
        with_reducible refine (trig_Arc.calls kj2 t345 t346 t347 t348 t349 t350 t351 _ A32.out).mono ?_
        rintro e w125 ⟨rfl, hb⟩
        refine ⟨_, rfl, ?_⟩
        replace BK305 := nx_ BK305 hb
        replace BK306 := nx_ BK306 hb
        replace BK310 := nx_ BK310 hb
        replace BK314 := nx_ BK314 hb
        replace BK322 := nx_ BK322 hb
        replace BK326 := nx_ BK326 hb
        replace BK330 := nx_ BK330 hb
        replace BK333 := nx_ BK333 hb
        replace BK340 := nx_ BK340 hb
        replace BK352 := nx_ BK352 hb
        replace HB := hx_ HB hb
        (try clear hb)
        (try clear hb2)
        (try clear hk)
        (try clear hi)
        refine hK.out _ _ ⟨(blk_cell BK333.out 0).trans rfl, (blk_cell BK333.out 1).trans rfl, (blk_cell BK314.out 0).trans rfl, (blk_cell BK314.out 1).trans rfl, (blk_cell BK326.out 0).trans rfl, (blk_cell BK326.out 1).trans rfl, (blk_cell BK310.out 0).trans rfl, (blk_cell BK310.out 1).trans rfl, (blk_cell BK330.out 0).trans rfl, (blk_cell BK330.out 1).trans rfl, (blk_cell BK322.out 0).trans rfl, (blk_cell BK322.out 1).trans rfl⟩ (fun hHeld => ?_)
        clear hK K
        refine norm_ (a' := ?_) ?_ ?_
        rotate_left
        ·
         show Act.put _ (some 101) _ = _
         simp only [Act.put, List.setIfInBounds_toArray, List.set_cons_zero, List.set_cons_succ, i64_w, i32_w]
         rfl
        refine pure_ (i := 11) (N := some 90) (v := ?_) (a' := ?_) #[true, true, true, true, true, true, true, true, true, true, true, true, false, false, true, false, false] rfl rfl (any_of HT_.out (by kernel_rfl)) (fun _ _ _ h => h) (Or.inl ⟨by rfl, ?_⟩) ?_ ?_
        rotate_left
        ·
         intro w'
         go_simp
         with_reducible rfl
        rotate_left
        ·
         simp only [Act.put, List.setIfInBounds_toArray, List.set_cons_zero, List.set_cons_succ, i64_w, i32_w]
         rfl
        refine pure_ (i := 12) (N := some 102) (v := ?_) (a' := ?_) #[true, true, true, true, true, true, true, true, true, true, true, true, true, false, true, false, false] rfl rfl (any_of HT_.out (by kernel_rfl)) (fun _ _ _ h => h) (Or.inl ⟨by rfl, ?_⟩) ?_ ?_
        rotate_left
        ·
         intro w'
         go_simp
         with_reducible rfl
        rotate_left
        ·
         simp only [Act.put, List.setIfInBounds_toArray, List.set_cons_zero, List.set_cons_succ, i64_w, i32_w]
         rfl
        refine pure_ (i := 13) (N := some 103) (v := ?_) (a' := ?_) #[true, true, true, true, true, true, true, true, true, true, true, true, true, true, true, false, false] rfl rfl (any_of HT_.out (by kernel_rfl)) (fun _ _ _ h => h) (Or.inl ⟨by rfl, ?_⟩) ?_ ?_
        rotate_left
        ·
         intro w'
         go_simp
         with_reducible rfl
        rotate_left
        ·
         simp only [Act.put, List.setIfInBounds_toArray, List.set_cons_zero, List.set_cons_succ, i64_w, i32_w]
         rfl
        exact norm_ (by (simp only [putAll, Act.put, List.setIfInBounds_toArray, List.set_cons_zero, List.set_cons_succ]) <;> rfl) (hJ2_5_6_9_10_14 (gb352) _ ⟨hHeld, (gr_ BK305.out), (gr_ BK306.out), (gr_ BK310.out), (gr_ BK314.out), (gr_ BK322.out), (gr_ BK326.out), (gr_ BK330.out), (gr_ BK333.out), (gr_ BK340.out), (gr_ BK352.out), GW352.out, GE352.out, NB305_352.out, NB305_352.out.symm, NB306_352.out, NB306_352.out.symm, NB310_352.out, NB310_352.out.symm, NB314_352.out, NB314_352.out.symm, NB322_352.out, NB322_352.out.symm, NB326_352.out, NB326_352.out.symm, NB330_352.out, NB330_352.out.symm, NB333_352.out, NB333_352.out.symm, NB340_352.out, NB340_352.out.symm, (by repeat (first | (with_reducible first | exact HB.out | apply below_alloc | apply pw_below_drewN | apply below_drew1 | refine below_set ?_ GE305.out | refine below_set ?_ GE306.out | refine below_set ?_ GE310.out | refine below_set ?_ GE314.out | refine below_set ?_ GE322.out | refine below_set ?_ GE326.out | refine below_set ?_ GE330.out | refine below_set ?_ GE333.out | refine below_set ?_ GE340.out | refine below_set ?_ GE352.out) | exact HB.out))⟩)
      ·
       skip
       rintro _ w124 ⟨hS_, h0_, h1_, h2_, h3_, h4_, h5_, h6_, h7_, h8_, h9_⟩
       replace BK305 : Aside0 (w124.heap[gb305]? = some (.cells #[.int .i64 0, .int .i64 0] 23 (0, 0))) := ⟨h0_⟩
       replace BK306 : Aside0 (w124.heap[gb306]? = some (.cells #[.int .i64 0, .int .i64 0] 23 (0, 0))) := ⟨h1_⟩
       replace BK310 : Aside0 (w124.heap[gb310]? = some (.cells #[.int .i64 t307, .int .i64 t308] 23 (0, 0))) := ⟨h2_⟩
       replace BK314 : Aside0 (w124.heap[gb314]? = some (.cells #[.int .i64 t311, .int .i64 t312] 23 (0, 0))) := ⟨h3_⟩
       replace BK322 : Aside0 (w124.heap[gb322]? = some (.cells #[.int .i64 t319, .int .i64 t320] 23 (0, 0))) := ⟨h4_⟩
       replace BK326 : Aside0 (w124.heap[gb326]? = some (.cells #[.int .i64 t323, .int .i64 t324] 23 (0, 0))) := ⟨h5_⟩
       replace BK330 : Aside0 (w124.heap[gb330]? = some (.cells #[.int .i64 t327, .int .i64 t328] 23 (0, 0))) := ⟨h6_⟩
       replace BK333 : Aside0 (w124.heap[gb333]? = some (.cells #[.int .i64 t331, .int .i64 t332] 23 (0, 0))) := ⟨h7_⟩
       replace BK340 : Aside0 (w124.heap[gb340]? = some (.cells #[.int .i64 t338, .int .i64 t339] 23 (0, 0))) := ⟨h8_⟩
       replace HB : Aside0 (Below w.heap.size w w124) := ⟨h9_⟩
       clear h0_ h1_ h2_ h3_ h4_ h5_ h6_ h7_ h8_ h9_
       have hHeld : w124.cell? ⟨gb333, 0, none⟩ = some (.int .i64 t331) ∧ w124.cell? ⟨gb333, 1, none⟩ = some (.int .i64 t332) ∧ w124.cell? ⟨gb314, 0, none⟩ = some (.int .i64 t311) ∧ w124.cell? ⟨gb314, 1, none⟩ = some (.int .i64 t312) ∧ w124.cell? ⟨gb326, 0, none⟩ = some (.int .i64 t323) ∧ w124.cell? ⟨gb326, 1, none⟩ = some (.int .i64 t324) ∧ w124.cell? ⟨gb310, 0, none⟩ = some (.int .i64 t307) ∧ w124.cell? ⟨gb310, 1, none⟩ = some (.int .i64 t308) ∧ w124.cell? ⟨gb330, 0, none⟩ = some (.int .i64 t327) ∧ w124.cell? ⟨gb330, 1, none⟩ = some (.int .i64 t328) ∧ w124.cell? ⟨gb322, 0, none⟩ = some (.int .i64 t319) ∧ w124.cell? ⟨gb322, 1, none⟩ = some (.int .i64 t320) := hS_
       refine norm_ (a' := ?_) ?_ ?_
       rotate_left
       ·
        simp only [putAll, Act.put, List.setIfInBounds_toArray, List.set_cons_zero, List.set_cons_succ]
        rfl
       refine one_ (i := 14) (N := some 24) #[true, true, true, true, true, true, true, true, true, true, true, true, true, true, true, false, false] rfl rfl (one_of HT_.out (by kernel_rfl)) (by decide) (fun K hK => ?_)
       refine box_step ?hg (N := 24) ?hd (cs := #[.int .i64 0, .int .i64 0]) (t := 23) ?hr ?_; (case hd => rfl); (case hg => rfl); (case hr => first | (go_simp; done) | (go_simp; rfl))
       intro gb352 hg w125 hbox hb
       have BK352 := Aside0.mk hbox
       have GW352 := ge_ (hb_ HB.out) hg
       have GE352 := ge_ (hb_ HB.out) hg
       have NB305_352 := nb_ (gr_ BK305.out) hg
       have NB306_352 := nb_ (gr_ BK306.out) hg
       have NB310_352 := nb_ (gr_ BK310.out) hg
       have NB314_352 := nb_ (gr_ BK314.out) hg
       have NB322_352 := nb_ (gr_ BK322.out) hg
       have NB326_352 := nb_ (gr_ BK326.out) hg
       have NB330_352 := nb_ (gr_ BK330.out) hg
       have NB333_352 := nb_ (gr_ BK333.out) hg
       have NB340_352 := nb_ (gr_ BK340.out) hg
       replace BK305 := nx_ BK305 hb
       replace BK306 := nx_ BK306 hb
       replace BK310 := nx_ BK310 hb
       replace BK314 := nx_ BK314 hb
       replace BK322 := nx_ BK322 hb
       replace BK326 := nx_ BK326 hb
       replace BK330 := nx_ BK330 hb
       replace BK333 := nx_ BK333 hb
       replace BK340 := nx_ BK340 hb
       replace HB := hx_ HB hb
       clear hb hbox hg
       refine hK.out _ _ ⟨(blk_cell BK333.out 0).trans rfl, (blk_cell BK333.out 1).trans rfl, (blk_cell BK314.out 0).trans rfl, (blk_cell BK314.out 1).trans rfl, (blk_cell BK326.out 0).trans rfl, (blk_cell BK326.out 1).trans rfl, (blk_cell BK310.out 0).trans rfl, (blk_cell BK310.out 1).trans rfl, (blk_cell BK330.out 0).trans rfl, (blk_cell BK330.out 1).trans rfl, (blk_cell BK322.out 0).trans rfl, (blk_cell BK322.out 1).trans rfl⟩ (fun hHeld => ?_)
       clear hK K
       refine norm_ (a' := ?_) ?_ ?_
       rotate_left
       ·
        show Act.put _ (some 24) _ = _
        simp only [Act.put, List.setIfInBounds_toArray, List.set_cons_zero, List.set_cons_succ, i64_w, i32_w]
        rfl
       exact norm_ (by (simp only [putAll, Act.put, List.setIfInBounds_toArray, List.set_cons_zero, List.set_cons_succ]) <;> rfl) (hJ2_5_6_9_10_14 (gb352) _ ⟨hHeld, (gr_ BK305.out), (gr_ BK306.out), (gr_ BK310.out), (gr_ BK314.out), (gr_ BK322.out), (gr_ BK326.out), (gr_ BK330.out), (gr_ BK333.out), (gr_ BK340.out), (gr_ BK352.out), GW352.out, GE352.out, NB305_352.out, NB305_352.out.symm, NB306_352.out, NB306_352.out.symm, NB310_352.out, NB310_352.out.symm, NB314_352.out, NB314_352.out.symm, NB322_352.out, NB322_352.out.symm, NB326_352.out, NB326_352.out.symm, NB330_352.out, NB330_352.out.symm, NB333_352.out, NB333_352.out.symm, NB340_352.out, NB340_352.out.symm, (by repeat (first | (with_reducible first | exact HB.out | apply below_alloc | apply pw_below_drewN | apply below_drew1 | refine below_set ?_ GE305.out | refine below_set ?_ GE306.out | refine below_set ?_ GE310.out | refine below_set ?_ GE314.out | refine below_set ?_ GE322.out | refine below_set ?_ GE326.out | refine below_set ?_ GE330.out | refine below_set ?_ GE333.out | refine below_set ?_ GE340.out | refine below_set ?_ GE352.out) | exact HB.out))⟩)
     rintro gb352 w125 ⟨hS_, h0_, h1_, h2_, h3_, h4_, h5_, h6_, h7_, h8_, h9_, h10_, h11_, h12_, h13_, h14_, h15_, h16_, h17_, h18_, h19_, h20_, h21_, h22_, h23_, h24_, h25_, h26_, h27_, h28_, h29_, h30_⟩
     replace BK305 : Aside0 (w125.heap[gb305]? = some (.cells #[.int .i64 0, .int .i64 0] 23 (0, 0))) := ⟨h0_⟩
     replace BK306 : Aside0 (w125.heap[gb306]? = some (.cells #[.int .i64 0, .int .i64 0] 23 (0, 0))) := ⟨h1_⟩
     replace BK310 : Aside0 (w125.heap[gb310]? = some (.cells #[.int .i64 t307, .int .i64 t308] 23 (0, 0))) := ⟨h2_⟩
     replace BK314 : Aside0 (w125.heap[gb314]? = some (.cells #[.int .i64 t311, .int .i64 t312] 23 (0, 0))) := ⟨h3_⟩
     replace BK322 : Aside0 (w125.heap[gb322]? = some (.cells #[.int .i64 t319, .int .i64 t320] 23 (0, 0))) := ⟨h4_⟩
     replace BK326 : Aside0 (w125.heap[gb326]? = some (.cells #[.int .i64 t323, .int .i64 t324] 23 (0, 0))) := ⟨h5_⟩
     replace BK330 : Aside0 (w125.heap[gb330]? = some (.cells #[.int .i64 t327, .int .i64 t328] 23 (0, 0))) := ⟨h6_⟩
     replace BK333 : Aside0 (w125.heap[gb333]? = some (.cells #[.int .i64 t331, .int .i64 t332] 23 (0, 0))) := ⟨h7_⟩
     replace BK340 : Aside0 (w125.heap[gb340]? = some (.cells #[.int .i64 t338, .int .i64 t339] 23 (0, 0))) := ⟨h8_⟩
     have BK352 : Aside0 (w125.heap[gb352]? = some (.cells #[.int .i64 0, .int .i64 0] 23 (0, 0))) := ⟨h9_⟩
     have GW352 : Aside0 (w.heap.size ≤ gb352) := ⟨h10_⟩
     have GE352 : Aside0 (w.heap.size ≤ gb352) := ⟨h11_⟩
     have NB305_352 : Aside0 (gb305 ≠ gb352) := ⟨h12_⟩
     have NB306_352 : Aside0 (gb306 ≠ gb352) := ⟨h14_⟩
     have NB310_352 : Aside0 (gb310 ≠ gb352) := ⟨h16_⟩
     have NB314_352 : Aside0 (gb314 ≠ gb352) := ⟨h18_⟩
     have NB322_352 : Aside0 (gb322 ≠ gb352) := ⟨h20_⟩
     have NB326_352 : Aside0 (gb326 ≠ gb352) := ⟨h22_⟩
     have NB330_352 : Aside0 (gb330 ≠ gb352) := ⟨h24_⟩
     have NB333_352 : Aside0 (gb333 ≠ gb352) := ⟨h26_⟩
     have NB340_352 : Aside0 (gb340 ≠ gb352) := ⟨h28_⟩
     replace HB : Aside0 (Below w.heap.size w w125) := ⟨h30_⟩
     clear h0_ h1_ h2_ h3_ h4_ h5_ h6_ h7_ h8_ h9_ h10_ h11_ h12_ h13_ h14_ h15_ h16_ h17_ h18_ h19_ h20_ h21_ h22_ h23_ h24_ h25_ h26_ h27_ h28_ h29_ h30_
     have hHeld : w125.cell? ⟨gb333, 0, none⟩ = some (.int .i64 t331) ∧ w125.cell? ⟨gb333, 1, none⟩ = some (.int .i64 t332) ∧ w125.cell? ⟨gb314, 0, none⟩ = some (.int .i64 t311) ∧ w125.cell? ⟨gb314, 1, none⟩ = some (.int .i64 t312) ∧ w125.cell? ⟨gb326, 0, none⟩ = some (.int .i64 t323) ∧ w125.cell? ⟨gb326, 1, none⟩ = some (.int .i64 t324) ∧ w125.cell? ⟨gb310, 0, none⟩ = some (.int .i64 t307) ∧ w125.cell? ⟨gb310, 1, none⟩ = some (.int .i64 t308) ∧ w125.cell? ⟨gb330, 0, none⟩ = some (.int .i64 t327) ∧ w125.cell? ⟨gb330, 1, none⟩ = some (.int .i64 t328) ∧ w125.cell? ⟨gb322, 0, none⟩ = some (.int .i64 t319) ∧ w125.cell? ⟨gb322, 1, none⟩ = some (.int .i64 t320) := hS_
     refine norm_ (a' := ?_) ?_ ?_
     rotate_left
     ·
      simp only [putAll, Act.put, List.setIfInBounds_toArray, List.set_cons_zero, List.set_cons_succ]
      rfl
     refine one_ (i := 15) (N := none) #[true, true, true, true, true, true, true, true, true, true, true, true, true, true, true, true, false] rfl rfl (one_of HT_.out (by kernel_rfl)) (by decide) (fun K hK => ?_)
     have hs126 : w125.cell? ⟨gb352, 0, none⟩ = some (.int .i64 0) := (blk_cell BK352.out 0).trans rfl
     have hfs126 := blk_frozen BK352.out 0
     have hns126_0 := NB305_352.out
     have hns126_1 := NB306_352.out
     have hns126_2 := NB310_352.out
     have hns126_3 := NB314_352.out
     have hns126_4 := NB322_352.out
     have hns126_5 := NB326_352.out
     have hns126_6 := NB330_352.out
     have hns126_7 := NB333_352.out
     have hns126_8 := NB340_352.out
     have hms126_0 := NB305_352.out.symm
     have hms126_1 := NB306_352.out.symm
     have hms126_2 := NB310_352.out.symm
     have hms126_3 := NB314_352.out.symm
     have hms126_4 := NB322_352.out.symm
     have hms126_5 := NB326_352.out.symm
     have hms126_6 := NB330_352.out.symm
     have hms126_7 := NB333_352.out.symm
     have hms126_8 := NB340_352.out.symm
     have hs127 : w125.cell? ⟨gb352, 1, none⟩ = some (.int .i64 0) := (blk_cell BK352.out 1).trans rfl
     have hfs127 := blk_frozen BK352.out 1
     have hns127_0 := NB305_352.out
     have hns127_1 := NB306_352.out
     have hns127_2 := NB310_352.out
     have hns127_3 := NB314_352.out
     have hns127_4 := NB322_352.out
     have hns127_5 := NB326_352.out
     have hns127_6 := NB330_352.out
     have hns127_7 := NB333_352.out
     have hns127_8 := NB340_352.out
     have hms127_0 := NB305_352.out.symm
     have hms127_1 := NB306_352.out.symm
     have hms127_2 := NB310_352.out.symm
     have hms127_3 := NB314_352.out.symm
     have hms127_4 := NB322_352.out.symm
     have hms127_5 := NB326_352.out.symm
     have hms127_6 := NB330_352.out.symm
     have hms127_7 := NB333_352.out.symm
     have hms127_8 := NB340_352.out.symm
     refine skip_ (w1 := ?_) (by rfl) rfl ?_ ?_
     rotate_left
     ·
      go_simp
      rfl
     refine hK.out _ _ ⟨((cell_far (p := ⟨gb352, _, none⟩) NB333_352.out _).trans (((cell_far (p := ⟨gb352, _, none⟩) NB333_352.out _).trans (hHeld.1)))), ((cell_far (p := ⟨gb352, _, none⟩) NB333_352.out _).trans (((cell_far (p := ⟨gb352, _, none⟩) NB333_352.out _).trans (hHeld.2.1)))), ((cell_far (p := ⟨gb352, _, none⟩) NB314_352.out _).trans (((cell_far (p := ⟨gb352, _, none⟩) NB314_352.out _).trans (hHeld.2.2.1)))), ((cell_far (p := ⟨gb352, _, none⟩) NB314_352.out _).trans (((cell_far (p := ⟨gb352, _, none⟩) NB314_352.out _).trans (hHeld.2.2.2.1)))), ((cell_far (p := ⟨gb352, _, none⟩) NB326_352.out _).trans (((cell_far (p := ⟨gb352, _, none⟩) NB326_352.out _).trans (hHeld.2.2.2.2.1)))), ((cell_far (p := ⟨gb352, _, none⟩) NB326_352.out _).trans (((cell_far (p := ⟨gb352, _, none⟩) NB326_352.out _).trans (hHeld.2.2.2.2.2.1)))), ((cell_far (p := ⟨gb352, _, none⟩) NB310_352.out _).trans (((cell_far (p := ⟨gb352, _, none⟩) NB310_352.out _).trans (hHeld.2.2.2.2.2.2.1)))), ((cell_far (p := ⟨gb352, _, none⟩) NB310_352.out _).trans (((cell_far (p := ⟨gb352, _, none⟩) NB310_352.out _).trans (hHeld.2.2.2.2.2.2.2.1)))), ((cell_far (p := ⟨gb352, _, none⟩) NB330_352.out _).trans (((cell_far (p := ⟨gb352, _, none⟩) NB330_352.out _).trans (hHeld.2.2.2.2.2.2.2.2.1)))), ((cell_far (p := ⟨gb352, _, none⟩) NB330_352.out _).trans (((cell_far (p := ⟨gb352, _, none⟩) NB330_352.out _).trans (hHeld.2.2.2.2.2.2.2.2.2.1)))), ((cell_far (p := ⟨gb352, _, none⟩) NB322_352.out _).trans (((cell_far (p := ⟨gb352, _, none⟩) NB322_352.out _).trans (hHeld.2.2.2.2.2.2.2.2.2.2.1)))), ((cell_far (p := ⟨gb352, _, none⟩) NB322_352.out _).trans (((cell_far (p := ⟨gb352, _, none⟩) NB322_352.out _).trans (hHeld.2.2.2.2.2.2.2.2.2.2.2))))⟩ (fun hHeld => ?_)
     clear hK K
     refine pure_ (i := 16) (N := some 25) (v := ?_) (a' := ?_) #[true, true, true, true, true, true, true, true, true, true, true, true, true, true, true, true, true] rfl rfl (any_of HT_.out (by kernel_rfl)) (fun _ _ _ h => h) (Or.inl ⟨by rfl, ?_⟩) ?_ ?_
     rotate_left
     ·
      intro w'
      go_simp
      with_reducible rfl
     rotate_left
     ·
      simp only [Act.put, List.setIfInBounds_toArray, List.set_cons_zero, List.set_cons_succ, i64_w, i32_w]
      rfl
     refine done_ (done_of HT_.out (by kernel_rfl)) ?_
     have hnb128 := NB305_340.out.symm
     have hnc128 := NB305_340.out
     have hnb129 := NB306_340.out.symm
     have hnc129 := NB306_340.out
     have hnb130 := NB310_340.out.symm
     have hnc130 := NB310_340.out
     have hnb131 := NB314_340.out.symm
     have hnc131 := NB314_340.out
     have hnb132 := NB322_340.out.symm
     have hnc132 := NB322_340.out
     have hnb133 := NB326_340.out.symm
     have hnc133 := NB326_340.out
     have hnb134 := NB330_340.out.symm
     have hnc134 := NB330_340.out
     have hnb135 := NB333_340.out.symm
     have hnc135 := NB333_340.out
     have hnb136 := NB340_352.out
     have hnc136 := NB340_352.out.symm
     have hcz137_0 : w125.cell? ⟨gb340, 0, none⟩ = some (.int .i64 t338) := (blk_cell BK340.out 0).trans rfl
     have hcz137_1 : w125.cell? ⟨gb340, 1, none⟩ = some (.int .i64 t339) := (blk_cell BK340.out 1).trans rfl
     have hfz137_0 := blk_frozen BK340.out 0
     have hfz137_1 := blk_frozen BK340.out 1
     try go_wp2_with (first | ((with_reducible refine gate_callee (f := 19) rfl ?_); refine goesL_ (some 111) rfl rfl Try.func19 (by kernel_rfl) rfl #[.agg #[.int .i64 t338, .int .i64 t339]] rfl (by (try simp only [List.map_toArray, List.map_cons, List.map_nil]); first | done | rfl | (simp only [List.length_drop, List.length_take]; rfl)) ?_; (with_reducible refine (trig_ArcSin.calls kj2 t338 t339 t353 t354 t355 _ A34.out).mono ?_); rintro e w138 ⟨rfl, hb⟩; refine ⟨_, rfl, ?_⟩; replace BK305 := Aside0.mk (blk_below (g := gb305) (o := .cells #[.int .i64 0, .int .i64 0] 23 (0, 0)) (gr_ (blk_far (gr_ (blk_far (gr_ BK305.out) NB305_352.out _)) NB305_352.out _)) hb); replace BK306 := Aside0.mk (blk_below (g := gb306) (o := .cells #[.int .i64 0, .int .i64 0] 23 (0, 0)) (gr_ (blk_far (gr_ (blk_far (gr_ BK306.out) NB306_352.out _)) NB306_352.out _)) hb); replace BK310 := Aside0.mk (blk_below (g := gb310) (o := .cells #[.int .i64 t307, .int .i64 t308] 23 (0, 0)) (gr_ (blk_far (gr_ (blk_far (gr_ BK310.out) NB310_352.out _)) NB310_352.out _)) hb); replace BK314 := Aside0.mk (blk_below (g := gb314) (o := .cells #[.int .i64 t311, .int .i64 t312] 23 (0, 0)) (gr_ (blk_far (gr_ (blk_far (gr_ BK314.out) NB314_352.out _)) NB314_352.out _)) hb); replace BK322 := Aside0.mk (blk_below (g := gb322) (o := .cells #[.int .i64 t319, .int .i64 t320] 23 (0, 0)) (gr_ (blk_far (gr_ (blk_far (gr_ BK322.out) NB322_352.out _)) NB322_352.out _)) hb); replace BK326 := Aside0.mk (blk_below (g := gb326) (o := .cells #[.int .i64 t323, .int .i64 t324] 23 (0, 0)) (gr_ (blk_far (gr_ (blk_far (gr_ BK326.out) NB326_352.out _)) NB326_352.out _)) hb); replace BK330 := Aside0.mk (blk_below (g := gb330) (o := .cells #[.int .i64 t327, .int .i64 t328] 23 (0, 0)) (gr_ (blk_far (gr_ (blk_far (gr_ BK330.out) NB330_352.out _)) NB330_352.out _)) hb); replace BK333 := Aside0.mk (blk_below (g := gb333) (o := .cells #[.int .i64 t331, .int .i64 t332] 23 (0, 0)) (gr_ (blk_far (gr_ (blk_far (gr_ BK333.out) NB333_352.out _)) NB333_352.out _)) hb); replace BK340 := Aside0.mk (blk_below (g := gb340) (o := .cells #[.int .i64 t338, .int .i64 t339] 23 (0, 0)) (gr_ (blk_far (gr_ (blk_far (gr_ BK340.out) NB340_352.out _)) NB340_352.out _)) hb); replace BK352 := Aside0.mk (blk_below (g := gb352) (o := .cells #[.int .i64 t349, .int .i64 t350] 23 (0, 0)) (gr_ (blk_put (cs := #[.int .i64 t349, .int .i64 0]) (gr_ (blk_put (cs := #[.int .i64 0, .int .i64 0]) (gr_ BK352.out) 0 _ rfl)) 1 _ rfl)) hb); replace HB := Aside0.mk (below_step (by repeat (first | (with_reducible first | exact HB.out | apply below_alloc | apply pw_below_drewN | apply below_drew1 | refine below_set ?_ GE352.out) | exact HB.out)) hb); (try clear hb); (try clear hb2); (try clear hk); (try clear hi)) | ((with_reducible refine gate_dst (N := 26) rfl ?_); refine box_event ?hg (N := 26) ?hd (cs := #[.int .i64 0, .int .i64 0]) (t := 23) ?hr ?_; (case hd => rfl); (case hg => rfl); (case hr => first | (go_simp; done) | (go_simp; rfl)); intro gb356 hg w139 hbox hb; have BK356 := Aside0.mk hbox; have GE356 := ge_ (hb_ HB.out) hg; have NB305_356 := nb_ (gr_ BK305.out) hg; have NB306_356 := nb_ (gr_ BK306.out) hg; have NB352_356 := nb_ (gr_ BK352.out) hg; replace BK305 := nx_ BK305 hb; replace BK306 := nx_ BK306 hb; replace BK352 := nx_ BK352 hb; replace HB := hx_ HB hb; clear hb hbox hg; have hnb140 := NB305_356.out.symm; have hnc140 := NB305_356.out; have hnb141 := NB306_356.out.symm; have hnc141 := NB306_356.out; have hnb142 := NB352_356.out.symm; have hnc142 := NB352_356.out; have hcz143_0 : w139.cell? ⟨gb356, 0, none⟩ = some (.int .i64 0) := (blk_cell BK356.out 0).trans rfl; have hcz143_1 : w139.cell? ⟨gb356, 1, none⟩ = some (.int .i64 0) := (blk_cell BK356.out 1).trans rfl; have hfz143_0 := blk_frozen BK356.out 0; have hfz143_1 := blk_frozen BK356.out 1))
     have n0_ : Aside0 (((w139.setCell ⟨gb356, 0, none⟩ (.int .i64 t353)).setCell ⟨gb356, 1, none⟩ (.int .i64 t354)).heap[gb305]? = some (.cells #[.int .i64 0, .int .i64 0] 23 (0, 0))) := ⟨(gr_ (blk_far (gr_ (blk_far (gr_ BK305.out) NB305_356.out _)) NB305_356.out _))⟩
     have n1_ : Aside0 (((w139.setCell ⟨gb356, 0, none⟩ (.int .i64 t353)).setCell ⟨gb356, 1, none⟩ (.int .i64 t354)).heap[gb306]? = some (.cells #[.int .i64 0, .int .i64 0] 23 (0, 0))) := ⟨(gr_ (blk_far (gr_ (blk_far (gr_ BK306.out) NB306_356.out _)) NB306_356.out _))⟩
     have n2_ : Aside0 (((w139.setCell ⟨gb356, 0, none⟩ (.int .i64 t353)).setCell ⟨gb356, 1, none⟩ (.int .i64 t354)).heap[gb352]? = some (.cells #[.int .i64 t349, .int .i64 t350] 23 (0, 0))) := ⟨(gr_ (blk_far (gr_ (blk_far (gr_ BK352.out) NB352_356.out _)) NB352_356.out _))⟩
     have n3_ : Aside0 (((w139.setCell ⟨gb356, 0, none⟩ (.int .i64 t353)).setCell ⟨gb356, 1, none⟩ (.int .i64 t354)).heap[gb356]? = some (.cells #[.int .i64 t353, .int .i64 t354] 23 (0, 0))) := ⟨(gr_ (blk_put (cs := #[.int .i64 t353, .int .i64 0]) (gr_ (blk_put (cs := #[.int .i64 0, .int .i64 0]) (gr_ BK356.out) 0 _ rfl)) 1 _ rfl))⟩
     have n4_ : Aside0 (Below w.heap.size w ((w139.setCell ⟨gb356, 0, none⟩ (.int .i64 t353)).setCell ⟨gb356, 1, none⟩ (.int .i64 t354))) := ⟨by repeat (first | (with_reducible first | exact HB.out | apply below_alloc | apply pw_below_drewN | apply below_drew1 | refine below_set ?_ GE305.out | refine below_set ?_ GE306.out | refine below_set ?_ GE352.out | refine below_set ?_ GE356.out) | exact HB.out)⟩
     (try clear BK305)
     (try clear BK306)
     (try clear BK352)
     (try clear BK356)
     (try clear HB)
     generalize ((w139.setCell ⟨gb356, 0, none⟩ (.int .i64 t353)).setCell ⟨gb356, 1, none⟩ (.int .i64 t354)) = w144 at n0_ n1_ n2_ n3_ n4_ ⊢
     have BK305 := n0_
     have BK306 := n1_
     have BK352 := n2_
     have BK356 := n3_
     have HB := n4_
     clear n0_ n1_ n2_ n3_ n4_
     have n0_ := Aside0.mk (blk_drew BK305.out)
     have n1_ := Aside0.mk (blk_drew BK306.out)
     have n2_ := Aside0.mk (blk_drew BK352.out)
     have n3_ := Aside0.mk (blk_drew BK356.out)
     have n4_ := Aside0.mk (below_drew1 HB.out)
     clear BK305
     clear BK306
     clear BK352
     clear BK356
     clear HB
     have BK305 := n0_
     have BK306 := n1_
     have BK352 := n2_
     have BK356 := n3_
     have HB := n4_
     clear n0_ n1_ n2_ n3_ n4_
     refine start_ (n := 5) (S := fun w' => w'.cell? ⟨gb352, 0, none⟩ = some (.int .i64 t349) ∧ w'.cell? ⟨gb352, 1, none⟩ = some (.int .i64 t350) ∧ w'.cell? ⟨gb356, 0, none⟩ = some (.int .i64 t353) ∧ w'.cell? ⟨gb356, 1, none⟩ = some (.int .i64 t354)) (ds := []) #[false, false, false, false, false] (by kernel_rfl) rfl rfl ⟨(blk_cell BK352.out 0).trans rfl, (blk_cell BK352.out 1).trans rfl, (blk_cell BK356.out 0).trans rfl, (blk_cell BK356.out 1).trans rfl⟩ (fun hHeld => ?_)
     generalize w144.drew = w145 at BK305 BK306 BK352 BK356 HB hHeld ⊢
     refine take_ (i := 0) (N := some 114) (v := ?_) (a' := ?_) #[true, false, false, false, false] rfl rfl (by kernel_rfl) (fun _ _ _ h => h) (Or.inl ⟨by rfl, ?_⟩) hHeld ?_ ?_
     rotate_left
     ·
      rintro w' ⟨s0, s1, s2, s3⟩
      go_simp
      with_reducible rfl
     rotate_left
     ·
      simp only [Act.put, List.setIfInBounds_toArray, List.set_cons_zero, List.set_cons_succ, i64_w, i32_w]
      rfl
     refine take_ (i := 1) (N := some 115) (v := ?_) (a' := ?_) #[true, true, false, false, false] rfl rfl (by kernel_rfl) (fun _ _ _ h => h) (Or.inl ⟨by rfl, ?_⟩) hHeld ?_ ?_
     rotate_left
     ·
      rintro w' ⟨s0, s1, s2, s3⟩
      go_simp
      with_reducible rfl
     rotate_left
     ·
      simp only [Act.put, List.setIfInBounds_toArray, List.set_cons_zero, List.set_cons_succ, i64_w, i32_w]
      rfl
     refine one_ (i := 2) (N := none) #[true, true, true, false, false] rfl rfl (by kernel_rfl) (by decide) (fun K hK => ?_)
     have hs146 : w145.cell? ⟨gb305, 0, none⟩ = some (.int .i64 0) := (blk_cell BK305.out 0).trans rfl
     have hfs146 := blk_frozen BK305.out 0
     have hns146_1 := NB305_306.out.symm
     have hns146_2 := NB305_352.out.symm
     have hns146_3 := NB305_356.out.symm
     have hms146_1 := NB305_306.out
     have hms146_2 := NB305_352.out
     have hms146_3 := NB305_356.out
     have hs147 : w145.cell? ⟨gb305, 1, none⟩ = some (.int .i64 0) := (blk_cell BK305.out 1).trans rfl
     have hfs147 := blk_frozen BK305.out 1
     have hns147_1 := NB305_306.out.symm
     have hns147_2 := NB305_352.out.symm
     have hns147_3 := NB305_356.out.symm
     have hms147_1 := NB305_306.out
     have hms147_2 := NB305_352.out
     have hms147_3 := NB305_356.out
     refine skip_ (w1 := ?_) (by rfl) rfl ?_ ?_
     rotate_left
     ·
      go_simp
      rfl
     refine hK.out _ _ ⟨((cell_far (p := ⟨gb305, _, none⟩) NB305_352.out.symm _).trans (((cell_far (p := ⟨gb305, _, none⟩) NB305_352.out.symm _).trans (hHeld.1)))), ((cell_far (p := ⟨gb305, _, none⟩) NB305_352.out.symm _).trans (((cell_far (p := ⟨gb305, _, none⟩) NB305_352.out.symm _).trans (hHeld.2.1)))), ((cell_far (p := ⟨gb305, _, none⟩) NB305_356.out.symm _).trans (((cell_far (p := ⟨gb305, _, none⟩) NB305_356.out.symm _).trans (hHeld.2.2.1)))), ((cell_far (p := ⟨gb305, _, none⟩) NB305_356.out.symm _).trans (((cell_far (p := ⟨gb305, _, none⟩) NB305_356.out.symm _).trans (hHeld.2.2.2))))⟩ (fun hHeld => ?_)
     clear hK K
     refine one_ (i := 3) (N := none) #[true, true, true, true, false] rfl rfl (by kernel_rfl) (by decide) (fun K hK => ?_)
     have hs148 : w145.cell? ⟨gb306, 0, none⟩ = some (.int .i64 0) := (blk_cell BK306.out 0).trans rfl
     have hfs148 := blk_frozen BK306.out 0
     have hns148_0 := NB305_306.out
     have hns148_2 := NB306_352.out.symm
     have hns148_3 := NB306_356.out.symm
     have hms148_0 := NB305_306.out.symm
     have hms148_2 := NB306_352.out
     have hms148_3 := NB306_356.out
     have hs149 : w145.cell? ⟨gb306, 1, none⟩ = some (.int .i64 0) := (blk_cell BK306.out 1).trans rfl
     have hfs149 := blk_frozen BK306.out 1
     have hns149_0 := NB305_306.out
     have hns149_2 := NB306_352.out.symm
     have hns149_3 := NB306_356.out.symm
     have hms149_0 := NB305_306.out.symm
     have hms149_2 := NB306_352.out
     have hms149_3 := NB306_356.out
     refine skip_ (w1 := ?_) (by rfl) rfl ?_ ?_
     rotate_left
     ·
      go_simp
      rfl
     refine hK.out _ _ ⟨((cell_far (p := ⟨gb306, _, none⟩) NB306_352.out.symm _).trans (((cell_far (p := ⟨gb306, _, none⟩) NB306_352.out.symm _).trans (hHeld.1)))), ((cell_far (p := ⟨gb306, _, none⟩) NB306_352.out.symm _).trans (((cell_far (p := ⟨gb306, _, none⟩) NB306_352.out.symm _).trans (hHeld.2.1)))), ((cell_far (p := ⟨gb306, _, none⟩) NB306_356.out.symm _).trans (((cell_far (p := ⟨gb306, _, none⟩) NB306_356.out.symm _).trans (hHeld.2.2.1)))), ((cell_far (p := ⟨gb306, _, none⟩) NB306_356.out.symm _).trans (((cell_far (p := ⟨gb306, _, none⟩) NB306_356.out.symm _).trans (hHeld.2.2.2))))⟩ (fun hHeld => ?_)
     clear hK K
     refine pure_ (i := 4) (N := some 6) (v := ?_) (a' := ?_) #[true, true, true, true, true] rfl rfl (by kernel_rfl) (fun _ _ _ h => h) (Or.inl ⟨by rfl, ?_⟩) ?_ ?_
     rotate_left
     ·
      intro w'
      go_simp
      with_reducible rfl
     rotate_left
     ·
      simp only [Act.put, List.setIfInBounds_toArray, List.set_cons_zero, List.set_cons_succ, i64_w, i32_w]
      rfl
     refine done_ (by kernel_rfl) ?_
     try go_wp2
     refine bodyPost_ret (results_list (rs := [.cell 4 23, .cell 5 23, .tmp 6]) rfl (by simp) (.cell gb305 23 #[.int .i64 t349, .int .i64 t350] (0, 0) _ rfl (gr_ (blk_far (gr_ (blk_far (gr_ (blk_put (cs := #[.int .i64 t349, .int .i64 0]) (gr_ (blk_put (cs := #[.int .i64 0, .int .i64 0]) (gr_ BK305.out) 0 _ rfl)) 1 _ rfl)) NB305_306.out _)) NB305_306.out _)) Try.underlying23 rfl (by kernel_rfl) (.cell gb306 23 #[.int .i64 t353, .int .i64 t354] (0, 0) _ rfl (gr_ (blk_put (cs := #[.int .i64 t353, .int .i64 0]) (gr_ (blk_put (cs := #[.int .i64 0, .int .i64 0]) (gr_ (blk_far (gr_ (blk_far (gr_ BK306.out) NB305_306.out.symm _)) NB305_306.out.symm _)) 0 _ rfl)) 1 _ rfl)) Try.underlying23 rfl (by kernel_rfl) (.tmp .nil)))) rfl ?_
     exact ⟨by first | rfl | (simp [errW_none, errW_some] <;> rfl) | (simp [*, errW_none, errW_some] <;> rfl), by repeat (first | (with_reducible first | exact HB.out | apply below_alloc | apply pw_below_drewN | apply below_drew1 | refine below_set ?_ GE305.out | refine below_set ?_ GE306.out | refine below_set ?_ GE352.out | refine below_set ?_ GE356.out) | exact HB.out)⟩
    ·
     rw [if_neg c33] at H
     have c33b0 : (t351 == 0) = false := beq_eq_false_iff_ne.mpr c33
     have c33b1 : (t351 != 0) = true := bne_iff_ne.mpr c33
     exact absurd H (by simp)

end Go.Proofs.Ytmoffcpbmigngaa.JM
