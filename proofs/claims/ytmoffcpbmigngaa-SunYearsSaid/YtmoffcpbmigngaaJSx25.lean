-- Made by a program of this session (wip/hp.py, over the kit's print) out of the translation. Not trusted: Lean checks it.
import Derived.Test.YtmoffcpbmigngaaJSx0
import Derived.Test.YtmoffcpbmigngaaJSx1
import Derived.Test.YtmoffcpbmigngaaJSx7
import Derived.Test.YtmoffcpbmigngaaJSx8
import Derived.Test.YtmoffcpbmigngaaJSx9
import Derived.Test.YtmoffcpbmigngaaJSx15
import Derived.Test.YtmoffcpbmigngaaJSx18
import Derived.Test.YtmoffcpbmigngaaJSx19
import Derived.Test.YtmoffcpbmigngaaJSx20
import Derived.Test.YtmoffcpbmigngaaJSx23
import Derived.Test.YtmoffcpbmigngaaJSx24
namespace Go.Proofs.Ytmoffcpbmigngaa.JS
open Go.RowKit Go.Proofs.YtmoffcpbmigngaaW.PrintWords Go.Proofs.YtmoffcpbmigngaaW.PrintLast Go.Proofs.YtmoffcpbmigngaaW.PrintMore
attribute [local go_sem] max2_int min2_int max_two min_two max_three min_three max_four min_four   -- for this text's walks alone
set_option linter.unusedVariables false
set_option linter.unusedSimpArgs false

/-! ### sun_Equator: function 64 -/
def sun_Equator.T17 : Bool × List (List Nat × List Nat) := (true, [([], []), ([], []), ([0, 1], [0, 1]), ([], []), ([], []), ([3, 4, 2], [3, 4]), ([2, 5, 5], [2, 5]), ([], []), ([7, 6, 6, 0, 1, 2, 3, 4, 5, 6, 7], [6, 7])])
def sun_Equator.B17 : List Nat := [0, 0, 3, 0, 0, 31, 63, 0, 255]
theorem sun_Equator.tab17 : rtab .any (opsOf Try.f64 17) = sun_Equator.T17 := by kernel_rfl
theorem sun_Equator.bits17 : waitsOk sun_Equator.T17.2 sun_Equator.B17 = true := by kernel_rfl
def sun_Equator.T18 : Bool × List (List Nat × List Nat) := (true, [([], []), ([], []), ([0, 1], [0, 1]), ([], []), ([], []), ([3, 4, 2], [3, 4]), ([2, 5, 5], [2, 5]), ([], []), ([], []), ([7, 8, 6], [7, 8]), ([6, 9, 9], [6, 9]), ([10], [10]), ([11], [11]), ([11], [11]), ([], []), ([14, 12, 10, 0, 1, 2, 3, 4, 5, 6, 7, 8, 9, 10, 11, 12, 14], [12, 14]), ([13, 15, 0, 1, 2, 3, 4, 5, 6, 7, 8, 9, 10, 11, 12, 13, 14, 15], [13])])
def sun_Equator.B18 : List Nat := [0, 0, 3, 0, 0, 31, 63, 0, 0, 511, 1023, 2047, 4095, 4095, 0, 24575, 65535]
theorem sun_Equator.tab18 : rtab .any (opsOf Try.f64 18) = sun_Equator.T18 := by kernel_rfl
theorem sun_Equator.bits18 : waitsOk sun_Equator.T18.2 sun_Equator.B18 = true := by kernel_rfl
set_option maxHeartbeats 8000000 in
set_option maxRecDepth 100000 in
theorem sun_Equator.calls (k : Nat) (a0_0 : Int) (a0_1 : Int) (a1_0 : Int) (a1_1 : Int) (r1 : Int) (r2 : Int) (r3 : Int) (r4 : Int) (r5 : Int) (w : World) (h : sun_Equator.f k a0_0 a0_1 a1_0 a1_1 = some (r1, r2, r3, r4, r5)) :
  Calls Try.prog 64 #[.agg #[.int .i64 a0_0, .int .i64 a0_1], .agg #[.int .i64 a1_0, .int .i64 a1_1]] w fun e w' => e = .returned (.tuple #[.agg #[.int .i64 r1, .int .i64 r2], .agg #[.int .i64 r3, .int .i64 r4], .int .i64 r5]) ∧ Below w.heap.size w w' := by
 have hu23 := Try.underlying23
 obtain ⟨C1_, C2_, h_⟩ := sun_Equator.f_some h
 clear h
 have h := h_
 clear h_
 have CA1_ := Aside0.mk C1_
 have CA2_ := Aside0.mk C2_
 clear C1_ C2_
 have ix0_ : ∀ w : World, (Instr.index 94 (.agg #[.int .i64 a0_0, .int .i64 a0_1, .int .i64 a1_0, .int .i64 a1_1]) (.int .i64 0)).run Try.prog w = .ok (.agg #[.int .i64 a0_0, .int .i64 a0_1]) w := fun _ => by kernel_rfl
 have ix1_ : ∀ w : World, (Instr.index 94 (.agg #[.int .i64 a0_0, .int .i64 a0_1, .int .i64 a1_0, .int .i64 a1_1]) (.int .i64 1)).run Try.prog w = .ok (.agg #[.int .i64 a1_0, .int .i64 a1_1]) w := fun _ => by kernel_rfl
 have HB := Aside0.mk (Below.refl w.heap.size w)
 have H : (if a1_0 < (-125000000) then (sun_Equator.j0 k true a0_0 a0_1 a1_0 a1_1) else (sun_Equator.j0 k (decide (a1_1 > 125000000)) a0_0 a0_1 a1_0 a1_1)) = some (r1, r2, r3, r4, r5) := h
 clear h
 have HC3 := Aside0.mk H
 clear H
 go_enter Try.func64, Try.ntmps64
 go_wp2_with (first | ((with_reducible refine gate_dst (N := 2) rfl ?_); refine box_event ?hg (N := 2) ?hd (cs := #[.int .i64 a0_0, .int .i64 a0_1]) (t := 23) ?hr ?_; (case hd => rfl); (case hg => rfl); (case hr => first | (go_simp; done) | (go_simp; rfl)); intro gb275 hg w4 hbox hb; have BK275 := Aside0.mk hbox; have GW275 := ge_ (hb_ HB.out) hg; have GE275 := ge_ (hb_ HB.out) hg; replace HB := hx_ HB hb; clear hb hbox hg) | ((with_reducible refine gate_dst (N := 3) rfl ?_); refine box_event ?hg (N := 3) ?hd (cs := #[.int .i64 a1_0, .int .i64 a1_1]) (t := 23) ?hr ?_; (case hd => rfl); (case hg => rfl); (case hr => first | (go_simp; done) | (go_simp; rfl)); intro gb276 hg w5 hbox hb; have BK276 := Aside0.mk hbox; have GW276 := ge_ (hb_ HB.out) hg; have GE276 := ge_ (hb_ HB.out) hg; have NB275_276 := nb_ (gr_ BK275.out) hg; have NB276_275 := bn_ (gr_ BK275.out) hg; replace BK275 := nx_ BK275 hb; replace HB := hx_ HB hb; clear hb hbox hg) | ((with_reducible refine gate_dst (N := 4) rfl ?_); refine box_event ?hg (N := 4) ?hd (cs := #[.int .i64 0, .int .i64 0]) (t := 23) ?hr ?_; (case hd => rfl); (case hg => rfl); (case hr => first | (go_simp; done) | (go_simp; rfl)); intro gb277 hg w6 hbox hb; have BK277 := Aside0.mk hbox; have GW277 := ge_ (hb_ HB.out) hg; have GE277 := ge_ (hb_ HB.out) hg; have NB275_277 := nb_ (gr_ BK275.out) hg; have NB277_275 := bn_ (gr_ BK275.out) hg; have NB276_277 := nb_ (gr_ BK276.out) hg; have NB277_276 := bn_ (gr_ BK276.out) hg; replace BK275 := nx_ BK275 hb; replace BK276 := nx_ BK276 hb; replace HB := hx_ HB hb; clear hb hbox hg) | ((with_reducible refine gate_dst (N := 5) rfl ?_); refine box_event ?hg (N := 5) ?hd (cs := #[.int .i64 0, .int .i64 0]) (t := 23) ?hr ?_; (case hd => rfl); (case hg => rfl); (case hr => first | (go_simp; done) | (go_simp; rfl)); intro gb278 hg w7 hbox hb; have BK278 := Aside0.mk hbox; have GW278 := ge_ (hb_ HB.out) hg; have GE278 := ge_ (hb_ HB.out) hg; have NB275_278 := nb_ (gr_ BK275.out) hg; have NB278_275 := bn_ (gr_ BK275.out) hg; have NB276_278 := nb_ (gr_ BK276.out) hg; have NB278_276 := bn_ (gr_ BK276.out) hg; have NB277_278 := nb_ (gr_ BK277.out) hg; have NB278_277 := bn_ (gr_ BK277.out) hg; replace BK275 := nx_ BK275 hb; replace BK276 := nx_ BK276 hb; replace BK277 := nx_ BK277 hb; replace HB := hx_ HB hb; clear hb hbox hg; have hcz901_0_0 : w7.cell? ⟨gb275, 0, none⟩ = some (.int .i64 a0_0) := (blk_cell BK275.out 0).trans rfl; have hfz901_0_0 := blk_frozen BK275.out 0; have hcz901_0_1 : w7.cell? ⟨gb275, 1, none⟩ = some (.int .i64 a0_1) := (blk_cell BK275.out 1).trans rfl; have hfz901_0_1 := blk_frozen BK275.out 1; have hcz901_1_0 : w7.cell? ⟨gb276, 0, none⟩ = some (.int .i64 a1_0) := (blk_cell BK276.out 0).trans rfl; have hfz901_1_0 := blk_frozen BK276.out 0; have hcz901_1_1 : w7.cell? ⟨gb276, 1, none⟩ = some (.int .i64 a1_1) := (blk_cell BK276.out 1).trans rfl; have hfz901_1_1 := blk_frozen BK276.out 1; have hnb901_275_276 := NB275_276.out; have hnb901_276_275 := NB276_275.out))
 refine wp_loop_rounds 3 ?_
 rw [rounds_succ]
 go_wp2_with (first | ((with_reducible refine gate_dst (N := 8) rfl ?_); refine box_event ?hg (N := 8) ?hd (cs := #[.int .i64 0, .int .i64 0]) (t := 23) ?hr ?_; (case hd => rfl); (case hg => rfl); (case hr => first | (go_simp; done) | (go_simp; rfl)); intro gb901 hg w901 hbox hb; have BK901 := Aside0.mk hbox; have GE901 := ge_ (hb_ HB.out) hg; have NB275_901 := nb_ (gr_ BK275.out) hg; have NB901_275 := bn_ (gr_ BK275.out) hg; have NB276_901 := nb_ (gr_ BK276.out) hg; have NB901_276 := bn_ (gr_ BK276.out) hg; have NB277_901 := nb_ (gr_ BK277.out) hg; have NB901_277 := bn_ (gr_ BK277.out) hg; have NB278_901 := nb_ (gr_ BK278.out) hg; have NB901_278 := bn_ (gr_ BK278.out) hg; replace BK275 := nx_ BK275 hb; replace BK276 := nx_ BK276 hb; replace BK277 := nx_ BK277 hb; replace BK278 := nx_ BK278 hb; replace HB := hx_ HB hb; clear hb hbox hg; have hcz902_0_0 : w901.cell? ⟨gb901, 0, none⟩ = some (.int .i64 0) := (blk_cell BK901.out 0).trans rfl; have hfz902_0_0 := blk_frozen BK901.out 0; have hcz902_0_1 : w901.cell? ⟨gb901, 1, none⟩ = some (.int .i64 0) := (blk_cell BK901.out 1).trans rfl; have hfz902_0_1 := blk_frozen BK901.out 1) | ((with_reducible refine gate_callee (f := 55) rfl ?_); refine goesL_ (some 35) rfl rfl Try.func55 (by kernel_rfl) rfl #[.agg #[.int .i64 a0_0, .int .i64 a0_1]] rfl (by (try simp only [List.map_toArray, List.map_cons, List.map_nil]); first | done | rfl | (simp only [List.length_drop, List.length_take]; rfl)) ?_; (with_reducible refine (interval_Check.calls k a0_0 a0_1 0 _ CA1_.out).mono ?_); rintro e w902 ⟨rfl, hb⟩; refine ⟨_, rfl, ?_⟩; replace BK275 := Aside0.mk (blk_below (g := gb275) (o := .cells #[.int .i64 a0_0, .int .i64 a0_1] 23 (0, 0)) (gr_ (blk_far (gr_ (blk_far (gr_ BK275.out) NB275_901.out _)) NB275_901.out _)) hb); replace BK276 := Aside0.mk (blk_below (g := gb276) (o := .cells #[.int .i64 a1_0, .int .i64 a1_1] 23 (0, 0)) (gr_ (blk_far (gr_ (blk_far (gr_ BK276.out) NB276_901.out _)) NB276_901.out _)) hb); replace BK277 := Aside0.mk (blk_below (g := gb277) (o := .cells #[.int .i64 0, .int .i64 0] 23 (0, 0)) (gr_ (blk_far (gr_ (blk_far (gr_ BK277.out) NB277_901.out _)) NB277_901.out _)) hb); replace BK278 := Aside0.mk (blk_below (g := gb278) (o := .cells #[.int .i64 0, .int .i64 0] 23 (0, 0)) (gr_ (blk_far (gr_ (blk_far (gr_ BK278.out) NB278_901.out _)) NB278_901.out _)) hb); replace BK901 := Aside0.mk (blk_below (g := gb901) (o := .cells #[.int .i64 a0_0, .int .i64 a0_1] 23 (0, 0)) (gr_ (blk_put (cs := #[.int .i64 a0_0, .int .i64 0]) (gr_ (blk_put (cs := #[.int .i64 0, .int .i64 0]) (gr_ BK901.out) 0 _ rfl)) 1 _ rfl)) hb); replace HB := Aside0.mk (below_step (by repeat (first | (with_reducible first | exact HB.out | apply below_alloc | apply pw_below_drewN | apply below_drew1 | refine below_set ?_ GE901.out) | exact HB.out)) hb); (try clear hb); have hcz903_0_0 : w902.cell? ⟨gb275, 0, none⟩ = some (.int .i64 a0_0) := (blk_cell BK275.out 0).trans rfl; have hfz903_0_0 := blk_frozen BK275.out 0; have hcz903_0_1 : w902.cell? ⟨gb275, 1, none⟩ = some (.int .i64 a0_1) := (blk_cell BK275.out 1).trans rfl; have hfz903_0_1 := blk_frozen BK275.out 1; have hcz903_1_0 : w902.cell? ⟨gb276, 0, none⟩ = some (.int .i64 a1_0) := (blk_cell BK276.out 0).trans rfl; have hfz903_1_0 := blk_frozen BK276.out 0; have hcz903_1_1 : w902.cell? ⟨gb276, 1, none⟩ = some (.int .i64 a1_1) := (blk_cell BK276.out 1).trans rfl; have hfz903_1_1 := blk_frozen BK276.out 1; have hnb903_275_276 := NB275_276.out; have hnb903_276_275 := NB276_275.out))
 rw [rounds_succ]
 go_wp2_with (first | ((with_reducible refine gate_dst (N := 8) rfl ?_); refine box_event ?hg (N := 8) ?hd (cs := #[.int .i64 0, .int .i64 0]) (t := 23) ?hr ?_; (case hd => rfl); (case hg => rfl); (case hr => first | (go_simp; done) | (go_simp; rfl)); intro gb902 hg w903 hbox hb; have BK902 := Aside0.mk hbox; have GE902 := ge_ (hb_ HB.out) hg; have NB275_902 := nb_ (gr_ BK275.out) hg; have NB902_275 := bn_ (gr_ BK275.out) hg; have NB276_902 := nb_ (gr_ BK276.out) hg; have NB902_276 := bn_ (gr_ BK276.out) hg; have NB277_902 := nb_ (gr_ BK277.out) hg; have NB902_277 := bn_ (gr_ BK277.out) hg; have NB278_902 := nb_ (gr_ BK278.out) hg; have NB902_278 := bn_ (gr_ BK278.out) hg; replace BK275 := nx_ BK275 hb; replace BK276 := nx_ BK276 hb; replace BK277 := nx_ BK277 hb; replace BK278 := nx_ BK278 hb; replace HB := hx_ HB hb; clear hb hbox hg; have hcz904_0_0 : w903.cell? ⟨gb902, 0, none⟩ = some (.int .i64 0) := (blk_cell BK902.out 0).trans rfl; have hfz904_0_0 := blk_frozen BK902.out 0; have hcz904_0_1 : w903.cell? ⟨gb902, 1, none⟩ = some (.int .i64 0) := (blk_cell BK902.out 1).trans rfl; have hfz904_0_1 := blk_frozen BK902.out 1) | ((with_reducible refine gate_callee (f := 55) rfl ?_); refine goesL_ (some 35) rfl rfl Try.func55 (by kernel_rfl) rfl #[.agg #[.int .i64 a1_0, .int .i64 a1_1]] rfl (by (try simp only [List.map_toArray, List.map_cons, List.map_nil]); first | done | rfl | (simp only [List.length_drop, List.length_take]; rfl)) ?_; (with_reducible refine (interval_Check.calls k a1_0 a1_1 0 _ CA2_.out).mono ?_); rintro e w904 ⟨rfl, hb⟩; refine ⟨_, rfl, ?_⟩; replace BK275 := Aside0.mk (blk_below (g := gb275) (o := .cells #[.int .i64 a0_0, .int .i64 a0_1] 23 (0, 0)) (gr_ (blk_far (gr_ (blk_far (gr_ BK275.out) NB275_902.out _)) NB275_902.out _)) hb); replace BK276 := Aside0.mk (blk_below (g := gb276) (o := .cells #[.int .i64 a1_0, .int .i64 a1_1] 23 (0, 0)) (gr_ (blk_far (gr_ (blk_far (gr_ BK276.out) NB276_902.out _)) NB276_902.out _)) hb); replace BK277 := Aside0.mk (blk_below (g := gb277) (o := .cells #[.int .i64 0, .int .i64 0] 23 (0, 0)) (gr_ (blk_far (gr_ (blk_far (gr_ BK277.out) NB277_902.out _)) NB277_902.out _)) hb); replace BK278 := Aside0.mk (blk_below (g := gb278) (o := .cells #[.int .i64 0, .int .i64 0] 23 (0, 0)) (gr_ (blk_far (gr_ (blk_far (gr_ BK278.out) NB278_902.out _)) NB278_902.out _)) hb); replace BK902 := Aside0.mk (blk_below (g := gb902) (o := .cells #[.int .i64 a1_0, .int .i64 a1_1] 23 (0, 0)) (gr_ (blk_put (cs := #[.int .i64 a1_0, .int .i64 0]) (gr_ (blk_put (cs := #[.int .i64 0, .int .i64 0]) (gr_ BK902.out) 0 _ rfl)) 1 _ rfl)) hb); replace HB := Aside0.mk (below_step (by repeat (first | (with_reducible first | exact HB.out | apply below_alloc | apply pw_below_drewN | apply below_drew1 | refine below_set ?_ GE902.out) | exact HB.out)) hb); (try clear hb); have hcz905_0_0 : w904.cell? ⟨gb275, 0, none⟩ = some (.int .i64 a0_0) := (blk_cell BK275.out 0).trans rfl; have hfz905_0_0 := blk_frozen BK275.out 0; have hcz905_0_1 : w904.cell? ⟨gb275, 1, none⟩ = some (.int .i64 a0_1) := (blk_cell BK275.out 1).trans rfl; have hfz905_0_1 := blk_frozen BK275.out 1; have hcz905_1_0 : w904.cell? ⟨gb276, 0, none⟩ = some (.int .i64 a1_0) := (blk_cell BK276.out 0).trans rfl; have hfz905_1_0 := blk_frozen BK276.out 0; have hcz905_1_1 : w904.cell? ⟨gb276, 1, none⟩ = some (.int .i64 a1_1) := (blk_cell BK276.out 1).trans rfl; have hfz905_1_1 := blk_frozen BK276.out 1; have hnb905_275_276 := NB275_276.out; have hnb905_276_275 := NB276_275.out))
 rw [rounds_succ]
 go_upto_region 8 with fail
 clear hcz901_0_0 hfz901_0_0 hcz901_0_1 hfz901_0_1 hcz901_1_0 hfz901_1_0 hcz901_1_1 hfz901_1_1 hnb901_275_276 hnb901_276_275 hcz902_0_0 hfz902_0_0 hcz902_0_1 hfz902_0_1 hcz903_0_0 hfz903_0_0 hcz903_0_1 hfz903_0_1 hcz903_1_0 hfz903_1_0 hcz903_1_1 hfz903_1_1 hnb903_275_276 hnb903_276_275 hcz904_0_0 hfz904_0_0 hcz904_0_1 hfz904_0_1 hcz905_0_0 hfz905_0_0 hcz905_0_1 hfz905_0_1 hcz905_1_0 hfz905_1_0 hcz905_1_1 hfz905_1_1 hnb905_275_276 hnb905_276_275 CA1_ CA2_ ix0_ ix1_
 (try simp only [Act.put, List.setIfInBounds_toArray, List.set_cons_zero, List.set_cons_succ])
 go_cut [49] (fun v49 wc => ∃ (kq : Nat) (x49_2 : Bool), v49 = .bool x49_2 ∧ Aside0 (sun_Equator.j0 kq x49_2 a0_0 a0_1 a1_0 a1_1 = some (r1, r2, r3, r4, r5)) ∧ Aside0 (kq ≤ k) ∧ Aside0 (wc.heap[gb275]? = some (.cells #[.int .i64 a0_0, .int .i64 a0_1] 23 (0, 0))) ∧ Aside0 (wc.heap[gb276]? = some (.cells #[.int .i64 a1_0, .int .i64 a1_1] 23 (0, 0))) ∧ Aside0 (wc.heap[gb277]? = some (.cells #[.int .i64 0, .int .i64 0] 23 (0, 0))) ∧ Aside0 (wc.heap[gb278]? = some (.cells #[.int .i64 0, .int .i64 0] 23 (0, 0))) ∧ Aside0 (Below w.heap.size w wc))
 case first =>
  have H := HC3.out
  clear HC3
  by_cases c8 : a1_0 < (-125000000)
  ·
   rw [if_pos c8] at H
   have c8b0 : decide (a1_0 < (-125000000)) = true := decide_eq_true c8
   clear c8
   (first | rw [c8b0] | (simp only [i64_w, i32_w]; rw [c8b0]) | rw [c8b1] | skip)
   have H' := Aside0.mk H
   clear H
   have hnb9 := NB276_275.out
   have hnc9 := NB275_276.out
   have hnb10 := NB276_277.out
   have hnc10 := NB277_276.out
   have hnb11 := NB276_278.out
   have hnc11 := NB278_276.out
   have hcz12_0 : w904.cell? ⟨gb276, 0, none⟩ = some (.int .i64 a1_0) := (blk_cell BK276.out 0).trans rfl
   have hcz12_1 : w904.cell? ⟨gb276, 1, none⟩ = some (.int .i64 a1_1) := (blk_cell BK276.out 1).trans rfl
   have hfz12_0 := blk_frozen BK276.out 0
   have hfz12_1 := blk_frozen BK276.out 1
   go_wp2
   go_meet
   case rel => exact ⟨_, (true), (by first | rfl | (simp; done) | (simp [*]; done)), H', ⟨by first | omega | exact Nat.le_refl _⟩, ⟨(gr_ BK275.out)⟩, ⟨(gr_ BK276.out)⟩, ⟨(gr_ BK277.out)⟩, ⟨(gr_ BK278.out)⟩, ⟨by repeat (first | (with_reducible first | exact HB.out | apply below_alloc | apply pw_below_drewN | apply below_drew1 | refine below_set ?_ GE275.out | refine below_set ?_ GE276.out | refine below_set ?_ GE277.out | refine below_set ?_ GE278.out) | exact HB.out)⟩⟩
  ·
   rw [if_neg c8] at H
   have c8b0 : decide (a1_0 < (-125000000)) = false := decide_eq_false c8
   clear c8
   (first | rw [c8b0] | (simp only [i64_w, i32_w]; rw [c8b0]) | rw [c8b1] | skip)
   have H' := Aside0.mk H
   clear H
   have hnb13 := NB276_275.out
   have hnc13 := NB275_276.out
   have hnb14 := NB276_277.out
   have hnc14 := NB277_276.out
   have hnb15 := NB276_278.out
   have hnc15 := NB278_276.out
   have hcz16_0 : w904.cell? ⟨gb276, 0, none⟩ = some (.int .i64 a1_0) := (blk_cell BK276.out 0).trans rfl
   have hcz16_1 : w904.cell? ⟨gb276, 1, none⟩ = some (.int .i64 a1_1) := (blk_cell BK276.out 1).trans rfl
   have hfz16_0 := blk_frozen BK276.out 0
   have hfz16_1 := blk_frozen BK276.out 1
   go_wp2
   go_meet
   case rel => exact ⟨_, (decide (a1_1 > 125000000)), (by first | rfl | (simp; done) | (simp [*]; done)), H', ⟨by first | omega | exact Nat.le_refl _⟩, ⟨(gr_ BK275.out)⟩, ⟨(gr_ BK276.out)⟩, ⟨(gr_ BK277.out)⟩, ⟨(gr_ BK278.out)⟩, ⟨by repeat (first | (with_reducible first | exact HB.out | apply below_alloc | apply pw_below_drewN | apply below_drew1 | refine below_set ?_ GE275.out | refine below_set ?_ GE276.out | refine below_set ?_ GE277.out | refine below_set ?_ GE278.out) | exact HB.out)⟩⟩
 case rest =>
  clear HC3
  try clear c1
  try clear p2
  try clear c6
  try clear c8
  try clear c8b0
  try clear c9
  try clear c10
  try clear c11
  try clear c13
  try clear c14
  try clear c15
  try clear hcz12_0
  try clear hcz12_1
  try clear hcz16_0
  try clear hcz16_1
  try clear hfz12_0
  try clear hfz12_1
  try clear hfz16_0
  try clear hfz16_1
  obtain ⟨kq, x49_2, rfl, HA, HJ2, BK275, BK276, BK277, BK278, HB⟩ := hcut
  cases kq with
  | zero => exact absurd HA.out (by simp [sun_Equator.j0])
  | succ kj2 =>
   have H := HA.out
   clear HA
   simp only [sun_Equator.j0] at H
   by_cases c17 : x49_2 = true
   ·
    subst c17
    have H1 : (none) = some (r1, r2, r3, r4, r5) := by rw [if_pos rfl] at H; exact H
    clear H
    have H := H1
    clear H1
    exact absurd H (by simp)
   ·
    replace c17 := Bool.eq_false_iff.mpr c17
    subst c17
    have H1 : ((trig_Sin.f kj2 65109000).bind fun bt279 => ((trig_Cos.f kj2 65109000).bind fun bt283 => ((trig_SinOver.f kj2 a0_0 a0_1).bind fun bt287 => ((trig_CosOver.f kj2 a0_0 a0_1).bind fun bt291 => ((trig_SinOver.f kj2 a1_0 a1_1).bind fun bt295 => ((trig_CosOver.f kj2 a1_0 a1_1).bind fun bt299 => ((sun_Unit.f bt299.1 bt299.2.1 bt287.1 bt287.2.1).bind fun bt303 => ((sun_Unit.f bt303.1 bt303.2 bt279.1 bt279.2.1).bind fun bt306 => ((sun_Unit.f bt295.1 bt295.2.1 bt283.1 bt283.2.1).bind fun bt308 => ((sun_plus.f bt306.1 bt306.2 bt308.1 bt308.2).bind fun bt310 => ((sun_Unit.f bt303.1 bt303.2 bt283.1 bt283.2.1).bind fun bt313 => ((sun_Unit.f bt295.1 bt295.2.1 bt279.1 bt279.2.1).bind fun bt315 => ((sun_less.f bt313.1 bt313.2 bt315.1 bt315.2).bind fun bt317 => ((sun_Unit.f bt299.1 bt299.2.1 bt291.1 bt291.2.1).bind fun bt319 => ((trig_Arc.f kj2 bt317.1 bt317.2 bt319.1 bt319.2).bind fun bt321 => (if bt321.2.2 = 0 then ((trig_ArcSin.f kj2 bt310.1 bt310.2).bind fun bt325 => (some (bt321.1, bt321.2.1, bt325.1, bt325.2.1, 0))) else (none))))))))))))))))) = some (r1, r2, r3, r4, r5) := by rw [if_neg (show ¬ (false = true) by decide)] at H; exact H
    clear H
    have H := H1
    clear H1
    replace H := Option.bind_eq_some_iff.mp H
    obtain ⟨⟨t279, t280, t281⟩, A180, H⟩ := H
    replace H : ((trig_Cos.f kj2 65109000).bind fun bt283 => ((trig_SinOver.f kj2 a0_0 a0_1).bind fun bt287 => ((trig_CosOver.f kj2 a0_0 a0_1).bind fun bt291 => ((trig_SinOver.f kj2 a1_0 a1_1).bind fun bt295 => ((trig_CosOver.f kj2 a1_0 a1_1).bind fun bt299 => ((sun_Unit.f bt299.1 bt299.2.1 bt287.1 bt287.2.1).bind fun bt303 => ((sun_Unit.f bt303.1 bt303.2 t279 t280).bind fun bt306 => ((sun_Unit.f bt295.1 bt295.2.1 bt283.1 bt283.2.1).bind fun bt308 => ((sun_plus.f bt306.1 bt306.2 bt308.1 bt308.2).bind fun bt310 => ((sun_Unit.f bt303.1 bt303.2 bt283.1 bt283.2.1).bind fun bt313 => ((sun_Unit.f bt295.1 bt295.2.1 t279 t280).bind fun bt315 => ((sun_less.f bt313.1 bt313.2 bt315.1 bt315.2).bind fun bt317 => ((sun_Unit.f bt299.1 bt299.2.1 bt291.1 bt291.2.1).bind fun bt319 => ((trig_Arc.f kj2 bt317.1 bt317.2 bt319.1 bt319.2).bind fun bt321 => (if bt321.2.2 = 0 then ((trig_ArcSin.f kj2 bt310.1 bt310.2).bind fun bt325 => (some (bt321.1, bt321.2.1, bt325.1, bt325.2.1, 0))) else (none)))))))))))))))) = some (r1, r2, r3, r4, r5) := H
    have A18 := Aside0.mk A180
    clear A180
    replace H := Option.bind_eq_some_iff.mp H
    obtain ⟨⟨t283, t284, t285⟩, A190, H⟩ := H
    replace H : ((trig_SinOver.f kj2 a0_0 a0_1).bind fun bt287 => ((trig_CosOver.f kj2 a0_0 a0_1).bind fun bt291 => ((trig_SinOver.f kj2 a1_0 a1_1).bind fun bt295 => ((trig_CosOver.f kj2 a1_0 a1_1).bind fun bt299 => ((sun_Unit.f bt299.1 bt299.2.1 bt287.1 bt287.2.1).bind fun bt303 => ((sun_Unit.f bt303.1 bt303.2 t279 t280).bind fun bt306 => ((sun_Unit.f bt295.1 bt295.2.1 t283 t284).bind fun bt308 => ((sun_plus.f bt306.1 bt306.2 bt308.1 bt308.2).bind fun bt310 => ((sun_Unit.f bt303.1 bt303.2 t283 t284).bind fun bt313 => ((sun_Unit.f bt295.1 bt295.2.1 t279 t280).bind fun bt315 => ((sun_less.f bt313.1 bt313.2 bt315.1 bt315.2).bind fun bt317 => ((sun_Unit.f bt299.1 bt299.2.1 bt291.1 bt291.2.1).bind fun bt319 => ((trig_Arc.f kj2 bt317.1 bt317.2 bt319.1 bt319.2).bind fun bt321 => (if bt321.2.2 = 0 then ((trig_ArcSin.f kj2 bt310.1 bt310.2).bind fun bt325 => (some (bt321.1, bt321.2.1, bt325.1, bt325.2.1, 0))) else (none))))))))))))))) = some (r1, r2, r3, r4, r5) := H
    have A19 := Aside0.mk A190
    clear A190
    replace H := Option.bind_eq_some_iff.mp H
    obtain ⟨⟨t287, t288, t289⟩, A200, H⟩ := H
    replace H : ((trig_CosOver.f kj2 a0_0 a0_1).bind fun bt291 => ((trig_SinOver.f kj2 a1_0 a1_1).bind fun bt295 => ((trig_CosOver.f kj2 a1_0 a1_1).bind fun bt299 => ((sun_Unit.f bt299.1 bt299.2.1 t287 t288).bind fun bt303 => ((sun_Unit.f bt303.1 bt303.2 t279 t280).bind fun bt306 => ((sun_Unit.f bt295.1 bt295.2.1 t283 t284).bind fun bt308 => ((sun_plus.f bt306.1 bt306.2 bt308.1 bt308.2).bind fun bt310 => ((sun_Unit.f bt303.1 bt303.2 t283 t284).bind fun bt313 => ((sun_Unit.f bt295.1 bt295.2.1 t279 t280).bind fun bt315 => ((sun_less.f bt313.1 bt313.2 bt315.1 bt315.2).bind fun bt317 => ((sun_Unit.f bt299.1 bt299.2.1 bt291.1 bt291.2.1).bind fun bt319 => ((trig_Arc.f kj2 bt317.1 bt317.2 bt319.1 bt319.2).bind fun bt321 => (if bt321.2.2 = 0 then ((trig_ArcSin.f kj2 bt310.1 bt310.2).bind fun bt325 => (some (bt321.1, bt321.2.1, bt325.1, bt325.2.1, 0))) else (none)))))))))))))) = some (r1, r2, r3, r4, r5) := H
    have A20 := Aside0.mk A200
    clear A200
    replace H := Option.bind_eq_some_iff.mp H
    obtain ⟨⟨t291, t292, t293⟩, A210, H⟩ := H
    replace H : ((trig_SinOver.f kj2 a1_0 a1_1).bind fun bt295 => ((trig_CosOver.f kj2 a1_0 a1_1).bind fun bt299 => ((sun_Unit.f bt299.1 bt299.2.1 t287 t288).bind fun bt303 => ((sun_Unit.f bt303.1 bt303.2 t279 t280).bind fun bt306 => ((sun_Unit.f bt295.1 bt295.2.1 t283 t284).bind fun bt308 => ((sun_plus.f bt306.1 bt306.2 bt308.1 bt308.2).bind fun bt310 => ((sun_Unit.f bt303.1 bt303.2 t283 t284).bind fun bt313 => ((sun_Unit.f bt295.1 bt295.2.1 t279 t280).bind fun bt315 => ((sun_less.f bt313.1 bt313.2 bt315.1 bt315.2).bind fun bt317 => ((sun_Unit.f bt299.1 bt299.2.1 t291 t292).bind fun bt319 => ((trig_Arc.f kj2 bt317.1 bt317.2 bt319.1 bt319.2).bind fun bt321 => (if bt321.2.2 = 0 then ((trig_ArcSin.f kj2 bt310.1 bt310.2).bind fun bt325 => (some (bt321.1, bt321.2.1, bt325.1, bt325.2.1, 0))) else (none))))))))))))) = some (r1, r2, r3, r4, r5) := H
    have A21 := Aside0.mk A210
    clear A210
    replace H := Option.bind_eq_some_iff.mp H
    obtain ⟨⟨t295, t296, t297⟩, A220, H⟩ := H
    replace H : ((trig_CosOver.f kj2 a1_0 a1_1).bind fun bt299 => ((sun_Unit.f bt299.1 bt299.2.1 t287 t288).bind fun bt303 => ((sun_Unit.f bt303.1 bt303.2 t279 t280).bind fun bt306 => ((sun_Unit.f t295 t296 t283 t284).bind fun bt308 => ((sun_plus.f bt306.1 bt306.2 bt308.1 bt308.2).bind fun bt310 => ((sun_Unit.f bt303.1 bt303.2 t283 t284).bind fun bt313 => ((sun_Unit.f t295 t296 t279 t280).bind fun bt315 => ((sun_less.f bt313.1 bt313.2 bt315.1 bt315.2).bind fun bt317 => ((sun_Unit.f bt299.1 bt299.2.1 t291 t292).bind fun bt319 => ((trig_Arc.f kj2 bt317.1 bt317.2 bt319.1 bt319.2).bind fun bt321 => (if bt321.2.2 = 0 then ((trig_ArcSin.f kj2 bt310.1 bt310.2).bind fun bt325 => (some (bt321.1, bt321.2.1, bt325.1, bt325.2.1, 0))) else (none)))))))))))) = some (r1, r2, r3, r4, r5) := H
    have A22 := Aside0.mk A220
    clear A220
    replace H := Option.bind_eq_some_iff.mp H
    obtain ⟨⟨t299, t300, t301⟩, A230, H⟩ := H
    replace H : ((sun_Unit.f t299 t300 t287 t288).bind fun bt303 => ((sun_Unit.f bt303.1 bt303.2 t279 t280).bind fun bt306 => ((sun_Unit.f t295 t296 t283 t284).bind fun bt308 => ((sun_plus.f bt306.1 bt306.2 bt308.1 bt308.2).bind fun bt310 => ((sun_Unit.f bt303.1 bt303.2 t283 t284).bind fun bt313 => ((sun_Unit.f t295 t296 t279 t280).bind fun bt315 => ((sun_less.f bt313.1 bt313.2 bt315.1 bt315.2).bind fun bt317 => ((sun_Unit.f t299 t300 t291 t292).bind fun bt319 => ((trig_Arc.f kj2 bt317.1 bt317.2 bt319.1 bt319.2).bind fun bt321 => (if bt321.2.2 = 0 then ((trig_ArcSin.f kj2 bt310.1 bt310.2).bind fun bt325 => (some (bt321.1, bt321.2.1, bt325.1, bt325.2.1, 0))) else (none))))))))))) = some (r1, r2, r3, r4, r5) := H
    have A23 := Aside0.mk A230
    clear A230
    replace H := Option.bind_eq_some_iff.mp H
    obtain ⟨⟨t303, t304⟩, A240, H⟩ := H
    replace H : ((sun_Unit.f t303 t304 t279 t280).bind fun bt306 => ((sun_Unit.f t295 t296 t283 t284).bind fun bt308 => ((sun_plus.f bt306.1 bt306.2 bt308.1 bt308.2).bind fun bt310 => ((sun_Unit.f t303 t304 t283 t284).bind fun bt313 => ((sun_Unit.f t295 t296 t279 t280).bind fun bt315 => ((sun_less.f bt313.1 bt313.2 bt315.1 bt315.2).bind fun bt317 => ((sun_Unit.f t299 t300 t291 t292).bind fun bt319 => ((trig_Arc.f kj2 bt317.1 bt317.2 bt319.1 bt319.2).bind fun bt321 => (if bt321.2.2 = 0 then ((trig_ArcSin.f kj2 bt310.1 bt310.2).bind fun bt325 => (some (bt321.1, bt321.2.1, bt325.1, bt325.2.1, 0))) else (none)))))))))) = some (r1, r2, r3, r4, r5) := H
    have A24 := Aside0.mk A240
    clear A240
    replace H := Option.bind_eq_some_iff.mp H
    obtain ⟨⟨t306, t307⟩, A250, H⟩ := H
    replace H : ((sun_Unit.f t295 t296 t283 t284).bind fun bt308 => ((sun_plus.f t306 t307 bt308.1 bt308.2).bind fun bt310 => ((sun_Unit.f t303 t304 t283 t284).bind fun bt313 => ((sun_Unit.f t295 t296 t279 t280).bind fun bt315 => ((sun_less.f bt313.1 bt313.2 bt315.1 bt315.2).bind fun bt317 => ((sun_Unit.f t299 t300 t291 t292).bind fun bt319 => ((trig_Arc.f kj2 bt317.1 bt317.2 bt319.1 bt319.2).bind fun bt321 => (if bt321.2.2 = 0 then ((trig_ArcSin.f kj2 bt310.1 bt310.2).bind fun bt325 => (some (bt321.1, bt321.2.1, bt325.1, bt325.2.1, 0))) else (none))))))))) = some (r1, r2, r3, r4, r5) := H
    have A25 := Aside0.mk A250
    clear A250
    replace H := Option.bind_eq_some_iff.mp H
    obtain ⟨⟨t308, t309⟩, A260, H⟩ := H
    replace H : ((sun_plus.f t306 t307 t308 t309).bind fun bt310 => ((sun_Unit.f t303 t304 t283 t284).bind fun bt313 => ((sun_Unit.f t295 t296 t279 t280).bind fun bt315 => ((sun_less.f bt313.1 bt313.2 bt315.1 bt315.2).bind fun bt317 => ((sun_Unit.f t299 t300 t291 t292).bind fun bt319 => ((trig_Arc.f kj2 bt317.1 bt317.2 bt319.1 bt319.2).bind fun bt321 => (if bt321.2.2 = 0 then ((trig_ArcSin.f kj2 bt310.1 bt310.2).bind fun bt325 => (some (bt321.1, bt321.2.1, bt325.1, bt325.2.1, 0))) else (none)))))))) = some (r1, r2, r3, r4, r5) := H
    have A26 := Aside0.mk A260
    clear A260
    replace H := Option.bind_eq_some_iff.mp H
    obtain ⟨⟨t310, t311⟩, A270, H⟩ := H
    replace H : ((sun_Unit.f t303 t304 t283 t284).bind fun bt313 => ((sun_Unit.f t295 t296 t279 t280).bind fun bt315 => ((sun_less.f bt313.1 bt313.2 bt315.1 bt315.2).bind fun bt317 => ((sun_Unit.f t299 t300 t291 t292).bind fun bt319 => ((trig_Arc.f kj2 bt317.1 bt317.2 bt319.1 bt319.2).bind fun bt321 => (if bt321.2.2 = 0 then ((trig_ArcSin.f kj2 t310 t311).bind fun bt325 => (some (bt321.1, bt321.2.1, bt325.1, bt325.2.1, 0))) else (none))))))) = some (r1, r2, r3, r4, r5) := H
    have A27 := Aside0.mk A270
    clear A270
    replace H := Option.bind_eq_some_iff.mp H
    obtain ⟨⟨t313, t314⟩, A280, H⟩ := H
    replace H : ((sun_Unit.f t295 t296 t279 t280).bind fun bt315 => ((sun_less.f t313 t314 bt315.1 bt315.2).bind fun bt317 => ((sun_Unit.f t299 t300 t291 t292).bind fun bt319 => ((trig_Arc.f kj2 bt317.1 bt317.2 bt319.1 bt319.2).bind fun bt321 => (if bt321.2.2 = 0 then ((trig_ArcSin.f kj2 t310 t311).bind fun bt325 => (some (bt321.1, bt321.2.1, bt325.1, bt325.2.1, 0))) else (none)))))) = some (r1, r2, r3, r4, r5) := H
    have A28 := Aside0.mk A280
    clear A280
    replace H := Option.bind_eq_some_iff.mp H
    obtain ⟨⟨t315, t316⟩, A290, H⟩ := H
    replace H : ((sun_less.f t313 t314 t315 t316).bind fun bt317 => ((sun_Unit.f t299 t300 t291 t292).bind fun bt319 => ((trig_Arc.f kj2 bt317.1 bt317.2 bt319.1 bt319.2).bind fun bt321 => (if bt321.2.2 = 0 then ((trig_ArcSin.f kj2 t310 t311).bind fun bt325 => (some (bt321.1, bt321.2.1, bt325.1, bt325.2.1, 0))) else (none))))) = some (r1, r2, r3, r4, r5) := H
    have A29 := Aside0.mk A290
    clear A290
    replace H := Option.bind_eq_some_iff.mp H
    obtain ⟨⟨t317, t318⟩, A300, H⟩ := H
    replace H : ((sun_Unit.f t299 t300 t291 t292).bind fun bt319 => ((trig_Arc.f kj2 t317 t318 bt319.1 bt319.2).bind fun bt321 => (if bt321.2.2 = 0 then ((trig_ArcSin.f kj2 t310 t311).bind fun bt325 => (some (bt321.1, bt321.2.1, bt325.1, bt325.2.1, 0))) else (none)))) = some (r1, r2, r3, r4, r5) := H
    have A30 := Aside0.mk A300
    clear A300
    replace H := Option.bind_eq_some_iff.mp H
    obtain ⟨⟨t319, t320⟩, A310, H⟩ := H
    replace H : ((trig_Arc.f kj2 t317 t318 t319 t320).bind fun bt321 => (if bt321.2.2 = 0 then ((trig_ArcSin.f kj2 t310 t311).bind fun bt325 => (some (bt321.1, bt321.2.1, bt325.1, bt325.2.1, 0))) else (none))) = some (r1, r2, r3, r4, r5) := H
    have A31 := Aside0.mk A310
    clear A310
    replace H := Option.bind_eq_some_iff.mp H
    obtain ⟨⟨t321, t322, t323⟩, A320, H⟩ := H
    replace H : (if t323 = 0 then ((trig_ArcSin.f kj2 t310 t311).bind fun bt325 => (some (t321, t322, bt325.1, bt325.2.1, 0))) else (none)) = some (r1, r2, r3, r4, r5) := H
    have A32 := Aside0.mk A320
    clear A320
    by_cases c33 : t323 = 0
    ·
     rw [if_pos c33] at H
     have c33b0 : (t323 == 0) = true := beq_iff_eq.mpr c33
     have c33b1 : (t323 != 0) = false := bne_eq_false_iff_eq.mpr c33
     clear c33
     replace H := Option.bind_eq_some_iff.mp H
     obtain ⟨⟨t325, t326, t327⟩, A340, H⟩ := H
     replace H : (some (t321, t322, t325, t326, 0)) = some (r1, r2, r3, r4, r5) := H
     have A34 := Aside0.mk A340
     clear A340
     simp only [Option.some.injEq, Prod.mk.injEq] at H
     obtain ⟨rfl, rfl, rfl, rfl, rfl⟩ := H
     try go_wp2_with (first | ((with_reducible refine gate_callee (f := 51) rfl ?_); refine goesL_ (some 53) rfl rfl Try.func51 (by kernel_rfl) rfl #[.int .i64 65109000] rfl (by (try simp only [List.map_toArray, List.map_cons, List.map_nil]); first | done | rfl | (simp only [List.length_drop, List.length_take]; rfl)) ?_; (with_reducible refine (trig_Sin.calls kj2 65109000 t279 t280 t281 _ A18.out).mono ?_); rintro e w35 ⟨rfl, hb⟩; refine ⟨_, rfl, ?_⟩; replace BK275 := nx_ BK275 hb; replace BK276 := nx_ BK276 hb; replace BK277 := nx_ BK277 hb; replace BK278 := nx_ BK278 hb; replace HB := hx_ HB hb; (try clear hb); (try clear hb2); (try clear hk); (try clear hi)) | ((with_reducible refine gate_dst (N := 10) rfl ?_); refine box_event ?hg (N := 10) ?hd (cs := #[.int .i64 0, .int .i64 0]) (t := 23) ?hr ?_; (case hd => rfl); (case hg => rfl); (case hr => first | (go_simp; done) | (go_simp; rfl)); intro gb282 hg w36 hbox hb; have BK282 := Aside0.mk hbox; have GW282 := ge_ (hb_ HB.out) hg; have GE282 := ge_ (hb_ HB.out) hg; have NB275_282 := nb_ (gr_ BK275.out) hg; have NB282_275 := bn_ (gr_ BK275.out) hg; have NB276_282 := nb_ (gr_ BK276.out) hg; have NB282_276 := bn_ (gr_ BK276.out) hg; have NB277_282 := nb_ (gr_ BK277.out) hg; have NB282_277 := bn_ (gr_ BK277.out) hg; have NB278_282 := nb_ (gr_ BK278.out) hg; have NB282_278 := bn_ (gr_ BK278.out) hg; replace BK275 := nx_ BK275 hb; replace BK276 := nx_ BK276 hb; replace BK277 := nx_ BK277 hb; replace BK278 := nx_ BK278 hb; replace HB := hx_ HB hb; clear hb hbox hg; have hnb37 := NB282_275.out; have hnc37 := NB275_282.out; have hnb38 := NB282_276.out; have hnc38 := NB276_282.out; have hnb39 := NB282_277.out; have hnc39 := NB277_282.out; have hnb40 := NB282_278.out; have hnc40 := NB278_282.out; have hcz41_0 : w36.cell? ⟨gb282, 0, none⟩ = some (.int .i64 0) := (blk_cell BK282.out 0).trans rfl; have hcz41_1 : w36.cell? ⟨gb282, 1, none⟩ = some (.int .i64 0) := (blk_cell BK282.out 1).trans rfl; have hfz41_0 := blk_frozen BK282.out 0; have hfz41_1 := blk_frozen BK282.out 1) | ((with_reducible refine gate_callee (f := 53) rfl ?_); refine goesL_ (some 57) rfl rfl Try.func53 (by kernel_rfl) rfl #[.int .i64 65109000] rfl (by (try simp only [List.map_toArray, List.map_cons, List.map_nil]); first | done | rfl | (simp only [List.length_drop, List.length_take]; rfl)) ?_; (with_reducible refine (trig_Cos.calls kj2 65109000 t283 t284 t285 _ A19.out).mono ?_); rintro e w42 ⟨rfl, hb⟩; refine ⟨_, rfl, ?_⟩; replace BK275 := Aside0.mk (blk_below (g := gb275) (o := .cells #[.int .i64 a0_0, .int .i64 a0_1] 23 (0, 0)) (gr_ (blk_far (gr_ (blk_far (gr_ BK275.out) NB275_282.out _)) NB275_282.out _)) hb); replace BK276 := Aside0.mk (blk_below (g := gb276) (o := .cells #[.int .i64 a1_0, .int .i64 a1_1] 23 (0, 0)) (gr_ (blk_far (gr_ (blk_far (gr_ BK276.out) NB276_282.out _)) NB276_282.out _)) hb); replace BK277 := Aside0.mk (blk_below (g := gb277) (o := .cells #[.int .i64 0, .int .i64 0] 23 (0, 0)) (gr_ (blk_far (gr_ (blk_far (gr_ BK277.out) NB277_282.out _)) NB277_282.out _)) hb); replace BK278 := Aside0.mk (blk_below (g := gb278) (o := .cells #[.int .i64 0, .int .i64 0] 23 (0, 0)) (gr_ (blk_far (gr_ (blk_far (gr_ BK278.out) NB278_282.out _)) NB278_282.out _)) hb); replace BK282 := Aside0.mk (blk_below (g := gb282) (o := .cells #[.int .i64 t279, .int .i64 t280] 23 (0, 0)) (gr_ (blk_put (cs := #[.int .i64 t279, .int .i64 0]) (gr_ (blk_put (cs := #[.int .i64 0, .int .i64 0]) (gr_ BK282.out) 0 _ rfl)) 1 _ rfl)) hb); replace HB := Aside0.mk (below_step (by repeat (first | (with_reducible first | exact HB.out | apply below_alloc | apply pw_below_drewN | apply below_drew1 | refine below_set ?_ GE282.out) | exact HB.out)) hb); (try clear hb); (try clear hb2); (try clear hk); (try clear hi)) | ((with_reducible refine gate_dst (N := 12) rfl ?_); refine box_event ?hg (N := 12) ?hd (cs := #[.int .i64 0, .int .i64 0]) (t := 23) ?hr ?_; (case hd => rfl); (case hg => rfl); (case hr => first | (go_simp; done) | (go_simp; rfl)); intro gb286 hg w43 hbox hb; have BK286 := Aside0.mk hbox; have GW286 := ge_ (hb_ HB.out) hg; have GE286 := ge_ (hb_ HB.out) hg; have NB275_286 := nb_ (gr_ BK275.out) hg; have NB286_275 := bn_ (gr_ BK275.out) hg; have NB276_286 := nb_ (gr_ BK276.out) hg; have NB286_276 := bn_ (gr_ BK276.out) hg; have NB277_286 := nb_ (gr_ BK277.out) hg; have NB286_277 := bn_ (gr_ BK277.out) hg; have NB278_286 := nb_ (gr_ BK278.out) hg; have NB286_278 := bn_ (gr_ BK278.out) hg; have NB282_286 := nb_ (gr_ BK282.out) hg; have NB286_282 := bn_ (gr_ BK282.out) hg; replace BK275 := nx_ BK275 hb; replace BK276 := nx_ BK276 hb; replace BK277 := nx_ BK277 hb; replace BK278 := nx_ BK278 hb; replace BK282 := nx_ BK282 hb; replace HB := hx_ HB hb; clear hb hbox hg; have hnb44 := NB286_275.out; have hnc44 := NB275_286.out; have hnb45 := NB286_276.out; have hnc45 := NB276_286.out; have hnb46 := NB286_277.out; have hnc46 := NB277_286.out; have hnb47 := NB286_278.out; have hnc47 := NB278_286.out; have hnb48 := NB286_282.out; have hnc48 := NB282_286.out; have hcz49_0 : w43.cell? ⟨gb286, 0, none⟩ = some (.int .i64 0) := (blk_cell BK286.out 0).trans rfl; have hcz49_1 : w43.cell? ⟨gb286, 1, none⟩ = some (.int .i64 0) := (blk_cell BK286.out 1).trans rfl; have hfz49_0 := blk_frozen BK286.out 0; have hfz49_1 := blk_frozen BK286.out 1; have hnb50 := NB275_276.out; have hnc50 := NB276_275.out; have hnb51 := NB275_277.out; have hnc51 := NB277_275.out; have hnb52 := NB275_278.out; have hnc52 := NB278_275.out; have hcz53_0 : w43.cell? ⟨gb275, 0, none⟩ = some (.int .i64 a0_0) := (blk_cell BK275.out 0).trans rfl; have hcz53_1 : w43.cell? ⟨gb275, 1, none⟩ = some (.int .i64 a0_1) := (blk_cell BK275.out 1).trans rfl; have hfz53_0 := blk_frozen BK275.out 0; have hfz53_1 := blk_frozen BK275.out 1) | ((with_reducible refine gate_callee (f := 17) rfl ?_); refine goesL_ (some 62) rfl rfl Try.func17 (by kernel_rfl) rfl #[.agg #[.int .i64 a0_0, .int .i64 a0_1]] rfl (by (try simp only [List.map_toArray, List.map_cons, List.map_nil]); first | done | rfl | (simp only [List.length_drop, List.length_take]; rfl)) ?_; (with_reducible refine (trig_SinOver.calls kj2 a0_0 a0_1 t287 t288 t289 _ A20.out).mono ?_); rintro e w54 ⟨rfl, hb⟩; refine ⟨_, rfl, ?_⟩; replace BK275 := Aside0.mk (blk_below (g := gb275) (o := .cells #[.int .i64 a0_0, .int .i64 a0_1] 23 (0, 0)) (gr_ (blk_far (gr_ (blk_far (gr_ BK275.out) NB275_286.out _)) NB275_286.out _)) hb); replace BK276 := Aside0.mk (blk_below (g := gb276) (o := .cells #[.int .i64 a1_0, .int .i64 a1_1] 23 (0, 0)) (gr_ (blk_far (gr_ (blk_far (gr_ BK276.out) NB276_286.out _)) NB276_286.out _)) hb); replace BK277 := Aside0.mk (blk_below (g := gb277) (o := .cells #[.int .i64 0, .int .i64 0] 23 (0, 0)) (gr_ (blk_far (gr_ (blk_far (gr_ BK277.out) NB277_286.out _)) NB277_286.out _)) hb); replace BK278 := Aside0.mk (blk_below (g := gb278) (o := .cells #[.int .i64 0, .int .i64 0] 23 (0, 0)) (gr_ (blk_far (gr_ (blk_far (gr_ BK278.out) NB278_286.out _)) NB278_286.out _)) hb); replace BK282 := Aside0.mk (blk_below (g := gb282) (o := .cells #[.int .i64 t279, .int .i64 t280] 23 (0, 0)) (gr_ (blk_far (gr_ (blk_far (gr_ BK282.out) NB282_286.out _)) NB282_286.out _)) hb); replace BK286 := Aside0.mk (blk_below (g := gb286) (o := .cells #[.int .i64 t283, .int .i64 t284] 23 (0, 0)) (gr_ (blk_put (cs := #[.int .i64 t283, .int .i64 0]) (gr_ (blk_put (cs := #[.int .i64 0, .int .i64 0]) (gr_ BK286.out) 0 _ rfl)) 1 _ rfl)) hb); replace HB := Aside0.mk (below_step (by repeat (first | (with_reducible first | exact HB.out | apply below_alloc | apply pw_below_drewN | apply below_drew1 | refine below_set ?_ GE286.out) | exact HB.out)) hb); (try clear hb); (try clear hb2); (try clear hk); (try clear hi)) | ((with_reducible refine gate_dst (N := 14) rfl ?_); refine box_event ?hg (N := 14) ?hd (cs := #[.int .i64 0, .int .i64 0]) (t := 23) ?hr ?_; (case hd => rfl); (case hg => rfl); (case hr => first | (go_simp; done) | (go_simp; rfl)); intro gb290 hg w55 hbox hb; have BK290 := Aside0.mk hbox; have GW290 := ge_ (hb_ HB.out) hg; have GE290 := ge_ (hb_ HB.out) hg; have NB275_290 := nb_ (gr_ BK275.out) hg; have NB290_275 := bn_ (gr_ BK275.out) hg; have NB276_290 := nb_ (gr_ BK276.out) hg; have NB290_276 := bn_ (gr_ BK276.out) hg; have NB277_290 := nb_ (gr_ BK277.out) hg; have NB290_277 := bn_ (gr_ BK277.out) hg; have NB278_290 := nb_ (gr_ BK278.out) hg; have NB290_278 := bn_ (gr_ BK278.out) hg; have NB282_290 := nb_ (gr_ BK282.out) hg; have NB290_282 := bn_ (gr_ BK282.out) hg; have NB286_290 := nb_ (gr_ BK286.out) hg; have NB290_286 := bn_ (gr_ BK286.out) hg; replace BK275 := nx_ BK275 hb; replace BK276 := nx_ BK276 hb; replace BK277 := nx_ BK277 hb; replace BK278 := nx_ BK278 hb; replace BK282 := nx_ BK282 hb; replace BK286 := nx_ BK286 hb; replace HB := hx_ HB hb; clear hb hbox hg; have hnb56 := NB290_275.out; have hnc56 := NB275_290.out; have hnb57 := NB290_276.out; have hnc57 := NB276_290.out; have hnb58 := NB290_277.out; have hnc58 := NB277_290.out; have hnb59 := NB290_278.out; have hnc59 := NB278_290.out; have hnb60 := NB290_282.out; have hnc60 := NB282_290.out; have hnb61 := NB290_286.out; have hnc61 := NB286_290.out; have hcz62_0 : w55.cell? ⟨gb290, 0, none⟩ = some (.int .i64 0) := (blk_cell BK290.out 0).trans rfl; have hcz62_1 : w55.cell? ⟨gb290, 1, none⟩ = some (.int .i64 0) := (blk_cell BK290.out 1).trans rfl; have hfz62_0 := blk_frozen BK290.out 0; have hfz62_1 := blk_frozen BK290.out 1; have hcz63_0 : w55.cell? ⟨gb275, 0, none⟩ = some (.int .i64 a0_0) := (blk_cell BK275.out 0).trans rfl; have hcz63_1 : w55.cell? ⟨gb275, 1, none⟩ = some (.int .i64 a0_1) := (blk_cell BK275.out 1).trans rfl; have hfz63_0 := blk_frozen BK275.out 0; have hfz63_1 := blk_frozen BK275.out 1) | ((with_reducible refine gate_callee (f := 18) rfl ?_); refine goesL_ (some 67) rfl rfl Try.func18 (by kernel_rfl) rfl #[.agg #[.int .i64 a0_0, .int .i64 a0_1]] rfl (by (try simp only [List.map_toArray, List.map_cons, List.map_nil]); first | done | rfl | (simp only [List.length_drop, List.length_take]; rfl)) ?_; (with_reducible refine (trig_CosOver.calls kj2 a0_0 a0_1 t291 t292 t293 _ A21.out).mono ?_); rintro e w64 ⟨rfl, hb⟩; refine ⟨_, rfl, ?_⟩; replace BK275 := Aside0.mk (blk_below (g := gb275) (o := .cells #[.int .i64 a0_0, .int .i64 a0_1] 23 (0, 0)) (gr_ (blk_far (gr_ (blk_far (gr_ BK275.out) NB275_290.out _)) NB275_290.out _)) hb); replace BK276 := Aside0.mk (blk_below (g := gb276) (o := .cells #[.int .i64 a1_0, .int .i64 a1_1] 23 (0, 0)) (gr_ (blk_far (gr_ (blk_far (gr_ BK276.out) NB276_290.out _)) NB276_290.out _)) hb); replace BK277 := Aside0.mk (blk_below (g := gb277) (o := .cells #[.int .i64 0, .int .i64 0] 23 (0, 0)) (gr_ (blk_far (gr_ (blk_far (gr_ BK277.out) NB277_290.out _)) NB277_290.out _)) hb); replace BK278 := Aside0.mk (blk_below (g := gb278) (o := .cells #[.int .i64 0, .int .i64 0] 23 (0, 0)) (gr_ (blk_far (gr_ (blk_far (gr_ BK278.out) NB278_290.out _)) NB278_290.out _)) hb); replace BK282 := Aside0.mk (blk_below (g := gb282) (o := .cells #[.int .i64 t279, .int .i64 t280] 23 (0, 0)) (gr_ (blk_far (gr_ (blk_far (gr_ BK282.out) NB282_290.out _)) NB282_290.out _)) hb); replace BK286 := Aside0.mk (blk_below (g := gb286) (o := .cells #[.int .i64 t283, .int .i64 t284] 23 (0, 0)) (gr_ (blk_far (gr_ (blk_far (gr_ BK286.out) NB286_290.out _)) NB286_290.out _)) hb); replace BK290 := Aside0.mk (blk_below (g := gb290) (o := .cells #[.int .i64 t287, .int .i64 t288] 23 (0, 0)) (gr_ (blk_put (cs := #[.int .i64 t287, .int .i64 0]) (gr_ (blk_put (cs := #[.int .i64 0, .int .i64 0]) (gr_ BK290.out) 0 _ rfl)) 1 _ rfl)) hb); replace HB := Aside0.mk (below_step (by repeat (first | (with_reducible first | exact HB.out | apply below_alloc | apply pw_below_drewN | apply below_drew1 | refine below_set ?_ GE290.out) | exact HB.out)) hb); (try clear hb); (try clear hb2); (try clear hk); (try clear hi)) | ((with_reducible refine gate_dst (N := 16) rfl ?_); refine box_event ?hg (N := 16) ?hd (cs := #[.int .i64 0, .int .i64 0]) (t := 23) ?hr ?_; (case hd => rfl); (case hg => rfl); (case hr => first | (go_simp; done) | (go_simp; rfl)); intro gb294 hg w65 hbox hb; have BK294 := Aside0.mk hbox; have GW294 := ge_ (hb_ HB.out) hg; have GE294 := ge_ (hb_ HB.out) hg; have NB275_294 := nb_ (gr_ BK275.out) hg; have NB294_275 := bn_ (gr_ BK275.out) hg; have NB276_294 := nb_ (gr_ BK276.out) hg; have NB294_276 := bn_ (gr_ BK276.out) hg; have NB277_294 := nb_ (gr_ BK277.out) hg; have NB294_277 := bn_ (gr_ BK277.out) hg; have NB278_294 := nb_ (gr_ BK278.out) hg; have NB294_278 := bn_ (gr_ BK278.out) hg; have NB282_294 := nb_ (gr_ BK282.out) hg; have NB294_282 := bn_ (gr_ BK282.out) hg; have NB286_294 := nb_ (gr_ BK286.out) hg; have NB294_286 := bn_ (gr_ BK286.out) hg; have NB290_294 := nb_ (gr_ BK290.out) hg; have NB294_290 := bn_ (gr_ BK290.out) hg; replace BK275 := nx_ BK275 hb; replace BK276 := nx_ BK276 hb; replace BK277 := nx_ BK277 hb; replace BK278 := nx_ BK278 hb; replace BK282 := nx_ BK282 hb; replace BK286 := nx_ BK286 hb; replace BK290 := nx_ BK290 hb; replace HB := hx_ HB hb; clear hb hbox hg; have hnb66 := NB294_275.out; have hnc66 := NB275_294.out; have hnb67 := NB294_276.out; have hnc67 := NB276_294.out; have hnb68 := NB294_277.out; have hnc68 := NB277_294.out; have hnb69 := NB294_278.out; have hnc69 := NB278_294.out; have hnb70 := NB294_282.out; have hnc70 := NB282_294.out; have hnb71 := NB294_286.out; have hnc71 := NB286_294.out; have hnb72 := NB294_290.out; have hnc72 := NB290_294.out; have hcz73_0 : w65.cell? ⟨gb294, 0, none⟩ = some (.int .i64 0) := (blk_cell BK294.out 0).trans rfl; have hcz73_1 : w65.cell? ⟨gb294, 1, none⟩ = some (.int .i64 0) := (blk_cell BK294.out 1).trans rfl; have hfz73_0 := blk_frozen BK294.out 0; have hfz73_1 := blk_frozen BK294.out 1; have hnb74 := NB276_277.out; have hnc74 := NB277_276.out; have hnb75 := NB276_278.out; have hnc75 := NB278_276.out; have hcz76_0 : w65.cell? ⟨gb276, 0, none⟩ = some (.int .i64 a1_0) := (blk_cell BK276.out 0).trans rfl; have hcz76_1 : w65.cell? ⟨gb276, 1, none⟩ = some (.int .i64 a1_1) := (blk_cell BK276.out 1).trans rfl; have hfz76_0 := blk_frozen BK276.out 0; have hfz76_1 := blk_frozen BK276.out 1) | ((with_reducible refine gate_callee (f := 17) rfl ?_); refine goesL_ (some 72) rfl rfl Try.func17 (by kernel_rfl) rfl #[.agg #[.int .i64 a1_0, .int .i64 a1_1]] rfl (by (try simp only [List.map_toArray, List.map_cons, List.map_nil]); first | done | rfl | (simp only [List.length_drop, List.length_take]; rfl)) ?_; (with_reducible refine (trig_SinOver.calls kj2 a1_0 a1_1 t295 t296 t297 _ A22.out).mono ?_); rintro e w77 ⟨rfl, hb⟩; refine ⟨_, rfl, ?_⟩; replace BK275 := Aside0.mk (blk_below (g := gb275) (o := .cells #[.int .i64 a0_0, .int .i64 a0_1] 23 (0, 0)) (gr_ (blk_far (gr_ (blk_far (gr_ BK275.out) NB275_294.out _)) NB275_294.out _)) hb); replace BK276 := Aside0.mk (blk_below (g := gb276) (o := .cells #[.int .i64 a1_0, .int .i64 a1_1] 23 (0, 0)) (gr_ (blk_far (gr_ (blk_far (gr_ BK276.out) NB276_294.out _)) NB276_294.out _)) hb); replace BK277 := Aside0.mk (blk_below (g := gb277) (o := .cells #[.int .i64 0, .int .i64 0] 23 (0, 0)) (gr_ (blk_far (gr_ (blk_far (gr_ BK277.out) NB277_294.out _)) NB277_294.out _)) hb); replace BK278 := Aside0.mk (blk_below (g := gb278) (o := .cells #[.int .i64 0, .int .i64 0] 23 (0, 0)) (gr_ (blk_far (gr_ (blk_far (gr_ BK278.out) NB278_294.out _)) NB278_294.out _)) hb); replace BK282 := Aside0.mk (blk_below (g := gb282) (o := .cells #[.int .i64 t279, .int .i64 t280] 23 (0, 0)) (gr_ (blk_far (gr_ (blk_far (gr_ BK282.out) NB282_294.out _)) NB282_294.out _)) hb); replace BK286 := Aside0.mk (blk_below (g := gb286) (o := .cells #[.int .i64 t283, .int .i64 t284] 23 (0, 0)) (gr_ (blk_far (gr_ (blk_far (gr_ BK286.out) NB286_294.out _)) NB286_294.out _)) hb); replace BK290 := Aside0.mk (blk_below (g := gb290) (o := .cells #[.int .i64 t287, .int .i64 t288] 23 (0, 0)) (gr_ (blk_far (gr_ (blk_far (gr_ BK290.out) NB290_294.out _)) NB290_294.out _)) hb); replace BK294 := Aside0.mk (blk_below (g := gb294) (o := .cells #[.int .i64 t291, .int .i64 t292] 23 (0, 0)) (gr_ (blk_put (cs := #[.int .i64 t291, .int .i64 0]) (gr_ (blk_put (cs := #[.int .i64 0, .int .i64 0]) (gr_ BK294.out) 0 _ rfl)) 1 _ rfl)) hb); replace HB := Aside0.mk (below_step (by repeat (first | (with_reducible first | exact HB.out | apply below_alloc | apply pw_below_drewN | apply below_drew1 | refine below_set ?_ GE294.out) | exact HB.out)) hb); (try clear hb); (try clear hb2); (try clear hk); (try clear hi)) | ((with_reducible refine gate_dst (N := 18) rfl ?_); refine box_event ?hg (N := 18) ?hd (cs := #[.int .i64 0, .int .i64 0]) (t := 23) ?hr ?_; (case hd => rfl); (case hg => rfl); (case hr => first | (go_simp; done) | (go_simp; rfl)); intro gb298 hg w78 hbox hb; have BK298 := Aside0.mk hbox; have GW298 := ge_ (hb_ HB.out) hg; have GE298 := ge_ (hb_ HB.out) hg; have NB275_298 := nb_ (gr_ BK275.out) hg; have NB298_275 := bn_ (gr_ BK275.out) hg; have NB276_298 := nb_ (gr_ BK276.out) hg; have NB298_276 := bn_ (gr_ BK276.out) hg; have NB277_298 := nb_ (gr_ BK277.out) hg; have NB298_277 := bn_ (gr_ BK277.out) hg; have NB278_298 := nb_ (gr_ BK278.out) hg; have NB298_278 := bn_ (gr_ BK278.out) hg; have NB282_298 := nb_ (gr_ BK282.out) hg; have NB298_282 := bn_ (gr_ BK282.out) hg; have NB286_298 := nb_ (gr_ BK286.out) hg; have NB298_286 := bn_ (gr_ BK286.out) hg; have NB290_298 := nb_ (gr_ BK290.out) hg; have NB298_290 := bn_ (gr_ BK290.out) hg; have NB294_298 := nb_ (gr_ BK294.out) hg; have NB298_294 := bn_ (gr_ BK294.out) hg; replace BK275 := nx_ BK275 hb; replace BK276 := nx_ BK276 hb; replace BK277 := nx_ BK277 hb; replace BK278 := nx_ BK278 hb; replace BK282 := nx_ BK282 hb; replace BK286 := nx_ BK286 hb; replace BK290 := nx_ BK290 hb; replace BK294 := nx_ BK294 hb; replace HB := hx_ HB hb; clear hb hbox hg; have hnb79 := NB298_275.out; have hnc79 := NB275_298.out; have hnb80 := NB298_276.out; have hnc80 := NB276_298.out; have hnb81 := NB298_277.out; have hnc81 := NB277_298.out; have hnb82 := NB298_278.out; have hnc82 := NB278_298.out; have hnb83 := NB298_282.out; have hnc83 := NB282_298.out; have hnb84 := NB298_286.out; have hnc84 := NB286_298.out; have hnb85 := NB298_290.out; have hnc85 := NB290_298.out; have hnb86 := NB298_294.out; have hnc86 := NB294_298.out; have hcz87_0 : w78.cell? ⟨gb298, 0, none⟩ = some (.int .i64 0) := (blk_cell BK298.out 0).trans rfl; have hcz87_1 : w78.cell? ⟨gb298, 1, none⟩ = some (.int .i64 0) := (blk_cell BK298.out 1).trans rfl; have hfz87_0 := blk_frozen BK298.out 0; have hfz87_1 := blk_frozen BK298.out 1; have hcz88_0 : w78.cell? ⟨gb276, 0, none⟩ = some (.int .i64 a1_0) := (blk_cell BK276.out 0).trans rfl; have hcz88_1 : w78.cell? ⟨gb276, 1, none⟩ = some (.int .i64 a1_1) := (blk_cell BK276.out 1).trans rfl; have hfz88_0 := blk_frozen BK276.out 0; have hfz88_1 := blk_frozen BK276.out 1) | ((with_reducible refine gate_callee (f := 18) rfl ?_); refine goesL_ (some 77) rfl rfl Try.func18 (by kernel_rfl) rfl #[.agg #[.int .i64 a1_0, .int .i64 a1_1]] rfl (by (try simp only [List.map_toArray, List.map_cons, List.map_nil]); first | done | rfl | (simp only [List.length_drop, List.length_take]; rfl)) ?_; (with_reducible refine (trig_CosOver.calls kj2 a1_0 a1_1 t299 t300 t301 _ A23.out).mono ?_); rintro e w89 ⟨rfl, hb⟩; refine ⟨_, rfl, ?_⟩; replace BK275 := Aside0.mk (blk_below (g := gb275) (o := .cells #[.int .i64 a0_0, .int .i64 a0_1] 23 (0, 0)) (gr_ (blk_far (gr_ (blk_far (gr_ BK275.out) NB275_298.out _)) NB275_298.out _)) hb); replace BK276 := Aside0.mk (blk_below (g := gb276) (o := .cells #[.int .i64 a1_0, .int .i64 a1_1] 23 (0, 0)) (gr_ (blk_far (gr_ (blk_far (gr_ BK276.out) NB276_298.out _)) NB276_298.out _)) hb); replace BK277 := Aside0.mk (blk_below (g := gb277) (o := .cells #[.int .i64 0, .int .i64 0] 23 (0, 0)) (gr_ (blk_far (gr_ (blk_far (gr_ BK277.out) NB277_298.out _)) NB277_298.out _)) hb); replace BK278 := Aside0.mk (blk_below (g := gb278) (o := .cells #[.int .i64 0, .int .i64 0] 23 (0, 0)) (gr_ (blk_far (gr_ (blk_far (gr_ BK278.out) NB278_298.out _)) NB278_298.out _)) hb); replace BK282 := Aside0.mk (blk_below (g := gb282) (o := .cells #[.int .i64 t279, .int .i64 t280] 23 (0, 0)) (gr_ (blk_far (gr_ (blk_far (gr_ BK282.out) NB282_298.out _)) NB282_298.out _)) hb); replace BK286 := Aside0.mk (blk_below (g := gb286) (o := .cells #[.int .i64 t283, .int .i64 t284] 23 (0, 0)) (gr_ (blk_far (gr_ (blk_far (gr_ BK286.out) NB286_298.out _)) NB286_298.out _)) hb); replace BK290 := Aside0.mk (blk_below (g := gb290) (o := .cells #[.int .i64 t287, .int .i64 t288] 23 (0, 0)) (gr_ (blk_far (gr_ (blk_far (gr_ BK290.out) NB290_298.out _)) NB290_298.out _)) hb); replace BK294 := Aside0.mk (blk_below (g := gb294) (o := .cells #[.int .i64 t291, .int .i64 t292] 23 (0, 0)) (gr_ (blk_far (gr_ (blk_far (gr_ BK294.out) NB294_298.out _)) NB294_298.out _)) hb); replace BK298 := Aside0.mk (blk_below (g := gb298) (o := .cells #[.int .i64 t295, .int .i64 t296] 23 (0, 0)) (gr_ (blk_put (cs := #[.int .i64 t295, .int .i64 0]) (gr_ (blk_put (cs := #[.int .i64 0, .int .i64 0]) (gr_ BK298.out) 0 _ rfl)) 1 _ rfl)) hb); replace HB := Aside0.mk (below_step (by repeat (first | (with_reducible first | exact HB.out | apply below_alloc | apply pw_below_drewN | apply below_drew1 | refine below_set ?_ GE298.out) | exact HB.out)) hb); (try clear hb); (try clear hb2); (try clear hk); (try clear hi)) | ((with_reducible refine gate_dst (N := 20) rfl ?_); refine box_event ?hg (N := 20) ?hd (cs := #[.int .i64 0, .int .i64 0]) (t := 23) ?hr ?_; (case hd => rfl); (case hg => rfl); (case hr => first | (go_simp; done) | (go_simp; rfl)); intro gb302 hg w90 hbox hb; have BK302 := Aside0.mk hbox; have GW302 := ge_ (hb_ HB.out) hg; have GE302 := ge_ (hb_ HB.out) hg; have NB275_302 := nb_ (gr_ BK275.out) hg; have NB302_275 := bn_ (gr_ BK275.out) hg; have NB276_302 := nb_ (gr_ BK276.out) hg; have NB302_276 := bn_ (gr_ BK276.out) hg; have NB277_302 := nb_ (gr_ BK277.out) hg; have NB302_277 := bn_ (gr_ BK277.out) hg; have NB278_302 := nb_ (gr_ BK278.out) hg; have NB302_278 := bn_ (gr_ BK278.out) hg; have NB282_302 := nb_ (gr_ BK282.out) hg; have NB302_282 := bn_ (gr_ BK282.out) hg; have NB286_302 := nb_ (gr_ BK286.out) hg; have NB302_286 := bn_ (gr_ BK286.out) hg; have NB290_302 := nb_ (gr_ BK290.out) hg; have NB302_290 := bn_ (gr_ BK290.out) hg; have NB294_302 := nb_ (gr_ BK294.out) hg; have NB302_294 := bn_ (gr_ BK294.out) hg; have NB298_302 := nb_ (gr_ BK298.out) hg; have NB302_298 := bn_ (gr_ BK298.out) hg; replace BK275 := nx_ BK275 hb; replace BK276 := nx_ BK276 hb; replace BK277 := nx_ BK277 hb; replace BK278 := nx_ BK278 hb; replace BK282 := nx_ BK282 hb; replace BK286 := nx_ BK286 hb; replace BK290 := nx_ BK290 hb; replace BK294 := nx_ BK294 hb; replace BK298 := nx_ BK298 hb; replace HB := hx_ HB hb; clear hb hbox hg; have hnb91 := NB302_275.out; have hnc91 := NB275_302.out; have hnb92 := NB302_276.out; have hnc92 := NB276_302.out; have hnb93 := NB302_277.out; have hnc93 := NB277_302.out; have hnb94 := NB302_278.out; have hnc94 := NB278_302.out; have hnb95 := NB302_282.out; have hnc95 := NB282_302.out; have hnb96 := NB302_286.out; have hnc96 := NB286_302.out; have hnb97 := NB302_290.out; have hnc97 := NB290_302.out; have hnb98 := NB302_294.out; have hnc98 := NB294_302.out; have hnb99 := NB302_298.out; have hnc99 := NB298_302.out; have hcz100_0 : w90.cell? ⟨gb302, 0, none⟩ = some (.int .i64 0) := (blk_cell BK302.out 0).trans rfl; have hcz100_1 : w90.cell? ⟨gb302, 1, none⟩ = some (.int .i64 0) := (blk_cell BK302.out 1).trans rfl; have hfz100_0 := blk_frozen BK302.out 0; have hfz100_1 := blk_frozen BK302.out 1; have hcz101_0 : w90.cell? ⟨gb290, 0, none⟩ = some (.int .i64 t287) := (blk_cell BK290.out 0).trans rfl; have hcz101_1 : w90.cell? ⟨gb290, 1, none⟩ = some (.int .i64 t288) := (blk_cell BK290.out 1).trans rfl; have hfz101_0 := blk_frozen BK290.out 0; have hfz101_1 := blk_frozen BK290.out 1) | ((with_reducible refine gate_callee (f := 61) rfl ?_); refine goesL_ (some 82) rfl rfl Try.func61 (by kernel_rfl) rfl #[.agg #[.int .i64 t299, .int .i64 t300], .agg #[.int .i64 t287, .int .i64 t288]] rfl (by (try simp only [List.map_toArray, List.map_cons, List.map_nil]); first | done | rfl | (simp only [List.length_drop, List.length_take]; rfl)) ?_; (with_reducible refine (sun_Unit.calls t299 t300 t287 t288 t303 t304 _ A24.out).mono ?_); rintro e w102 ⟨rfl, hb⟩; refine ⟨_, rfl, ?_⟩; replace BK275 := Aside0.mk (blk_below (g := gb275) (o := .cells #[.int .i64 a0_0, .int .i64 a0_1] 23 (0, 0)) (gr_ (blk_far (gr_ (blk_far (gr_ BK275.out) NB275_302.out _)) NB275_302.out _)) hb); replace BK276 := Aside0.mk (blk_below (g := gb276) (o := .cells #[.int .i64 a1_0, .int .i64 a1_1] 23 (0, 0)) (gr_ (blk_far (gr_ (blk_far (gr_ BK276.out) NB276_302.out _)) NB276_302.out _)) hb); replace BK277 := Aside0.mk (blk_below (g := gb277) (o := .cells #[.int .i64 0, .int .i64 0] 23 (0, 0)) (gr_ (blk_far (gr_ (blk_far (gr_ BK277.out) NB277_302.out _)) NB277_302.out _)) hb); replace BK278 := Aside0.mk (blk_below (g := gb278) (o := .cells #[.int .i64 0, .int .i64 0] 23 (0, 0)) (gr_ (blk_far (gr_ (blk_far (gr_ BK278.out) NB278_302.out _)) NB278_302.out _)) hb); replace BK282 := Aside0.mk (blk_below (g := gb282) (o := .cells #[.int .i64 t279, .int .i64 t280] 23 (0, 0)) (gr_ (blk_far (gr_ (blk_far (gr_ BK282.out) NB282_302.out _)) NB282_302.out _)) hb); replace BK286 := Aside0.mk (blk_below (g := gb286) (o := .cells #[.int .i64 t283, .int .i64 t284] 23 (0, 0)) (gr_ (blk_far (gr_ (blk_far (gr_ BK286.out) NB286_302.out _)) NB286_302.out _)) hb); replace BK290 := Aside0.mk (blk_below (g := gb290) (o := .cells #[.int .i64 t287, .int .i64 t288] 23 (0, 0)) (gr_ (blk_far (gr_ (blk_far (gr_ BK290.out) NB290_302.out _)) NB290_302.out _)) hb); replace BK294 := Aside0.mk (blk_below (g := gb294) (o := .cells #[.int .i64 t291, .int .i64 t292] 23 (0, 0)) (gr_ (blk_far (gr_ (blk_far (gr_ BK294.out) NB294_302.out _)) NB294_302.out _)) hb); replace BK298 := Aside0.mk (blk_below (g := gb298) (o := .cells #[.int .i64 t295, .int .i64 t296] 23 (0, 0)) (gr_ (blk_far (gr_ (blk_far (gr_ BK298.out) NB298_302.out _)) NB298_302.out _)) hb); replace BK302 := Aside0.mk (blk_below (g := gb302) (o := .cells #[.int .i64 t299, .int .i64 t300] 23 (0, 0)) (gr_ (blk_put (cs := #[.int .i64 t299, .int .i64 0]) (gr_ (blk_put (cs := #[.int .i64 0, .int .i64 0]) (gr_ BK302.out) 0 _ rfl)) 1 _ rfl)) hb); replace HB := Aside0.mk (below_step (by repeat (first | (with_reducible first | exact HB.out | apply below_alloc | apply pw_below_drewN | apply below_drew1 | refine below_set ?_ GE302.out) | exact HB.out)) hb); (try clear hb); (try clear hb2); (try clear hk); (try clear hi)) | ((with_reducible refine gate_dst (N := 22) rfl ?_); refine box_event ?hg (N := 22) ?hd (cs := #[.int .i64 0, .int .i64 0]) (t := 23) ?hr ?_; (case hd => rfl); (case hg => rfl); (case hr => first | (go_simp; done) | (go_simp; rfl)); intro gb305 hg w103 hbox hb; have BK305 := Aside0.mk hbox; have GW305 := ge_ (hb_ HB.out) hg; have GE305 := ge_ (hb_ HB.out) hg; have NB275_305 := nb_ (gr_ BK275.out) hg; have NB305_275 := bn_ (gr_ BK275.out) hg; have NB276_305 := nb_ (gr_ BK276.out) hg; have NB305_276 := bn_ (gr_ BK276.out) hg; have NB277_305 := nb_ (gr_ BK277.out) hg; have NB305_277 := bn_ (gr_ BK277.out) hg; have NB278_305 := nb_ (gr_ BK278.out) hg; have NB305_278 := bn_ (gr_ BK278.out) hg; have NB282_305 := nb_ (gr_ BK282.out) hg; have NB305_282 := bn_ (gr_ BK282.out) hg; have NB286_305 := nb_ (gr_ BK286.out) hg; have NB305_286 := bn_ (gr_ BK286.out) hg; have NB290_305 := nb_ (gr_ BK290.out) hg; have NB305_290 := bn_ (gr_ BK290.out) hg; have NB294_305 := nb_ (gr_ BK294.out) hg; have NB305_294 := bn_ (gr_ BK294.out) hg; have NB298_305 := nb_ (gr_ BK298.out) hg; have NB305_298 := bn_ (gr_ BK298.out) hg; have NB302_305 := nb_ (gr_ BK302.out) hg; have NB305_302 := bn_ (gr_ BK302.out) hg; replace BK275 := nx_ BK275 hb; replace BK276 := nx_ BK276 hb; replace BK277 := nx_ BK277 hb; replace BK278 := nx_ BK278 hb; replace BK282 := nx_ BK282 hb; replace BK286 := nx_ BK286 hb; replace BK290 := nx_ BK290 hb; replace BK294 := nx_ BK294 hb; replace BK298 := nx_ BK298 hb; replace BK302 := nx_ BK302 hb; replace HB := hx_ HB hb; clear hb hbox hg; have hnb104 := NB305_275.out; have hnc104 := NB275_305.out; have hnb105 := NB305_276.out; have hnc105 := NB276_305.out; have hnb106 := NB305_277.out; have hnc106 := NB277_305.out; have hnb107 := NB305_278.out; have hnc107 := NB278_305.out; have hnb108 := NB305_282.out; have hnc108 := NB282_305.out; have hnb109 := NB305_286.out; have hnc109 := NB286_305.out; have hnb110 := NB305_290.out; have hnc110 := NB290_305.out; have hnb111 := NB305_294.out; have hnc111 := NB294_305.out; have hnb112 := NB305_298.out; have hnc112 := NB298_305.out; have hnb113 := NB305_302.out; have hnc113 := NB302_305.out; have hcz114_0 : w103.cell? ⟨gb305, 0, none⟩ = some (.int .i64 0) := (blk_cell BK305.out 0).trans rfl; have hcz114_1 : w103.cell? ⟨gb305, 1, none⟩ = some (.int .i64 0) := (blk_cell BK305.out 1).trans rfl; have hfz114_0 := blk_frozen BK305.out 0; have hfz114_1 := blk_frozen BK305.out 1))
     have n0_ : Aside0 (((w103.setCell ⟨gb305, 0, none⟩ (.int .i64 t303)).setCell ⟨gb305, 1, none⟩ (.int .i64 t304)).heap[gb275]? = some (.cells #[.int .i64 a0_0, .int .i64 a0_1] 23 (0, 0))) := ⟨(gr_ (blk_far (gr_ (blk_far (gr_ BK275.out) NB275_305.out _)) NB275_305.out _))⟩
     have n1_ : Aside0 (((w103.setCell ⟨gb305, 0, none⟩ (.int .i64 t303)).setCell ⟨gb305, 1, none⟩ (.int .i64 t304)).heap[gb276]? = some (.cells #[.int .i64 a1_0, .int .i64 a1_1] 23 (0, 0))) := ⟨(gr_ (blk_far (gr_ (blk_far (gr_ BK276.out) NB276_305.out _)) NB276_305.out _))⟩
     have n2_ : Aside0 (((w103.setCell ⟨gb305, 0, none⟩ (.int .i64 t303)).setCell ⟨gb305, 1, none⟩ (.int .i64 t304)).heap[gb277]? = some (.cells #[.int .i64 0, .int .i64 0] 23 (0, 0))) := ⟨(gr_ (blk_far (gr_ (blk_far (gr_ BK277.out) NB277_305.out _)) NB277_305.out _))⟩
     have n3_ : Aside0 (((w103.setCell ⟨gb305, 0, none⟩ (.int .i64 t303)).setCell ⟨gb305, 1, none⟩ (.int .i64 t304)).heap[gb278]? = some (.cells #[.int .i64 0, .int .i64 0] 23 (0, 0))) := ⟨(gr_ (blk_far (gr_ (blk_far (gr_ BK278.out) NB278_305.out _)) NB278_305.out _))⟩
     have n4_ : Aside0 (((w103.setCell ⟨gb305, 0, none⟩ (.int .i64 t303)).setCell ⟨gb305, 1, none⟩ (.int .i64 t304)).heap[gb282]? = some (.cells #[.int .i64 t279, .int .i64 t280] 23 (0, 0))) := ⟨(gr_ (blk_far (gr_ (blk_far (gr_ BK282.out) NB282_305.out _)) NB282_305.out _))⟩
     have n5_ : Aside0 (((w103.setCell ⟨gb305, 0, none⟩ (.int .i64 t303)).setCell ⟨gb305, 1, none⟩ (.int .i64 t304)).heap[gb286]? = some (.cells #[.int .i64 t283, .int .i64 t284] 23 (0, 0))) := ⟨(gr_ (blk_far (gr_ (blk_far (gr_ BK286.out) NB286_305.out _)) NB286_305.out _))⟩
     have n6_ : Aside0 (((w103.setCell ⟨gb305, 0, none⟩ (.int .i64 t303)).setCell ⟨gb305, 1, none⟩ (.int .i64 t304)).heap[gb290]? = some (.cells #[.int .i64 t287, .int .i64 t288] 23 (0, 0))) := ⟨(gr_ (blk_far (gr_ (blk_far (gr_ BK290.out) NB290_305.out _)) NB290_305.out _))⟩
     have n7_ : Aside0 (((w103.setCell ⟨gb305, 0, none⟩ (.int .i64 t303)).setCell ⟨gb305, 1, none⟩ (.int .i64 t304)).heap[gb294]? = some (.cells #[.int .i64 t291, .int .i64 t292] 23 (0, 0))) := ⟨(gr_ (blk_far (gr_ (blk_far (gr_ BK294.out) NB294_305.out _)) NB294_305.out _))⟩
     have n8_ : Aside0 (((w103.setCell ⟨gb305, 0, none⟩ (.int .i64 t303)).setCell ⟨gb305, 1, none⟩ (.int .i64 t304)).heap[gb298]? = some (.cells #[.int .i64 t295, .int .i64 t296] 23 (0, 0))) := ⟨(gr_ (blk_far (gr_ (blk_far (gr_ BK298.out) NB298_305.out _)) NB298_305.out _))⟩
     have n9_ : Aside0 (((w103.setCell ⟨gb305, 0, none⟩ (.int .i64 t303)).setCell ⟨gb305, 1, none⟩ (.int .i64 t304)).heap[gb302]? = some (.cells #[.int .i64 t299, .int .i64 t300] 23 (0, 0))) := ⟨(gr_ (blk_far (gr_ (blk_far (gr_ BK302.out) NB302_305.out _)) NB302_305.out _))⟩
     have n10_ : Aside0 (((w103.setCell ⟨gb305, 0, none⟩ (.int .i64 t303)).setCell ⟨gb305, 1, none⟩ (.int .i64 t304)).heap[gb305]? = some (.cells #[.int .i64 t303, .int .i64 t304] 23 (0, 0))) := ⟨(gr_ (blk_put (cs := #[.int .i64 t303, .int .i64 0]) (gr_ (blk_put (cs := #[.int .i64 0, .int .i64 0]) (gr_ BK305.out) 0 _ rfl)) 1 _ rfl))⟩
     have n11_ : Aside0 (Below w.heap.size w ((w103.setCell ⟨gb305, 0, none⟩ (.int .i64 t303)).setCell ⟨gb305, 1, none⟩ (.int .i64 t304))) := ⟨by repeat (first | (with_reducible first | exact HB.out | apply below_alloc | apply pw_below_drewN | apply below_drew1 | refine below_set ?_ GE275.out | refine below_set ?_ GE276.out | refine below_set ?_ GE277.out | refine below_set ?_ GE278.out | refine below_set ?_ GE282.out | refine below_set ?_ GE286.out | refine below_set ?_ GE290.out | refine below_set ?_ GE294.out | refine below_set ?_ GE298.out | refine below_set ?_ GE302.out | refine below_set ?_ GE305.out) | exact HB.out)⟩
     (try clear BK275)
     (try clear BK276)
     (try clear BK277)
     (try clear BK278)
     (try clear BK282)
     (try clear BK286)
     (try clear BK290)
     (try clear BK294)
     (try clear BK298)
     (try clear BK302)
     (try clear BK305)
     (try clear HB)
     generalize ((w103.setCell ⟨gb305, 0, none⟩ (.int .i64 t303)).setCell ⟨gb305, 1, none⟩ (.int .i64 t304)) = w115 at n0_ n1_ n2_ n3_ n4_ n5_ n6_ n7_ n8_ n9_ n10_ n11_ ⊢
     have BK275 := n0_
     have BK276 := n1_
     have BK277 := n2_
     have BK278 := n3_
     have BK282 := n4_
     have BK286 := n5_
     have BK290 := n6_
     have BK294 := n7_
     have BK298 := n8_
     have BK302 := n9_
     have BK305 := n10_
     have HB := n11_
     clear n0_ n1_ n2_ n3_ n4_ n5_ n6_ n7_ n8_ n9_ n10_ n11_
     have n0_ := Aside0.mk (blk_drew BK275.out)
     have n1_ := Aside0.mk (blk_drew BK276.out)
     have n2_ := Aside0.mk (blk_drew BK277.out)
     have n3_ := Aside0.mk (blk_drew BK278.out)
     have n4_ := Aside0.mk (blk_drew BK282.out)
     have n5_ := Aside0.mk (blk_drew BK286.out)
     have n6_ := Aside0.mk (blk_drew BK290.out)
     have n7_ := Aside0.mk (blk_drew BK294.out)
     have n8_ := Aside0.mk (blk_drew BK298.out)
     have n9_ := Aside0.mk (blk_drew BK302.out)
     have n10_ := Aside0.mk (blk_drew BK305.out)
     have n11_ := Aside0.mk (below_drew1 HB.out)
     clear BK275
     clear BK276
     clear BK277
     clear BK278
     clear BK282
     clear BK286
     clear BK290
     clear BK294
     clear BK298
     clear BK302
     clear BK305
     clear HB
     have BK275 := n0_
     have BK276 := n1_
     have BK277 := n2_
     have BK278 := n3_
     have BK282 := n4_
     have BK286 := n5_
     have BK290 := n6_
     have BK294 := n7_
     have BK298 := n8_
     have BK302 := n9_
     have BK305 := n10_
     have HB := n11_
     clear n0_ n1_ n2_ n3_ n4_ n5_ n6_ n7_ n8_ n9_ n10_ n11_
     refine start_ (n := 9) (S := fun w' => w'.cell? ⟨gb305, 0, none⟩ = some (.int .i64 t303) ∧ w'.cell? ⟨gb305, 1, none⟩ = some (.int .i64 t304) ∧ w'.cell? ⟨gb282, 0, none⟩ = some (.int .i64 t279) ∧ w'.cell? ⟨gb282, 1, none⟩ = some (.int .i64 t280) ∧ w'.cell? ⟨gb298, 0, none⟩ = some (.int .i64 t295) ∧ w'.cell? ⟨gb298, 1, none⟩ = some (.int .i64 t296) ∧ w'.cell? ⟨gb286, 0, none⟩ = some (.int .i64 t283) ∧ w'.cell? ⟨gb286, 1, none⟩ = some (.int .i64 t284)) (ds := []) #[false, false, false, false, false, false, false, false, false] (by kernel_rfl) rfl rfl ⟨(blk_cell BK305.out 0).trans rfl, (blk_cell BK305.out 1).trans rfl, (blk_cell BK282.out 0).trans rfl, (blk_cell BK282.out 1).trans rfl, (blk_cell BK298.out 0).trans rfl, (blk_cell BK298.out 1).trans rfl, (blk_cell BK286.out 0).trans rfl, (blk_cell BK286.out 1).trans rfl⟩ (fun hHeld => ?_); refine with_tabW sun_Equator.tab17 sun_Equator.bits17 (fun HT_ HW_ => ?_)
     generalize w115.drew = w116 at BK275 BK276 BK277 BK278 BK282 BK286 BK290 BK294 BK298 BK302 BK305 HB hHeld ⊢
     refine take_ (i := 0) (N := some 83) (v := ?_) (a' := ?_) #[true, false, false, false, false, false, false, false, false] rfl rfl (take_ofW HT_.out HW_.out (by kernel_rfl)) (fun _ _ _ h => h) (Or.inl ⟨by rfl, ?_⟩) hHeld ?_ ?_
     rotate_left
     ·
      rintro w' ⟨s0, s1, s2, s3, s4, s5, s6, s7⟩
      go_simp
      with_reducible rfl
     rotate_left
     ·
      simp only [Act.put, List.setIfInBounds_toArray, List.set_cons_zero, List.set_cons_succ, i64_w, i32_w]
      rfl
     refine take_ (i := 1) (N := some 84) (v := ?_) (a' := ?_) #[true, true, false, false, false, false, false, false, false] rfl rfl (take_ofW HT_.out HW_.out (by kernel_rfl)) (fun _ _ _ h => h) (Or.inl ⟨by rfl, ?_⟩) hHeld ?_ ?_
     rotate_left
     ·
      rintro w' ⟨s0, s1, s2, s3, s4, s5, s6, s7⟩
      go_simp
      with_reducible rfl
     rotate_left
     ·
      simp only [Act.put, List.setIfInBounds_toArray, List.set_cons_zero, List.set_cons_succ, i64_w, i32_w]
      rfl
     refine take_ (i := 3) (N := some 86) (v := ?_) (a' := ?_) #[true, true, false, true, false, false, false, false, false] rfl rfl (take_ofW HT_.out HW_.out (by kernel_rfl)) (fun _ _ _ h => h) (Or.inl ⟨by rfl, ?_⟩) hHeld ?_ ?_
     rotate_left
     ·
      rintro w' ⟨s0, s1, s2, s3, s4, s5, s6, s7⟩
      go_simp
      with_reducible rfl
     rotate_left
     ·
      simp only [Act.put, List.setIfInBounds_toArray, List.set_cons_zero, List.set_cons_succ, i64_w, i32_w]
      rfl
     refine take_ (i := 4) (N := some 87) (v := ?_) (a' := ?_) #[true, true, false, true, true, false, false, false, false] rfl rfl (take_ofW HT_.out HW_.out (by kernel_rfl)) (fun _ _ _ h => h) (Or.inl ⟨by rfl, ?_⟩) hHeld ?_ ?_
     rotate_left
     ·
      rintro w' ⟨s0, s1, s2, s3, s4, s5, s6, s7⟩
      go_simp
      with_reducible rfl
     rotate_left
     ·
      simp only [Act.put, List.setIfInBounds_toArray, List.set_cons_zero, List.set_cons_succ, i64_w, i32_w]
      rfl
     refine join_ (σ := Nat) 1 #[true, true, true, true, true, true, true, true, false] (fun s_ => [(85, .agg #[.int .i64 t306, .int .i64 t307]), (88, .agg #[.int .i64 t308, .int .i64 t309]), (89, .agg #[.int .i64 t310, .int .i64 t311]), (23, .pointer (some ⟨s_, 0, none⟩))]) (fun s_ w' => (w'.cell? ⟨gb305, 0, none⟩ = some (.int .i64 t303) ∧ w'.cell? ⟨gb305, 1, none⟩ = some (.int .i64 t304) ∧ w'.cell? ⟨gb282, 0, none⟩ = some (.int .i64 t279) ∧ w'.cell? ⟨gb282, 1, none⟩ = some (.int .i64 t280) ∧ w'.cell? ⟨gb298, 0, none⟩ = some (.int .i64 t295) ∧ w'.cell? ⟨gb298, 1, none⟩ = some (.int .i64 t296) ∧ w'.cell? ⟨gb286, 0, none⟩ = some (.int .i64 t283) ∧ w'.cell? ⟨gb286, 1, none⟩ = some (.int .i64 t284)) ∧ (w'.heap[gb275]? = some (.cells #[.int .i64 a0_0, .int .i64 a0_1] 23 (0, 0))) ∧ (w'.heap[gb276]? = some (.cells #[.int .i64 a1_0, .int .i64 a1_1] 23 (0, 0))) ∧ (w'.heap[gb277]? = some (.cells #[.int .i64 0, .int .i64 0] 23 (0, 0))) ∧ (w'.heap[gb278]? = some (.cells #[.int .i64 0, .int .i64 0] 23 (0, 0))) ∧ (w'.heap[gb282]? = some (.cells #[.int .i64 t279, .int .i64 t280] 23 (0, 0))) ∧ (w'.heap[gb286]? = some (.cells #[.int .i64 t283, .int .i64 t284] 23 (0, 0))) ∧ (w'.heap[gb290]? = some (.cells #[.int .i64 t287, .int .i64 t288] 23 (0, 0))) ∧ (w'.heap[gb294]? = some (.cells #[.int .i64 t291, .int .i64 t292] 23 (0, 0))) ∧ (w'.heap[gb298]? = some (.cells #[.int .i64 t295, .int .i64 t296] 23 (0, 0))) ∧ (w'.heap[gb302]? = some (.cells #[.int .i64 t299, .int .i64 t300] 23 (0, 0))) ∧ (w'.heap[gb305]? = some (.cells #[.int .i64 t303, .int .i64 t304] 23 (0, 0))) ∧ (w'.heap[s_]? = some (.cells #[.int .i64 0, .int .i64 0] 23 (0, 0))) ∧ (w.heap.size ≤ s_) ∧ (w.heap.size ≤ s_) ∧ (gb275 ≠ s_) ∧ (s_ ≠ gb275) ∧ (gb276 ≠ s_) ∧ (s_ ≠ gb276) ∧ (gb277 ≠ s_) ∧ (s_ ≠ gb277) ∧ (gb278 ≠ s_) ∧ (s_ ≠ gb278) ∧ (gb282 ≠ s_) ∧ (s_ ≠ gb282) ∧ (gb286 ≠ s_) ∧ (s_ ≠ gb286) ∧ (gb290 ≠ s_) ∧ (s_ ≠ gb290) ∧ (gb294 ≠ s_) ∧ (s_ ≠ gb294) ∧ (gb298 ≠ s_) ∧ (s_ ≠ gb298) ∧ (gb302 ≠ s_) ∧ (s_ ≠ gb302) ∧ (gb305 ≠ s_) ∧ (s_ ≠ gb305) ∧ (Below w.heap.size w w')) ?_ ?_
     rotate_left
     ·
      intro hCont
      refine two_ (i := 2) (j := 7) (Ni := some 85) (Nj := some 23) #[true, true, true, true, true, false, false, false, false] #[true, true, false, true, true, false, false, true, false] rfl rfl rfl rfl (two_of HT_.out (by kernel_rfl)) (by decide) (by decide) (fun K hK => ?_) (fun K hK => ?_)
      ·
       skip
       refine goes_ Try.func61 (by kernel_rfl) rfl #[.agg #[.int .i64 t303, .int .i64 t304], .agg #[.int .i64 t279, .int .i64 t280]] (by rfl) rfl rfl (by (try simp only [List.map_toArray, List.map_cons, List.map_nil]); first | done | rfl | (simp only [List.length_drop, List.length_take]; rfl)) ?_
       with_reducible refine (sun_Unit.calls t303 t304 t279 t280 t306 t307 _ A25.out).mono ?_
       rintro e w117 ⟨rfl, hb⟩
       refine ⟨_, rfl, ?_⟩
       replace BK275 := nx_ BK275 hb
       replace BK276 := nx_ BK276 hb
       replace BK277 := nx_ BK277 hb
       replace BK278 := nx_ BK278 hb
       replace BK282 := nx_ BK282 hb
       replace BK286 := nx_ BK286 hb
       replace BK290 := nx_ BK290 hb
       replace BK294 := nx_ BK294 hb
       replace BK298 := nx_ BK298 hb
       replace BK302 := nx_ BK302 hb
       replace BK305 := nx_ BK305 hb
       replace HB := hx_ HB hb
       (try clear hb)
       (try clear hb2)
       (try clear hk)
       (try clear hi)
       refine hK.out _ _ ⟨(blk_cell BK305.out 0).trans rfl, (blk_cell BK305.out 1).trans rfl, (blk_cell BK282.out 0).trans rfl, (blk_cell BK282.out 1).trans rfl, (blk_cell BK298.out 0).trans rfl, (blk_cell BK298.out 1).trans rfl, (blk_cell BK286.out 0).trans rfl, (blk_cell BK286.out 1).trans rfl⟩ (fun hHeld => ?_)
       clear hK K
       refine norm_ (a' := ?_) ?_ ?_
       rotate_left
       ·
        show Act.put _ (some 85) _ = _
        simp only [Act.put, List.setIfInBounds_toArray, List.set_cons_zero, List.set_cons_succ, i64_w, i32_w]
        rfl
       refine two_ (i := 5) (j := 7) (Ni := some 88) (Nj := some 23) #[true, true, true, true, true, true, false, false, false] #[true, true, true, true, true, false, false, true, false] rfl rfl rfl rfl (two_of HT_.out (by kernel_rfl)) (by decide) (by decide) (fun K hK => ?_) (fun K hK => ?_)
       ·
        skip
        refine goes_ Try.func61 (by kernel_rfl) rfl #[.agg #[.int .i64 t295, .int .i64 t296], .agg #[.int .i64 t283, .int .i64 t284]] (by rfl) rfl rfl (by (try simp only [List.map_toArray, List.map_cons, List.map_nil]); first | done | rfl | (simp only [List.length_drop, List.length_take]; rfl)) ?_
        with_reducible refine (sun_Unit.calls t295 t296 t283 t284 t308 t309 _ A26.out).mono ?_
        rintro e w118 ⟨rfl, hb⟩
        refine ⟨_, rfl, ?_⟩
        replace BK275 := nx_ BK275 hb
        replace BK276 := nx_ BK276 hb
        replace BK277 := nx_ BK277 hb
        replace BK278 := nx_ BK278 hb
        replace BK282 := nx_ BK282 hb
        replace BK286 := nx_ BK286 hb
        replace BK290 := nx_ BK290 hb
        replace BK294 := nx_ BK294 hb
        replace BK298 := nx_ BK298 hb
        replace BK302 := nx_ BK302 hb
        replace BK305 := nx_ BK305 hb
        replace HB := hx_ HB hb
        (try clear hb)
        (try clear hb2)
        (try clear hk)
        (try clear hi)
        refine hK.out _ _ ⟨(blk_cell BK305.out 0).trans rfl, (blk_cell BK305.out 1).trans rfl, (blk_cell BK282.out 0).trans rfl, (blk_cell BK282.out 1).trans rfl, (blk_cell BK298.out 0).trans rfl, (blk_cell BK298.out 1).trans rfl, (blk_cell BK286.out 0).trans rfl, (blk_cell BK286.out 1).trans rfl⟩ (fun hHeld => ?_)
        clear hK K
        refine norm_ (a' := ?_) ?_ ?_
        rotate_left
        ·
         show Act.put _ (some 88) _ = _
         simp only [Act.put, List.setIfInBounds_toArray, List.set_cons_zero, List.set_cons_succ, i64_w, i32_w]
         rfl
        refine two_ (i := 6) (j := 7) (Ni := some 89) (Nj := some 23) #[true, true, true, true, true, true, true, false, false] #[true, true, true, true, true, true, false, true, false] rfl rfl rfl rfl (two_of HT_.out (by kernel_rfl)) (by decide) (by decide) (fun K hK => ?_) (fun K hK => ?_)
        ·
         skip
         refine goes_ Try.func101 (by kernel_rfl) rfl #[.agg #[.int .i64 t306, .int .i64 t307], .agg #[.int .i64 t308, .int .i64 t309]] (by rfl) rfl rfl (by (try simp only [List.map_toArray, List.map_cons, List.map_nil]); first | done | rfl | (simp only [List.length_drop, List.length_take]; rfl)) ?_
         with_reducible refine (sun_plus.calls t306 t307 t308 t309 t310 t311 _ A27.out).mono ?_
         rintro e w119 ⟨rfl, hb⟩
         refine ⟨_, rfl, ?_⟩
         replace BK275 := nx_ BK275 hb
         replace BK276 := nx_ BK276 hb
         replace BK277 := nx_ BK277 hb
         replace BK278 := nx_ BK278 hb
         replace BK282 := nx_ BK282 hb
         replace BK286 := nx_ BK286 hb
         replace BK290 := nx_ BK290 hb
         replace BK294 := nx_ BK294 hb
         replace BK298 := nx_ BK298 hb
         replace BK302 := nx_ BK302 hb
         replace BK305 := nx_ BK305 hb
         replace HB := hx_ HB hb
         (try clear hb)
         (try clear hb2)
         (try clear hk)
         (try clear hi)
         refine hK.out _ _ ⟨(blk_cell BK305.out 0).trans rfl, (blk_cell BK305.out 1).trans rfl, (blk_cell BK282.out 0).trans rfl, (blk_cell BK282.out 1).trans rfl, (blk_cell BK298.out 0).trans rfl, (blk_cell BK298.out 1).trans rfl, (blk_cell BK286.out 0).trans rfl, (blk_cell BK286.out 1).trans rfl⟩ (fun hHeld => ?_)
         clear hK K
         refine norm_ (a' := ?_) ?_ ?_
         rotate_left
         ·
          show Act.put _ (some 89) _ = _
          simp only [Act.put, List.setIfInBounds_toArray, List.set_cons_zero, List.set_cons_succ, i64_w, i32_w]
          rfl
         refine one_ (i := 7) (N := some 23) #[true, true, true, true, true, true, true, true, false] rfl rfl (one_of HT_.out (by kernel_rfl)) (by decide) (fun K hK => ?_)
         refine box_step ?hg (N := 23) ?hd (cs := #[.int .i64 0, .int .i64 0]) (t := 23) ?hr ?_; (case hd => rfl); (case hg => rfl); (case hr => first | (go_simp; done) | (go_simp; rfl))
         intro gb312 hg w120 hbox hb
         have BK312 := Aside0.mk hbox
         have GW312 := ge_ (hb_ HB.out) hg
         have GE312 := ge_ (hb_ HB.out) hg
         have NB275_312 := nb_ (gr_ BK275.out) hg
         have NB312_275 := bn_ (gr_ BK275.out) hg
         have NB276_312 := nb_ (gr_ BK276.out) hg
         have NB312_276 := bn_ (gr_ BK276.out) hg
         have NB277_312 := nb_ (gr_ BK277.out) hg
         have NB312_277 := bn_ (gr_ BK277.out) hg
         have NB278_312 := nb_ (gr_ BK278.out) hg
         have NB312_278 := bn_ (gr_ BK278.out) hg
         have NB282_312 := nb_ (gr_ BK282.out) hg
         have NB312_282 := bn_ (gr_ BK282.out) hg
         have NB286_312 := nb_ (gr_ BK286.out) hg
         have NB312_286 := bn_ (gr_ BK286.out) hg
         have NB290_312 := nb_ (gr_ BK290.out) hg
         have NB312_290 := bn_ (gr_ BK290.out) hg
         have NB294_312 := nb_ (gr_ BK294.out) hg
         have NB312_294 := bn_ (gr_ BK294.out) hg
         have NB298_312 := nb_ (gr_ BK298.out) hg
         have NB312_298 := bn_ (gr_ BK298.out) hg
         have NB302_312 := nb_ (gr_ BK302.out) hg
         have NB312_302 := bn_ (gr_ BK302.out) hg
         have NB305_312 := nb_ (gr_ BK305.out) hg
         have NB312_305 := bn_ (gr_ BK305.out) hg
         replace BK275 := nx_ BK275 hb
         replace BK276 := nx_ BK276 hb
         replace BK277 := nx_ BK277 hb
         replace BK278 := nx_ BK278 hb
         replace BK282 := nx_ BK282 hb
         replace BK286 := nx_ BK286 hb
         replace BK290 := nx_ BK290 hb
         replace BK294 := nx_ BK294 hb
         replace BK298 := nx_ BK298 hb
         replace BK302 := nx_ BK302 hb
         replace BK305 := nx_ BK305 hb
         replace HB := hx_ HB hb
         clear hb hbox hg
         refine hK.out _ _ ⟨(blk_cell BK305.out 0).trans rfl, (blk_cell BK305.out 1).trans rfl, (blk_cell BK282.out 0).trans rfl, (blk_cell BK282.out 1).trans rfl, (blk_cell BK298.out 0).trans rfl, (blk_cell BK298.out 1).trans rfl, (blk_cell BK286.out 0).trans rfl, (blk_cell BK286.out 1).trans rfl⟩ (fun hHeld => ?_)
         clear hK K
         refine norm_ (a' := ?_) ?_ ?_
         rotate_left
         ·
          show Act.put _ (some 23) _ = _
          simp only [Act.put, List.setIfInBounds_toArray, List.set_cons_zero, List.set_cons_succ, i64_w, i32_w]
          rfl
         exact norm_ (by simp only [putAll, Act.put, List.setIfInBounds_toArray, List.set_cons_zero, List.set_cons_succ]) (hCont (gb312) _ ⟨hHeld, (gr_ BK275.out), (gr_ BK276.out), (gr_ BK277.out), (gr_ BK278.out), (gr_ BK282.out), (gr_ BK286.out), (gr_ BK290.out), (gr_ BK294.out), (gr_ BK298.out), (gr_ BK302.out), (gr_ BK305.out), (gr_ BK312.out), GW312.out, GE312.out, NB275_312.out, NB312_275.out, NB276_312.out, NB312_276.out, NB277_312.out, NB312_277.out, NB278_312.out, NB312_278.out, NB282_312.out, NB312_282.out, NB286_312.out, NB312_286.out, NB290_312.out, NB312_290.out, NB294_312.out, NB312_294.out, NB298_312.out, NB312_298.out, NB302_312.out, NB312_302.out, NB305_312.out, NB312_305.out, (by repeat (first | (with_reducible first | exact HB.out | apply below_alloc | apply pw_below_drewN | apply below_drew1 | refine below_set ?_ GE275.out | refine below_set ?_ GE276.out | refine below_set ?_ GE277.out | refine below_set ?_ GE278.out | refine below_set ?_ GE282.out | refine below_set ?_ GE286.out | refine below_set ?_ GE290.out | refine below_set ?_ GE294.out | refine below_set ?_ GE298.out | refine below_set ?_ GE302.out | refine below_set ?_ GE305.out | refine below_set ?_ GE312.out) | exact HB.out))⟩)
        ·
         skip
         refine box_step ?hg (N := 23) ?hd (cs := #[.int .i64 0, .int .i64 0]) (t := 23) ?hr ?_; (case hd => rfl); (case hg => rfl); (case hr => first | (go_simp; done) | (go_simp; rfl))
         intro gb312 hg w119 hbox hb
         have BK312 := Aside0.mk hbox
         have GW312 := ge_ (hb_ HB.out) hg
         have GE312 := ge_ (hb_ HB.out) hg
         have NB275_312 := nb_ (gr_ BK275.out) hg
         have NB312_275 := bn_ (gr_ BK275.out) hg
         have NB276_312 := nb_ (gr_ BK276.out) hg
         have NB312_276 := bn_ (gr_ BK276.out) hg
         have NB277_312 := nb_ (gr_ BK277.out) hg
         have NB312_277 := bn_ (gr_ BK277.out) hg
         have NB278_312 := nb_ (gr_ BK278.out) hg
         have NB312_278 := bn_ (gr_ BK278.out) hg
         have NB282_312 := nb_ (gr_ BK282.out) hg
         have NB312_282 := bn_ (gr_ BK282.out) hg
         have NB286_312 := nb_ (gr_ BK286.out) hg
         have NB312_286 := bn_ (gr_ BK286.out) hg
         have NB290_312 := nb_ (gr_ BK290.out) hg
         have NB312_290 := bn_ (gr_ BK290.out) hg
         have NB294_312 := nb_ (gr_ BK294.out) hg
         have NB312_294 := bn_ (gr_ BK294.out) hg
         have NB298_312 := nb_ (gr_ BK298.out) hg
         have NB312_298 := bn_ (gr_ BK298.out) hg
         have NB302_312 := nb_ (gr_ BK302.out) hg
         have NB312_302 := bn_ (gr_ BK302.out) hg
         have NB305_312 := nb_ (gr_ BK305.out) hg
         have NB312_305 := bn_ (gr_ BK305.out) hg
         replace BK275 := nx_ BK275 hb
         replace BK276 := nx_ BK276 hb
         replace BK277 := nx_ BK277 hb
         replace BK278 := nx_ BK278 hb
         replace BK282 := nx_ BK282 hb
         replace BK286 := nx_ BK286 hb
         replace BK290 := nx_ BK290 hb
         replace BK294 := nx_ BK294 hb
         replace BK298 := nx_ BK298 hb
         replace BK302 := nx_ BK302 hb
         replace BK305 := nx_ BK305 hb
         replace HB := hx_ HB hb
         clear hb hbox hg
         refine hK.out _ _ ⟨(blk_cell BK305.out 0).trans rfl, (blk_cell BK305.out 1).trans rfl, (blk_cell BK282.out 0).trans rfl, (blk_cell BK282.out 1).trans rfl, (blk_cell BK298.out 0).trans rfl, (blk_cell BK298.out 1).trans rfl, (blk_cell BK286.out 0).trans rfl, (blk_cell BK286.out 1).trans rfl⟩ (fun hHeld => ?_)
         clear hK K
         refine norm_ (a' := ?_) ?_ ?_
         rotate_left
         ·
          show Act.put _ (some 23) _ = _
          simp only [Act.put, List.setIfInBounds_toArray, List.set_cons_zero, List.set_cons_succ, i64_w, i32_w]
          rfl
         refine one_ (i := 6) (N := some 89) #[true, true, true, true, true, true, true, true, false] rfl rfl (one_of HT_.out (by kernel_rfl)) (by decide) (fun K hK => ?_)
         refine goes_ Try.func101 (by kernel_rfl) rfl #[.agg #[.int .i64 t306, .int .i64 t307], .agg #[.int .i64 t308, .int .i64 t309]] (by rfl) rfl rfl (by (try simp only [List.map_toArray, List.map_cons, List.map_nil]); first | done | rfl | (simp only [List.length_drop, List.length_take]; rfl)) ?_
         with_reducible refine (sun_plus.calls t306 t307 t308 t309 t310 t311 _ A27.out).mono ?_
         rintro e w120 ⟨rfl, hb⟩
         refine ⟨_, rfl, ?_⟩
         replace BK275 := nx_ BK275 hb
         replace BK276 := nx_ BK276 hb
         replace BK277 := nx_ BK277 hb
         replace BK278 := nx_ BK278 hb
         replace BK282 := nx_ BK282 hb
         replace BK286 := nx_ BK286 hb
         replace BK290 := nx_ BK290 hb
         replace BK294 := nx_ BK294 hb
         replace BK298 := nx_ BK298 hb
         replace BK302 := nx_ BK302 hb
         replace BK305 := nx_ BK305 hb
         replace BK312 := nx_ BK312 hb
         replace HB := hx_ HB hb
         (try clear hb)
         (try clear hb2)
         (try clear hk)
         (try clear hi)
         refine hK.out _ _ ⟨(blk_cell BK305.out 0).trans rfl, (blk_cell BK305.out 1).trans rfl, (blk_cell BK282.out 0).trans rfl, (blk_cell BK282.out 1).trans rfl, (blk_cell BK298.out 0).trans rfl, (blk_cell BK298.out 1).trans rfl, (blk_cell BK286.out 0).trans rfl, (blk_cell BK286.out 1).trans rfl⟩ (fun hHeld => ?_)
         clear hK K
         refine norm_ (a' := ?_) ?_ ?_
         rotate_left
         ·
          show Act.put _ (some 89) _ = _
          simp only [Act.put, List.setIfInBounds_toArray, List.set_cons_zero, List.set_cons_succ, i64_w, i32_w]
          rfl
         exact norm_ (by simp only [putAll, Act.put, List.setIfInBounds_toArray, List.set_cons_zero, List.set_cons_succ]) (hCont (gb312) _ ⟨hHeld, (gr_ BK275.out), (gr_ BK276.out), (gr_ BK277.out), (gr_ BK278.out), (gr_ BK282.out), (gr_ BK286.out), (gr_ BK290.out), (gr_ BK294.out), (gr_ BK298.out), (gr_ BK302.out), (gr_ BK305.out), (gr_ BK312.out), GW312.out, GE312.out, NB275_312.out, NB312_275.out, NB276_312.out, NB312_276.out, NB277_312.out, NB312_277.out, NB278_312.out, NB312_278.out, NB282_312.out, NB312_282.out, NB286_312.out, NB312_286.out, NB290_312.out, NB312_290.out, NB294_312.out, NB312_294.out, NB298_312.out, NB312_298.out, NB302_312.out, NB312_302.out, NB305_312.out, NB312_305.out, (by repeat (first | (with_reducible first | exact HB.out | apply below_alloc | apply pw_below_drewN | apply below_drew1 | refine below_set ?_ GE275.out | refine below_set ?_ GE276.out | refine below_set ?_ GE277.out | refine below_set ?_ GE278.out | refine below_set ?_ GE282.out | refine below_set ?_ GE286.out | refine below_set ?_ GE290.out | refine below_set ?_ GE294.out | refine below_set ?_ GE298.out | refine below_set ?_ GE302.out | refine below_set ?_ GE305.out | refine below_set ?_ GE312.out) | exact HB.out))⟩)
       ·
        skip
        refine box_step ?hg (N := 23) ?hd (cs := #[.int .i64 0, .int .i64 0]) (t := 23) ?hr ?_; (case hd => rfl); (case hg => rfl); (case hr => first | (go_simp; done) | (go_simp; rfl))
        intro gb312 hg w118 hbox hb
        have BK312 := Aside0.mk hbox
        have GW312 := ge_ (hb_ HB.out) hg
        have GE312 := ge_ (hb_ HB.out) hg
        have NB275_312 := nb_ (gr_ BK275.out) hg
        have NB312_275 := bn_ (gr_ BK275.out) hg
        have NB276_312 := nb_ (gr_ BK276.out) hg
        have NB312_276 := bn_ (gr_ BK276.out) hg
        have NB277_312 := nb_ (gr_ BK277.out) hg
        have NB312_277 := bn_ (gr_ BK277.out) hg
        have NB278_312 := nb_ (gr_ BK278.out) hg
        have NB312_278 := bn_ (gr_ BK278.out) hg
        have NB282_312 := nb_ (gr_ BK282.out) hg
        have NB312_282 := bn_ (gr_ BK282.out) hg
        have NB286_312 := nb_ (gr_ BK286.out) hg
        have NB312_286 := bn_ (gr_ BK286.out) hg
        have NB290_312 := nb_ (gr_ BK290.out) hg
        have NB312_290 := bn_ (gr_ BK290.out) hg
        have NB294_312 := nb_ (gr_ BK294.out) hg
        have NB312_294 := bn_ (gr_ BK294.out) hg
        have NB298_312 := nb_ (gr_ BK298.out) hg
        have NB312_298 := bn_ (gr_ BK298.out) hg
        have NB302_312 := nb_ (gr_ BK302.out) hg
        have NB312_302 := bn_ (gr_ BK302.out) hg
        have NB305_312 := nb_ (gr_ BK305.out) hg
        have NB312_305 := bn_ (gr_ BK305.out) hg
        replace BK275 := nx_ BK275 hb
        replace BK276 := nx_ BK276 hb
        replace BK277 := nx_ BK277 hb
        replace BK278 := nx_ BK278 hb
        replace BK282 := nx_ BK282 hb
        replace BK286 := nx_ BK286 hb
        replace BK290 := nx_ BK290 hb
        replace BK294 := nx_ BK294 hb
        replace BK298 := nx_ BK298 hb
        replace BK302 := nx_ BK302 hb
        replace BK305 := nx_ BK305 hb
        replace HB := hx_ HB hb
        clear hb hbox hg
        refine hK.out _ _ ⟨(blk_cell BK305.out 0).trans rfl, (blk_cell BK305.out 1).trans rfl, (blk_cell BK282.out 0).trans rfl, (blk_cell BK282.out 1).trans rfl, (blk_cell BK298.out 0).trans rfl, (blk_cell BK298.out 1).trans rfl, (blk_cell BK286.out 0).trans rfl, (blk_cell BK286.out 1).trans rfl⟩ (fun hHeld => ?_)
        clear hK K
        refine norm_ (a' := ?_) ?_ ?_
        rotate_left
        ·
         show Act.put _ (some 23) _ = _
         simp only [Act.put, List.setIfInBounds_toArray, List.set_cons_zero, List.set_cons_succ, i64_w, i32_w]
         rfl
        refine one_ (i := 5) (N := some 88) #[true, true, true, true, true, true, false, true, false] rfl rfl (one_of HT_.out (by kernel_rfl)) (by decide) (fun K hK => ?_)
        refine goes_ Try.func61 (by kernel_rfl) rfl #[.agg #[.int .i64 t295, .int .i64 t296], .agg #[.int .i64 t283, .int .i64 t284]] (by rfl) rfl rfl (by (try simp only [List.map_toArray, List.map_cons, List.map_nil]); first | done | rfl | (simp only [List.length_drop, List.length_take]; rfl)) ?_
        with_reducible refine (sun_Unit.calls t295 t296 t283 t284 t308 t309 _ A26.out).mono ?_
        rintro e w119 ⟨rfl, hb⟩
        refine ⟨_, rfl, ?_⟩
        replace BK275 := nx_ BK275 hb
        replace BK276 := nx_ BK276 hb
        replace BK277 := nx_ BK277 hb
        replace BK278 := nx_ BK278 hb
        replace BK282 := nx_ BK282 hb
        replace BK286 := nx_ BK286 hb
        replace BK290 := nx_ BK290 hb
        replace BK294 := nx_ BK294 hb
        replace BK298 := nx_ BK298 hb
        replace BK302 := nx_ BK302 hb
        replace BK305 := nx_ BK305 hb
        replace BK312 := nx_ BK312 hb
        replace HB := hx_ HB hb
        (try clear hb)
        (try clear hb2)
        (try clear hk)
        (try clear hi)
        refine hK.out _ _ ⟨(blk_cell BK305.out 0).trans rfl, (blk_cell BK305.out 1).trans rfl, (blk_cell BK282.out 0).trans rfl, (blk_cell BK282.out 1).trans rfl, (blk_cell BK298.out 0).trans rfl, (blk_cell BK298.out 1).trans rfl, (blk_cell BK286.out 0).trans rfl, (blk_cell BK286.out 1).trans rfl⟩ (fun hHeld => ?_)
        clear hK K
        refine norm_ (a' := ?_) ?_ ?_
        rotate_left
        ·
         show Act.put _ (some 88) _ = _
         simp only [Act.put, List.setIfInBounds_toArray, List.set_cons_zero, List.set_cons_succ, i64_w, i32_w]
         rfl
        refine one_ (i := 6) (N := some 89) #[true, true, true, true, true, true, true, true, false] rfl rfl (one_of HT_.out (by kernel_rfl)) (by decide) (fun K hK => ?_)
        refine goes_ Try.func101 (by kernel_rfl) rfl #[.agg #[.int .i64 t306, .int .i64 t307], .agg #[.int .i64 t308, .int .i64 t309]] (by rfl) rfl rfl (by (try simp only [List.map_toArray, List.map_cons, List.map_nil]); first | done | rfl | (simp only [List.length_drop, List.length_take]; rfl)) ?_
        with_reducible refine (sun_plus.calls t306 t307 t308 t309 t310 t311 _ A27.out).mono ?_
        rintro e w120 ⟨rfl, hb⟩
        refine ⟨_, rfl, ?_⟩
        replace BK275 := nx_ BK275 hb
        replace BK276 := nx_ BK276 hb
        replace BK277 := nx_ BK277 hb
        replace BK278 := nx_ BK278 hb
        replace BK282 := nx_ BK282 hb
        replace BK286 := nx_ BK286 hb
        replace BK290 := nx_ BK290 hb
        replace BK294 := nx_ BK294 hb
        replace BK298 := nx_ BK298 hb
        replace BK302 := nx_ BK302 hb
        replace BK305 := nx_ BK305 hb
        replace BK312 := nx_ BK312 hb
        replace HB := hx_ HB hb
        (try clear hb)
        (try clear hb2)
        (try clear hk)
        (try clear hi)
        refine hK.out _ _ ⟨(blk_cell BK305.out 0).trans rfl, (blk_cell BK305.out 1).trans rfl, (blk_cell BK282.out 0).trans rfl, (blk_cell BK282.out 1).trans rfl, (blk_cell BK298.out 0).trans rfl, (blk_cell BK298.out 1).trans rfl, (blk_cell BK286.out 0).trans rfl, (blk_cell BK286.out 1).trans rfl⟩ (fun hHeld => ?_)
        clear hK K
        refine norm_ (a' := ?_) ?_ ?_
        rotate_left
        ·
         show Act.put _ (some 89) _ = _
         simp only [Act.put, List.setIfInBounds_toArray, List.set_cons_zero, List.set_cons_succ, i64_w, i32_w]
         rfl
        exact norm_ (by simp only [putAll, Act.put, List.setIfInBounds_toArray, List.set_cons_zero, List.set_cons_succ]) (hCont (gb312) _ ⟨hHeld, (gr_ BK275.out), (gr_ BK276.out), (gr_ BK277.out), (gr_ BK278.out), (gr_ BK282.out), (gr_ BK286.out), (gr_ BK290.out), (gr_ BK294.out), (gr_ BK298.out), (gr_ BK302.out), (gr_ BK305.out), (gr_ BK312.out), GW312.out, GE312.out, NB275_312.out, NB312_275.out, NB276_312.out, NB312_276.out, NB277_312.out, NB312_277.out, NB278_312.out, NB312_278.out, NB282_312.out, NB312_282.out, NB286_312.out, NB312_286.out, NB290_312.out, NB312_290.out, NB294_312.out, NB312_294.out, NB298_312.out, NB312_298.out, NB302_312.out, NB312_302.out, NB305_312.out, NB312_305.out, (by repeat (first | (with_reducible first | exact HB.out | apply below_alloc | apply pw_below_drewN | apply below_drew1 | refine below_set ?_ GE275.out | refine below_set ?_ GE276.out | refine below_set ?_ GE277.out | refine below_set ?_ GE278.out | refine below_set ?_ GE282.out | refine below_set ?_ GE286.out | refine below_set ?_ GE290.out | refine below_set ?_ GE294.out | refine below_set ?_ GE298.out | refine below_set ?_ GE302.out | refine below_set ?_ GE305.out | refine below_set ?_ GE312.out) | exact HB.out))⟩)
      ·
       skip
       refine box_step ?hg (N := 23) ?hd (cs := #[.int .i64 0, .int .i64 0]) (t := 23) ?hr ?_; (case hd => rfl); (case hg => rfl); (case hr => first | (go_simp; done) | (go_simp; rfl))
       intro gb312 hg w117 hbox hb
       have BK312 := Aside0.mk hbox
       have GW312 := ge_ (hb_ HB.out) hg
       have GE312 := ge_ (hb_ HB.out) hg
       have NB275_312 := nb_ (gr_ BK275.out) hg
       have NB312_275 := bn_ (gr_ BK275.out) hg
       have NB276_312 := nb_ (gr_ BK276.out) hg
       have NB312_276 := bn_ (gr_ BK276.out) hg
       have NB277_312 := nb_ (gr_ BK277.out) hg
       have NB312_277 := bn_ (gr_ BK277.out) hg
       have NB278_312 := nb_ (gr_ BK278.out) hg
       have NB312_278 := bn_ (gr_ BK278.out) hg
       have NB282_312 := nb_ (gr_ BK282.out) hg
       have NB312_282 := bn_ (gr_ BK282.out) hg
       have NB286_312 := nb_ (gr_ BK286.out) hg
       have NB312_286 := bn_ (gr_ BK286.out) hg
       have NB290_312 := nb_ (gr_ BK290.out) hg
       have NB312_290 := bn_ (gr_ BK290.out) hg
       have NB294_312 := nb_ (gr_ BK294.out) hg
       have NB312_294 := bn_ (gr_ BK294.out) hg
       have NB298_312 := nb_ (gr_ BK298.out) hg
       have NB312_298 := bn_ (gr_ BK298.out) hg
       have NB302_312 := nb_ (gr_ BK302.out) hg
       have NB312_302 := bn_ (gr_ BK302.out) hg
       have NB305_312 := nb_ (gr_ BK305.out) hg
       have NB312_305 := bn_ (gr_ BK305.out) hg
       replace BK275 := nx_ BK275 hb
       replace BK276 := nx_ BK276 hb
       replace BK277 := nx_ BK277 hb
       replace BK278 := nx_ BK278 hb
       replace BK282 := nx_ BK282 hb
       replace BK286 := nx_ BK286 hb
       replace BK290 := nx_ BK290 hb
       replace BK294 := nx_ BK294 hb
       replace BK298 := nx_ BK298 hb
       replace BK302 := nx_ BK302 hb
       replace BK305 := nx_ BK305 hb
       replace HB := hx_ HB hb
       clear hb hbox hg
       refine hK.out _ _ ⟨(blk_cell BK305.out 0).trans rfl, (blk_cell BK305.out 1).trans rfl, (blk_cell BK282.out 0).trans rfl, (blk_cell BK282.out 1).trans rfl, (blk_cell BK298.out 0).trans rfl, (blk_cell BK298.out 1).trans rfl, (blk_cell BK286.out 0).trans rfl, (blk_cell BK286.out 1).trans rfl⟩ (fun hHeld => ?_)
       clear hK K
       refine norm_ (a' := ?_) ?_ ?_
       rotate_left
       ·
        show Act.put _ (some 23) _ = _
        simp only [Act.put, List.setIfInBounds_toArray, List.set_cons_zero, List.set_cons_succ, i64_w, i32_w]
        rfl
       refine one_ (i := 2) (N := some 85) #[true, true, true, true, true, false, false, true, false] rfl rfl (one_of HT_.out (by kernel_rfl)) (by decide) (fun K hK => ?_)
       refine goes_ Try.func61 (by kernel_rfl) rfl #[.agg #[.int .i64 t303, .int .i64 t304], .agg #[.int .i64 t279, .int .i64 t280]] (by rfl) rfl rfl (by (try simp only [List.map_toArray, List.map_cons, List.map_nil]); first | done | rfl | (simp only [List.length_drop, List.length_take]; rfl)) ?_
       with_reducible refine (sun_Unit.calls t303 t304 t279 t280 t306 t307 _ A25.out).mono ?_
       rintro e w118 ⟨rfl, hb⟩
       refine ⟨_, rfl, ?_⟩
       replace BK275 := nx_ BK275 hb
       replace BK276 := nx_ BK276 hb
       replace BK277 := nx_ BK277 hb
       replace BK278 := nx_ BK278 hb
       replace BK282 := nx_ BK282 hb
       replace BK286 := nx_ BK286 hb
       replace BK290 := nx_ BK290 hb
       replace BK294 := nx_ BK294 hb
       replace BK298 := nx_ BK298 hb
       replace BK302 := nx_ BK302 hb
       replace BK305 := nx_ BK305 hb
       replace BK312 := nx_ BK312 hb
       replace HB := hx_ HB hb
       (try clear hb)
       (try clear hb2)
       (try clear hk)
       (try clear hi)
       refine hK.out _ _ ⟨(blk_cell BK305.out 0).trans rfl, (blk_cell BK305.out 1).trans rfl, (blk_cell BK282.out 0).trans rfl, (blk_cell BK282.out 1).trans rfl, (blk_cell BK298.out 0).trans rfl, (blk_cell BK298.out 1).trans rfl, (blk_cell BK286.out 0).trans rfl, (blk_cell BK286.out 1).trans rfl⟩ (fun hHeld => ?_)
       clear hK K
       refine norm_ (a' := ?_) ?_ ?_
       rotate_left
       ·
        show Act.put _ (some 85) _ = _
        simp only [Act.put, List.setIfInBounds_toArray, List.set_cons_zero, List.set_cons_succ, i64_w, i32_w]
        rfl
       refine one_ (i := 5) (N := some 88) #[true, true, true, true, true, true, false, true, false] rfl rfl (one_of HT_.out (by kernel_rfl)) (by decide) (fun K hK => ?_)
       refine goes_ Try.func61 (by kernel_rfl) rfl #[.agg #[.int .i64 t295, .int .i64 t296], .agg #[.int .i64 t283, .int .i64 t284]] (by rfl) rfl rfl (by (try simp only [List.map_toArray, List.map_cons, List.map_nil]); first | done | rfl | (simp only [List.length_drop, List.length_take]; rfl)) ?_
       with_reducible refine (sun_Unit.calls t295 t296 t283 t284 t308 t309 _ A26.out).mono ?_
       rintro e w119 ⟨rfl, hb⟩
       refine ⟨_, rfl, ?_⟩
       replace BK275 := nx_ BK275 hb
       replace BK276 := nx_ BK276 hb
       replace BK277 := nx_ BK277 hb
       replace BK278 := nx_ BK278 hb
       replace BK282 := nx_ BK282 hb
       replace BK286 := nx_ BK286 hb
       replace BK290 := nx_ BK290 hb
       replace BK294 := nx_ BK294 hb
       replace BK298 := nx_ BK298 hb
       replace BK302 := nx_ BK302 hb
       replace BK305 := nx_ BK305 hb
       replace BK312 := nx_ BK312 hb
       replace HB := hx_ HB hb
       (try clear hb)
       (try clear hb2)
       (try clear hk)
       (try clear hi)
       refine hK.out _ _ ⟨(blk_cell BK305.out 0).trans rfl, (blk_cell BK305.out 1).trans rfl, (blk_cell BK282.out 0).trans rfl, (blk_cell BK282.out 1).trans rfl, (blk_cell BK298.out 0).trans rfl, (blk_cell BK298.out 1).trans rfl, (blk_cell BK286.out 0).trans rfl, (blk_cell BK286.out 1).trans rfl⟩ (fun hHeld => ?_)
       clear hK K
       refine norm_ (a' := ?_) ?_ ?_
       rotate_left
       ·
        show Act.put _ (some 88) _ = _
        simp only [Act.put, List.setIfInBounds_toArray, List.set_cons_zero, List.set_cons_succ, i64_w, i32_w]
        rfl
       refine one_ (i := 6) (N := some 89) #[true, true, true, true, true, true, true, true, false] rfl rfl (one_of HT_.out (by kernel_rfl)) (by decide) (fun K hK => ?_)
       refine goes_ Try.func101 (by kernel_rfl) rfl #[.agg #[.int .i64 t306, .int .i64 t307], .agg #[.int .i64 t308, .int .i64 t309]] (by rfl) rfl rfl (by (try simp only [List.map_toArray, List.map_cons, List.map_nil]); first | done | rfl | (simp only [List.length_drop, List.length_take]; rfl)) ?_
       with_reducible refine (sun_plus.calls t306 t307 t308 t309 t310 t311 _ A27.out).mono ?_
       rintro e w120 ⟨rfl, hb⟩
       refine ⟨_, rfl, ?_⟩
       replace BK275 := nx_ BK275 hb
       replace BK276 := nx_ BK276 hb
       replace BK277 := nx_ BK277 hb
       replace BK278 := nx_ BK278 hb
       replace BK282 := nx_ BK282 hb
       replace BK286 := nx_ BK286 hb
       replace BK290 := nx_ BK290 hb
       replace BK294 := nx_ BK294 hb
       replace BK298 := nx_ BK298 hb
       replace BK302 := nx_ BK302 hb
       replace BK305 := nx_ BK305 hb
       replace BK312 := nx_ BK312 hb
       replace HB := hx_ HB hb
       (try clear hb)
       (try clear hb2)
       (try clear hk)
       (try clear hi)
       refine hK.out _ _ ⟨(blk_cell BK305.out 0).trans rfl, (blk_cell BK305.out 1).trans rfl, (blk_cell BK282.out 0).trans rfl, (blk_cell BK282.out 1).trans rfl, (blk_cell BK298.out 0).trans rfl, (blk_cell BK298.out 1).trans rfl, (blk_cell BK286.out 0).trans rfl, (blk_cell BK286.out 1).trans rfl⟩ (fun hHeld => ?_)
       clear hK K
       refine norm_ (a' := ?_) ?_ ?_
       rotate_left
       ·
        show Act.put _ (some 89) _ = _
        simp only [Act.put, List.setIfInBounds_toArray, List.set_cons_zero, List.set_cons_succ, i64_w, i32_w]
        rfl
       exact norm_ (by simp only [putAll, Act.put, List.setIfInBounds_toArray, List.set_cons_zero, List.set_cons_succ]) (hCont (gb312) _ ⟨hHeld, (gr_ BK275.out), (gr_ BK276.out), (gr_ BK277.out), (gr_ BK278.out), (gr_ BK282.out), (gr_ BK286.out), (gr_ BK290.out), (gr_ BK294.out), (gr_ BK298.out), (gr_ BK302.out), (gr_ BK305.out), (gr_ BK312.out), GW312.out, GE312.out, NB275_312.out, NB312_275.out, NB276_312.out, NB312_276.out, NB277_312.out, NB312_277.out, NB278_312.out, NB312_278.out, NB282_312.out, NB312_282.out, NB286_312.out, NB312_286.out, NB290_312.out, NB312_290.out, NB294_312.out, NB312_294.out, NB298_312.out, NB312_298.out, NB302_312.out, NB312_302.out, NB305_312.out, NB312_305.out, (by repeat (first | (with_reducible first | exact HB.out | apply below_alloc | apply pw_below_drewN | apply below_drew1 | refine below_set ?_ GE275.out | refine below_set ?_ GE276.out | refine below_set ?_ GE277.out | refine below_set ?_ GE278.out | refine below_set ?_ GE282.out | refine below_set ?_ GE286.out | refine below_set ?_ GE290.out | refine below_set ?_ GE294.out | refine below_set ?_ GE298.out | refine below_set ?_ GE302.out | refine below_set ?_ GE305.out | refine below_set ?_ GE312.out) | exact HB.out))⟩)
     rintro gb312 w121 ⟨hS_, h0_, h1_, h2_, h3_, h4_, h5_, h6_, h7_, h8_, h9_, h10_, h11_, h12_, h13_, h14_, h15_, h16_, h17_, h18_, h19_, h20_, h21_, h22_, h23_, h24_, h25_, h26_, h27_, h28_, h29_, h30_, h31_, h32_, h33_, h34_, h35_, h36_⟩
     replace BK275 : Aside0 (w121.heap[gb275]? = some (.cells #[.int .i64 a0_0, .int .i64 a0_1] 23 (0, 0))) := ⟨h0_⟩
     replace BK276 : Aside0 (w121.heap[gb276]? = some (.cells #[.int .i64 a1_0, .int .i64 a1_1] 23 (0, 0))) := ⟨h1_⟩
     replace BK277 : Aside0 (w121.heap[gb277]? = some (.cells #[.int .i64 0, .int .i64 0] 23 (0, 0))) := ⟨h2_⟩
     replace BK278 : Aside0 (w121.heap[gb278]? = some (.cells #[.int .i64 0, .int .i64 0] 23 (0, 0))) := ⟨h3_⟩
     replace BK282 : Aside0 (w121.heap[gb282]? = some (.cells #[.int .i64 t279, .int .i64 t280] 23 (0, 0))) := ⟨h4_⟩
     replace BK286 : Aside0 (w121.heap[gb286]? = some (.cells #[.int .i64 t283, .int .i64 t284] 23 (0, 0))) := ⟨h5_⟩
     replace BK290 : Aside0 (w121.heap[gb290]? = some (.cells #[.int .i64 t287, .int .i64 t288] 23 (0, 0))) := ⟨h6_⟩
     replace BK294 : Aside0 (w121.heap[gb294]? = some (.cells #[.int .i64 t291, .int .i64 t292] 23 (0, 0))) := ⟨h7_⟩
     replace BK298 : Aside0 (w121.heap[gb298]? = some (.cells #[.int .i64 t295, .int .i64 t296] 23 (0, 0))) := ⟨h8_⟩
     replace BK302 : Aside0 (w121.heap[gb302]? = some (.cells #[.int .i64 t299, .int .i64 t300] 23 (0, 0))) := ⟨h9_⟩
     replace BK305 : Aside0 (w121.heap[gb305]? = some (.cells #[.int .i64 t303, .int .i64 t304] 23 (0, 0))) := ⟨h10_⟩
     have BK312 : Aside0 (w121.heap[gb312]? = some (.cells #[.int .i64 0, .int .i64 0] 23 (0, 0))) := ⟨h11_⟩
     have GW312 : Aside0 (w.heap.size ≤ gb312) := ⟨h12_⟩
     have GE312 : Aside0 (w.heap.size ≤ gb312) := ⟨h13_⟩
     have NB275_312 : Aside0 (gb275 ≠ gb312) := ⟨h14_⟩
     have NB312_275 : Aside0 (gb312 ≠ gb275) := ⟨h15_⟩
     have NB276_312 : Aside0 (gb276 ≠ gb312) := ⟨h16_⟩
     have NB312_276 : Aside0 (gb312 ≠ gb276) := ⟨h17_⟩
     have NB277_312 : Aside0 (gb277 ≠ gb312) := ⟨h18_⟩
     have NB312_277 : Aside0 (gb312 ≠ gb277) := ⟨h19_⟩
     have NB278_312 : Aside0 (gb278 ≠ gb312) := ⟨h20_⟩
     have NB312_278 : Aside0 (gb312 ≠ gb278) := ⟨h21_⟩
     have NB282_312 : Aside0 (gb282 ≠ gb312) := ⟨h22_⟩
     have NB312_282 : Aside0 (gb312 ≠ gb282) := ⟨h23_⟩
     have NB286_312 : Aside0 (gb286 ≠ gb312) := ⟨h24_⟩
     have NB312_286 : Aside0 (gb312 ≠ gb286) := ⟨h25_⟩
     have NB290_312 : Aside0 (gb290 ≠ gb312) := ⟨h26_⟩
     have NB312_290 : Aside0 (gb312 ≠ gb290) := ⟨h27_⟩
     have NB294_312 : Aside0 (gb294 ≠ gb312) := ⟨h28_⟩
     have NB312_294 : Aside0 (gb312 ≠ gb294) := ⟨h29_⟩
     have NB298_312 : Aside0 (gb298 ≠ gb312) := ⟨h30_⟩
     have NB312_298 : Aside0 (gb312 ≠ gb298) := ⟨h31_⟩
     have NB302_312 : Aside0 (gb302 ≠ gb312) := ⟨h32_⟩
     have NB312_302 : Aside0 (gb312 ≠ gb302) := ⟨h33_⟩
     have NB305_312 : Aside0 (gb305 ≠ gb312) := ⟨h34_⟩
     have NB312_305 : Aside0 (gb312 ≠ gb305) := ⟨h35_⟩
     replace HB : Aside0 (Below w.heap.size w w121) := ⟨h36_⟩
     clear h0_ h1_ h2_ h3_ h4_ h5_ h6_ h7_ h8_ h9_ h10_ h11_ h12_ h13_ h14_ h15_ h16_ h17_ h18_ h19_ h20_ h21_ h22_ h23_ h24_ h25_ h26_ h27_ h28_ h29_ h30_ h31_ h32_ h33_ h34_ h35_ h36_
     have hHeld : w121.cell? ⟨gb305, 0, none⟩ = some (.int .i64 t303) ∧ w121.cell? ⟨gb305, 1, none⟩ = some (.int .i64 t304) ∧ w121.cell? ⟨gb282, 0, none⟩ = some (.int .i64 t279) ∧ w121.cell? ⟨gb282, 1, none⟩ = some (.int .i64 t280) ∧ w121.cell? ⟨gb298, 0, none⟩ = some (.int .i64 t295) ∧ w121.cell? ⟨gb298, 1, none⟩ = some (.int .i64 t296) ∧ w121.cell? ⟨gb286, 0, none⟩ = some (.int .i64 t283) ∧ w121.cell? ⟨gb286, 1, none⟩ = some (.int .i64 t284) := hS_
     refine norm_ (a' := ?_) ?_ ?_
     rotate_left
     ·
      simp only [putAll, Act.put, List.setIfInBounds_toArray, List.set_cons_zero, List.set_cons_succ]
      rfl
     refine one_ (i := 8) (N := none) #[true, true, true, true, true, true, true, true, true] rfl rfl (one_of HT_.out (by kernel_rfl)) (by decide) (fun K hK => ?_)
     have hs122 : w121.cell? ⟨gb312, 0, none⟩ = some (.int .i64 0) := (blk_cell BK312.out 0).trans rfl
     have hfs122 := blk_frozen BK312.out 0
     have hns122_0 := NB275_312.out
     have hns122_1 := NB276_312.out
     have hns122_2 := NB277_312.out
     have hns122_3 := NB278_312.out
     have hns122_4 := NB282_312.out
     have hns122_5 := NB286_312.out
     have hns122_6 := NB290_312.out
     have hns122_7 := NB294_312.out
     have hns122_8 := NB298_312.out
     have hns122_9 := NB302_312.out
     have hns122_10 := NB305_312.out
     have hms122_0 := NB312_275.out
     have hms122_1 := NB312_276.out
     have hms122_2 := NB312_277.out
     have hms122_3 := NB312_278.out
     have hms122_4 := NB312_282.out
     have hms122_5 := NB312_286.out
     have hms122_6 := NB312_290.out
     have hms122_7 := NB312_294.out
     have hms122_8 := NB312_298.out
     have hms122_9 := NB312_302.out
     have hms122_10 := NB312_305.out
     have hs123 : w121.cell? ⟨gb312, 1, none⟩ = some (.int .i64 0) := (blk_cell BK312.out 1).trans rfl
     have hfs123 := blk_frozen BK312.out 1
     have hns123_0 := NB275_312.out
     have hns123_1 := NB276_312.out
     have hns123_2 := NB277_312.out
     have hns123_3 := NB278_312.out
     have hns123_4 := NB282_312.out
     have hns123_5 := NB286_312.out
     have hns123_6 := NB290_312.out
     have hns123_7 := NB294_312.out
     have hns123_8 := NB298_312.out
     have hns123_9 := NB302_312.out
     have hns123_10 := NB305_312.out
     have hms123_0 := NB312_275.out
     have hms123_1 := NB312_276.out
     have hms123_2 := NB312_277.out
     have hms123_3 := NB312_278.out
     have hms123_4 := NB312_282.out
     have hms123_5 := NB312_286.out
     have hms123_6 := NB312_290.out
     have hms123_7 := NB312_294.out
     have hms123_8 := NB312_298.out
     have hms123_9 := NB312_302.out
     have hms123_10 := NB312_305.out
     refine skip_ (w1 := ?_) (by rfl) rfl ?_ ?_
     rotate_left
     ·
      go_simp
      rfl
     refine hK.out _ _ ⟨((cell_far (p := ⟨gb312, _, none⟩) NB305_312.out _).trans (((cell_far (p := ⟨gb312, _, none⟩) NB305_312.out _).trans (hHeld.1)))), ((cell_far (p := ⟨gb312, _, none⟩) NB305_312.out _).trans (((cell_far (p := ⟨gb312, _, none⟩) NB305_312.out _).trans (hHeld.2.1)))), ((cell_far (p := ⟨gb312, _, none⟩) NB282_312.out _).trans (((cell_far (p := ⟨gb312, _, none⟩) NB282_312.out _).trans (hHeld.2.2.1)))), ((cell_far (p := ⟨gb312, _, none⟩) NB282_312.out _).trans (((cell_far (p := ⟨gb312, _, none⟩) NB282_312.out _).trans (hHeld.2.2.2.1)))), ((cell_far (p := ⟨gb312, _, none⟩) NB298_312.out _).trans (((cell_far (p := ⟨gb312, _, none⟩) NB298_312.out _).trans (hHeld.2.2.2.2.1)))), ((cell_far (p := ⟨gb312, _, none⟩) NB298_312.out _).trans (((cell_far (p := ⟨gb312, _, none⟩) NB298_312.out _).trans (hHeld.2.2.2.2.2.1)))), ((cell_far (p := ⟨gb312, _, none⟩) NB286_312.out _).trans (((cell_far (p := ⟨gb312, _, none⟩) NB286_312.out _).trans (hHeld.2.2.2.2.2.2.1)))), ((cell_far (p := ⟨gb312, _, none⟩) NB286_312.out _).trans (((cell_far (p := ⟨gb312, _, none⟩) NB286_312.out _).trans (hHeld.2.2.2.2.2.2.2))))⟩ (fun hHeld => ?_)
     clear hK K
     refine done_ (done_of HT_.out (by kernel_rfl)) ?_
     try go_wp2
     have n0_ : Aside0 (((w121.setCell ⟨gb312, 0, none⟩ (.int .i64 t310)).setCell ⟨gb312, 1, none⟩ (.int .i64 t311)).heap[gb275]? = some (.cells #[.int .i64 a0_0, .int .i64 a0_1] 23 (0, 0))) := ⟨(gr_ (blk_far (gr_ (blk_far (gr_ BK275.out) NB275_312.out _)) NB275_312.out _))⟩
     have n1_ : Aside0 (((w121.setCell ⟨gb312, 0, none⟩ (.int .i64 t310)).setCell ⟨gb312, 1, none⟩ (.int .i64 t311)).heap[gb276]? = some (.cells #[.int .i64 a1_0, .int .i64 a1_1] 23 (0, 0))) := ⟨(gr_ (blk_far (gr_ (blk_far (gr_ BK276.out) NB276_312.out _)) NB276_312.out _))⟩
     have n2_ : Aside0 (((w121.setCell ⟨gb312, 0, none⟩ (.int .i64 t310)).setCell ⟨gb312, 1, none⟩ (.int .i64 t311)).heap[gb277]? = some (.cells #[.int .i64 0, .int .i64 0] 23 (0, 0))) := ⟨(gr_ (blk_far (gr_ (blk_far (gr_ BK277.out) NB277_312.out _)) NB277_312.out _))⟩
     have n3_ : Aside0 (((w121.setCell ⟨gb312, 0, none⟩ (.int .i64 t310)).setCell ⟨gb312, 1, none⟩ (.int .i64 t311)).heap[gb278]? = some (.cells #[.int .i64 0, .int .i64 0] 23 (0, 0))) := ⟨(gr_ (blk_far (gr_ (blk_far (gr_ BK278.out) NB278_312.out _)) NB278_312.out _))⟩
     have n4_ : Aside0 (((w121.setCell ⟨gb312, 0, none⟩ (.int .i64 t310)).setCell ⟨gb312, 1, none⟩ (.int .i64 t311)).heap[gb282]? = some (.cells #[.int .i64 t279, .int .i64 t280] 23 (0, 0))) := ⟨(gr_ (blk_far (gr_ (blk_far (gr_ BK282.out) NB282_312.out _)) NB282_312.out _))⟩
     have n5_ : Aside0 (((w121.setCell ⟨gb312, 0, none⟩ (.int .i64 t310)).setCell ⟨gb312, 1, none⟩ (.int .i64 t311)).heap[gb286]? = some (.cells #[.int .i64 t283, .int .i64 t284] 23 (0, 0))) := ⟨(gr_ (blk_far (gr_ (blk_far (gr_ BK286.out) NB286_312.out _)) NB286_312.out _))⟩
     have n6_ : Aside0 (((w121.setCell ⟨gb312, 0, none⟩ (.int .i64 t310)).setCell ⟨gb312, 1, none⟩ (.int .i64 t311)).heap[gb290]? = some (.cells #[.int .i64 t287, .int .i64 t288] 23 (0, 0))) := ⟨(gr_ (blk_far (gr_ (blk_far (gr_ BK290.out) NB290_312.out _)) NB290_312.out _))⟩
     have n7_ : Aside0 (((w121.setCell ⟨gb312, 0, none⟩ (.int .i64 t310)).setCell ⟨gb312, 1, none⟩ (.int .i64 t311)).heap[gb294]? = some (.cells #[.int .i64 t291, .int .i64 t292] 23 (0, 0))) := ⟨(gr_ (blk_far (gr_ (blk_far (gr_ BK294.out) NB294_312.out _)) NB294_312.out _))⟩
     have n8_ : Aside0 (((w121.setCell ⟨gb312, 0, none⟩ (.int .i64 t310)).setCell ⟨gb312, 1, none⟩ (.int .i64 t311)).heap[gb298]? = some (.cells #[.int .i64 t295, .int .i64 t296] 23 (0, 0))) := ⟨(gr_ (blk_far (gr_ (blk_far (gr_ BK298.out) NB298_312.out _)) NB298_312.out _))⟩
     have n9_ : Aside0 (((w121.setCell ⟨gb312, 0, none⟩ (.int .i64 t310)).setCell ⟨gb312, 1, none⟩ (.int .i64 t311)).heap[gb302]? = some (.cells #[.int .i64 t299, .int .i64 t300] 23 (0, 0))) := ⟨(gr_ (blk_far (gr_ (blk_far (gr_ BK302.out) NB302_312.out _)) NB302_312.out _))⟩
     have n10_ : Aside0 (((w121.setCell ⟨gb312, 0, none⟩ (.int .i64 t310)).setCell ⟨gb312, 1, none⟩ (.int .i64 t311)).heap[gb305]? = some (.cells #[.int .i64 t303, .int .i64 t304] 23 (0, 0))) := ⟨(gr_ (blk_far (gr_ (blk_far (gr_ BK305.out) NB305_312.out _)) NB305_312.out _))⟩
     have n11_ : Aside0 (((w121.setCell ⟨gb312, 0, none⟩ (.int .i64 t310)).setCell ⟨gb312, 1, none⟩ (.int .i64 t311)).heap[gb312]? = some (.cells #[.int .i64 t310, .int .i64 t311] 23 (0, 0))) := ⟨(gr_ (blk_put (cs := #[.int .i64 t310, .int .i64 0]) (gr_ (blk_put (cs := #[.int .i64 0, .int .i64 0]) (gr_ BK312.out) 0 _ rfl)) 1 _ rfl))⟩
     have n12_ : Aside0 (Below w.heap.size w ((w121.setCell ⟨gb312, 0, none⟩ (.int .i64 t310)).setCell ⟨gb312, 1, none⟩ (.int .i64 t311))) := ⟨by repeat (first | (with_reducible first | exact HB.out | apply below_alloc | apply pw_below_drewN | apply below_drew1 | refine below_set ?_ GE275.out | refine below_set ?_ GE276.out | refine below_set ?_ GE277.out | refine below_set ?_ GE278.out | refine below_set ?_ GE282.out | refine below_set ?_ GE286.out | refine below_set ?_ GE290.out | refine below_set ?_ GE294.out | refine below_set ?_ GE298.out | refine below_set ?_ GE302.out | refine below_set ?_ GE305.out | refine below_set ?_ GE312.out) | exact HB.out)⟩
     (try clear BK275)
     (try clear BK276)
     (try clear BK277)
     (try clear BK278)
     (try clear BK282)
     (try clear BK286)
     (try clear BK290)
     (try clear BK294)
     (try clear BK298)
     (try clear BK302)
     (try clear BK305)
     (try clear BK312)
     (try clear HB)
     generalize ((w121.setCell ⟨gb312, 0, none⟩ (.int .i64 t310)).setCell ⟨gb312, 1, none⟩ (.int .i64 t311)) = w124 at n0_ n1_ n2_ n3_ n4_ n5_ n6_ n7_ n8_ n9_ n10_ n11_ n12_ ⊢
     have BK275 := n0_
     have BK276 := n1_
     have BK277 := n2_
     have BK278 := n3_
     have BK282 := n4_
     have BK286 := n5_
     have BK290 := n6_
     have BK294 := n7_
     have BK298 := n8_
     have BK302 := n9_
     have BK305 := n10_
     have BK312 := n11_
     have HB := n12_
     clear n0_ n1_ n2_ n3_ n4_ n5_ n6_ n7_ n8_ n9_ n10_ n11_ n12_
     have n0_ := Aside0.mk (blk_drew BK275.out)
     have n1_ := Aside0.mk (blk_drew BK276.out)
     have n2_ := Aside0.mk (blk_drew BK277.out)
     have n3_ := Aside0.mk (blk_drew BK278.out)
     have n4_ := Aside0.mk (blk_drew BK282.out)
     have n5_ := Aside0.mk (blk_drew BK286.out)
     have n6_ := Aside0.mk (blk_drew BK290.out)
     have n7_ := Aside0.mk (blk_drew BK294.out)
     have n8_ := Aside0.mk (blk_drew BK298.out)
     have n9_ := Aside0.mk (blk_drew BK302.out)
     have n10_ := Aside0.mk (blk_drew BK305.out)
     have n11_ := Aside0.mk (blk_drew BK312.out)
     have n12_ := Aside0.mk (below_drew1 HB.out)
     clear BK275
     clear BK276
     clear BK277
     clear BK278
     clear BK282
     clear BK286
     clear BK290
     clear BK294
     clear BK298
     clear BK302
     clear BK305
     clear BK312
     clear HB
     have BK275 := n0_
     have BK276 := n1_
     have BK277 := n2_
     have BK278 := n3_
     have BK282 := n4_
     have BK286 := n5_
     have BK290 := n6_
     have BK294 := n7_
     have BK298 := n8_
     have BK302 := n9_
     have BK305 := n10_
     have BK312 := n11_
     have HB := n12_
     clear n0_ n1_ n2_ n3_ n4_ n5_ n6_ n7_ n8_ n9_ n10_ n11_ n12_
     refine start_ (n := 17) (S := fun w' => w'.cell? ⟨gb305, 0, none⟩ = some (.int .i64 t303) ∧ w'.cell? ⟨gb305, 1, none⟩ = some (.int .i64 t304) ∧ w'.cell? ⟨gb286, 0, none⟩ = some (.int .i64 t283) ∧ w'.cell? ⟨gb286, 1, none⟩ = some (.int .i64 t284) ∧ w'.cell? ⟨gb298, 0, none⟩ = some (.int .i64 t295) ∧ w'.cell? ⟨gb298, 1, none⟩ = some (.int .i64 t296) ∧ w'.cell? ⟨gb282, 0, none⟩ = some (.int .i64 t279) ∧ w'.cell? ⟨gb282, 1, none⟩ = some (.int .i64 t280) ∧ w'.cell? ⟨gb302, 0, none⟩ = some (.int .i64 t299) ∧ w'.cell? ⟨gb302, 1, none⟩ = some (.int .i64 t300) ∧ w'.cell? ⟨gb294, 0, none⟩ = some (.int .i64 t291) ∧ w'.cell? ⟨gb294, 1, none⟩ = some (.int .i64 t292)) (ds := []) #[false, false, false, false, false, false, false, false, false, false, false, false, false, false, false, false, false] (by kernel_rfl) rfl rfl ⟨(blk_cell BK305.out 0).trans rfl, (blk_cell BK305.out 1).trans rfl, (blk_cell BK286.out 0).trans rfl, (blk_cell BK286.out 1).trans rfl, (blk_cell BK298.out 0).trans rfl, (blk_cell BK298.out 1).trans rfl, (blk_cell BK282.out 0).trans rfl, (blk_cell BK282.out 1).trans rfl, (blk_cell BK302.out 0).trans rfl, (blk_cell BK302.out 1).trans rfl, (blk_cell BK294.out 0).trans rfl, (blk_cell BK294.out 1).trans rfl⟩ (fun hHeld => ?_); refine with_tabW sun_Equator.tab18 sun_Equator.bits18 (fun HT_ HW_ => ?_)
     generalize w124.drew = w125 at BK275 BK276 BK277 BK278 BK282 BK286 BK290 BK294 BK298 BK302 BK305 BK312 HB hHeld ⊢
     refine take_ (i := 0) (N := some 91) (v := ?_) (a' := ?_) #[true, false, false, false, false, false, false, false, false, false, false, false, false, false, false, false, false] rfl rfl (take_ofW HT_.out HW_.out (by kernel_rfl)) (fun _ _ _ h => h) (Or.inl ⟨by rfl, ?_⟩) hHeld ?_ ?_
     rotate_left
     ·
      rintro w' ⟨s0, s1, s2, s3, s4, s5, s6, s7, s8, s9, s10, s11⟩
      go_simp
      with_reducible rfl
     rotate_left
     ·
      simp only [Act.put, List.setIfInBounds_toArray, List.set_cons_zero, List.set_cons_succ, i64_w, i32_w]
      rfl
     refine take_ (i := 1) (N := some 92) (v := ?_) (a' := ?_) #[true, true, false, false, false, false, false, false, false, false, false, false, false, false, false, false, false] rfl rfl (take_ofW HT_.out HW_.out (by kernel_rfl)) (fun _ _ _ h => h) (Or.inl ⟨by rfl, ?_⟩) hHeld ?_ ?_
     rotate_left
     ·
      rintro w' ⟨s0, s1, s2, s3, s4, s5, s6, s7, s8, s9, s10, s11⟩
      go_simp
      with_reducible rfl
     rotate_left
     ·
      simp only [Act.put, List.setIfInBounds_toArray, List.set_cons_zero, List.set_cons_succ, i64_w, i32_w]
      rfl
     refine take_ (i := 3) (N := some 94) (v := ?_) (a' := ?_) #[true, true, false, true, false, false, false, false, false, false, false, false, false, false, false, false, false] rfl rfl (take_ofW HT_.out HW_.out (by kernel_rfl)) (fun _ _ _ h => h) (Or.inl ⟨by rfl, ?_⟩) hHeld ?_ ?_
     rotate_left
     ·
      rintro w' ⟨s0, s1, s2, s3, s4, s5, s6, s7, s8, s9, s10, s11⟩
      go_simp
      with_reducible rfl
     rotate_left
     ·
      simp only [Act.put, List.setIfInBounds_toArray, List.set_cons_zero, List.set_cons_succ, i64_w, i32_w]
      rfl
     refine take_ (i := 4) (N := some 95) (v := ?_) (a' := ?_) #[true, true, false, true, true, false, false, false, false, false, false, false, false, false, false, false, false] rfl rfl (take_ofW HT_.out HW_.out (by kernel_rfl)) (fun _ _ _ h => h) (Or.inl ⟨by rfl, ?_⟩) hHeld ?_ ?_
     rotate_left
     ·
      rintro w' ⟨s0, s1, s2, s3, s4, s5, s6, s7, s8, s9, s10, s11⟩
      go_simp
      with_reducible rfl
     rotate_left
     ·
      simp only [Act.put, List.setIfInBounds_toArray, List.set_cons_zero, List.set_cons_succ, i64_w, i32_w]
      rfl
     refine take_ (i := 7) (N := some 98) (v := ?_) (a' := ?_) #[true, true, false, true, true, false, false, true, false, false, false, false, false, false, false, false, false] rfl rfl (take_ofW HT_.out HW_.out (by kernel_rfl)) (fun _ _ _ h => h) (Or.inl ⟨by rfl, ?_⟩) hHeld ?_ ?_
     rotate_left
     ·
      rintro w' ⟨s0, s1, s2, s3, s4, s5, s6, s7, s8, s9, s10, s11⟩
      go_simp
      with_reducible rfl
     rotate_left
     ·
      simp only [Act.put, List.setIfInBounds_toArray, List.set_cons_zero, List.set_cons_succ, i64_w, i32_w]
      rfl
     refine take_ (i := 8) (N := some 99) (v := ?_) (a' := ?_) #[true, true, false, true, true, false, false, true, true, false, false, false, false, false, false, false, false] rfl rfl (take_ofW HT_.out HW_.out (by kernel_rfl)) (fun _ _ _ h => h) (Or.inl ⟨by rfl, ?_⟩) hHeld ?_ ?_
     rotate_left
     ·
      rintro w' ⟨s0, s1, s2, s3, s4, s5, s6, s7, s8, s9, s10, s11⟩
      go_simp
      with_reducible rfl
     rotate_left
     ·
      simp only [Act.put, List.setIfInBounds_toArray, List.set_cons_zero, List.set_cons_succ, i64_w, i32_w]
      rfl
     refine join_ (σ := Nat) 2 #[true, true, true, true, true, true, true, true, true, true, true, true, true, true, true, false, false] (fun s_ => [(93, .agg #[.int .i64 t313, .int .i64 t314]), (96, .agg #[.int .i64 t315, .int .i64 t316]), (97, .agg #[.int .i64 t317, .int .i64 t318]), (100, .agg #[.int .i64 t319, .int .i64 t320]), (101, .tuple #[.agg #[.int .i64 t321, .int .i64 t322], .int .i64 t323]), (24, .pointer (some ⟨s_, 0, none⟩)), (90, .tuple #[.agg #[.int .i64 t321, .int .i64 t322], .int .i64 t323]), (102, .agg #[.int .i64 t321, .int .i64 t322]), (103, .int .i64 t323)]) (fun s_ w' => (w'.cell? ⟨gb305, 0, none⟩ = some (.int .i64 t303) ∧ w'.cell? ⟨gb305, 1, none⟩ = some (.int .i64 t304) ∧ w'.cell? ⟨gb286, 0, none⟩ = some (.int .i64 t283) ∧ w'.cell? ⟨gb286, 1, none⟩ = some (.int .i64 t284) ∧ w'.cell? ⟨gb298, 0, none⟩ = some (.int .i64 t295) ∧ w'.cell? ⟨gb298, 1, none⟩ = some (.int .i64 t296) ∧ w'.cell? ⟨gb282, 0, none⟩ = some (.int .i64 t279) ∧ w'.cell? ⟨gb282, 1, none⟩ = some (.int .i64 t280) ∧ w'.cell? ⟨gb302, 0, none⟩ = some (.int .i64 t299) ∧ w'.cell? ⟨gb302, 1, none⟩ = some (.int .i64 t300) ∧ w'.cell? ⟨gb294, 0, none⟩ = some (.int .i64 t291) ∧ w'.cell? ⟨gb294, 1, none⟩ = some (.int .i64 t292)) ∧ (w'.heap[gb275]? = some (.cells #[.int .i64 a0_0, .int .i64 a0_1] 23 (0, 0))) ∧ (w'.heap[gb276]? = some (.cells #[.int .i64 a1_0, .int .i64 a1_1] 23 (0, 0))) ∧ (w'.heap[gb277]? = some (.cells #[.int .i64 0, .int .i64 0] 23 (0, 0))) ∧ (w'.heap[gb278]? = some (.cells #[.int .i64 0, .int .i64 0] 23 (0, 0))) ∧ (w'.heap[gb282]? = some (.cells #[.int .i64 t279, .int .i64 t280] 23 (0, 0))) ∧ (w'.heap[gb286]? = some (.cells #[.int .i64 t283, .int .i64 t284] 23 (0, 0))) ∧ (w'.heap[gb290]? = some (.cells #[.int .i64 t287, .int .i64 t288] 23 (0, 0))) ∧ (w'.heap[gb294]? = some (.cells #[.int .i64 t291, .int .i64 t292] 23 (0, 0))) ∧ (w'.heap[gb298]? = some (.cells #[.int .i64 t295, .int .i64 t296] 23 (0, 0))) ∧ (w'.heap[gb302]? = some (.cells #[.int .i64 t299, .int .i64 t300] 23 (0, 0))) ∧ (w'.heap[gb305]? = some (.cells #[.int .i64 t303, .int .i64 t304] 23 (0, 0))) ∧ (w'.heap[gb312]? = some (.cells #[.int .i64 t310, .int .i64 t311] 23 (0, 0))) ∧ (w'.heap[s_]? = some (.cells #[.int .i64 0, .int .i64 0] 23 (0, 0))) ∧ (w.heap.size ≤ s_) ∧ (w.heap.size ≤ s_) ∧ (gb275 ≠ s_) ∧ (s_ ≠ gb275) ∧ (gb276 ≠ s_) ∧ (s_ ≠ gb276) ∧ (gb277 ≠ s_) ∧ (s_ ≠ gb277) ∧ (gb278 ≠ s_) ∧ (s_ ≠ gb278) ∧ (gb282 ≠ s_) ∧ (s_ ≠ gb282) ∧ (gb286 ≠ s_) ∧ (s_ ≠ gb286) ∧ (gb290 ≠ s_) ∧ (s_ ≠ gb290) ∧ (gb294 ≠ s_) ∧ (s_ ≠ gb294) ∧ (gb298 ≠ s_) ∧ (s_ ≠ gb298) ∧ (gb302 ≠ s_) ∧ (s_ ≠ gb302) ∧ (gb305 ≠ s_) ∧ (s_ ≠ gb305) ∧ (gb312 ≠ s_) ∧ (s_ ≠ gb312) ∧ (Below w.heap.size w w')) ?_ ?_
     rotate_left
     ·
      intro hJ2_5_6_9_10_14
      refine join_ (σ := Unit) 3 #[true, true, true, true, true, true, true, true, true, true, true, true, true, true, false, false, false] (fun s_ => [(93, .agg #[.int .i64 t313, .int .i64 t314]), (96, .agg #[.int .i64 t315, .int .i64 t316]), (97, .agg #[.int .i64 t317, .int .i64 t318]), (100, .agg #[.int .i64 t319, .int .i64 t320]), (101, .tuple #[.agg #[.int .i64 t321, .int .i64 t322], .int .i64 t323]), (90, .tuple #[.agg #[.int .i64 t321, .int .i64 t322], .int .i64 t323]), (102, .agg #[.int .i64 t321, .int .i64 t322]), (103, .int .i64 t323)]) (fun s_ w' => (w'.cell? ⟨gb305, 0, none⟩ = some (.int .i64 t303) ∧ w'.cell? ⟨gb305, 1, none⟩ = some (.int .i64 t304) ∧ w'.cell? ⟨gb286, 0, none⟩ = some (.int .i64 t283) ∧ w'.cell? ⟨gb286, 1, none⟩ = some (.int .i64 t284) ∧ w'.cell? ⟨gb298, 0, none⟩ = some (.int .i64 t295) ∧ w'.cell? ⟨gb298, 1, none⟩ = some (.int .i64 t296) ∧ w'.cell? ⟨gb282, 0, none⟩ = some (.int .i64 t279) ∧ w'.cell? ⟨gb282, 1, none⟩ = some (.int .i64 t280) ∧ w'.cell? ⟨gb302, 0, none⟩ = some (.int .i64 t299) ∧ w'.cell? ⟨gb302, 1, none⟩ = some (.int .i64 t300) ∧ w'.cell? ⟨gb294, 0, none⟩ = some (.int .i64 t291) ∧ w'.cell? ⟨gb294, 1, none⟩ = some (.int .i64 t292)) ∧ (w'.heap[gb275]? = some (.cells #[.int .i64 a0_0, .int .i64 a0_1] 23 (0, 0))) ∧ (w'.heap[gb276]? = some (.cells #[.int .i64 a1_0, .int .i64 a1_1] 23 (0, 0))) ∧ (w'.heap[gb277]? = some (.cells #[.int .i64 0, .int .i64 0] 23 (0, 0))) ∧ (w'.heap[gb278]? = some (.cells #[.int .i64 0, .int .i64 0] 23 (0, 0))) ∧ (w'.heap[gb282]? = some (.cells #[.int .i64 t279, .int .i64 t280] 23 (0, 0))) ∧ (w'.heap[gb286]? = some (.cells #[.int .i64 t283, .int .i64 t284] 23 (0, 0))) ∧ (w'.heap[gb290]? = some (.cells #[.int .i64 t287, .int .i64 t288] 23 (0, 0))) ∧ (w'.heap[gb294]? = some (.cells #[.int .i64 t291, .int .i64 t292] 23 (0, 0))) ∧ (w'.heap[gb298]? = some (.cells #[.int .i64 t295, .int .i64 t296] 23 (0, 0))) ∧ (w'.heap[gb302]? = some (.cells #[.int .i64 t299, .int .i64 t300] 23 (0, 0))) ∧ (w'.heap[gb305]? = some (.cells #[.int .i64 t303, .int .i64 t304] 23 (0, 0))) ∧ (w'.heap[gb312]? = some (.cells #[.int .i64 t310, .int .i64 t311] 23 (0, 0))) ∧ (Below w.heap.size w w')) ?_ ?_
      rotate_left
      ·
       intro hJ2_5_6_9_10
       refine join_ (σ := Nat) 6 #[true, true, true, true, true, true, true, true, true, true, false, false, false, false, true, false, false] (fun s_ => [(93, .agg #[.int .i64 t313, .int .i64 t314]), (96, .agg #[.int .i64 t315, .int .i64 t316]), (97, .agg #[.int .i64 t317, .int .i64 t318]), (100, .agg #[.int .i64 t319, .int .i64 t320]), (24, .pointer (some ⟨s_, 0, none⟩))]) (fun s_ w' => (w'.cell? ⟨gb305, 0, none⟩ = some (.int .i64 t303) ∧ w'.cell? ⟨gb305, 1, none⟩ = some (.int .i64 t304) ∧ w'.cell? ⟨gb286, 0, none⟩ = some (.int .i64 t283) ∧ w'.cell? ⟨gb286, 1, none⟩ = some (.int .i64 t284) ∧ w'.cell? ⟨gb298, 0, none⟩ = some (.int .i64 t295) ∧ w'.cell? ⟨gb298, 1, none⟩ = some (.int .i64 t296) ∧ w'.cell? ⟨gb282, 0, none⟩ = some (.int .i64 t279) ∧ w'.cell? ⟨gb282, 1, none⟩ = some (.int .i64 t280) ∧ w'.cell? ⟨gb302, 0, none⟩ = some (.int .i64 t299) ∧ w'.cell? ⟨gb302, 1, none⟩ = some (.int .i64 t300) ∧ w'.cell? ⟨gb294, 0, none⟩ = some (.int .i64 t291) ∧ w'.cell? ⟨gb294, 1, none⟩ = some (.int .i64 t292)) ∧ (w'.heap[gb275]? = some (.cells #[.int .i64 a0_0, .int .i64 a0_1] 23 (0, 0))) ∧ (w'.heap[gb276]? = some (.cells #[.int .i64 a1_0, .int .i64 a1_1] 23 (0, 0))) ∧ (w'.heap[gb277]? = some (.cells #[.int .i64 0, .int .i64 0] 23 (0, 0))) ∧ (w'.heap[gb278]? = some (.cells #[.int .i64 0, .int .i64 0] 23 (0, 0))) ∧ (w'.heap[gb282]? = some (.cells #[.int .i64 t279, .int .i64 t280] 23 (0, 0))) ∧ (w'.heap[gb286]? = some (.cells #[.int .i64 t283, .int .i64 t284] 23 (0, 0))) ∧ (w'.heap[gb290]? = some (.cells #[.int .i64 t287, .int .i64 t288] 23 (0, 0))) ∧ (w'.heap[gb294]? = some (.cells #[.int .i64 t291, .int .i64 t292] 23 (0, 0))) ∧ (w'.heap[gb298]? = some (.cells #[.int .i64 t295, .int .i64 t296] 23 (0, 0))) ∧ (w'.heap[gb302]? = some (.cells #[.int .i64 t299, .int .i64 t300] 23 (0, 0))) ∧ (w'.heap[gb305]? = some (.cells #[.int .i64 t303, .int .i64 t304] 23 (0, 0))) ∧ (w'.heap[gb312]? = some (.cells #[.int .i64 t310, .int .i64 t311] 23 (0, 0))) ∧ (w'.heap[s_]? = some (.cells #[.int .i64 0, .int .i64 0] 23 (0, 0))) ∧ (w.heap.size ≤ s_) ∧ (w.heap.size ≤ s_) ∧ (gb275 ≠ s_) ∧ (s_ ≠ gb275) ∧ (gb276 ≠ s_) ∧ (s_ ≠ gb276) ∧ (gb277 ≠ s_) ∧ (s_ ≠ gb277) ∧ (gb278 ≠ s_) ∧ (s_ ≠ gb278) ∧ (gb282 ≠ s_) ∧ (s_ ≠ gb282) ∧ (gb286 ≠ s_) ∧ (s_ ≠ gb286) ∧ (gb290 ≠ s_) ∧ (s_ ≠ gb290) ∧ (gb294 ≠ s_) ∧ (s_ ≠ gb294) ∧ (gb298 ≠ s_) ∧ (s_ ≠ gb298) ∧ (gb302 ≠ s_) ∧ (s_ ≠ gb302) ∧ (gb305 ≠ s_) ∧ (s_ ≠ gb305) ∧ (gb312 ≠ s_) ∧ (s_ ≠ gb312) ∧ (Below w.heap.size w w')) ?_ ?_
       rotate_left
       ·
        intro hJ2_5_6_9_14
        refine join_ (σ := Unit) 7 #[true, true, true, true, true, true, true, true, true, true, false, false, false, false, false, false, false] (fun s_ => [(93, .agg #[.int .i64 t313, .int .i64 t314]), (96, .agg #[.int .i64 t315, .int .i64 t316]), (97, .agg #[.int .i64 t317, .int .i64 t318]), (100, .agg #[.int .i64 t319, .int .i64 t320])]) (fun s_ w' => (w'.cell? ⟨gb305, 0, none⟩ = some (.int .i64 t303) ∧ w'.cell? ⟨gb305, 1, none⟩ = some (.int .i64 t304) ∧ w'.cell? ⟨gb286, 0, none⟩ = some (.int .i64 t283) ∧ w'.cell? ⟨gb286, 1, none⟩ = some (.int .i64 t284) ∧ w'.cell? ⟨gb298, 0, none⟩ = some (.int .i64 t295) ∧ w'.cell? ⟨gb298, 1, none⟩ = some (.int .i64 t296) ∧ w'.cell? ⟨gb282, 0, none⟩ = some (.int .i64 t279) ∧ w'.cell? ⟨gb282, 1, none⟩ = some (.int .i64 t280) ∧ w'.cell? ⟨gb302, 0, none⟩ = some (.int .i64 t299) ∧ w'.cell? ⟨gb302, 1, none⟩ = some (.int .i64 t300) ∧ w'.cell? ⟨gb294, 0, none⟩ = some (.int .i64 t291) ∧ w'.cell? ⟨gb294, 1, none⟩ = some (.int .i64 t292)) ∧ (w'.heap[gb275]? = some (.cells #[.int .i64 a0_0, .int .i64 a0_1] 23 (0, 0))) ∧ (w'.heap[gb276]? = some (.cells #[.int .i64 a1_0, .int .i64 a1_1] 23 (0, 0))) ∧ (w'.heap[gb277]? = some (.cells #[.int .i64 0, .int .i64 0] 23 (0, 0))) ∧ (w'.heap[gb278]? = some (.cells #[.int .i64 0, .int .i64 0] 23 (0, 0))) ∧ (w'.heap[gb282]? = some (.cells #[.int .i64 t279, .int .i64 t280] 23 (0, 0))) ∧ (w'.heap[gb286]? = some (.cells #[.int .i64 t283, .int .i64 t284] 23 (0, 0))) ∧ (w'.heap[gb290]? = some (.cells #[.int .i64 t287, .int .i64 t288] 23 (0, 0))) ∧ (w'.heap[gb294]? = some (.cells #[.int .i64 t291, .int .i64 t292] 23 (0, 0))) ∧ (w'.heap[gb298]? = some (.cells #[.int .i64 t295, .int .i64 t296] 23 (0, 0))) ∧ (w'.heap[gb302]? = some (.cells #[.int .i64 t299, .int .i64 t300] 23 (0, 0))) ∧ (w'.heap[gb305]? = some (.cells #[.int .i64 t303, .int .i64 t304] 23 (0, 0))) ∧ (w'.heap[gb312]? = some (.cells #[.int .i64 t310, .int .i64 t311] 23 (0, 0))) ∧ (Below w.heap.size w w')) ?_ ?_
        rotate_left
        ·
         intro hJ2_5_6_9
         refine join_ (σ := Nat) 7 #[true, true, true, true, true, true, true, true, true, false, false, false, false, false, true, false, false] (fun s_ => [(93, .agg #[.int .i64 t313, .int .i64 t314]), (96, .agg #[.int .i64 t315, .int .i64 t316]), (97, .agg #[.int .i64 t317, .int .i64 t318]), (24, .pointer (some ⟨s_, 0, none⟩))]) (fun s_ w' => (w'.cell? ⟨gb305, 0, none⟩ = some (.int .i64 t303) ∧ w'.cell? ⟨gb305, 1, none⟩ = some (.int .i64 t304) ∧ w'.cell? ⟨gb286, 0, none⟩ = some (.int .i64 t283) ∧ w'.cell? ⟨gb286, 1, none⟩ = some (.int .i64 t284) ∧ w'.cell? ⟨gb298, 0, none⟩ = some (.int .i64 t295) ∧ w'.cell? ⟨gb298, 1, none⟩ = some (.int .i64 t296) ∧ w'.cell? ⟨gb282, 0, none⟩ = some (.int .i64 t279) ∧ w'.cell? ⟨gb282, 1, none⟩ = some (.int .i64 t280) ∧ w'.cell? ⟨gb302, 0, none⟩ = some (.int .i64 t299) ∧ w'.cell? ⟨gb302, 1, none⟩ = some (.int .i64 t300) ∧ w'.cell? ⟨gb294, 0, none⟩ = some (.int .i64 t291) ∧ w'.cell? ⟨gb294, 1, none⟩ = some (.int .i64 t292)) ∧ (w'.heap[gb275]? = some (.cells #[.int .i64 a0_0, .int .i64 a0_1] 23 (0, 0))) ∧ (w'.heap[gb276]? = some (.cells #[.int .i64 a1_0, .int .i64 a1_1] 23 (0, 0))) ∧ (w'.heap[gb277]? = some (.cells #[.int .i64 0, .int .i64 0] 23 (0, 0))) ∧ (w'.heap[gb278]? = some (.cells #[.int .i64 0, .int .i64 0] 23 (0, 0))) ∧ (w'.heap[gb282]? = some (.cells #[.int .i64 t279, .int .i64 t280] 23 (0, 0))) ∧ (w'.heap[gb286]? = some (.cells #[.int .i64 t283, .int .i64 t284] 23 (0, 0))) ∧ (w'.heap[gb290]? = some (.cells #[.int .i64 t287, .int .i64 t288] 23 (0, 0))) ∧ (w'.heap[gb294]? = some (.cells #[.int .i64 t291, .int .i64 t292] 23 (0, 0))) ∧ (w'.heap[gb298]? = some (.cells #[.int .i64 t295, .int .i64 t296] 23 (0, 0))) ∧ (w'.heap[gb302]? = some (.cells #[.int .i64 t299, .int .i64 t300] 23 (0, 0))) ∧ (w'.heap[gb305]? = some (.cells #[.int .i64 t303, .int .i64 t304] 23 (0, 0))) ∧ (w'.heap[gb312]? = some (.cells #[.int .i64 t310, .int .i64 t311] 23 (0, 0))) ∧ (w'.heap[s_]? = some (.cells #[.int .i64 0, .int .i64 0] 23 (0, 0))) ∧ (w.heap.size ≤ s_) ∧ (w.heap.size ≤ s_) ∧ (gb275 ≠ s_) ∧ (s_ ≠ gb275) ∧ (gb276 ≠ s_) ∧ (s_ ≠ gb276) ∧ (gb277 ≠ s_) ∧ (s_ ≠ gb277) ∧ (gb278 ≠ s_) ∧ (s_ ≠ gb278) ∧ (gb282 ≠ s_) ∧ (s_ ≠ gb282) ∧ (gb286 ≠ s_) ∧ (s_ ≠ gb286) ∧ (gb290 ≠ s_) ∧ (s_ ≠ gb290) ∧ (gb294 ≠ s_) ∧ (s_ ≠ gb294) ∧ (gb298 ≠ s_) ∧ (s_ ≠ gb298) ∧ (gb302 ≠ s_) ∧ (s_ ≠ gb302) ∧ (gb305 ≠ s_) ∧ (s_ ≠ gb305) ∧ (gb312 ≠ s_) ∧ (s_ ≠ gb312) ∧ (Below w.heap.size w w')) ?_ ?_
         rotate_left
         ·
          intro hJ2_5_6_14
          refine join_ (σ := Unit) 8 #[true, true, true, true, true, true, true, true, true, false, false, false, false, false, false, false, false] (fun s_ => [(93, .agg #[.int .i64 t313, .int .i64 t314]), (96, .agg #[.int .i64 t315, .int .i64 t316]), (97, .agg #[.int .i64 t317, .int .i64 t318])]) (fun s_ w' => (w'.cell? ⟨gb305, 0, none⟩ = some (.int .i64 t303) ∧ w'.cell? ⟨gb305, 1, none⟩ = some (.int .i64 t304) ∧ w'.cell? ⟨gb286, 0, none⟩ = some (.int .i64 t283) ∧ w'.cell? ⟨gb286, 1, none⟩ = some (.int .i64 t284) ∧ w'.cell? ⟨gb298, 0, none⟩ = some (.int .i64 t295) ∧ w'.cell? ⟨gb298, 1, none⟩ = some (.int .i64 t296) ∧ w'.cell? ⟨gb282, 0, none⟩ = some (.int .i64 t279) ∧ w'.cell? ⟨gb282, 1, none⟩ = some (.int .i64 t280) ∧ w'.cell? ⟨gb302, 0, none⟩ = some (.int .i64 t299) ∧ w'.cell? ⟨gb302, 1, none⟩ = some (.int .i64 t300) ∧ w'.cell? ⟨gb294, 0, none⟩ = some (.int .i64 t291) ∧ w'.cell? ⟨gb294, 1, none⟩ = some (.int .i64 t292)) ∧ (w'.heap[gb275]? = some (.cells #[.int .i64 a0_0, .int .i64 a0_1] 23 (0, 0))) ∧ (w'.heap[gb276]? = some (.cells #[.int .i64 a1_0, .int .i64 a1_1] 23 (0, 0))) ∧ (w'.heap[gb277]? = some (.cells #[.int .i64 0, .int .i64 0] 23 (0, 0))) ∧ (w'.heap[gb278]? = some (.cells #[.int .i64 0, .int .i64 0] 23 (0, 0))) ∧ (w'.heap[gb282]? = some (.cells #[.int .i64 t279, .int .i64 t280] 23 (0, 0))) ∧ (w'.heap[gb286]? = some (.cells #[.int .i64 t283, .int .i64 t284] 23 (0, 0))) ∧ (w'.heap[gb290]? = some (.cells #[.int .i64 t287, .int .i64 t288] 23 (0, 0))) ∧ (w'.heap[gb294]? = some (.cells #[.int .i64 t291, .int .i64 t292] 23 (0, 0))) ∧ (w'.heap[gb298]? = some (.cells #[.int .i64 t295, .int .i64 t296] 23 (0, 0))) ∧ (w'.heap[gb302]? = some (.cells #[.int .i64 t299, .int .i64 t300] 23 (0, 0))) ∧ (w'.heap[gb305]? = some (.cells #[.int .i64 t303, .int .i64 t304] 23 (0, 0))) ∧ (w'.heap[gb312]? = some (.cells #[.int .i64 t310, .int .i64 t311] 23 (0, 0))) ∧ (Below w.heap.size w w')) ?_ ?_
          rotate_left
          ·
           intro hJ2_5_6
           refine join_ (σ := Nat) 8 #[true, true, true, true, true, true, false, true, true, false, false, false, false, false, true, false, false] (fun s_ => [(93, .agg #[.int .i64 t313, .int .i64 t314]), (96, .agg #[.int .i64 t315, .int .i64 t316]), (24, .pointer (some ⟨s_, 0, none⟩))]) (fun s_ w' => (w'.cell? ⟨gb305, 0, none⟩ = some (.int .i64 t303) ∧ w'.cell? ⟨gb305, 1, none⟩ = some (.int .i64 t304) ∧ w'.cell? ⟨gb286, 0, none⟩ = some (.int .i64 t283) ∧ w'.cell? ⟨gb286, 1, none⟩ = some (.int .i64 t284) ∧ w'.cell? ⟨gb298, 0, none⟩ = some (.int .i64 t295) ∧ w'.cell? ⟨gb298, 1, none⟩ = some (.int .i64 t296) ∧ w'.cell? ⟨gb282, 0, none⟩ = some (.int .i64 t279) ∧ w'.cell? ⟨gb282, 1, none⟩ = some (.int .i64 t280) ∧ w'.cell? ⟨gb302, 0, none⟩ = some (.int .i64 t299) ∧ w'.cell? ⟨gb302, 1, none⟩ = some (.int .i64 t300) ∧ w'.cell? ⟨gb294, 0, none⟩ = some (.int .i64 t291) ∧ w'.cell? ⟨gb294, 1, none⟩ = some (.int .i64 t292)) ∧ (w'.heap[gb275]? = some (.cells #[.int .i64 a0_0, .int .i64 a0_1] 23 (0, 0))) ∧ (w'.heap[gb276]? = some (.cells #[.int .i64 a1_0, .int .i64 a1_1] 23 (0, 0))) ∧ (w'.heap[gb277]? = some (.cells #[.int .i64 0, .int .i64 0] 23 (0, 0))) ∧ (w'.heap[gb278]? = some (.cells #[.int .i64 0, .int .i64 0] 23 (0, 0))) ∧ (w'.heap[gb282]? = some (.cells #[.int .i64 t279, .int .i64 t280] 23 (0, 0))) ∧ (w'.heap[gb286]? = some (.cells #[.int .i64 t283, .int .i64 t284] 23 (0, 0))) ∧ (w'.heap[gb290]? = some (.cells #[.int .i64 t287, .int .i64 t288] 23 (0, 0))) ∧ (w'.heap[gb294]? = some (.cells #[.int .i64 t291, .int .i64 t292] 23 (0, 0))) ∧ (w'.heap[gb298]? = some (.cells #[.int .i64 t295, .int .i64 t296] 23 (0, 0))) ∧ (w'.heap[gb302]? = some (.cells #[.int .i64 t299, .int .i64 t300] 23 (0, 0))) ∧ (w'.heap[gb305]? = some (.cells #[.int .i64 t303, .int .i64 t304] 23 (0, 0))) ∧ (w'.heap[gb312]? = some (.cells #[.int .i64 t310, .int .i64 t311] 23 (0, 0))) ∧ (w'.heap[s_]? = some (.cells #[.int .i64 0, .int .i64 0] 23 (0, 0))) ∧ (w.heap.size ≤ s_) ∧ (w.heap.size ≤ s_) ∧ (gb275 ≠ s_) ∧ (s_ ≠ gb275) ∧ (gb276 ≠ s_) ∧ (s_ ≠ gb276) ∧ (gb277 ≠ s_) ∧ (s_ ≠ gb277) ∧ (gb278 ≠ s_) ∧ (s_ ≠ gb278) ∧ (gb282 ≠ s_) ∧ (s_ ≠ gb282) ∧ (gb286 ≠ s_) ∧ (s_ ≠ gb286) ∧ (gb290 ≠ s_) ∧ (s_ ≠ gb290) ∧ (gb294 ≠ s_) ∧ (s_ ≠ gb294) ∧ (gb298 ≠ s_) ∧ (s_ ≠ gb298) ∧ (gb302 ≠ s_) ∧ (s_ ≠ gb302) ∧ (gb305 ≠ s_) ∧ (s_ ≠ gb305) ∧ (gb312 ≠ s_) ∧ (s_ ≠ gb312) ∧ (Below w.heap.size w w')) ?_ ?_
           rotate_left
           ·
            intro hJ2_5_14
            refine join_ (σ := Unit) 9 #[true, true, true, true, true, true, false, true, true, false, false, false, false, false, false, false, false] (fun s_ => [(93, .agg #[.int .i64 t313, .int .i64 t314]), (96, .agg #[.int .i64 t315, .int .i64 t316])]) (fun s_ w' => (w'.cell? ⟨gb305, 0, none⟩ = some (.int .i64 t303) ∧ w'.cell? ⟨gb305, 1, none⟩ = some (.int .i64 t304) ∧ w'.cell? ⟨gb286, 0, none⟩ = some (.int .i64 t283) ∧ w'.cell? ⟨gb286, 1, none⟩ = some (.int .i64 t284) ∧ w'.cell? ⟨gb298, 0, none⟩ = some (.int .i64 t295) ∧ w'.cell? ⟨gb298, 1, none⟩ = some (.int .i64 t296) ∧ w'.cell? ⟨gb282, 0, none⟩ = some (.int .i64 t279) ∧ w'.cell? ⟨gb282, 1, none⟩ = some (.int .i64 t280) ∧ w'.cell? ⟨gb302, 0, none⟩ = some (.int .i64 t299) ∧ w'.cell? ⟨gb302, 1, none⟩ = some (.int .i64 t300) ∧ w'.cell? ⟨gb294, 0, none⟩ = some (.int .i64 t291) ∧ w'.cell? ⟨gb294, 1, none⟩ = some (.int .i64 t292)) ∧ (w'.heap[gb275]? = some (.cells #[.int .i64 a0_0, .int .i64 a0_1] 23 (0, 0))) ∧ (w'.heap[gb276]? = some (.cells #[.int .i64 a1_0, .int .i64 a1_1] 23 (0, 0))) ∧ (w'.heap[gb277]? = some (.cells #[.int .i64 0, .int .i64 0] 23 (0, 0))) ∧ (w'.heap[gb278]? = some (.cells #[.int .i64 0, .int .i64 0] 23 (0, 0))) ∧ (w'.heap[gb282]? = some (.cells #[.int .i64 t279, .int .i64 t280] 23 (0, 0))) ∧ (w'.heap[gb286]? = some (.cells #[.int .i64 t283, .int .i64 t284] 23 (0, 0))) ∧ (w'.heap[gb290]? = some (.cells #[.int .i64 t287, .int .i64 t288] 23 (0, 0))) ∧ (w'.heap[gb294]? = some (.cells #[.int .i64 t291, .int .i64 t292] 23 (0, 0))) ∧ (w'.heap[gb298]? = some (.cells #[.int .i64 t295, .int .i64 t296] 23 (0, 0))) ∧ (w'.heap[gb302]? = some (.cells #[.int .i64 t299, .int .i64 t300] 23 (0, 0))) ∧ (w'.heap[gb305]? = some (.cells #[.int .i64 t303, .int .i64 t304] 23 (0, 0))) ∧ (w'.heap[gb312]? = some (.cells #[.int .i64 t310, .int .i64 t311] 23 (0, 0))) ∧ (Below w.heap.size w w')) ?_ ?_
            rotate_left
            ·
             intro hJ2_5
             refine join_ (σ := Nat) 9 #[true, true, true, true, true, false, false, true, true, false, false, false, false, false, true, false, false] (fun s_ => [(93, .agg #[.int .i64 t313, .int .i64 t314]), (24, .pointer (some ⟨s_, 0, none⟩))]) (fun s_ w' => (w'.cell? ⟨gb305, 0, none⟩ = some (.int .i64 t303) ∧ w'.cell? ⟨gb305, 1, none⟩ = some (.int .i64 t304) ∧ w'.cell? ⟨gb286, 0, none⟩ = some (.int .i64 t283) ∧ w'.cell? ⟨gb286, 1, none⟩ = some (.int .i64 t284) ∧ w'.cell? ⟨gb298, 0, none⟩ = some (.int .i64 t295) ∧ w'.cell? ⟨gb298, 1, none⟩ = some (.int .i64 t296) ∧ w'.cell? ⟨gb282, 0, none⟩ = some (.int .i64 t279) ∧ w'.cell? ⟨gb282, 1, none⟩ = some (.int .i64 t280) ∧ w'.cell? ⟨gb302, 0, none⟩ = some (.int .i64 t299) ∧ w'.cell? ⟨gb302, 1, none⟩ = some (.int .i64 t300) ∧ w'.cell? ⟨gb294, 0, none⟩ = some (.int .i64 t291) ∧ w'.cell? ⟨gb294, 1, none⟩ = some (.int .i64 t292)) ∧ (w'.heap[gb275]? = some (.cells #[.int .i64 a0_0, .int .i64 a0_1] 23 (0, 0))) ∧ (w'.heap[gb276]? = some (.cells #[.int .i64 a1_0, .int .i64 a1_1] 23 (0, 0))) ∧ (w'.heap[gb277]? = some (.cells #[.int .i64 0, .int .i64 0] 23 (0, 0))) ∧ (w'.heap[gb278]? = some (.cells #[.int .i64 0, .int .i64 0] 23 (0, 0))) ∧ (w'.heap[gb282]? = some (.cells #[.int .i64 t279, .int .i64 t280] 23 (0, 0))) ∧ (w'.heap[gb286]? = some (.cells #[.int .i64 t283, .int .i64 t284] 23 (0, 0))) ∧ (w'.heap[gb290]? = some (.cells #[.int .i64 t287, .int .i64 t288] 23 (0, 0))) ∧ (w'.heap[gb294]? = some (.cells #[.int .i64 t291, .int .i64 t292] 23 (0, 0))) ∧ (w'.heap[gb298]? = some (.cells #[.int .i64 t295, .int .i64 t296] 23 (0, 0))) ∧ (w'.heap[gb302]? = some (.cells #[.int .i64 t299, .int .i64 t300] 23 (0, 0))) ∧ (w'.heap[gb305]? = some (.cells #[.int .i64 t303, .int .i64 t304] 23 (0, 0))) ∧ (w'.heap[gb312]? = some (.cells #[.int .i64 t310, .int .i64 t311] 23 (0, 0))) ∧ (w'.heap[s_]? = some (.cells #[.int .i64 0, .int .i64 0] 23 (0, 0))) ∧ (w.heap.size ≤ s_) ∧ (w.heap.size ≤ s_) ∧ (gb275 ≠ s_) ∧ (s_ ≠ gb275) ∧ (gb276 ≠ s_) ∧ (s_ ≠ gb276) ∧ (gb277 ≠ s_) ∧ (s_ ≠ gb277) ∧ (gb278 ≠ s_) ∧ (s_ ≠ gb278) ∧ (gb282 ≠ s_) ∧ (s_ ≠ gb282) ∧ (gb286 ≠ s_) ∧ (s_ ≠ gb286) ∧ (gb290 ≠ s_) ∧ (s_ ≠ gb290) ∧ (gb294 ≠ s_) ∧ (s_ ≠ gb294) ∧ (gb298 ≠ s_) ∧ (s_ ≠ gb298) ∧ (gb302 ≠ s_) ∧ (s_ ≠ gb302) ∧ (gb305 ≠ s_) ∧ (s_ ≠ gb305) ∧ (gb312 ≠ s_) ∧ (s_ ≠ gb312) ∧ (Below w.heap.size w w')) ?_ ?_
             rotate_left
             ·
              intro hJ2_14
              refine join_ (σ := Unit) 10 #[true, true, true, true, true, false, false, true, true, false, false, false, false, false, false, false, false] (fun s_ => [(93, .agg #[.int .i64 t313, .int .i64 t314])]) (fun s_ w' => (w'.cell? ⟨gb305, 0, none⟩ = some (.int .i64 t303) ∧ w'.cell? ⟨gb305, 1, none⟩ = some (.int .i64 t304) ∧ w'.cell? ⟨gb286, 0, none⟩ = some (.int .i64 t283) ∧ w'.cell? ⟨gb286, 1, none⟩ = some (.int .i64 t284) ∧ w'.cell? ⟨gb298, 0, none⟩ = some (.int .i64 t295) ∧ w'.cell? ⟨gb298, 1, none⟩ = some (.int .i64 t296) ∧ w'.cell? ⟨gb282, 0, none⟩ = some (.int .i64 t279) ∧ w'.cell? ⟨gb282, 1, none⟩ = some (.int .i64 t280) ∧ w'.cell? ⟨gb302, 0, none⟩ = some (.int .i64 t299) ∧ w'.cell? ⟨gb302, 1, none⟩ = some (.int .i64 t300) ∧ w'.cell? ⟨gb294, 0, none⟩ = some (.int .i64 t291) ∧ w'.cell? ⟨gb294, 1, none⟩ = some (.int .i64 t292)) ∧ (w'.heap[gb275]? = some (.cells #[.int .i64 a0_0, .int .i64 a0_1] 23 (0, 0))) ∧ (w'.heap[gb276]? = some (.cells #[.int .i64 a1_0, .int .i64 a1_1] 23 (0, 0))) ∧ (w'.heap[gb277]? = some (.cells #[.int .i64 0, .int .i64 0] 23 (0, 0))) ∧ (w'.heap[gb278]? = some (.cells #[.int .i64 0, .int .i64 0] 23 (0, 0))) ∧ (w'.heap[gb282]? = some (.cells #[.int .i64 t279, .int .i64 t280] 23 (0, 0))) ∧ (w'.heap[gb286]? = some (.cells #[.int .i64 t283, .int .i64 t284] 23 (0, 0))) ∧ (w'.heap[gb290]? = some (.cells #[.int .i64 t287, .int .i64 t288] 23 (0, 0))) ∧ (w'.heap[gb294]? = some (.cells #[.int .i64 t291, .int .i64 t292] 23 (0, 0))) ∧ (w'.heap[gb298]? = some (.cells #[.int .i64 t295, .int .i64 t296] 23 (0, 0))) ∧ (w'.heap[gb302]? = some (.cells #[.int .i64 t299, .int .i64 t300] 23 (0, 0))) ∧ (w'.heap[gb305]? = some (.cells #[.int .i64 t303, .int .i64 t304] 23 (0, 0))) ∧ (w'.heap[gb312]? = some (.cells #[.int .i64 t310, .int .i64 t311] 23 (0, 0))) ∧ (Below w.heap.size w w')) ?_ ?_
              rotate_left
              ·
               intro hJ2
               refine join_ (σ := Nat) 10 #[true, true, false, true, true, false, false, true, true, false, false, false, false, false, true, false, false] (fun s_ => [(24, .pointer (some ⟨s_, 0, none⟩))]) (fun s_ w' => (w'.cell? ⟨gb305, 0, none⟩ = some (.int .i64 t303) ∧ w'.cell? ⟨gb305, 1, none⟩ = some (.int .i64 t304) ∧ w'.cell? ⟨gb286, 0, none⟩ = some (.int .i64 t283) ∧ w'.cell? ⟨gb286, 1, none⟩ = some (.int .i64 t284) ∧ w'.cell? ⟨gb298, 0, none⟩ = some (.int .i64 t295) ∧ w'.cell? ⟨gb298, 1, none⟩ = some (.int .i64 t296) ∧ w'.cell? ⟨gb282, 0, none⟩ = some (.int .i64 t279) ∧ w'.cell? ⟨gb282, 1, none⟩ = some (.int .i64 t280) ∧ w'.cell? ⟨gb302, 0, none⟩ = some (.int .i64 t299) ∧ w'.cell? ⟨gb302, 1, none⟩ = some (.int .i64 t300) ∧ w'.cell? ⟨gb294, 0, none⟩ = some (.int .i64 t291) ∧ w'.cell? ⟨gb294, 1, none⟩ = some (.int .i64 t292)) ∧ (w'.heap[gb275]? = some (.cells #[.int .i64 a0_0, .int .i64 a0_1] 23 (0, 0))) ∧ (w'.heap[gb276]? = some (.cells #[.int .i64 a1_0, .int .i64 a1_1] 23 (0, 0))) ∧ (w'.heap[gb277]? = some (.cells #[.int .i64 0, .int .i64 0] 23 (0, 0))) ∧ (w'.heap[gb278]? = some (.cells #[.int .i64 0, .int .i64 0] 23 (0, 0))) ∧ (w'.heap[gb282]? = some (.cells #[.int .i64 t279, .int .i64 t280] 23 (0, 0))) ∧ (w'.heap[gb286]? = some (.cells #[.int .i64 t283, .int .i64 t284] 23 (0, 0))) ∧ (w'.heap[gb290]? = some (.cells #[.int .i64 t287, .int .i64 t288] 23 (0, 0))) ∧ (w'.heap[gb294]? = some (.cells #[.int .i64 t291, .int .i64 t292] 23 (0, 0))) ∧ (w'.heap[gb298]? = some (.cells #[.int .i64 t295, .int .i64 t296] 23 (0, 0))) ∧ (w'.heap[gb302]? = some (.cells #[.int .i64 t299, .int .i64 t300] 23 (0, 0))) ∧ (w'.heap[gb305]? = some (.cells #[.int .i64 t303, .int .i64 t304] 23 (0, 0))) ∧ (w'.heap[gb312]? = some (.cells #[.int .i64 t310, .int .i64 t311] 23 (0, 0))) ∧ (w'.heap[s_]? = some (.cells #[.int .i64 0, .int .i64 0] 23 (0, 0))) ∧ (w.heap.size ≤ s_) ∧ (w.heap.size ≤ s_) ∧ (gb275 ≠ s_) ∧ (s_ ≠ gb275) ∧ (gb276 ≠ s_) ∧ (s_ ≠ gb276) ∧ (gb277 ≠ s_) ∧ (s_ ≠ gb277) ∧ (gb278 ≠ s_) ∧ (s_ ≠ gb278) ∧ (gb282 ≠ s_) ∧ (s_ ≠ gb282) ∧ (gb286 ≠ s_) ∧ (s_ ≠ gb286) ∧ (gb290 ≠ s_) ∧ (s_ ≠ gb290) ∧ (gb294 ≠ s_) ∧ (s_ ≠ gb294) ∧ (gb298 ≠ s_) ∧ (s_ ≠ gb298) ∧ (gb302 ≠ s_) ∧ (s_ ≠ gb302) ∧ (gb305 ≠ s_) ∧ (s_ ≠ gb305) ∧ (gb312 ≠ s_) ∧ (s_ ≠ gb312) ∧ (Below w.heap.size w w')) ?_ ?_
               rotate_left
               ·
                intro hJ14
                refine two_ (i := 2) (j := 14) (Ni := some 93) (Nj := some 24) #[true, true, true, true, true, false, false, true, true, false, false, false, false, false, false, false, false] #[true, true, false, true, true, false, false, true, true, false, false, false, false, false, true, false, false] rfl rfl rfl rfl (two_of HT_.out (by kernel_rfl)) (by decide) (by decide) (fun K hK => ?_) (fun K hK => ?_)
                ·
                 skip
                 refine goes_ Try.func61 (by kernel_rfl) rfl #[.agg #[.int .i64 t303, .int .i64 t304], .agg #[.int .i64 t283, .int .i64 t284]] (by rfl) rfl rfl (by (try simp only [List.map_toArray, List.map_cons, List.map_nil]); first | done | rfl | (simp only [List.length_drop, List.length_take]; rfl)) ?_
                 with_reducible refine (sun_Unit.calls t303 t304 t283 t284 t313 t314 _ A28.out).mono ?_
                 rintro e w126 ⟨rfl, hb⟩
                 refine ⟨_, rfl, ?_⟩
                 replace BK275 := nx_ BK275 hb
                 replace BK276 := nx_ BK276 hb
                 replace BK277 := nx_ BK277 hb
                 replace BK278 := nx_ BK278 hb
                 replace BK282 := nx_ BK282 hb
                 replace BK286 := nx_ BK286 hb
                 replace BK290 := nx_ BK290 hb
                 replace BK294 := nx_ BK294 hb
                 replace BK298 := nx_ BK298 hb
                 replace BK302 := nx_ BK302 hb
                 replace BK305 := nx_ BK305 hb
                 replace BK312 := nx_ BK312 hb
                 replace HB := hx_ HB hb
                 (try clear hb)
                 (try clear hb2)
                 (try clear hk)
                 (try clear hi)
                 refine hK.out _ _ ⟨(blk_cell BK305.out 0).trans rfl, (blk_cell BK305.out 1).trans rfl, (blk_cell BK286.out 0).trans rfl, (blk_cell BK286.out 1).trans rfl, (blk_cell BK298.out 0).trans rfl, (blk_cell BK298.out 1).trans rfl, (blk_cell BK282.out 0).trans rfl, (blk_cell BK282.out 1).trans rfl, (blk_cell BK302.out 0).trans rfl, (blk_cell BK302.out 1).trans rfl, (blk_cell BK294.out 0).trans rfl, (blk_cell BK294.out 1).trans rfl⟩ (fun hHeld => ?_)
                 clear hK K
                 refine norm_ (a' := ?_) ?_ ?_
                 rotate_left
                 ·
                  show Act.put _ (some 93) _ = _
                  simp only [Act.put, List.setIfInBounds_toArray, List.set_cons_zero, List.set_cons_succ, i64_w, i32_w]
                  rfl
                 exact norm_ (by (simp only [putAll, Act.put, List.setIfInBounds_toArray, List.set_cons_zero, List.set_cons_succ]) <;> rfl) (hJ2 () _ ⟨hHeld, (gr_ BK275.out), (gr_ BK276.out), (gr_ BK277.out), (gr_ BK278.out), (gr_ BK282.out), (gr_ BK286.out), (gr_ BK290.out), (gr_ BK294.out), (gr_ BK298.out), (gr_ BK302.out), (gr_ BK305.out), (gr_ BK312.out), (by repeat (first | (with_reducible first | exact HB.out | apply below_alloc | apply pw_below_drewN | apply below_drew1 | refine below_set ?_ GE275.out | refine below_set ?_ GE276.out | refine below_set ?_ GE277.out | refine below_set ?_ GE278.out | refine below_set ?_ GE282.out | refine below_set ?_ GE286.out | refine below_set ?_ GE290.out | refine below_set ?_ GE294.out | refine below_set ?_ GE298.out | refine below_set ?_ GE302.out | refine below_set ?_ GE305.out | refine below_set ?_ GE312.out) | exact HB.out))⟩)
                ·
                 skip
                 refine box_step ?hg (N := 24) ?hd (cs := #[.int .i64 0, .int .i64 0]) (t := 23) ?hr ?_; (case hd => rfl); (case hg => rfl); (case hr => first | (go_simp; done) | (go_simp; rfl))
                 intro gb324 hg w126 hbox hb
                 have BK324 := Aside0.mk hbox
                 have GW324 := ge_ (hb_ HB.out) hg
                 have GE324 := ge_ (hb_ HB.out) hg
                 have NB275_324 := nb_ (gr_ BK275.out) hg
                 have NB324_275 := bn_ (gr_ BK275.out) hg
                 have NB276_324 := nb_ (gr_ BK276.out) hg
                 have NB324_276 := bn_ (gr_ BK276.out) hg
                 have NB277_324 := nb_ (gr_ BK277.out) hg
                 have NB324_277 := bn_ (gr_ BK277.out) hg
                 have NB278_324 := nb_ (gr_ BK278.out) hg
                 have NB324_278 := bn_ (gr_ BK278.out) hg
                 have NB282_324 := nb_ (gr_ BK282.out) hg
                 have NB324_282 := bn_ (gr_ BK282.out) hg
                 have NB286_324 := nb_ (gr_ BK286.out) hg
                 have NB324_286 := bn_ (gr_ BK286.out) hg
                 have NB290_324 := nb_ (gr_ BK290.out) hg
                 have NB324_290 := bn_ (gr_ BK290.out) hg
                 have NB294_324 := nb_ (gr_ BK294.out) hg
                 have NB324_294 := bn_ (gr_ BK294.out) hg
                 have NB298_324 := nb_ (gr_ BK298.out) hg
                 have NB324_298 := bn_ (gr_ BK298.out) hg
                 have NB302_324 := nb_ (gr_ BK302.out) hg
                 have NB324_302 := bn_ (gr_ BK302.out) hg
                 have NB305_324 := nb_ (gr_ BK305.out) hg
                 have NB324_305 := bn_ (gr_ BK305.out) hg
                 have NB312_324 := nb_ (gr_ BK312.out) hg
                 have NB324_312 := bn_ (gr_ BK312.out) hg
                 replace BK275 := nx_ BK275 hb
                 replace BK276 := nx_ BK276 hb
                 replace BK277 := nx_ BK277 hb
                 replace BK278 := nx_ BK278 hb
                 replace BK282 := nx_ BK282 hb
                 replace BK286 := nx_ BK286 hb
                 replace BK290 := nx_ BK290 hb
                 replace BK294 := nx_ BK294 hb
                 replace BK298 := nx_ BK298 hb
                 replace BK302 := nx_ BK302 hb
                 replace BK305 := nx_ BK305 hb
                 replace BK312 := nx_ BK312 hb
                 replace HB := hx_ HB hb
                 clear hb hbox hg
                 refine hK.out _ _ ⟨(blk_cell BK305.out 0).trans rfl, (blk_cell BK305.out 1).trans rfl, (blk_cell BK286.out 0).trans rfl, (blk_cell BK286.out 1).trans rfl, (blk_cell BK298.out 0).trans rfl, (blk_cell BK298.out 1).trans rfl, (blk_cell BK282.out 0).trans rfl, (blk_cell BK282.out 1).trans rfl, (blk_cell BK302.out 0).trans rfl, (blk_cell BK302.out 1).trans rfl, (blk_cell BK294.out 0).trans rfl, (blk_cell BK294.out 1).trans rfl⟩ (fun hHeld => ?_)
                 clear hK K
                 refine norm_ (a' := ?_) ?_ ?_
                 rotate_left
                 ·
                  show Act.put _ (some 24) _ = _
                  simp only [Act.put, List.setIfInBounds_toArray, List.set_cons_zero, List.set_cons_succ, i64_w, i32_w]
                  rfl
                 exact norm_ (by (simp only [putAll, Act.put, List.setIfInBounds_toArray, List.set_cons_zero, List.set_cons_succ]) <;> rfl) (hJ14 (gb324) _ ⟨hHeld, (gr_ BK275.out), (gr_ BK276.out), (gr_ BK277.out), (gr_ BK278.out), (gr_ BK282.out), (gr_ BK286.out), (gr_ BK290.out), (gr_ BK294.out), (gr_ BK298.out), (gr_ BK302.out), (gr_ BK305.out), (gr_ BK312.out), (gr_ BK324.out), GW324.out, GE324.out, NB275_324.out, NB324_275.out, NB276_324.out, NB324_276.out, NB277_324.out, NB324_277.out, NB278_324.out, NB324_278.out, NB282_324.out, NB324_282.out, NB286_324.out, NB324_286.out, NB290_324.out, NB324_290.out, NB294_324.out, NB324_294.out, NB298_324.out, NB324_298.out, NB302_324.out, NB324_302.out, NB305_324.out, NB324_305.out, NB312_324.out, NB324_312.out, (by repeat (first | (with_reducible first | exact HB.out | apply below_alloc | apply pw_below_drewN | apply below_drew1 | refine below_set ?_ GE275.out | refine below_set ?_ GE276.out | refine below_set ?_ GE277.out | refine below_set ?_ GE278.out | refine below_set ?_ GE282.out | refine below_set ?_ GE286.out | refine below_set ?_ GE290.out | refine below_set ?_ GE294.out | refine below_set ?_ GE298.out | refine below_set ?_ GE302.out | refine below_set ?_ GE305.out | refine below_set ?_ GE312.out | refine below_set ?_ GE324.out) | exact HB.out))⟩)
               ·
                skip
                rintro gb324 w127 ⟨hS_, h0_, h1_, h2_, h3_, h4_, h5_, h6_, h7_, h8_, h9_, h10_, h11_, h12_, h13_, h14_, h15_, h16_, h17_, h18_, h19_, h20_, h21_, h22_, h23_, h24_, h25_, h26_, h27_, h28_, h29_, h30_, h31_, h32_, h33_, h34_, h35_, h36_, h37_, h38_, h39_⟩
                replace BK275 : Aside0 (w127.heap[gb275]? = some (.cells #[.int .i64 a0_0, .int .i64 a0_1] 23 (0, 0))) := ⟨h0_⟩
                replace BK276 : Aside0 (w127.heap[gb276]? = some (.cells #[.int .i64 a1_0, .int .i64 a1_1] 23 (0, 0))) := ⟨h1_⟩
                replace BK277 : Aside0 (w127.heap[gb277]? = some (.cells #[.int .i64 0, .int .i64 0] 23 (0, 0))) := ⟨h2_⟩
                replace BK278 : Aside0 (w127.heap[gb278]? = some (.cells #[.int .i64 0, .int .i64 0] 23 (0, 0))) := ⟨h3_⟩
                replace BK282 : Aside0 (w127.heap[gb282]? = some (.cells #[.int .i64 t279, .int .i64 t280] 23 (0, 0))) := ⟨h4_⟩
                replace BK286 : Aside0 (w127.heap[gb286]? = some (.cells #[.int .i64 t283, .int .i64 t284] 23 (0, 0))) := ⟨h5_⟩
                replace BK290 : Aside0 (w127.heap[gb290]? = some (.cells #[.int .i64 t287, .int .i64 t288] 23 (0, 0))) := ⟨h6_⟩
                replace BK294 : Aside0 (w127.heap[gb294]? = some (.cells #[.int .i64 t291, .int .i64 t292] 23 (0, 0))) := ⟨h7_⟩
                replace BK298 : Aside0 (w127.heap[gb298]? = some (.cells #[.int .i64 t295, .int .i64 t296] 23 (0, 0))) := ⟨h8_⟩
                replace BK302 : Aside0 (w127.heap[gb302]? = some (.cells #[.int .i64 t299, .int .i64 t300] 23 (0, 0))) := ⟨h9_⟩
                replace BK305 : Aside0 (w127.heap[gb305]? = some (.cells #[.int .i64 t303, .int .i64 t304] 23 (0, 0))) := ⟨h10_⟩
                replace BK312 : Aside0 (w127.heap[gb312]? = some (.cells #[.int .i64 t310, .int .i64 t311] 23 (0, 0))) := ⟨h11_⟩
                have BK324 : Aside0 (w127.heap[gb324]? = some (.cells #[.int .i64 0, .int .i64 0] 23 (0, 0))) := ⟨h12_⟩
                have GW324 : Aside0 (w.heap.size ≤ gb324) := ⟨h13_⟩
                have GE324 : Aside0 (w.heap.size ≤ gb324) := ⟨h14_⟩
                have NB275_324 : Aside0 (gb275 ≠ gb324) := ⟨h15_⟩
                have NB324_275 : Aside0 (gb324 ≠ gb275) := ⟨h16_⟩
                have NB276_324 : Aside0 (gb276 ≠ gb324) := ⟨h17_⟩
                have NB324_276 : Aside0 (gb324 ≠ gb276) := ⟨h18_⟩
                have NB277_324 : Aside0 (gb277 ≠ gb324) := ⟨h19_⟩
                have NB324_277 : Aside0 (gb324 ≠ gb277) := ⟨h20_⟩
                have NB278_324 : Aside0 (gb278 ≠ gb324) := ⟨h21_⟩
                have NB324_278 : Aside0 (gb324 ≠ gb278) := ⟨h22_⟩
                have NB282_324 : Aside0 (gb282 ≠ gb324) := ⟨h23_⟩
                have NB324_282 : Aside0 (gb324 ≠ gb282) := ⟨h24_⟩
                have NB286_324 : Aside0 (gb286 ≠ gb324) := ⟨h25_⟩
                have NB324_286 : Aside0 (gb324 ≠ gb286) := ⟨h26_⟩
                have NB290_324 : Aside0 (gb290 ≠ gb324) := ⟨h27_⟩
                have NB324_290 : Aside0 (gb324 ≠ gb290) := ⟨h28_⟩
                have NB294_324 : Aside0 (gb294 ≠ gb324) := ⟨h29_⟩
                have NB324_294 : Aside0 (gb324 ≠ gb294) := ⟨h30_⟩
                have NB298_324 : Aside0 (gb298 ≠ gb324) := ⟨h31_⟩
                have NB324_298 : Aside0 (gb324 ≠ gb298) := ⟨h32_⟩
                have NB302_324 : Aside0 (gb302 ≠ gb324) := ⟨h33_⟩
                have NB324_302 : Aside0 (gb324 ≠ gb302) := ⟨h34_⟩
                have NB305_324 : Aside0 (gb305 ≠ gb324) := ⟨h35_⟩
                have NB324_305 : Aside0 (gb324 ≠ gb305) := ⟨h36_⟩
                have NB312_324 : Aside0 (gb312 ≠ gb324) := ⟨h37_⟩
                have NB324_312 : Aside0 (gb324 ≠ gb312) := ⟨h38_⟩
                replace HB : Aside0 (Below w.heap.size w w127) := ⟨h39_⟩
                clear h0_ h1_ h2_ h3_ h4_ h5_ h6_ h7_ h8_ h9_ h10_ h11_ h12_ h13_ h14_ h15_ h16_ h17_ h18_ h19_ h20_ h21_ h22_ h23_ h24_ h25_ h26_ h27_ h28_ h29_ h30_ h31_ h32_ h33_ h34_ h35_ h36_ h37_ h38_ h39_
                have hHeld : w127.cell? ⟨gb305, 0, none⟩ = some (.int .i64 t303) ∧ w127.cell? ⟨gb305, 1, none⟩ = some (.int .i64 t304) ∧ w127.cell? ⟨gb286, 0, none⟩ = some (.int .i64 t283) ∧ w127.cell? ⟨gb286, 1, none⟩ = some (.int .i64 t284) ∧ w127.cell? ⟨gb298, 0, none⟩ = some (.int .i64 t295) ∧ w127.cell? ⟨gb298, 1, none⟩ = some (.int .i64 t296) ∧ w127.cell? ⟨gb282, 0, none⟩ = some (.int .i64 t279) ∧ w127.cell? ⟨gb282, 1, none⟩ = some (.int .i64 t280) ∧ w127.cell? ⟨gb302, 0, none⟩ = some (.int .i64 t299) ∧ w127.cell? ⟨gb302, 1, none⟩ = some (.int .i64 t300) ∧ w127.cell? ⟨gb294, 0, none⟩ = some (.int .i64 t291) ∧ w127.cell? ⟨gb294, 1, none⟩ = some (.int .i64 t292) := hS_
                refine norm_ (a' := ?_) ?_ ?_
                rotate_left
                ·
                 simp only [putAll, Act.put, List.setIfInBounds_toArray, List.set_cons_zero, List.set_cons_succ]
                 rfl
                refine one_ (i := 2) (N := some 93) #[true, true, true, true, true, false, false, true, true, false, false, false, false, false, true, false, false] rfl rfl (one_of HT_.out (by kernel_rfl)) (by decide) (fun K hK => ?_)
                refine goes_ Try.func61 (by kernel_rfl) rfl #[.agg #[.int .i64 t303, .int .i64 t304], .agg #[.int .i64 t283, .int .i64 t284]] (by rfl) rfl rfl (by (try simp only [List.map_toArray, List.map_cons, List.map_nil]); first | done | rfl | (simp only [List.length_drop, List.length_take]; rfl)) ?_
                with_reducible refine (sun_Unit.calls t303 t304 t283 t284 t313 t314 _ A28.out).mono ?_
                rintro e w128 ⟨rfl, hb⟩
                refine ⟨_, rfl, ?_⟩
                replace BK275 := nx_ BK275 hb
                replace BK276 := nx_ BK276 hb
                replace BK277 := nx_ BK277 hb
                replace BK278 := nx_ BK278 hb
                replace BK282 := nx_ BK282 hb
                replace BK286 := nx_ BK286 hb
                replace BK290 := nx_ BK290 hb
                replace BK294 := nx_ BK294 hb
                replace BK298 := nx_ BK298 hb
                replace BK302 := nx_ BK302 hb
                replace BK305 := nx_ BK305 hb
                replace BK312 := nx_ BK312 hb
                replace BK324 := nx_ BK324 hb
                replace HB := hx_ HB hb
                (try clear hb)
                (try clear hb2)
                (try clear hk)
                (try clear hi)
                refine hK.out _ _ ⟨(blk_cell BK305.out 0).trans rfl, (blk_cell BK305.out 1).trans rfl, (blk_cell BK286.out 0).trans rfl, (blk_cell BK286.out 1).trans rfl, (blk_cell BK298.out 0).trans rfl, (blk_cell BK298.out 1).trans rfl, (blk_cell BK282.out 0).trans rfl, (blk_cell BK282.out 1).trans rfl, (blk_cell BK302.out 0).trans rfl, (blk_cell BK302.out 1).trans rfl, (blk_cell BK294.out 0).trans rfl, (blk_cell BK294.out 1).trans rfl⟩ (fun hHeld => ?_)
                clear hK K
                refine norm_ (a' := ?_) ?_ ?_
                rotate_left
                ·
                 show Act.put _ (some 93) _ = _
                 simp only [Act.put, List.setIfInBounds_toArray, List.set_cons_zero, List.set_cons_succ, i64_w, i32_w]
                 rfl
                exact norm_ (by (simp only [putAll, Act.put, List.setIfInBounds_toArray, List.set_cons_zero, List.set_cons_succ]) <;> rfl) (hJ2_14 (gb324) _ ⟨hHeld, (gr_ BK275.out), (gr_ BK276.out), (gr_ BK277.out), (gr_ BK278.out), (gr_ BK282.out), (gr_ BK286.out), (gr_ BK290.out), (gr_ BK294.out), (gr_ BK298.out), (gr_ BK302.out), (gr_ BK305.out), (gr_ BK312.out), (gr_ BK324.out), GW324.out, GE324.out, NB275_324.out, NB324_275.out, NB276_324.out, NB324_276.out, NB277_324.out, NB324_277.out, NB278_324.out, NB324_278.out, NB282_324.out, NB324_282.out, NB286_324.out, NB324_286.out, NB290_324.out, NB324_290.out, NB294_324.out, NB324_294.out, NB298_324.out, NB324_298.out, NB302_324.out, NB324_302.out, NB305_324.out, NB324_305.out, NB312_324.out, NB324_312.out, (by repeat (first | (with_reducible first | exact HB.out | apply below_alloc | apply pw_below_drewN | apply below_drew1 | refine below_set ?_ GE275.out | refine below_set ?_ GE276.out | refine below_set ?_ GE277.out | refine below_set ?_ GE278.out | refine below_set ?_ GE282.out | refine below_set ?_ GE286.out | refine below_set ?_ GE290.out | refine below_set ?_ GE294.out | refine below_set ?_ GE298.out | refine below_set ?_ GE302.out | refine below_set ?_ GE305.out | refine below_set ?_ GE312.out | refine below_set ?_ GE324.out) | exact HB.out))⟩)
              ·
               skip
               rintro _ w127 ⟨hS_, h0_, h1_, h2_, h3_, h4_, h5_, h6_, h7_, h8_, h9_, h10_, h11_, h12_⟩
               replace BK275 : Aside0 (w127.heap[gb275]? = some (.cells #[.int .i64 a0_0, .int .i64 a0_1] 23 (0, 0))) := ⟨h0_⟩
               replace BK276 : Aside0 (w127.heap[gb276]? = some (.cells #[.int .i64 a1_0, .int .i64 a1_1] 23 (0, 0))) := ⟨h1_⟩
               replace BK277 : Aside0 (w127.heap[gb277]? = some (.cells #[.int .i64 0, .int .i64 0] 23 (0, 0))) := ⟨h2_⟩
               replace BK278 : Aside0 (w127.heap[gb278]? = some (.cells #[.int .i64 0, .int .i64 0] 23 (0, 0))) := ⟨h3_⟩
               replace BK282 : Aside0 (w127.heap[gb282]? = some (.cells #[.int .i64 t279, .int .i64 t280] 23 (0, 0))) := ⟨h4_⟩
               replace BK286 : Aside0 (w127.heap[gb286]? = some (.cells #[.int .i64 t283, .int .i64 t284] 23 (0, 0))) := ⟨h5_⟩
               replace BK290 : Aside0 (w127.heap[gb290]? = some (.cells #[.int .i64 t287, .int .i64 t288] 23 (0, 0))) := ⟨h6_⟩
               replace BK294 : Aside0 (w127.heap[gb294]? = some (.cells #[.int .i64 t291, .int .i64 t292] 23 (0, 0))) := ⟨h7_⟩
               replace BK298 : Aside0 (w127.heap[gb298]? = some (.cells #[.int .i64 t295, .int .i64 t296] 23 (0, 0))) := ⟨h8_⟩
               replace BK302 : Aside0 (w127.heap[gb302]? = some (.cells #[.int .i64 t299, .int .i64 t300] 23 (0, 0))) := ⟨h9_⟩
               replace BK305 : Aside0 (w127.heap[gb305]? = some (.cells #[.int .i64 t303, .int .i64 t304] 23 (0, 0))) := ⟨h10_⟩
               replace BK312 : Aside0 (w127.heap[gb312]? = some (.cells #[.int .i64 t310, .int .i64 t311] 23 (0, 0))) := ⟨h11_⟩
               replace HB : Aside0 (Below w.heap.size w w127) := ⟨h12_⟩
               clear h0_ h1_ h2_ h3_ h4_ h5_ h6_ h7_ h8_ h9_ h10_ h11_ h12_
               have hHeld : w127.cell? ⟨gb305, 0, none⟩ = some (.int .i64 t303) ∧ w127.cell? ⟨gb305, 1, none⟩ = some (.int .i64 t304) ∧ w127.cell? ⟨gb286, 0, none⟩ = some (.int .i64 t283) ∧ w127.cell? ⟨gb286, 1, none⟩ = some (.int .i64 t284) ∧ w127.cell? ⟨gb298, 0, none⟩ = some (.int .i64 t295) ∧ w127.cell? ⟨gb298, 1, none⟩ = some (.int .i64 t296) ∧ w127.cell? ⟨gb282, 0, none⟩ = some (.int .i64 t279) ∧ w127.cell? ⟨gb282, 1, none⟩ = some (.int .i64 t280) ∧ w127.cell? ⟨gb302, 0, none⟩ = some (.int .i64 t299) ∧ w127.cell? ⟨gb302, 1, none⟩ = some (.int .i64 t300) ∧ w127.cell? ⟨gb294, 0, none⟩ = some (.int .i64 t291) ∧ w127.cell? ⟨gb294, 1, none⟩ = some (.int .i64 t292) := hS_
               refine norm_ (a' := ?_) ?_ ?_
               rotate_left
               ·
                simp only [putAll, Act.put, List.setIfInBounds_toArray, List.set_cons_zero, List.set_cons_succ]
                rfl
               refine two_ (i := 5) (j := 14) (Ni := some 96) (Nj := some 24) #[true, true, true, true, true, true, false, true, true, false, false, false, false, false, false, false, false] #[true, true, true, true, true, false, false, true, true, false, false, false, false, false, true, false, false] rfl rfl rfl rfl (two_of HT_.out (by kernel_rfl)) (by decide) (by decide) (fun K hK => ?_) (fun K hK => ?_)
               ·
                skip
                refine goes_ Try.func61 (by kernel_rfl) rfl #[.agg #[.int .i64 t295, .int .i64 t296], .agg #[.int .i64 t279, .int .i64 t280]] (by rfl) rfl rfl (by (try simp only [List.map_toArray, List.map_cons, List.map_nil]); first | done | rfl | (simp only [List.length_drop, List.length_take]; rfl)) ?_
                with_reducible refine (sun_Unit.calls t295 t296 t279 t280 t315 t316 _ A29.out).mono ?_
                rintro e w128 ⟨rfl, hb⟩
                refine ⟨_, rfl, ?_⟩
                replace BK275 := nx_ BK275 hb
                replace BK276 := nx_ BK276 hb
                replace BK277 := nx_ BK277 hb
                replace BK278 := nx_ BK278 hb
                replace BK282 := nx_ BK282 hb
                replace BK286 := nx_ BK286 hb
                replace BK290 := nx_ BK290 hb
                replace BK294 := nx_ BK294 hb
                replace BK298 := nx_ BK298 hb
                replace BK302 := nx_ BK302 hb
                replace BK305 := nx_ BK305 hb
                replace BK312 := nx_ BK312 hb
                replace HB := hx_ HB hb
                (try clear hb)
                (try clear hb2)
                (try clear hk)
                (try clear hi)
                refine hK.out _ _ ⟨(blk_cell BK305.out 0).trans rfl, (blk_cell BK305.out 1).trans rfl, (blk_cell BK286.out 0).trans rfl, (blk_cell BK286.out 1).trans rfl, (blk_cell BK298.out 0).trans rfl, (blk_cell BK298.out 1).trans rfl, (blk_cell BK282.out 0).trans rfl, (blk_cell BK282.out 1).trans rfl, (blk_cell BK302.out 0).trans rfl, (blk_cell BK302.out 1).trans rfl, (blk_cell BK294.out 0).trans rfl, (blk_cell BK294.out 1).trans rfl⟩ (fun hHeld => ?_)
                clear hK K
                refine norm_ (a' := ?_) ?_ ?_
                rotate_left
                ·
                 show Act.put _ (some 96) _ = _
                 simp only [Act.put, List.setIfInBounds_toArray, List.set_cons_zero, List.set_cons_succ, i64_w, i32_w]
                 rfl
                exact norm_ (by (simp only [putAll, Act.put, List.setIfInBounds_toArray, List.set_cons_zero, List.set_cons_succ]) <;> rfl) (hJ2_5 () _ ⟨hHeld, (gr_ BK275.out), (gr_ BK276.out), (gr_ BK277.out), (gr_ BK278.out), (gr_ BK282.out), (gr_ BK286.out), (gr_ BK290.out), (gr_ BK294.out), (gr_ BK298.out), (gr_ BK302.out), (gr_ BK305.out), (gr_ BK312.out), (by repeat (first | (with_reducible first | exact HB.out | apply below_alloc | apply pw_below_drewN | apply below_drew1 | refine below_set ?_ GE275.out | refine below_set ?_ GE276.out | refine below_set ?_ GE277.out | refine below_set ?_ GE278.out | refine below_set ?_ GE282.out | refine below_set ?_ GE286.out | refine below_set ?_ GE290.out | refine below_set ?_ GE294.out | refine below_set ?_ GE298.out | refine below_set ?_ GE302.out | refine below_set ?_ GE305.out | refine below_set ?_ GE312.out) | exact HB.out))⟩)
               ·
                skip
                refine box_step ?hg (N := 24) ?hd (cs := #[.int .i64 0, .int .i64 0]) (t := 23) ?hr ?_; (case hd => rfl); (case hg => rfl); (case hr => first | (go_simp; done) | (go_simp; rfl))
                intro gb324 hg w128 hbox hb
                have BK324 := Aside0.mk hbox
                have GW324 := ge_ (hb_ HB.out) hg
                have GE324 := ge_ (hb_ HB.out) hg
                have NB275_324 := nb_ (gr_ BK275.out) hg
                have NB324_275 := bn_ (gr_ BK275.out) hg
                have NB276_324 := nb_ (gr_ BK276.out) hg
                have NB324_276 := bn_ (gr_ BK276.out) hg
                have NB277_324 := nb_ (gr_ BK277.out) hg
                have NB324_277 := bn_ (gr_ BK277.out) hg
                have NB278_324 := nb_ (gr_ BK278.out) hg
                have NB324_278 := bn_ (gr_ BK278.out) hg
                have NB282_324 := nb_ (gr_ BK282.out) hg
                have NB324_282 := bn_ (gr_ BK282.out) hg
                have NB286_324 := nb_ (gr_ BK286.out) hg
                have NB324_286 := bn_ (gr_ BK286.out) hg
                have NB290_324 := nb_ (gr_ BK290.out) hg
                have NB324_290 := bn_ (gr_ BK290.out) hg
                have NB294_324 := nb_ (gr_ BK294.out) hg
                have NB324_294 := bn_ (gr_ BK294.out) hg
                have NB298_324 := nb_ (gr_ BK298.out) hg
                have NB324_298 := bn_ (gr_ BK298.out) hg
                have NB302_324 := nb_ (gr_ BK302.out) hg
                have NB324_302 := bn_ (gr_ BK302.out) hg
                have NB305_324 := nb_ (gr_ BK305.out) hg
                have NB324_305 := bn_ (gr_ BK305.out) hg
                have NB312_324 := nb_ (gr_ BK312.out) hg
                have NB324_312 := bn_ (gr_ BK312.out) hg
                replace BK275 := nx_ BK275 hb
                replace BK276 := nx_ BK276 hb
                replace BK277 := nx_ BK277 hb
                replace BK278 := nx_ BK278 hb
                replace BK282 := nx_ BK282 hb
                replace BK286 := nx_ BK286 hb
                replace BK290 := nx_ BK290 hb
                replace BK294 := nx_ BK294 hb
                replace BK298 := nx_ BK298 hb
                replace BK302 := nx_ BK302 hb
                replace BK305 := nx_ BK305 hb
                replace BK312 := nx_ BK312 hb
                replace HB := hx_ HB hb
                clear hb hbox hg
                refine hK.out _ _ ⟨(blk_cell BK305.out 0).trans rfl, (blk_cell BK305.out 1).trans rfl, (blk_cell BK286.out 0).trans rfl, (blk_cell BK286.out 1).trans rfl, (blk_cell BK298.out 0).trans rfl, (blk_cell BK298.out 1).trans rfl, (blk_cell BK282.out 0).trans rfl, (blk_cell BK282.out 1).trans rfl, (blk_cell BK302.out 0).trans rfl, (blk_cell BK302.out 1).trans rfl, (blk_cell BK294.out 0).trans rfl, (blk_cell BK294.out 1).trans rfl⟩ (fun hHeld => ?_)
                clear hK K
                refine norm_ (a' := ?_) ?_ ?_
                rotate_left
                ·
                 show Act.put _ (some 24) _ = _
                 simp only [Act.put, List.setIfInBounds_toArray, List.set_cons_zero, List.set_cons_succ, i64_w, i32_w]
                 rfl
                exact norm_ (by (simp only [putAll, Act.put, List.setIfInBounds_toArray, List.set_cons_zero, List.set_cons_succ]) <;> rfl) (hJ2_14 (gb324) _ ⟨hHeld, (gr_ BK275.out), (gr_ BK276.out), (gr_ BK277.out), (gr_ BK278.out), (gr_ BK282.out), (gr_ BK286.out), (gr_ BK290.out), (gr_ BK294.out), (gr_ BK298.out), (gr_ BK302.out), (gr_ BK305.out), (gr_ BK312.out), (gr_ BK324.out), GW324.out, GE324.out, NB275_324.out, NB324_275.out, NB276_324.out, NB324_276.out, NB277_324.out, NB324_277.out, NB278_324.out, NB324_278.out, NB282_324.out, NB324_282.out, NB286_324.out, NB324_286.out, NB290_324.out, NB324_290.out, NB294_324.out, NB324_294.out, NB298_324.out, NB324_298.out, NB302_324.out, NB324_302.out, NB305_324.out, NB324_305.out, NB312_324.out, NB324_312.out, (by repeat (first | (with_reducible first | exact HB.out | apply below_alloc | apply pw_below_drewN | apply below_drew1 | refine below_set ?_ GE275.out | refine below_set ?_ GE276.out | refine below_set ?_ GE277.out | refine below_set ?_ GE278.out | refine below_set ?_ GE282.out | refine below_set ?_ GE286.out | refine below_set ?_ GE290.out | refine below_set ?_ GE294.out | refine below_set ?_ GE298.out | refine below_set ?_ GE302.out | refine below_set ?_ GE305.out | refine below_set ?_ GE312.out | refine below_set ?_ GE324.out) | exact HB.out))⟩)
             ·
              skip
              rintro gb324 w128 ⟨hS_, h0_, h1_, h2_, h3_, h4_, h5_, h6_, h7_, h8_, h9_, h10_, h11_, h12_, h13_, h14_, h15_, h16_, h17_, h18_, h19_, h20_, h21_, h22_, h23_, h24_, h25_, h26_, h27_, h28_, h29_, h30_, h31_, h32_, h33_, h34_, h35_, h36_, h37_, h38_, h39_⟩
              replace BK275 : Aside0 (w128.heap[gb275]? = some (.cells #[.int .i64 a0_0, .int .i64 a0_1] 23 (0, 0))) := ⟨h0_⟩
              replace BK276 : Aside0 (w128.heap[gb276]? = some (.cells #[.int .i64 a1_0, .int .i64 a1_1] 23 (0, 0))) := ⟨h1_⟩
              replace BK277 : Aside0 (w128.heap[gb277]? = some (.cells #[.int .i64 0, .int .i64 0] 23 (0, 0))) := ⟨h2_⟩
              replace BK278 : Aside0 (w128.heap[gb278]? = some (.cells #[.int .i64 0, .int .i64 0] 23 (0, 0))) := ⟨h3_⟩
              replace BK282 : Aside0 (w128.heap[gb282]? = some (.cells #[.int .i64 t279, .int .i64 t280] 23 (0, 0))) := ⟨h4_⟩
              replace BK286 : Aside0 (w128.heap[gb286]? = some (.cells #[.int .i64 t283, .int .i64 t284] 23 (0, 0))) := ⟨h5_⟩
              replace BK290 : Aside0 (w128.heap[gb290]? = some (.cells #[.int .i64 t287, .int .i64 t288] 23 (0, 0))) := ⟨h6_⟩
              replace BK294 : Aside0 (w128.heap[gb294]? = some (.cells #[.int .i64 t291, .int .i64 t292] 23 (0, 0))) := ⟨h7_⟩
              replace BK298 : Aside0 (w128.heap[gb298]? = some (.cells #[.int .i64 t295, .int .i64 t296] 23 (0, 0))) := ⟨h8_⟩
              replace BK302 : Aside0 (w128.heap[gb302]? = some (.cells #[.int .i64 t299, .int .i64 t300] 23 (0, 0))) := ⟨h9_⟩
              replace BK305 : Aside0 (w128.heap[gb305]? = some (.cells #[.int .i64 t303, .int .i64 t304] 23 (0, 0))) := ⟨h10_⟩
              replace BK312 : Aside0 (w128.heap[gb312]? = some (.cells #[.int .i64 t310, .int .i64 t311] 23 (0, 0))) := ⟨h11_⟩
              have BK324 : Aside0 (w128.heap[gb324]? = some (.cells #[.int .i64 0, .int .i64 0] 23 (0, 0))) := ⟨h12_⟩
              have GW324 : Aside0 (w.heap.size ≤ gb324) := ⟨h13_⟩
              have GE324 : Aside0 (w.heap.size ≤ gb324) := ⟨h14_⟩
              have NB275_324 : Aside0 (gb275 ≠ gb324) := ⟨h15_⟩
              have NB324_275 : Aside0 (gb324 ≠ gb275) := ⟨h16_⟩
              have NB276_324 : Aside0 (gb276 ≠ gb324) := ⟨h17_⟩
              have NB324_276 : Aside0 (gb324 ≠ gb276) := ⟨h18_⟩
              have NB277_324 : Aside0 (gb277 ≠ gb324) := ⟨h19_⟩
              have NB324_277 : Aside0 (gb324 ≠ gb277) := ⟨h20_⟩
              have NB278_324 : Aside0 (gb278 ≠ gb324) := ⟨h21_⟩
              have NB324_278 : Aside0 (gb324 ≠ gb278) := ⟨h22_⟩
              have NB282_324 : Aside0 (gb282 ≠ gb324) := ⟨h23_⟩
              have NB324_282 : Aside0 (gb324 ≠ gb282) := ⟨h24_⟩
              have NB286_324 : Aside0 (gb286 ≠ gb324) := ⟨h25_⟩
              have NB324_286 : Aside0 (gb324 ≠ gb286) := ⟨h26_⟩
              have NB290_324 : Aside0 (gb290 ≠ gb324) := ⟨h27_⟩
              have NB324_290 : Aside0 (gb324 ≠ gb290) := ⟨h28_⟩
              have NB294_324 : Aside0 (gb294 ≠ gb324) := ⟨h29_⟩
              have NB324_294 : Aside0 (gb324 ≠ gb294) := ⟨h30_⟩
              have NB298_324 : Aside0 (gb298 ≠ gb324) := ⟨h31_⟩
              have NB324_298 : Aside0 (gb324 ≠ gb298) := ⟨h32_⟩
              have NB302_324 : Aside0 (gb302 ≠ gb324) := ⟨h33_⟩
              have NB324_302 : Aside0 (gb324 ≠ gb302) := ⟨h34_⟩
              have NB305_324 : Aside0 (gb305 ≠ gb324) := ⟨h35_⟩
              have NB324_305 : Aside0 (gb324 ≠ gb305) := ⟨h36_⟩
              have NB312_324 : Aside0 (gb312 ≠ gb324) := ⟨h37_⟩
              have NB324_312 : Aside0 (gb324 ≠ gb312) := ⟨h38_⟩
              replace HB : Aside0 (Below w.heap.size w w128) := ⟨h39_⟩
              clear h0_ h1_ h2_ h3_ h4_ h5_ h6_ h7_ h8_ h9_ h10_ h11_ h12_ h13_ h14_ h15_ h16_ h17_ h18_ h19_ h20_ h21_ h22_ h23_ h24_ h25_ h26_ h27_ h28_ h29_ h30_ h31_ h32_ h33_ h34_ h35_ h36_ h37_ h38_ h39_
              have hHeld : w128.cell? ⟨gb305, 0, none⟩ = some (.int .i64 t303) ∧ w128.cell? ⟨gb305, 1, none⟩ = some (.int .i64 t304) ∧ w128.cell? ⟨gb286, 0, none⟩ = some (.int .i64 t283) ∧ w128.cell? ⟨gb286, 1, none⟩ = some (.int .i64 t284) ∧ w128.cell? ⟨gb298, 0, none⟩ = some (.int .i64 t295) ∧ w128.cell? ⟨gb298, 1, none⟩ = some (.int .i64 t296) ∧ w128.cell? ⟨gb282, 0, none⟩ = some (.int .i64 t279) ∧ w128.cell? ⟨gb282, 1, none⟩ = some (.int .i64 t280) ∧ w128.cell? ⟨gb302, 0, none⟩ = some (.int .i64 t299) ∧ w128.cell? ⟨gb302, 1, none⟩ = some (.int .i64 t300) ∧ w128.cell? ⟨gb294, 0, none⟩ = some (.int .i64 t291) ∧ w128.cell? ⟨gb294, 1, none⟩ = some (.int .i64 t292) := hS_
              refine norm_ (a' := ?_) ?_ ?_
              rotate_left
              ·
               simp only [putAll, Act.put, List.setIfInBounds_toArray, List.set_cons_zero, List.set_cons_succ]
               rfl
              refine one_ (i := 5) (N := some 96) #[true, true, true, true, true, true, false, true, true, false, false, false, false, false, true, false, false] rfl rfl (one_of HT_.out (by kernel_rfl)) (by decide) (fun K hK => ?_)
              refine goes_ Try.func61 (by kernel_rfl) rfl #[.agg #[.int .i64 t295, .int .i64 t296], .agg #[.int .i64 t279, .int .i64 t280]] (by rfl) rfl rfl (by (try simp only [List.map_toArray, List.map_cons, List.map_nil]); first | done | rfl | (simp only [List.length_drop, List.length_take]; rfl)) ?_
              with_reducible refine (sun_Unit.calls t295 t296 t279 t280 t315 t316 _ A29.out).mono ?_
              rintro e w129 ⟨rfl, hb⟩
              refine ⟨_, rfl, ?_⟩
              replace BK275 := nx_ BK275 hb
              replace BK276 := nx_ BK276 hb
              replace BK277 := nx_ BK277 hb
              replace BK278 := nx_ BK278 hb
              replace BK282 := nx_ BK282 hb
              replace BK286 := nx_ BK286 hb
              replace BK290 := nx_ BK290 hb
              replace BK294 := nx_ BK294 hb
              replace BK298 := nx_ BK298 hb
              replace BK302 := nx_ BK302 hb
              replace BK305 := nx_ BK305 hb
              replace BK312 := nx_ BK312 hb
              replace BK324 := nx_ BK324 hb
              replace HB := hx_ HB hb
              (try clear hb)
              (try clear hb2)
              (try clear hk)
              (try clear hi)
              refine hK.out _ _ ⟨(blk_cell BK305.out 0).trans rfl, (blk_cell BK305.out 1).trans rfl, (blk_cell BK286.out 0).trans rfl, (blk_cell BK286.out 1).trans rfl, (blk_cell BK298.out 0).trans rfl, (blk_cell BK298.out 1).trans rfl, (blk_cell BK282.out 0).trans rfl, (blk_cell BK282.out 1).trans rfl, (blk_cell BK302.out 0).trans rfl, (blk_cell BK302.out 1).trans rfl, (blk_cell BK294.out 0).trans rfl, (blk_cell BK294.out 1).trans rfl⟩ (fun hHeld => ?_)
              clear hK K
              refine norm_ (a' := ?_) ?_ ?_
              rotate_left
              ·
               show Act.put _ (some 96) _ = _
               simp only [Act.put, List.setIfInBounds_toArray, List.set_cons_zero, List.set_cons_succ, i64_w, i32_w]
               rfl
              exact norm_ (by (simp only [putAll, Act.put, List.setIfInBounds_toArray, List.set_cons_zero, List.set_cons_succ]) <;> rfl) (hJ2_5_14 (gb324) _ ⟨hHeld, (gr_ BK275.out), (gr_ BK276.out), (gr_ BK277.out), (gr_ BK278.out), (gr_ BK282.out), (gr_ BK286.out), (gr_ BK290.out), (gr_ BK294.out), (gr_ BK298.out), (gr_ BK302.out), (gr_ BK305.out), (gr_ BK312.out), (gr_ BK324.out), GW324.out, GE324.out, NB275_324.out, NB324_275.out, NB276_324.out, NB324_276.out, NB277_324.out, NB324_277.out, NB278_324.out, NB324_278.out, NB282_324.out, NB324_282.out, NB286_324.out, NB324_286.out, NB290_324.out, NB324_290.out, NB294_324.out, NB324_294.out, NB298_324.out, NB324_298.out, NB302_324.out, NB324_302.out, NB305_324.out, NB324_305.out, NB312_324.out, NB324_312.out, (by repeat (first | (with_reducible first | exact HB.out | apply below_alloc | apply pw_below_drewN | apply below_drew1 | refine below_set ?_ GE275.out | refine below_set ?_ GE276.out | refine below_set ?_ GE277.out | refine below_set ?_ GE278.out | refine below_set ?_ GE282.out | refine below_set ?_ GE286.out | refine below_set ?_ GE290.out | refine below_set ?_ GE294.out | refine below_set ?_ GE298.out | refine below_set ?_ GE302.out | refine below_set ?_ GE305.out | refine below_set ?_ GE312.out | refine below_set ?_ GE324.out) | exact HB.out))⟩)
            ·
             skip
             rintro _ w128 ⟨hS_, h0_, h1_, h2_, h3_, h4_, h5_, h6_, h7_, h8_, h9_, h10_, h11_, h12_⟩
             replace BK275 : Aside0 (w128.heap[gb275]? = some (.cells #[.int .i64 a0_0, .int .i64 a0_1] 23 (0, 0))) := ⟨h0_⟩
             replace BK276 : Aside0 (w128.heap[gb276]? = some (.cells #[.int .i64 a1_0, .int .i64 a1_1] 23 (0, 0))) := ⟨h1_⟩
             replace BK277 : Aside0 (w128.heap[gb277]? = some (.cells #[.int .i64 0, .int .i64 0] 23 (0, 0))) := ⟨h2_⟩
             replace BK278 : Aside0 (w128.heap[gb278]? = some (.cells #[.int .i64 0, .int .i64 0] 23 (0, 0))) := ⟨h3_⟩
             replace BK282 : Aside0 (w128.heap[gb282]? = some (.cells #[.int .i64 t279, .int .i64 t280] 23 (0, 0))) := ⟨h4_⟩
             replace BK286 : Aside0 (w128.heap[gb286]? = some (.cells #[.int .i64 t283, .int .i64 t284] 23 (0, 0))) := ⟨h5_⟩
             replace BK290 : Aside0 (w128.heap[gb290]? = some (.cells #[.int .i64 t287, .int .i64 t288] 23 (0, 0))) := ⟨h6_⟩
             replace BK294 : Aside0 (w128.heap[gb294]? = some (.cells #[.int .i64 t291, .int .i64 t292] 23 (0, 0))) := ⟨h7_⟩
             replace BK298 : Aside0 (w128.heap[gb298]? = some (.cells #[.int .i64 t295, .int .i64 t296] 23 (0, 0))) := ⟨h8_⟩
             replace BK302 : Aside0 (w128.heap[gb302]? = some (.cells #[.int .i64 t299, .int .i64 t300] 23 (0, 0))) := ⟨h9_⟩
             replace BK305 : Aside0 (w128.heap[gb305]? = some (.cells #[.int .i64 t303, .int .i64 t304] 23 (0, 0))) := ⟨h10_⟩
             replace BK312 : Aside0 (w128.heap[gb312]? = some (.cells #[.int .i64 t310, .int .i64 t311] 23 (0, 0))) := ⟨h11_⟩
             replace HB : Aside0 (Below w.heap.size w w128) := ⟨h12_⟩
             clear h0_ h1_ h2_ h3_ h4_ h5_ h6_ h7_ h8_ h9_ h10_ h11_ h12_
             have hHeld : w128.cell? ⟨gb305, 0, none⟩ = some (.int .i64 t303) ∧ w128.cell? ⟨gb305, 1, none⟩ = some (.int .i64 t304) ∧ w128.cell? ⟨gb286, 0, none⟩ = some (.int .i64 t283) ∧ w128.cell? ⟨gb286, 1, none⟩ = some (.int .i64 t284) ∧ w128.cell? ⟨gb298, 0, none⟩ = some (.int .i64 t295) ∧ w128.cell? ⟨gb298, 1, none⟩ = some (.int .i64 t296) ∧ w128.cell? ⟨gb282, 0, none⟩ = some (.int .i64 t279) ∧ w128.cell? ⟨gb282, 1, none⟩ = some (.int .i64 t280) ∧ w128.cell? ⟨gb302, 0, none⟩ = some (.int .i64 t299) ∧ w128.cell? ⟨gb302, 1, none⟩ = some (.int .i64 t300) ∧ w128.cell? ⟨gb294, 0, none⟩ = some (.int .i64 t291) ∧ w128.cell? ⟨gb294, 1, none⟩ = some (.int .i64 t292) := hS_
             refine norm_ (a' := ?_) ?_ ?_
             rotate_left
             ·
              simp only [putAll, Act.put, List.setIfInBounds_toArray, List.set_cons_zero, List.set_cons_succ]
              rfl
             refine two_ (i := 6) (j := 14) (Ni := some 97) (Nj := some 24) #[true, true, true, true, true, true, true, true, true, false, false, false, false, false, false, false, false] #[true, true, true, true, true, true, false, true, true, false, false, false, false, false, true, false, false] rfl rfl rfl rfl (two_of HT_.out (by kernel_rfl)) (by decide) (by decide) (fun K hK => ?_) (fun K hK => ?_)
             ·
              skip
              refine goes_ Try.func102 (by kernel_rfl) rfl #[.agg #[.int .i64 t313, .int .i64 t314], .agg #[.int .i64 t315, .int .i64 t316]] (by rfl) rfl rfl (by (try simp only [List.map_toArray, List.map_cons, List.map_nil]); first | done | rfl | (simp only [List.length_drop, List.length_take]; rfl)) ?_
              with_reducible refine (sun_less.calls t313 t314 t315 t316 t317 t318 _ A30.out).mono ?_
              rintro e w129 ⟨rfl, hb⟩
              refine ⟨_, rfl, ?_⟩
              replace BK275 := nx_ BK275 hb
              replace BK276 := nx_ BK276 hb
              replace BK277 := nx_ BK277 hb
              replace BK278 := nx_ BK278 hb
              replace BK282 := nx_ BK282 hb
              replace BK286 := nx_ BK286 hb
              replace BK290 := nx_ BK290 hb
              replace BK294 := nx_ BK294 hb
              replace BK298 := nx_ BK298 hb
              replace BK302 := nx_ BK302 hb
              replace BK305 := nx_ BK305 hb
              replace BK312 := nx_ BK312 hb
              replace HB := hx_ HB hb
              (try clear hb)
              (try clear hb2)
              (try clear hk)
              (try clear hi)
              refine hK.out _ _ ⟨(blk_cell BK305.out 0).trans rfl, (blk_cell BK305.out 1).trans rfl, (blk_cell BK286.out 0).trans rfl, (blk_cell BK286.out 1).trans rfl, (blk_cell BK298.out 0).trans rfl, (blk_cell BK298.out 1).trans rfl, (blk_cell BK282.out 0).trans rfl, (blk_cell BK282.out 1).trans rfl, (blk_cell BK302.out 0).trans rfl, (blk_cell BK302.out 1).trans rfl, (blk_cell BK294.out 0).trans rfl, (blk_cell BK294.out 1).trans rfl⟩ (fun hHeld => ?_)
              clear hK K
              refine norm_ (a' := ?_) ?_ ?_
              rotate_left
              ·
               show Act.put _ (some 97) _ = _
               simp only [Act.put, List.setIfInBounds_toArray, List.set_cons_zero, List.set_cons_succ, i64_w, i32_w]
               rfl
              exact norm_ (by (simp only [putAll, Act.put, List.setIfInBounds_toArray, List.set_cons_zero, List.set_cons_succ]) <;> rfl) (hJ2_5_6 () _ ⟨hHeld, (gr_ BK275.out), (gr_ BK276.out), (gr_ BK277.out), (gr_ BK278.out), (gr_ BK282.out), (gr_ BK286.out), (gr_ BK290.out), (gr_ BK294.out), (gr_ BK298.out), (gr_ BK302.out), (gr_ BK305.out), (gr_ BK312.out), (by repeat (first | (with_reducible first | exact HB.out | apply below_alloc | apply pw_below_drewN | apply below_drew1 | refine below_set ?_ GE275.out | refine below_set ?_ GE276.out | refine below_set ?_ GE277.out | refine below_set ?_ GE278.out | refine below_set ?_ GE282.out | refine below_set ?_ GE286.out | refine below_set ?_ GE290.out | refine below_set ?_ GE294.out | refine below_set ?_ GE298.out | refine below_set ?_ GE302.out | refine below_set ?_ GE305.out | refine below_set ?_ GE312.out) | exact HB.out))⟩)
             ·
              skip
              refine box_step ?hg (N := 24) ?hd (cs := #[.int .i64 0, .int .i64 0]) (t := 23) ?hr ?_; (case hd => rfl); (case hg => rfl); (case hr => first | (go_simp; done) | (go_simp; rfl))
              intro gb324 hg w129 hbox hb
              have BK324 := Aside0.mk hbox
              have GW324 := ge_ (hb_ HB.out) hg
              have GE324 := ge_ (hb_ HB.out) hg
              have NB275_324 := nb_ (gr_ BK275.out) hg
              have NB324_275 := bn_ (gr_ BK275.out) hg
              have NB276_324 := nb_ (gr_ BK276.out) hg
              have NB324_276 := bn_ (gr_ BK276.out) hg
              have NB277_324 := nb_ (gr_ BK277.out) hg
              have NB324_277 := bn_ (gr_ BK277.out) hg
              have NB278_324 := nb_ (gr_ BK278.out) hg
              have NB324_278 := bn_ (gr_ BK278.out) hg
              have NB282_324 := nb_ (gr_ BK282.out) hg
              have NB324_282 := bn_ (gr_ BK282.out) hg
              have NB286_324 := nb_ (gr_ BK286.out) hg
              have NB324_286 := bn_ (gr_ BK286.out) hg
              have NB290_324 := nb_ (gr_ BK290.out) hg
              have NB324_290 := bn_ (gr_ BK290.out) hg
              have NB294_324 := nb_ (gr_ BK294.out) hg
              have NB324_294 := bn_ (gr_ BK294.out) hg
              have NB298_324 := nb_ (gr_ BK298.out) hg
              have NB324_298 := bn_ (gr_ BK298.out) hg
              have NB302_324 := nb_ (gr_ BK302.out) hg
              have NB324_302 := bn_ (gr_ BK302.out) hg
              have NB305_324 := nb_ (gr_ BK305.out) hg
              have NB324_305 := bn_ (gr_ BK305.out) hg
              have NB312_324 := nb_ (gr_ BK312.out) hg
              have NB324_312 := bn_ (gr_ BK312.out) hg
              replace BK275 := nx_ BK275 hb
              replace BK276 := nx_ BK276 hb
              replace BK277 := nx_ BK277 hb
              replace BK278 := nx_ BK278 hb
              replace BK282 := nx_ BK282 hb
              replace BK286 := nx_ BK286 hb
              replace BK290 := nx_ BK290 hb
              replace BK294 := nx_ BK294 hb
              replace BK298 := nx_ BK298 hb
              replace BK302 := nx_ BK302 hb
              replace BK305 := nx_ BK305 hb
              replace BK312 := nx_ BK312 hb
              replace HB := hx_ HB hb
              clear hb hbox hg
              refine hK.out _ _ ⟨(blk_cell BK305.out 0).trans rfl, (blk_cell BK305.out 1).trans rfl, (blk_cell BK286.out 0).trans rfl, (blk_cell BK286.out 1).trans rfl, (blk_cell BK298.out 0).trans rfl, (blk_cell BK298.out 1).trans rfl, (blk_cell BK282.out 0).trans rfl, (blk_cell BK282.out 1).trans rfl, (blk_cell BK302.out 0).trans rfl, (blk_cell BK302.out 1).trans rfl, (blk_cell BK294.out 0).trans rfl, (blk_cell BK294.out 1).trans rfl⟩ (fun hHeld => ?_)
              clear hK K
              refine norm_ (a' := ?_) ?_ ?_
              rotate_left
              ·
               show Act.put _ (some 24) _ = _
               simp only [Act.put, List.setIfInBounds_toArray, List.set_cons_zero, List.set_cons_succ, i64_w, i32_w]
               rfl
              exact norm_ (by (simp only [putAll, Act.put, List.setIfInBounds_toArray, List.set_cons_zero, List.set_cons_succ]) <;> rfl) (hJ2_5_14 (gb324) _ ⟨hHeld, (gr_ BK275.out), (gr_ BK276.out), (gr_ BK277.out), (gr_ BK278.out), (gr_ BK282.out), (gr_ BK286.out), (gr_ BK290.out), (gr_ BK294.out), (gr_ BK298.out), (gr_ BK302.out), (gr_ BK305.out), (gr_ BK312.out), (gr_ BK324.out), GW324.out, GE324.out, NB275_324.out, NB324_275.out, NB276_324.out, NB324_276.out, NB277_324.out, NB324_277.out, NB278_324.out, NB324_278.out, NB282_324.out, NB324_282.out, NB286_324.out, NB324_286.out, NB290_324.out, NB324_290.out, NB294_324.out, NB324_294.out, NB298_324.out, NB324_298.out, NB302_324.out, NB324_302.out, NB305_324.out, NB324_305.out, NB312_324.out, NB324_312.out, (by repeat (first | (with_reducible first | exact HB.out | apply below_alloc | apply pw_below_drewN | apply below_drew1 | refine below_set ?_ GE275.out | refine below_set ?_ GE276.out | refine below_set ?_ GE277.out | refine below_set ?_ GE278.out | refine below_set ?_ GE282.out | refine below_set ?_ GE286.out | refine below_set ?_ GE290.out | refine below_set ?_ GE294.out | refine below_set ?_ GE298.out | refine below_set ?_ GE302.out | refine below_set ?_ GE305.out | refine below_set ?_ GE312.out | refine below_set ?_ GE324.out) | exact HB.out))⟩)
           ·
            skip
            rintro gb324 w129 ⟨hS_, h0_, h1_, h2_, h3_, h4_, h5_, h6_, h7_, h8_, h9_, h10_, h11_, h12_, h13_, h14_, h15_, h16_, h17_, h18_, h19_, h20_, h21_, h22_, h23_, h24_, h25_, h26_, h27_, h28_, h29_, h30_, h31_, h32_, h33_, h34_, h35_, h36_, h37_, h38_, h39_⟩
            replace BK275 : Aside0 (w129.heap[gb275]? = some (.cells #[.int .i64 a0_0, .int .i64 a0_1] 23 (0, 0))) := ⟨h0_⟩
            replace BK276 : Aside0 (w129.heap[gb276]? = some (.cells #[.int .i64 a1_0, .int .i64 a1_1] 23 (0, 0))) := ⟨h1_⟩
            replace BK277 : Aside0 (w129.heap[gb277]? = some (.cells #[.int .i64 0, .int .i64 0] 23 (0, 0))) := ⟨h2_⟩
            replace BK278 : Aside0 (w129.heap[gb278]? = some (.cells #[.int .i64 0, .int .i64 0] 23 (0, 0))) := ⟨h3_⟩
            replace BK282 : Aside0 (w129.heap[gb282]? = some (.cells #[.int .i64 t279, .int .i64 t280] 23 (0, 0))) := ⟨h4_⟩
            replace BK286 : Aside0 (w129.heap[gb286]? = some (.cells #[.int .i64 t283, .int .i64 t284] 23 (0, 0))) := ⟨h5_⟩
            replace BK290 : Aside0 (w129.heap[gb290]? = some (.cells #[.int .i64 t287, .int .i64 t288] 23 (0, 0))) := ⟨h6_⟩
            replace BK294 : Aside0 (w129.heap[gb294]? = some (.cells #[.int .i64 t291, .int .i64 t292] 23 (0, 0))) := ⟨h7_⟩
            replace BK298 : Aside0 (w129.heap[gb298]? = some (.cells #[.int .i64 t295, .int .i64 t296] 23 (0, 0))) := ⟨h8_⟩
            replace BK302 : Aside0 (w129.heap[gb302]? = some (.cells #[.int .i64 t299, .int .i64 t300] 23 (0, 0))) := ⟨h9_⟩
            replace BK305 : Aside0 (w129.heap[gb305]? = some (.cells #[.int .i64 t303, .int .i64 t304] 23 (0, 0))) := ⟨h10_⟩
            replace BK312 : Aside0 (w129.heap[gb312]? = some (.cells #[.int .i64 t310, .int .i64 t311] 23 (0, 0))) := ⟨h11_⟩
            have BK324 : Aside0 (w129.heap[gb324]? = some (.cells #[.int .i64 0, .int .i64 0] 23 (0, 0))) := ⟨h12_⟩
            have GW324 : Aside0 (w.heap.size ≤ gb324) := ⟨h13_⟩
            have GE324 : Aside0 (w.heap.size ≤ gb324) := ⟨h14_⟩
            have NB275_324 : Aside0 (gb275 ≠ gb324) := ⟨h15_⟩
            have NB324_275 : Aside0 (gb324 ≠ gb275) := ⟨h16_⟩
            have NB276_324 : Aside0 (gb276 ≠ gb324) := ⟨h17_⟩
            have NB324_276 : Aside0 (gb324 ≠ gb276) := ⟨h18_⟩
            have NB277_324 : Aside0 (gb277 ≠ gb324) := ⟨h19_⟩
            have NB324_277 : Aside0 (gb324 ≠ gb277) := ⟨h20_⟩
            have NB278_324 : Aside0 (gb278 ≠ gb324) := ⟨h21_⟩
            have NB324_278 : Aside0 (gb324 ≠ gb278) := ⟨h22_⟩
            have NB282_324 : Aside0 (gb282 ≠ gb324) := ⟨h23_⟩
            have NB324_282 : Aside0 (gb324 ≠ gb282) := ⟨h24_⟩
            have NB286_324 : Aside0 (gb286 ≠ gb324) := ⟨h25_⟩
            have NB324_286 : Aside0 (gb324 ≠ gb286) := ⟨h26_⟩
            have NB290_324 : Aside0 (gb290 ≠ gb324) := ⟨h27_⟩
            have NB324_290 : Aside0 (gb324 ≠ gb290) := ⟨h28_⟩
            have NB294_324 : Aside0 (gb294 ≠ gb324) := ⟨h29_⟩
            have NB324_294 : Aside0 (gb324 ≠ gb294) := ⟨h30_⟩
            have NB298_324 : Aside0 (gb298 ≠ gb324) := ⟨h31_⟩
            have NB324_298 : Aside0 (gb324 ≠ gb298) := ⟨h32_⟩
            have NB302_324 : Aside0 (gb302 ≠ gb324) := ⟨h33_⟩
            have NB324_302 : Aside0 (gb324 ≠ gb302) := ⟨h34_⟩
            have NB305_324 : Aside0 (gb305 ≠ gb324) := ⟨h35_⟩
            have NB324_305 : Aside0 (gb324 ≠ gb305) := ⟨h36_⟩
            have NB312_324 : Aside0 (gb312 ≠ gb324) := ⟨h37_⟩
            have NB324_312 : Aside0 (gb324 ≠ gb312) := ⟨h38_⟩
            replace HB : Aside0 (Below w.heap.size w w129) := ⟨h39_⟩
            clear h0_ h1_ h2_ h3_ h4_ h5_ h6_ h7_ h8_ h9_ h10_ h11_ h12_ h13_ h14_ h15_ h16_ h17_ h18_ h19_ h20_ h21_ h22_ h23_ h24_ h25_ h26_ h27_ h28_ h29_ h30_ h31_ h32_ h33_ h34_ h35_ h36_ h37_ h38_ h39_
            have hHeld : w129.cell? ⟨gb305, 0, none⟩ = some (.int .i64 t303) ∧ w129.cell? ⟨gb305, 1, none⟩ = some (.int .i64 t304) ∧ w129.cell? ⟨gb286, 0, none⟩ = some (.int .i64 t283) ∧ w129.cell? ⟨gb286, 1, none⟩ = some (.int .i64 t284) ∧ w129.cell? ⟨gb298, 0, none⟩ = some (.int .i64 t295) ∧ w129.cell? ⟨gb298, 1, none⟩ = some (.int .i64 t296) ∧ w129.cell? ⟨gb282, 0, none⟩ = some (.int .i64 t279) ∧ w129.cell? ⟨gb282, 1, none⟩ = some (.int .i64 t280) ∧ w129.cell? ⟨gb302, 0, none⟩ = some (.int .i64 t299) ∧ w129.cell? ⟨gb302, 1, none⟩ = some (.int .i64 t300) ∧ w129.cell? ⟨gb294, 0, none⟩ = some (.int .i64 t291) ∧ w129.cell? ⟨gb294, 1, none⟩ = some (.int .i64 t292) := hS_
            refine norm_ (a' := ?_) ?_ ?_
            rotate_left
            ·
             simp only [putAll, Act.put, List.setIfInBounds_toArray, List.set_cons_zero, List.set_cons_succ]
             rfl
            refine one_ (i := 6) (N := some 97) #[true, true, true, true, true, true, true, true, true, false, false, false, false, false, true, false, false] rfl rfl (one_of HT_.out (by kernel_rfl)) (by decide) (fun K hK => ?_)
            refine goes_ Try.func102 (by kernel_rfl) rfl #[.agg #[.int .i64 t313, .int .i64 t314], .agg #[.int .i64 t315, .int .i64 t316]] (by rfl) rfl rfl (by (try simp only [List.map_toArray, List.map_cons, List.map_nil]); first | done | rfl | (simp only [List.length_drop, List.length_take]; rfl)) ?_
            with_reducible refine (sun_less.calls t313 t314 t315 t316 t317 t318 _ A30.out).mono ?_
            rintro e w130 ⟨rfl, hb⟩
            refine ⟨_, rfl, ?_⟩
            replace BK275 := nx_ BK275 hb
            replace BK276 := nx_ BK276 hb
            replace BK277 := nx_ BK277 hb
            replace BK278 := nx_ BK278 hb
            replace BK282 := nx_ BK282 hb
            replace BK286 := nx_ BK286 hb
            replace BK290 := nx_ BK290 hb
            replace BK294 := nx_ BK294 hb
            replace BK298 := nx_ BK298 hb
            replace BK302 := nx_ BK302 hb
            replace BK305 := nx_ BK305 hb
            replace BK312 := nx_ BK312 hb
            replace BK324 := nx_ BK324 hb
            replace HB := hx_ HB hb
            (try clear hb)
            (try clear hb2)
            (try clear hk)
            (try clear hi)
            refine hK.out _ _ ⟨(blk_cell BK305.out 0).trans rfl, (blk_cell BK305.out 1).trans rfl, (blk_cell BK286.out 0).trans rfl, (blk_cell BK286.out 1).trans rfl, (blk_cell BK298.out 0).trans rfl, (blk_cell BK298.out 1).trans rfl, (blk_cell BK282.out 0).trans rfl, (blk_cell BK282.out 1).trans rfl, (blk_cell BK302.out 0).trans rfl, (blk_cell BK302.out 1).trans rfl, (blk_cell BK294.out 0).trans rfl, (blk_cell BK294.out 1).trans rfl⟩ (fun hHeld => ?_)
            clear hK K
            refine norm_ (a' := ?_) ?_ ?_
            rotate_left
            ·
             show Act.put _ (some 97) _ = _
             simp only [Act.put, List.setIfInBounds_toArray, List.set_cons_zero, List.set_cons_succ, i64_w, i32_w]
             rfl
            exact norm_ (by (simp only [putAll, Act.put, List.setIfInBounds_toArray, List.set_cons_zero, List.set_cons_succ]) <;> rfl) (hJ2_5_6_14 (gb324) _ ⟨hHeld, (gr_ BK275.out), (gr_ BK276.out), (gr_ BK277.out), (gr_ BK278.out), (gr_ BK282.out), (gr_ BK286.out), (gr_ BK290.out), (gr_ BK294.out), (gr_ BK298.out), (gr_ BK302.out), (gr_ BK305.out), (gr_ BK312.out), (gr_ BK324.out), GW324.out, GE324.out, NB275_324.out, NB324_275.out, NB276_324.out, NB324_276.out, NB277_324.out, NB324_277.out, NB278_324.out, NB324_278.out, NB282_324.out, NB324_282.out, NB286_324.out, NB324_286.out, NB290_324.out, NB324_290.out, NB294_324.out, NB324_294.out, NB298_324.out, NB324_298.out, NB302_324.out, NB324_302.out, NB305_324.out, NB324_305.out, NB312_324.out, NB324_312.out, (by repeat (first | (with_reducible first | exact HB.out | apply below_alloc | apply pw_below_drewN | apply below_drew1 | refine below_set ?_ GE275.out | refine below_set ?_ GE276.out | refine below_set ?_ GE277.out | refine below_set ?_ GE278.out | refine below_set ?_ GE282.out | refine below_set ?_ GE286.out | refine below_set ?_ GE290.out | refine below_set ?_ GE294.out | refine below_set ?_ GE298.out | refine below_set ?_ GE302.out | refine below_set ?_ GE305.out | refine below_set ?_ GE312.out | refine below_set ?_ GE324.out) | exact HB.out))⟩)
          ·
           skip
           rintro _ w129 ⟨hS_, h0_, h1_, h2_, h3_, h4_, h5_, h6_, h7_, h8_, h9_, h10_, h11_, h12_⟩
           replace BK275 : Aside0 (w129.heap[gb275]? = some (.cells #[.int .i64 a0_0, .int .i64 a0_1] 23 (0, 0))) := ⟨h0_⟩
           replace BK276 : Aside0 (w129.heap[gb276]? = some (.cells #[.int .i64 a1_0, .int .i64 a1_1] 23 (0, 0))) := ⟨h1_⟩
           replace BK277 : Aside0 (w129.heap[gb277]? = some (.cells #[.int .i64 0, .int .i64 0] 23 (0, 0))) := ⟨h2_⟩
           replace BK278 : Aside0 (w129.heap[gb278]? = some (.cells #[.int .i64 0, .int .i64 0] 23 (0, 0))) := ⟨h3_⟩
           replace BK282 : Aside0 (w129.heap[gb282]? = some (.cells #[.int .i64 t279, .int .i64 t280] 23 (0, 0))) := ⟨h4_⟩
           replace BK286 : Aside0 (w129.heap[gb286]? = some (.cells #[.int .i64 t283, .int .i64 t284] 23 (0, 0))) := ⟨h5_⟩
           replace BK290 : Aside0 (w129.heap[gb290]? = some (.cells #[.int .i64 t287, .int .i64 t288] 23 (0, 0))) := ⟨h6_⟩
           replace BK294 : Aside0 (w129.heap[gb294]? = some (.cells #[.int .i64 t291, .int .i64 t292] 23 (0, 0))) := ⟨h7_⟩
           replace BK298 : Aside0 (w129.heap[gb298]? = some (.cells #[.int .i64 t295, .int .i64 t296] 23 (0, 0))) := ⟨h8_⟩
           replace BK302 : Aside0 (w129.heap[gb302]? = some (.cells #[.int .i64 t299, .int .i64 t300] 23 (0, 0))) := ⟨h9_⟩
           replace BK305 : Aside0 (w129.heap[gb305]? = some (.cells #[.int .i64 t303, .int .i64 t304] 23 (0, 0))) := ⟨h10_⟩
           replace BK312 : Aside0 (w129.heap[gb312]? = some (.cells #[.int .i64 t310, .int .i64 t311] 23 (0, 0))) := ⟨h11_⟩
           replace HB : Aside0 (Below w.heap.size w w129) := ⟨h12_⟩
           clear h0_ h1_ h2_ h3_ h4_ h5_ h6_ h7_ h8_ h9_ h10_ h11_ h12_
           have hHeld : w129.cell? ⟨gb305, 0, none⟩ = some (.int .i64 t303) ∧ w129.cell? ⟨gb305, 1, none⟩ = some (.int .i64 t304) ∧ w129.cell? ⟨gb286, 0, none⟩ = some (.int .i64 t283) ∧ w129.cell? ⟨gb286, 1, none⟩ = some (.int .i64 t284) ∧ w129.cell? ⟨gb298, 0, none⟩ = some (.int .i64 t295) ∧ w129.cell? ⟨gb298, 1, none⟩ = some (.int .i64 t296) ∧ w129.cell? ⟨gb282, 0, none⟩ = some (.int .i64 t279) ∧ w129.cell? ⟨gb282, 1, none⟩ = some (.int .i64 t280) ∧ w129.cell? ⟨gb302, 0, none⟩ = some (.int .i64 t299) ∧ w129.cell? ⟨gb302, 1, none⟩ = some (.int .i64 t300) ∧ w129.cell? ⟨gb294, 0, none⟩ = some (.int .i64 t291) ∧ w129.cell? ⟨gb294, 1, none⟩ = some (.int .i64 t292) := hS_
           refine norm_ (a' := ?_) ?_ ?_
           rotate_left
           ·
            simp only [putAll, Act.put, List.setIfInBounds_toArray, List.set_cons_zero, List.set_cons_succ]
            rfl
           refine two_ (i := 9) (j := 14) (Ni := some 100) (Nj := some 24) #[true, true, true, true, true, true, true, true, true, true, false, false, false, false, false, false, false] #[true, true, true, true, true, true, true, true, true, false, false, false, false, false, true, false, false] rfl rfl rfl rfl (two_of HT_.out (by kernel_rfl)) (by decide) (by decide) (fun K hK => ?_) (fun K hK => ?_)
           ·
            skip
            refine goes_ Try.func61 (by kernel_rfl) rfl #[.agg #[.int .i64 t299, .int .i64 t300], .agg #[.int .i64 t291, .int .i64 t292]] (by rfl) rfl rfl (by (try simp only [List.map_toArray, List.map_cons, List.map_nil]); first | done | rfl | (simp only [List.length_drop, List.length_take]; rfl)) ?_
            with_reducible refine (sun_Unit.calls t299 t300 t291 t292 t319 t320 _ A31.out).mono ?_
            rintro e w130 ⟨rfl, hb⟩
            refine ⟨_, rfl, ?_⟩
            replace BK275 := nx_ BK275 hb
            replace BK276 := nx_ BK276 hb
            replace BK277 := nx_ BK277 hb
            replace BK278 := nx_ BK278 hb
            replace BK282 := nx_ BK282 hb
            replace BK286 := nx_ BK286 hb
            replace BK290 := nx_ BK290 hb
            replace BK294 := nx_ BK294 hb
            replace BK298 := nx_ BK298 hb
            replace BK302 := nx_ BK302 hb
            replace BK305 := nx_ BK305 hb
            replace BK312 := nx_ BK312 hb
            replace HB := hx_ HB hb
            (try clear hb)
            (try clear hb2)
            (try clear hk)
            (try clear hi)
            refine hK.out _ _ ⟨(blk_cell BK305.out 0).trans rfl, (blk_cell BK305.out 1).trans rfl, (blk_cell BK286.out 0).trans rfl, (blk_cell BK286.out 1).trans rfl, (blk_cell BK298.out 0).trans rfl, (blk_cell BK298.out 1).trans rfl, (blk_cell BK282.out 0).trans rfl, (blk_cell BK282.out 1).trans rfl, (blk_cell BK302.out 0).trans rfl, (blk_cell BK302.out 1).trans rfl, (blk_cell BK294.out 0).trans rfl, (blk_cell BK294.out 1).trans rfl⟩ (fun hHeld => ?_)
            clear hK K
            refine norm_ (a' := ?_) ?_ ?_
            rotate_left
            ·
             show Act.put _ (some 100) _ = _
             simp only [Act.put, List.setIfInBounds_toArray, List.set_cons_zero, List.set_cons_succ, i64_w, i32_w]
             rfl
            exact norm_ (by (simp only [putAll, Act.put, List.setIfInBounds_toArray, List.set_cons_zero, List.set_cons_succ]) <;> rfl) (hJ2_5_6_9 () _ ⟨hHeld, (gr_ BK275.out), (gr_ BK276.out), (gr_ BK277.out), (gr_ BK278.out), (gr_ BK282.out), (gr_ BK286.out), (gr_ BK290.out), (gr_ BK294.out), (gr_ BK298.out), (gr_ BK302.out), (gr_ BK305.out), (gr_ BK312.out), (by repeat (first | (with_reducible first | exact HB.out | apply below_alloc | apply pw_below_drewN | apply below_drew1 | refine below_set ?_ GE275.out | refine below_set ?_ GE276.out | refine below_set ?_ GE277.out | refine below_set ?_ GE278.out | refine below_set ?_ GE282.out | refine below_set ?_ GE286.out | refine below_set ?_ GE290.out | refine below_set ?_ GE294.out | refine below_set ?_ GE298.out | refine below_set ?_ GE302.out | refine below_set ?_ GE305.out | refine below_set ?_ GE312.out) | exact HB.out))⟩)
           ·
            skip
            refine box_step ?hg (N := 24) ?hd (cs := #[.int .i64 0, .int .i64 0]) (t := 23) ?hr ?_; (case hd => rfl); (case hg => rfl); (case hr => first | (go_simp; done) | (go_simp; rfl))
            intro gb324 hg w130 hbox hb
            have BK324 := Aside0.mk hbox
            have GW324 := ge_ (hb_ HB.out) hg
            have GE324 := ge_ (hb_ HB.out) hg
            have NB275_324 := nb_ (gr_ BK275.out) hg
            have NB324_275 := bn_ (gr_ BK275.out) hg
            have NB276_324 := nb_ (gr_ BK276.out) hg
            have NB324_276 := bn_ (gr_ BK276.out) hg
            have NB277_324 := nb_ (gr_ BK277.out) hg
            have NB324_277 := bn_ (gr_ BK277.out) hg
            have NB278_324 := nb_ (gr_ BK278.out) hg
            have NB324_278 := bn_ (gr_ BK278.out) hg
            have NB282_324 := nb_ (gr_ BK282.out) hg
            have NB324_282 := bn_ (gr_ BK282.out) hg
            have NB286_324 := nb_ (gr_ BK286.out) hg
            have NB324_286 := bn_ (gr_ BK286.out) hg
            have NB290_324 := nb_ (gr_ BK290.out) hg
            have NB324_290 := bn_ (gr_ BK290.out) hg
            have NB294_324 := nb_ (gr_ BK294.out) hg
            have NB324_294 := bn_ (gr_ BK294.out) hg
            have NB298_324 := nb_ (gr_ BK298.out) hg
            have NB324_298 := bn_ (gr_ BK298.out) hg
            have NB302_324 := nb_ (gr_ BK302.out) hg
            have NB324_302 := bn_ (gr_ BK302.out) hg
            have NB305_324 := nb_ (gr_ BK305.out) hg
            have NB324_305 := bn_ (gr_ BK305.out) hg
            have NB312_324 := nb_ (gr_ BK312.out) hg
            have NB324_312 := bn_ (gr_ BK312.out) hg
            replace BK275 := nx_ BK275 hb
            replace BK276 := nx_ BK276 hb
            replace BK277 := nx_ BK277 hb
            replace BK278 := nx_ BK278 hb
            replace BK282 := nx_ BK282 hb
            replace BK286 := nx_ BK286 hb
            replace BK290 := nx_ BK290 hb
            replace BK294 := nx_ BK294 hb
            replace BK298 := nx_ BK298 hb
            replace BK302 := nx_ BK302 hb
            replace BK305 := nx_ BK305 hb
            replace BK312 := nx_ BK312 hb
            replace HB := hx_ HB hb
            clear hb hbox hg
            refine hK.out _ _ ⟨(blk_cell BK305.out 0).trans rfl, (blk_cell BK305.out 1).trans rfl, (blk_cell BK286.out 0).trans rfl, (blk_cell BK286.out 1).trans rfl, (blk_cell BK298.out 0).trans rfl, (blk_cell BK298.out 1).trans rfl, (blk_cell BK282.out 0).trans rfl, (blk_cell BK282.out 1).trans rfl, (blk_cell BK302.out 0).trans rfl, (blk_cell BK302.out 1).trans rfl, (blk_cell BK294.out 0).trans rfl, (blk_cell BK294.out 1).trans rfl⟩ (fun hHeld => ?_)
            clear hK K
            refine norm_ (a' := ?_) ?_ ?_
            rotate_left
            ·
             show Act.put _ (some 24) _ = _
             simp only [Act.put, List.setIfInBounds_toArray, List.set_cons_zero, List.set_cons_succ, i64_w, i32_w]
             rfl
            exact norm_ (by (simp only [putAll, Act.put, List.setIfInBounds_toArray, List.set_cons_zero, List.set_cons_succ]) <;> rfl) (hJ2_5_6_14 (gb324) _ ⟨hHeld, (gr_ BK275.out), (gr_ BK276.out), (gr_ BK277.out), (gr_ BK278.out), (gr_ BK282.out), (gr_ BK286.out), (gr_ BK290.out), (gr_ BK294.out), (gr_ BK298.out), (gr_ BK302.out), (gr_ BK305.out), (gr_ BK312.out), (gr_ BK324.out), GW324.out, GE324.out, NB275_324.out, NB324_275.out, NB276_324.out, NB324_276.out, NB277_324.out, NB324_277.out, NB278_324.out, NB324_278.out, NB282_324.out, NB324_282.out, NB286_324.out, NB324_286.out, NB290_324.out, NB324_290.out, NB294_324.out, NB324_294.out, NB298_324.out, NB324_298.out, NB302_324.out, NB324_302.out, NB305_324.out, NB324_305.out, NB312_324.out, NB324_312.out, (by repeat (first | (with_reducible first | exact HB.out | apply below_alloc | apply pw_below_drewN | apply below_drew1 | refine below_set ?_ GE275.out | refine below_set ?_ GE276.out | refine below_set ?_ GE277.out | refine below_set ?_ GE278.out | refine below_set ?_ GE282.out | refine below_set ?_ GE286.out | refine below_set ?_ GE290.out | refine below_set ?_ GE294.out | refine below_set ?_ GE298.out | refine below_set ?_ GE302.out | refine below_set ?_ GE305.out | refine below_set ?_ GE312.out | refine below_set ?_ GE324.out) | exact HB.out))⟩)
         ·
          skip
          rintro gb324 w130 ⟨hS_, h0_, h1_, h2_, h3_, h4_, h5_, h6_, h7_, h8_, h9_, h10_, h11_, h12_, h13_, h14_, h15_, h16_, h17_, h18_, h19_, h20_, h21_, h22_, h23_, h24_, h25_, h26_, h27_, h28_, h29_, h30_, h31_, h32_, h33_, h34_, h35_, h36_, h37_, h38_, h39_⟩
          replace BK275 : Aside0 (w130.heap[gb275]? = some (.cells #[.int .i64 a0_0, .int .i64 a0_1] 23 (0, 0))) := ⟨h0_⟩
          replace BK276 : Aside0 (w130.heap[gb276]? = some (.cells #[.int .i64 a1_0, .int .i64 a1_1] 23 (0, 0))) := ⟨h1_⟩
          replace BK277 : Aside0 (w130.heap[gb277]? = some (.cells #[.int .i64 0, .int .i64 0] 23 (0, 0))) := ⟨h2_⟩
          replace BK278 : Aside0 (w130.heap[gb278]? = some (.cells #[.int .i64 0, .int .i64 0] 23 (0, 0))) := ⟨h3_⟩
          replace BK282 : Aside0 (w130.heap[gb282]? = some (.cells #[.int .i64 t279, .int .i64 t280] 23 (0, 0))) := ⟨h4_⟩
          replace BK286 : Aside0 (w130.heap[gb286]? = some (.cells #[.int .i64 t283, .int .i64 t284] 23 (0, 0))) := ⟨h5_⟩
          replace BK290 : Aside0 (w130.heap[gb290]? = some (.cells #[.int .i64 t287, .int .i64 t288] 23 (0, 0))) := ⟨h6_⟩
          replace BK294 : Aside0 (w130.heap[gb294]? = some (.cells #[.int .i64 t291, .int .i64 t292] 23 (0, 0))) := ⟨h7_⟩
          replace BK298 : Aside0 (w130.heap[gb298]? = some (.cells #[.int .i64 t295, .int .i64 t296] 23 (0, 0))) := ⟨h8_⟩
          replace BK302 : Aside0 (w130.heap[gb302]? = some (.cells #[.int .i64 t299, .int .i64 t300] 23 (0, 0))) := ⟨h9_⟩
          replace BK305 : Aside0 (w130.heap[gb305]? = some (.cells #[.int .i64 t303, .int .i64 t304] 23 (0, 0))) := ⟨h10_⟩
          replace BK312 : Aside0 (w130.heap[gb312]? = some (.cells #[.int .i64 t310, .int .i64 t311] 23 (0, 0))) := ⟨h11_⟩
          have BK324 : Aside0 (w130.heap[gb324]? = some (.cells #[.int .i64 0, .int .i64 0] 23 (0, 0))) := ⟨h12_⟩
          have GW324 : Aside0 (w.heap.size ≤ gb324) := ⟨h13_⟩
          have GE324 : Aside0 (w.heap.size ≤ gb324) := ⟨h14_⟩
          have NB275_324 : Aside0 (gb275 ≠ gb324) := ⟨h15_⟩
          have NB324_275 : Aside0 (gb324 ≠ gb275) := ⟨h16_⟩
          have NB276_324 : Aside0 (gb276 ≠ gb324) := ⟨h17_⟩
          have NB324_276 : Aside0 (gb324 ≠ gb276) := ⟨h18_⟩
          have NB277_324 : Aside0 (gb277 ≠ gb324) := ⟨h19_⟩
          have NB324_277 : Aside0 (gb324 ≠ gb277) := ⟨h20_⟩
          have NB278_324 : Aside0 (gb278 ≠ gb324) := ⟨h21_⟩
          have NB324_278 : Aside0 (gb324 ≠ gb278) := ⟨h22_⟩
          have NB282_324 : Aside0 (gb282 ≠ gb324) := ⟨h23_⟩
          have NB324_282 : Aside0 (gb324 ≠ gb282) := ⟨h24_⟩
          have NB286_324 : Aside0 (gb286 ≠ gb324) := ⟨h25_⟩
          have NB324_286 : Aside0 (gb324 ≠ gb286) := ⟨h26_⟩
          have NB290_324 : Aside0 (gb290 ≠ gb324) := ⟨h27_⟩
          have NB324_290 : Aside0 (gb324 ≠ gb290) := ⟨h28_⟩
          have NB294_324 : Aside0 (gb294 ≠ gb324) := ⟨h29_⟩
          have NB324_294 : Aside0 (gb324 ≠ gb294) := ⟨h30_⟩
          have NB298_324 : Aside0 (gb298 ≠ gb324) := ⟨h31_⟩
          have NB324_298 : Aside0 (gb324 ≠ gb298) := ⟨h32_⟩
          have NB302_324 : Aside0 (gb302 ≠ gb324) := ⟨h33_⟩
          have NB324_302 : Aside0 (gb324 ≠ gb302) := ⟨h34_⟩
          have NB305_324 : Aside0 (gb305 ≠ gb324) := ⟨h35_⟩
          have NB324_305 : Aside0 (gb324 ≠ gb305) := ⟨h36_⟩
          have NB312_324 : Aside0 (gb312 ≠ gb324) := ⟨h37_⟩
          have NB324_312 : Aside0 (gb324 ≠ gb312) := ⟨h38_⟩
          replace HB : Aside0 (Below w.heap.size w w130) := ⟨h39_⟩
          clear h0_ h1_ h2_ h3_ h4_ h5_ h6_ h7_ h8_ h9_ h10_ h11_ h12_ h13_ h14_ h15_ h16_ h17_ h18_ h19_ h20_ h21_ h22_ h23_ h24_ h25_ h26_ h27_ h28_ h29_ h30_ h31_ h32_ h33_ h34_ h35_ h36_ h37_ h38_ h39_
          have hHeld : w130.cell? ⟨gb305, 0, none⟩ = some (.int .i64 t303) ∧ w130.cell? ⟨gb305, 1, none⟩ = some (.int .i64 t304) ∧ w130.cell? ⟨gb286, 0, none⟩ = some (.int .i64 t283) ∧ w130.cell? ⟨gb286, 1, none⟩ = some (.int .i64 t284) ∧ w130.cell? ⟨gb298, 0, none⟩ = some (.int .i64 t295) ∧ w130.cell? ⟨gb298, 1, none⟩ = some (.int .i64 t296) ∧ w130.cell? ⟨gb282, 0, none⟩ = some (.int .i64 t279) ∧ w130.cell? ⟨gb282, 1, none⟩ = some (.int .i64 t280) ∧ w130.cell? ⟨gb302, 0, none⟩ = some (.int .i64 t299) ∧ w130.cell? ⟨gb302, 1, none⟩ = some (.int .i64 t300) ∧ w130.cell? ⟨gb294, 0, none⟩ = some (.int .i64 t291) ∧ w130.cell? ⟨gb294, 1, none⟩ = some (.int .i64 t292) := hS_
          refine norm_ (a' := ?_) ?_ ?_
          rotate_left
          ·
           simp only [putAll, Act.put, List.setIfInBounds_toArray, List.set_cons_zero, List.set_cons_succ]
           rfl
          refine one_ (i := 9) (N := some 100) #[true, true, true, true, true, true, true, true, true, true, false, false, false, false, true, false, false] rfl rfl (one_of HT_.out (by kernel_rfl)) (by decide) (fun K hK => ?_)
          refine goes_ Try.func61 (by kernel_rfl) rfl #[.agg #[.int .i64 t299, .int .i64 t300], .agg #[.int .i64 t291, .int .i64 t292]] (by rfl) rfl rfl (by (try simp only [List.map_toArray, List.map_cons, List.map_nil]); first | done | rfl | (simp only [List.length_drop, List.length_take]; rfl)) ?_
          with_reducible refine (sun_Unit.calls t299 t300 t291 t292 t319 t320 _ A31.out).mono ?_
          rintro e w131 ⟨rfl, hb⟩
          refine ⟨_, rfl, ?_⟩
          replace BK275 := nx_ BK275 hb
          replace BK276 := nx_ BK276 hb
          replace BK277 := nx_ BK277 hb
          replace BK278 := nx_ BK278 hb
          replace BK282 := nx_ BK282 hb
          replace BK286 := nx_ BK286 hb
          replace BK290 := nx_ BK290 hb
          replace BK294 := nx_ BK294 hb
          replace BK298 := nx_ BK298 hb
          replace BK302 := nx_ BK302 hb
          replace BK305 := nx_ BK305 hb
          replace BK312 := nx_ BK312 hb
          replace BK324 := nx_ BK324 hb
          replace HB := hx_ HB hb
          (try clear hb)
          (try clear hb2)
          (try clear hk)
          (try clear hi)
          refine hK.out _ _ ⟨(blk_cell BK305.out 0).trans rfl, (blk_cell BK305.out 1).trans rfl, (blk_cell BK286.out 0).trans rfl, (blk_cell BK286.out 1).trans rfl, (blk_cell BK298.out 0).trans rfl, (blk_cell BK298.out 1).trans rfl, (blk_cell BK282.out 0).trans rfl, (blk_cell BK282.out 1).trans rfl, (blk_cell BK302.out 0).trans rfl, (blk_cell BK302.out 1).trans rfl, (blk_cell BK294.out 0).trans rfl, (blk_cell BK294.out 1).trans rfl⟩ (fun hHeld => ?_)
          clear hK K
          refine norm_ (a' := ?_) ?_ ?_
          rotate_left
          ·
           show Act.put _ (some 100) _ = _
           simp only [Act.put, List.setIfInBounds_toArray, List.set_cons_zero, List.set_cons_succ, i64_w, i32_w]
           rfl
          exact norm_ (by (simp only [putAll, Act.put, List.setIfInBounds_toArray, List.set_cons_zero, List.set_cons_succ]) <;> rfl) (hJ2_5_6_9_14 (gb324) _ ⟨hHeld, (gr_ BK275.out), (gr_ BK276.out), (gr_ BK277.out), (gr_ BK278.out), (gr_ BK282.out), (gr_ BK286.out), (gr_ BK290.out), (gr_ BK294.out), (gr_ BK298.out), (gr_ BK302.out), (gr_ BK305.out), (gr_ BK312.out), (gr_ BK324.out), GW324.out, GE324.out, NB275_324.out, NB324_275.out, NB276_324.out, NB324_276.out, NB277_324.out, NB324_277.out, NB278_324.out, NB324_278.out, NB282_324.out, NB324_282.out, NB286_324.out, NB324_286.out, NB290_324.out, NB324_290.out, NB294_324.out, NB324_294.out, NB298_324.out, NB324_298.out, NB302_324.out, NB324_302.out, NB305_324.out, NB324_305.out, NB312_324.out, NB324_312.out, (by repeat (first | (with_reducible first | exact HB.out | apply below_alloc | apply pw_below_drewN | apply below_drew1 | refine below_set ?_ GE275.out | refine below_set ?_ GE276.out | refine below_set ?_ GE277.out | refine below_set ?_ GE278.out | refine below_set ?_ GE282.out | refine below_set ?_ GE286.out | refine below_set ?_ GE290.out | refine below_set ?_ GE294.out | refine below_set ?_ GE298.out | refine below_set ?_ GE302.out | refine below_set ?_ GE305.out | refine below_set ?_ GE312.out | refine below_set ?_ GE324.out) | exact HB.out))⟩)
        ·
         skip
         rintro _ w130 ⟨hS_, h0_, h1_, h2_, h3_, h4_, h5_, h6_, h7_, h8_, h9_, h10_, h11_, h12_⟩
         replace BK275 : Aside0 (w130.heap[gb275]? = some (.cells #[.int .i64 a0_0, .int .i64 a0_1] 23 (0, 0))) := ⟨h0_⟩
         replace BK276 : Aside0 (w130.heap[gb276]? = some (.cells #[.int .i64 a1_0, .int .i64 a1_1] 23 (0, 0))) := ⟨h1_⟩
         replace BK277 : Aside0 (w130.heap[gb277]? = some (.cells #[.int .i64 0, .int .i64 0] 23 (0, 0))) := ⟨h2_⟩
         replace BK278 : Aside0 (w130.heap[gb278]? = some (.cells #[.int .i64 0, .int .i64 0] 23 (0, 0))) := ⟨h3_⟩
         replace BK282 : Aside0 (w130.heap[gb282]? = some (.cells #[.int .i64 t279, .int .i64 t280] 23 (0, 0))) := ⟨h4_⟩
         replace BK286 : Aside0 (w130.heap[gb286]? = some (.cells #[.int .i64 t283, .int .i64 t284] 23 (0, 0))) := ⟨h5_⟩
         replace BK290 : Aside0 (w130.heap[gb290]? = some (.cells #[.int .i64 t287, .int .i64 t288] 23 (0, 0))) := ⟨h6_⟩
         replace BK294 : Aside0 (w130.heap[gb294]? = some (.cells #[.int .i64 t291, .int .i64 t292] 23 (0, 0))) := ⟨h7_⟩
         replace BK298 : Aside0 (w130.heap[gb298]? = some (.cells #[.int .i64 t295, .int .i64 t296] 23 (0, 0))) := ⟨h8_⟩
         replace BK302 : Aside0 (w130.heap[gb302]? = some (.cells #[.int .i64 t299, .int .i64 t300] 23 (0, 0))) := ⟨h9_⟩
         replace BK305 : Aside0 (w130.heap[gb305]? = some (.cells #[.int .i64 t303, .int .i64 t304] 23 (0, 0))) := ⟨h10_⟩
         replace BK312 : Aside0 (w130.heap[gb312]? = some (.cells #[.int .i64 t310, .int .i64 t311] 23 (0, 0))) := ⟨h11_⟩
         replace HB : Aside0 (Below w.heap.size w w130) := ⟨h12_⟩
         clear h0_ h1_ h2_ h3_ h4_ h5_ h6_ h7_ h8_ h9_ h10_ h11_ h12_
         have hHeld : w130.cell? ⟨gb305, 0, none⟩ = some (.int .i64 t303) ∧ w130.cell? ⟨gb305, 1, none⟩ = some (.int .i64 t304) ∧ w130.cell? ⟨gb286, 0, none⟩ = some (.int .i64 t283) ∧ w130.cell? ⟨gb286, 1, none⟩ = some (.int .i64 t284) ∧ w130.cell? ⟨gb298, 0, none⟩ = some (.int .i64 t295) ∧ w130.cell? ⟨gb298, 1, none⟩ = some (.int .i64 t296) ∧ w130.cell? ⟨gb282, 0, none⟩ = some (.int .i64 t279) ∧ w130.cell? ⟨gb282, 1, none⟩ = some (.int .i64 t280) ∧ w130.cell? ⟨gb302, 0, none⟩ = some (.int .i64 t299) ∧ w130.cell? ⟨gb302, 1, none⟩ = some (.int .i64 t300) ∧ w130.cell? ⟨gb294, 0, none⟩ = some (.int .i64 t291) ∧ w130.cell? ⟨gb294, 1, none⟩ = some (.int .i64 t292) := hS_
         refine norm_ (a' := ?_) ?_ ?_
         rotate_left
         ·
          simp only [putAll, Act.put, List.setIfInBounds_toArray, List.set_cons_zero, List.set_cons_succ]
          rfl
         refine two_ (i := 10) (j := 14) (Ni := some 101) (Nj := some 24) #[true, true, true, true, true, true, true, true, true, true, true, false, false, false, false, false, false] #[true, true, true, true, true, true, true, true, true, true, false, false, false, false, true, false, false] rfl rfl rfl rfl (two_of HT_.out (by kernel_rfl)) (by decide) (by decide) (fun K hK => ?_) (fun K hK => ?_)
         ·
          skip
          refine goes_ Try.func20 (by kernel_rfl) rfl #[.agg #[.int .i64 t317, .int .i64 t318], .agg #[.int .i64 t319, .int .i64 t320]] (by rfl) rfl rfl (by (try simp only [List.map_toArray, List.map_cons, List.map_nil]); first | done | rfl | (simp only [List.length_drop, List.length_take]; rfl)) ?_
          with_reducible refine (trig_Arc.calls kj2 t317 t318 t319 t320 t321 t322 t323 _ A32.out).mono ?_
          rintro e w131 ⟨rfl, hb⟩
          refine ⟨_, rfl, ?_⟩
          replace BK275 := nx_ BK275 hb
          replace BK276 := nx_ BK276 hb
          replace BK277 := nx_ BK277 hb
          replace BK278 := nx_ BK278 hb
          replace BK282 := nx_ BK282 hb
          replace BK286 := nx_ BK286 hb
          replace BK290 := nx_ BK290 hb
          replace BK294 := nx_ BK294 hb
          replace BK298 := nx_ BK298 hb
          replace BK302 := nx_ BK302 hb
          replace BK305 := nx_ BK305 hb
          replace BK312 := nx_ BK312 hb
          replace HB := hx_ HB hb
          (try clear hb)
          (try clear hb2)
          (try clear hk)
          (try clear hi)
          refine hK.out _ _ ⟨(blk_cell BK305.out 0).trans rfl, (blk_cell BK305.out 1).trans rfl, (blk_cell BK286.out 0).trans rfl, (blk_cell BK286.out 1).trans rfl, (blk_cell BK298.out 0).trans rfl, (blk_cell BK298.out 1).trans rfl, (blk_cell BK282.out 0).trans rfl, (blk_cell BK282.out 1).trans rfl, (blk_cell BK302.out 0).trans rfl, (blk_cell BK302.out 1).trans rfl, (blk_cell BK294.out 0).trans rfl, (blk_cell BK294.out 1).trans rfl⟩ (fun hHeld => ?_)
          clear hK K
          refine norm_ (a' := ?_) ?_ ?_
          rotate_left
          ·
           show Act.put _ (some 101) _ = _
           simp only [Act.put, List.setIfInBounds_toArray, List.set_cons_zero, List.set_cons_succ, i64_w, i32_w]
           rfl
          refine pure_ (i := 11) (N := some 90) (v := ?_) (a' := ?_) #[true, true, true, true, true, true, true, true, true, true, true, true, false, false, false, false, false] rfl rfl (any_of HT_.out (by kernel_rfl)) (fun _ _ _ h => h) (Or.inl ⟨by rfl, ?_⟩) ?_ ?_
          rotate_left
          ·
           intro w'
           go_simp
           with_reducible rfl
          rotate_left
          ·
           simp only [Act.put, List.setIfInBounds_toArray, List.set_cons_zero, List.set_cons_succ, i64_w, i32_w]
           rfl
          refine pure_ (i := 12) (N := some 102) (v := ?_) (a' := ?_) #[true, true, true, true, true, true, true, true, true, true, true, true, true, false, false, false, false] rfl rfl (any_of HT_.out (by kernel_rfl)) (fun _ _ _ h => h) (Or.inl ⟨by rfl, ?_⟩) ?_ ?_
          rotate_left
          ·
           intro w'
           go_simp
           with_reducible rfl
          rotate_left
          ·
           simp only [Act.put, List.setIfInBounds_toArray, List.set_cons_zero, List.set_cons_succ, i64_w, i32_w]
           rfl
          refine pure_ (i := 13) (N := some 103) (v := ?_) (a' := ?_) #[true, true, true, true, true, true, true, true, true, true, true, true, true, true, false, false, false] rfl rfl (any_of HT_.out (by kernel_rfl)) (fun _ _ _ h => h) (Or.inl ⟨by rfl, ?_⟩) ?_ ?_
          rotate_left
          ·
           intro w'
           go_simp
           with_reducible rfl
          rotate_left
          ·
           simp only [Act.put, List.setIfInBounds_toArray, List.set_cons_zero, List.set_cons_succ, i64_w, i32_w]
           rfl
          exact norm_ (by (simp only [putAll, Act.put, List.setIfInBounds_toArray, List.set_cons_zero, List.set_cons_succ]) <;> rfl) (hJ2_5_6_9_10 () _ ⟨hHeld, (gr_ BK275.out), (gr_ BK276.out), (gr_ BK277.out), (gr_ BK278.out), (gr_ BK282.out), (gr_ BK286.out), (gr_ BK290.out), (gr_ BK294.out), (gr_ BK298.out), (gr_ BK302.out), (gr_ BK305.out), (gr_ BK312.out), (by repeat (first | (with_reducible first | exact HB.out | apply below_alloc | apply pw_below_drewN | apply below_drew1 | refine below_set ?_ GE275.out | refine below_set ?_ GE276.out | refine below_set ?_ GE277.out | refine below_set ?_ GE278.out | refine below_set ?_ GE282.out | refine below_set ?_ GE286.out | refine below_set ?_ GE290.out | refine below_set ?_ GE294.out | refine below_set ?_ GE298.out | refine below_set ?_ GE302.out | refine below_set ?_ GE305.out | refine below_set ?_ GE312.out) | exact HB.out))⟩)
         ·
          skip
          refine box_step ?hg (N := 24) ?hd (cs := #[.int .i64 0, .int .i64 0]) (t := 23) ?hr ?_; (case hd => rfl); (case hg => rfl); (case hr => first | (go_simp; done) | (go_simp; rfl))
          intro gb324 hg w131 hbox hb
          have BK324 := Aside0.mk hbox
          have GW324 := ge_ (hb_ HB.out) hg
          have GE324 := ge_ (hb_ HB.out) hg
          have NB275_324 := nb_ (gr_ BK275.out) hg
          have NB324_275 := bn_ (gr_ BK275.out) hg
          have NB276_324 := nb_ (gr_ BK276.out) hg
          have NB324_276 := bn_ (gr_ BK276.out) hg
          have NB277_324 := nb_ (gr_ BK277.out) hg
          have NB324_277 := bn_ (gr_ BK277.out) hg
          have NB278_324 := nb_ (gr_ BK278.out) hg
          have NB324_278 := bn_ (gr_ BK278.out) hg
          have NB282_324 := nb_ (gr_ BK282.out) hg
          have NB324_282 := bn_ (gr_ BK282.out) hg
          have NB286_324 := nb_ (gr_ BK286.out) hg
          have NB324_286 := bn_ (gr_ BK286.out) hg
          have NB290_324 := nb_ (gr_ BK290.out) hg
          have NB324_290 := bn_ (gr_ BK290.out) hg
          have NB294_324 := nb_ (gr_ BK294.out) hg
          have NB324_294 := bn_ (gr_ BK294.out) hg
          have NB298_324 := nb_ (gr_ BK298.out) hg
          have NB324_298 := bn_ (gr_ BK298.out) hg
          have NB302_324 := nb_ (gr_ BK302.out) hg
          have NB324_302 := bn_ (gr_ BK302.out) hg
          have NB305_324 := nb_ (gr_ BK305.out) hg
          have NB324_305 := bn_ (gr_ BK305.out) hg
          have NB312_324 := nb_ (gr_ BK312.out) hg
          have NB324_312 := bn_ (gr_ BK312.out) hg
          replace BK275 := nx_ BK275 hb
          replace BK276 := nx_ BK276 hb
          replace BK277 := nx_ BK277 hb
          replace BK278 := nx_ BK278 hb
          replace BK282 := nx_ BK282 hb
          replace BK286 := nx_ BK286 hb
          replace BK290 := nx_ BK290 hb
          replace BK294 := nx_ BK294 hb
          replace BK298 := nx_ BK298 hb
          replace BK302 := nx_ BK302 hb
          replace BK305 := nx_ BK305 hb
          replace BK312 := nx_ BK312 hb
          replace HB := hx_ HB hb
          clear hb hbox hg
          refine hK.out _ _ ⟨(blk_cell BK305.out 0).trans rfl, (blk_cell BK305.out 1).trans rfl, (blk_cell BK286.out 0).trans rfl, (blk_cell BK286.out 1).trans rfl, (blk_cell BK298.out 0).trans rfl, (blk_cell BK298.out 1).trans rfl, (blk_cell BK282.out 0).trans rfl, (blk_cell BK282.out 1).trans rfl, (blk_cell BK302.out 0).trans rfl, (blk_cell BK302.out 1).trans rfl, (blk_cell BK294.out 0).trans rfl, (blk_cell BK294.out 1).trans rfl⟩ (fun hHeld => ?_)
          clear hK K
          refine norm_ (a' := ?_) ?_ ?_
          rotate_left
          ·
           show Act.put _ (some 24) _ = _
           simp only [Act.put, List.setIfInBounds_toArray, List.set_cons_zero, List.set_cons_succ, i64_w, i32_w]
           rfl
          exact norm_ (by (simp only [putAll, Act.put, List.setIfInBounds_toArray, List.set_cons_zero, List.set_cons_succ]) <;> rfl) (hJ2_5_6_9_14 (gb324) _ ⟨hHeld, (gr_ BK275.out), (gr_ BK276.out), (gr_ BK277.out), (gr_ BK278.out), (gr_ BK282.out), (gr_ BK286.out), (gr_ BK290.out), (gr_ BK294.out), (gr_ BK298.out), (gr_ BK302.out), (gr_ BK305.out), (gr_ BK312.out), (gr_ BK324.out), GW324.out, GE324.out, NB275_324.out, NB324_275.out, NB276_324.out, NB324_276.out, NB277_324.out, NB324_277.out, NB278_324.out, NB324_278.out, NB282_324.out, NB324_282.out, NB286_324.out, NB324_286.out, NB290_324.out, NB324_290.out, NB294_324.out, NB324_294.out, NB298_324.out, NB324_298.out, NB302_324.out, NB324_302.out, NB305_324.out, NB324_305.out, NB312_324.out, NB324_312.out, (by repeat (first | (with_reducible first | exact HB.out | apply below_alloc | apply pw_below_drewN | apply below_drew1 | refine below_set ?_ GE275.out | refine below_set ?_ GE276.out | refine below_set ?_ GE277.out | refine below_set ?_ GE278.out | refine below_set ?_ GE282.out | refine below_set ?_ GE286.out | refine below_set ?_ GE290.out | refine below_set ?_ GE294.out | refine below_set ?_ GE298.out | refine below_set ?_ GE302.out | refine below_set ?_ GE305.out | refine below_set ?_ GE312.out | refine below_set ?_ GE324.out) | exact HB.out))⟩)
       ·
        skip
        rintro gb324 w131 ⟨hS_, h0_, h1_, h2_, h3_, h4_, h5_, h6_, h7_, h8_, h9_, h10_, h11_, h12_, h13_, h14_, h15_, h16_, h17_, h18_, h19_, h20_, h21_, h22_, h23_, h24_, h25_, h26_, h27_, h28_, h29_, h30_, h31_, h32_, h33_, h34_, h35_, h36_, h37_, h38_, h39_⟩
        replace BK275 : Aside0 (w131.heap[gb275]? = some (.cells #[.int .i64 a0_0, .int .i64 a0_1] 23 (0, 0))) := ⟨h0_⟩
        replace BK276 : Aside0 (w131.heap[gb276]? = some (.cells #[.int .i64 a1_0, .int .i64 a1_1] 23 (0, 0))) := ⟨h1_⟩
        replace BK277 : Aside0 (w131.heap[gb277]? = some (.cells #[.int .i64 0, .int .i64 0] 23 (0, 0))) := ⟨h2_⟩
        replace BK278 : Aside0 (w131.heap[gb278]? = some (.cells #[.int .i64 0, .int .i64 0] 23 (0, 0))) := ⟨h3_⟩
        replace BK282 : Aside0 (w131.heap[gb282]? = some (.cells #[.int .i64 t279, .int .i64 t280] 23 (0, 0))) := ⟨h4_⟩
        replace BK286 : Aside0 (w131.heap[gb286]? = some (.cells #[.int .i64 t283, .int .i64 t284] 23 (0, 0))) := ⟨h5_⟩
        replace BK290 : Aside0 (w131.heap[gb290]? = some (.cells #[.int .i64 t287, .int .i64 t288] 23 (0, 0))) := ⟨h6_⟩
        replace BK294 : Aside0 (w131.heap[gb294]? = some (.cells #[.int .i64 t291, .int .i64 t292] 23 (0, 0))) := ⟨h7_⟩
        replace BK298 : Aside0 (w131.heap[gb298]? = some (.cells #[.int .i64 t295, .int .i64 t296] 23 (0, 0))) := ⟨h8_⟩
        replace BK302 : Aside0 (w131.heap[gb302]? = some (.cells #[.int .i64 t299, .int .i64 t300] 23 (0, 0))) := ⟨h9_⟩
        replace BK305 : Aside0 (w131.heap[gb305]? = some (.cells #[.int .i64 t303, .int .i64 t304] 23 (0, 0))) := ⟨h10_⟩
        replace BK312 : Aside0 (w131.heap[gb312]? = some (.cells #[.int .i64 t310, .int .i64 t311] 23 (0, 0))) := ⟨h11_⟩
        have BK324 : Aside0 (w131.heap[gb324]? = some (.cells #[.int .i64 0, .int .i64 0] 23 (0, 0))) := ⟨h12_⟩
        have GW324 : Aside0 (w.heap.size ≤ gb324) := ⟨h13_⟩
        have GE324 : Aside0 (w.heap.size ≤ gb324) := ⟨h14_⟩
        have NB275_324 : Aside0 (gb275 ≠ gb324) := ⟨h15_⟩
        have NB324_275 : Aside0 (gb324 ≠ gb275) := ⟨h16_⟩
        have NB276_324 : Aside0 (gb276 ≠ gb324) := ⟨h17_⟩
        have NB324_276 : Aside0 (gb324 ≠ gb276) := ⟨h18_⟩
        have NB277_324 : Aside0 (gb277 ≠ gb324) := ⟨h19_⟩
        have NB324_277 : Aside0 (gb324 ≠ gb277) := ⟨h20_⟩
        have NB278_324 : Aside0 (gb278 ≠ gb324) := ⟨h21_⟩
        have NB324_278 : Aside0 (gb324 ≠ gb278) := ⟨h22_⟩
        have NB282_324 : Aside0 (gb282 ≠ gb324) := ⟨h23_⟩
        have NB324_282 : Aside0 (gb324 ≠ gb282) := ⟨h24_⟩
        have NB286_324 : Aside0 (gb286 ≠ gb324) := ⟨h25_⟩
        have NB324_286 : Aside0 (gb324 ≠ gb286) := ⟨h26_⟩
        have NB290_324 : Aside0 (gb290 ≠ gb324) := ⟨h27_⟩
        have NB324_290 : Aside0 (gb324 ≠ gb290) := ⟨h28_⟩
        have NB294_324 : Aside0 (gb294 ≠ gb324) := ⟨h29_⟩
        have NB324_294 : Aside0 (gb324 ≠ gb294) := ⟨h30_⟩
        have NB298_324 : Aside0 (gb298 ≠ gb324) := ⟨h31_⟩
        have NB324_298 : Aside0 (gb324 ≠ gb298) := ⟨h32_⟩
        have NB302_324 : Aside0 (gb302 ≠ gb324) := ⟨h33_⟩
        have NB324_302 : Aside0 (gb324 ≠ gb302) := ⟨h34_⟩
        have NB305_324 : Aside0 (gb305 ≠ gb324) := ⟨h35_⟩
        have NB324_305 : Aside0 (gb324 ≠ gb305) := ⟨h36_⟩
        have NB312_324 : Aside0 (gb312 ≠ gb324) := ⟨h37_⟩
        have NB324_312 : Aside0 (gb324 ≠ gb312) := ⟨h38_⟩
        replace HB : Aside0 (Below w.heap.size w w131) := ⟨h39_⟩
        clear h0_ h1_ h2_ h3_ h4_ h5_ h6_ h7_ h8_ h9_ h10_ h11_ h12_ h13_ h14_ h15_ h16_ h17_ h18_ h19_ h20_ h21_ h22_ h23_ h24_ h25_ h26_ h27_ h28_ h29_ h30_ h31_ h32_ h33_ h34_ h35_ h36_ h37_ h38_ h39_
        have hHeld : w131.cell? ⟨gb305, 0, none⟩ = some (.int .i64 t303) ∧ w131.cell? ⟨gb305, 1, none⟩ = some (.int .i64 t304) ∧ w131.cell? ⟨gb286, 0, none⟩ = some (.int .i64 t283) ∧ w131.cell? ⟨gb286, 1, none⟩ = some (.int .i64 t284) ∧ w131.cell? ⟨gb298, 0, none⟩ = some (.int .i64 t295) ∧ w131.cell? ⟨gb298, 1, none⟩ = some (.int .i64 t296) ∧ w131.cell? ⟨gb282, 0, none⟩ = some (.int .i64 t279) ∧ w131.cell? ⟨gb282, 1, none⟩ = some (.int .i64 t280) ∧ w131.cell? ⟨gb302, 0, none⟩ = some (.int .i64 t299) ∧ w131.cell? ⟨gb302, 1, none⟩ = some (.int .i64 t300) ∧ w131.cell? ⟨gb294, 0, none⟩ = some (.int .i64 t291) ∧ w131.cell? ⟨gb294, 1, none⟩ = some (.int .i64 t292) := hS_
        refine norm_ (a' := ?_) ?_ ?_
        rotate_left
        ·
         simp only [putAll, Act.put, List.setIfInBounds_toArray, List.set_cons_zero, List.set_cons_succ]
         rfl
        refine one_ (i := 10) (N := some 101) #[true, true, true, true, true, true, true, true, true, true, true, false, false, false, true, false, false] rfl rfl (one_of HT_.out (by kernel_rfl)) (by decide) (fun K hK => ?_)
        refine goes_ Try.func20 (by kernel_rfl) rfl #[.agg #[.int .i64 t317, .int .i64 t318], .agg #[.int .i64 t319, .int .i64 t320]] (by rfl) rfl rfl (by (try simp only [List.map_toArray, List.map_cons, List.map_nil]); first | done | rfl | (simp only [List.length_drop, List.length_take]; rfl)) ?_
        with_reducible refine (trig_Arc.calls kj2 t317 t318 t319 t320 t321 t322 t323 _ A32.out).mono ?_
        rintro e w132 ⟨rfl, hb⟩
        refine ⟨_, rfl, ?_⟩
        replace BK275 := nx_ BK275 hb
        replace BK276 := nx_ BK276 hb
        replace BK277 := nx_ BK277 hb
        replace BK278 := nx_ BK278 hb
        replace BK282 := nx_ BK282 hb
        replace BK286 := nx_ BK286 hb
        replace BK290 := nx_ BK290 hb
        replace BK294 := nx_ BK294 hb
        replace BK298 := nx_ BK298 hb
        replace BK302 := nx_ BK302 hb
        replace BK305 := nx_ BK305 hb
        replace BK312 := nx_ BK312 hb
        replace BK324 := nx_ BK324 hb
        replace HB := hx_ HB hb
        (try clear hb)
        (try clear hb2)
        (try clear hk)
        (try clear hi)
        refine hK.out _ _ ⟨(blk_cell BK305.out 0).trans rfl, (blk_cell BK305.out 1).trans rfl, (blk_cell BK286.out 0).trans rfl, (blk_cell BK286.out 1).trans rfl, (blk_cell BK298.out 0).trans rfl, (blk_cell BK298.out 1).trans rfl, (blk_cell BK282.out 0).trans rfl, (blk_cell BK282.out 1).trans rfl, (blk_cell BK302.out 0).trans rfl, (blk_cell BK302.out 1).trans rfl, (blk_cell BK294.out 0).trans rfl, (blk_cell BK294.out 1).trans rfl⟩ (fun hHeld => ?_)
        clear hK K
        refine norm_ (a' := ?_) ?_ ?_
        rotate_left
        ·
         show Act.put _ (some 101) _ = _
         simp only [Act.put, List.setIfInBounds_toArray, List.set_cons_zero, List.set_cons_succ, i64_w, i32_w]
         rfl
        refine pure_ (i := 11) (N := some 90) (v := ?_) (a' := ?_) #[true, true, true, true, true, true, true, true, true, true, true, true, false, false, true, false, false] rfl rfl (any_of HT_.out (by kernel_rfl)) (fun _ _ _ h => h) (Or.inl ⟨by rfl, ?_⟩) ?_ ?_
        rotate_left
        ·
         intro w'
         go_simp
         with_reducible rfl
        rotate_left
        ·
         simp only [Act.put, List.setIfInBounds_toArray, List.set_cons_zero, List.set_cons_succ, i64_w, i32_w]
         rfl
        refine pure_ (i := 12) (N := some 102) (v := ?_) (a' := ?_) #[true, true, true, true, true, true, true, true, true, true, true, true, true, false, true, false, false] rfl rfl (any_of HT_.out (by kernel_rfl)) (fun _ _ _ h => h) (Or.inl ⟨by rfl, ?_⟩) ?_ ?_
        rotate_left
        ·
         intro w'
         go_simp
         with_reducible rfl
        rotate_left
        ·
         simp only [Act.put, List.setIfInBounds_toArray, List.set_cons_zero, List.set_cons_succ, i64_w, i32_w]
         rfl
        refine pure_ (i := 13) (N := some 103) (v := ?_) (a' := ?_) #[true, true, true, true, true, true, true, true, true, true, true, true, true, true, true, false, false] rfl rfl (any_of HT_.out (by kernel_rfl)) (fun _ _ _ h => h) (Or.inl ⟨by rfl, ?_⟩) ?_ ?_
        rotate_left
        ·
         intro w'
         go_simp
         with_reducible rfl
        rotate_left
        ·
         simp only [Act.put, List.setIfInBounds_toArray, List.set_cons_zero, List.set_cons_succ, i64_w, i32_w]
         rfl
        exact norm_ (by (simp only [putAll, Act.put, List.setIfInBounds_toArray, List.set_cons_zero, List.set_cons_succ]) <;> rfl) (hJ2_5_6_9_10_14 (gb324) _ ⟨hHeld, (gr_ BK275.out), (gr_ BK276.out), (gr_ BK277.out), (gr_ BK278.out), (gr_ BK282.out), (gr_ BK286.out), (gr_ BK290.out), (gr_ BK294.out), (gr_ BK298.out), (gr_ BK302.out), (gr_ BK305.out), (gr_ BK312.out), (gr_ BK324.out), GW324.out, GE324.out, NB275_324.out, NB324_275.out, NB276_324.out, NB324_276.out, NB277_324.out, NB324_277.out, NB278_324.out, NB324_278.out, NB282_324.out, NB324_282.out, NB286_324.out, NB324_286.out, NB290_324.out, NB324_290.out, NB294_324.out, NB324_294.out, NB298_324.out, NB324_298.out, NB302_324.out, NB324_302.out, NB305_324.out, NB324_305.out, NB312_324.out, NB324_312.out, (by repeat (first | (with_reducible first | exact HB.out | apply below_alloc | apply pw_below_drewN | apply below_drew1 | refine below_set ?_ GE275.out | refine below_set ?_ GE276.out | refine below_set ?_ GE277.out | refine below_set ?_ GE278.out | refine below_set ?_ GE282.out | refine below_set ?_ GE286.out | refine below_set ?_ GE290.out | refine below_set ?_ GE294.out | refine below_set ?_ GE298.out | refine below_set ?_ GE302.out | refine below_set ?_ GE305.out | refine below_set ?_ GE312.out | refine below_set ?_ GE324.out) | exact HB.out))⟩)
      ·
       skip
       rintro _ w131 ⟨hS_, h0_, h1_, h2_, h3_, h4_, h5_, h6_, h7_, h8_, h9_, h10_, h11_, h12_⟩
       replace BK275 : Aside0 (w131.heap[gb275]? = some (.cells #[.int .i64 a0_0, .int .i64 a0_1] 23 (0, 0))) := ⟨h0_⟩
       replace BK276 : Aside0 (w131.heap[gb276]? = some (.cells #[.int .i64 a1_0, .int .i64 a1_1] 23 (0, 0))) := ⟨h1_⟩
       replace BK277 : Aside0 (w131.heap[gb277]? = some (.cells #[.int .i64 0, .int .i64 0] 23 (0, 0))) := ⟨h2_⟩
       replace BK278 : Aside0 (w131.heap[gb278]? = some (.cells #[.int .i64 0, .int .i64 0] 23 (0, 0))) := ⟨h3_⟩
       replace BK282 : Aside0 (w131.heap[gb282]? = some (.cells #[.int .i64 t279, .int .i64 t280] 23 (0, 0))) := ⟨h4_⟩
       replace BK286 : Aside0 (w131.heap[gb286]? = some (.cells #[.int .i64 t283, .int .i64 t284] 23 (0, 0))) := ⟨h5_⟩
       replace BK290 : Aside0 (w131.heap[gb290]? = some (.cells #[.int .i64 t287, .int .i64 t288] 23 (0, 0))) := ⟨h6_⟩
       replace BK294 : Aside0 (w131.heap[gb294]? = some (.cells #[.int .i64 t291, .int .i64 t292] 23 (0, 0))) := ⟨h7_⟩
       replace BK298 : Aside0 (w131.heap[gb298]? = some (.cells #[.int .i64 t295, .int .i64 t296] 23 (0, 0))) := ⟨h8_⟩
       replace BK302 : Aside0 (w131.heap[gb302]? = some (.cells #[.int .i64 t299, .int .i64 t300] 23 (0, 0))) := ⟨h9_⟩
       replace BK305 : Aside0 (w131.heap[gb305]? = some (.cells #[.int .i64 t303, .int .i64 t304] 23 (0, 0))) := ⟨h10_⟩
       replace BK312 : Aside0 (w131.heap[gb312]? = some (.cells #[.int .i64 t310, .int .i64 t311] 23 (0, 0))) := ⟨h11_⟩
       replace HB : Aside0 (Below w.heap.size w w131) := ⟨h12_⟩
       clear h0_ h1_ h2_ h3_ h4_ h5_ h6_ h7_ h8_ h9_ h10_ h11_ h12_
       have hHeld : w131.cell? ⟨gb305, 0, none⟩ = some (.int .i64 t303) ∧ w131.cell? ⟨gb305, 1, none⟩ = some (.int .i64 t304) ∧ w131.cell? ⟨gb286, 0, none⟩ = some (.int .i64 t283) ∧ w131.cell? ⟨gb286, 1, none⟩ = some (.int .i64 t284) ∧ w131.cell? ⟨gb298, 0, none⟩ = some (.int .i64 t295) ∧ w131.cell? ⟨gb298, 1, none⟩ = some (.int .i64 t296) ∧ w131.cell? ⟨gb282, 0, none⟩ = some (.int .i64 t279) ∧ w131.cell? ⟨gb282, 1, none⟩ = some (.int .i64 t280) ∧ w131.cell? ⟨gb302, 0, none⟩ = some (.int .i64 t299) ∧ w131.cell? ⟨gb302, 1, none⟩ = some (.int .i64 t300) ∧ w131.cell? ⟨gb294, 0, none⟩ = some (.int .i64 t291) ∧ w131.cell? ⟨gb294, 1, none⟩ = some (.int .i64 t292) := hS_
       refine norm_ (a' := ?_) ?_ ?_
       rotate_left
       ·
        simp only [putAll, Act.put, List.setIfInBounds_toArray, List.set_cons_zero, List.set_cons_succ]
        rfl
       refine one_ (i := 14) (N := some 24) #[true, true, true, true, true, true, true, true, true, true, true, true, true, true, true, false, false] rfl rfl (one_of HT_.out (by kernel_rfl)) (by decide) (fun K hK => ?_)
       refine box_step ?hg (N := 24) ?hd (cs := #[.int .i64 0, .int .i64 0]) (t := 23) ?hr ?_; (case hd => rfl); (case hg => rfl); (case hr => first | (go_simp; done) | (go_simp; rfl))
       intro gb324 hg w132 hbox hb
       have BK324 := Aside0.mk hbox
       have GW324 := ge_ (hb_ HB.out) hg
       have GE324 := ge_ (hb_ HB.out) hg
       have NB275_324 := nb_ (gr_ BK275.out) hg
       have NB324_275 := bn_ (gr_ BK275.out) hg
       have NB276_324 := nb_ (gr_ BK276.out) hg
       have NB324_276 := bn_ (gr_ BK276.out) hg
       have NB277_324 := nb_ (gr_ BK277.out) hg
       have NB324_277 := bn_ (gr_ BK277.out) hg
       have NB278_324 := nb_ (gr_ BK278.out) hg
       have NB324_278 := bn_ (gr_ BK278.out) hg
       have NB282_324 := nb_ (gr_ BK282.out) hg
       have NB324_282 := bn_ (gr_ BK282.out) hg
       have NB286_324 := nb_ (gr_ BK286.out) hg
       have NB324_286 := bn_ (gr_ BK286.out) hg
       have NB290_324 := nb_ (gr_ BK290.out) hg
       have NB324_290 := bn_ (gr_ BK290.out) hg
       have NB294_324 := nb_ (gr_ BK294.out) hg
       have NB324_294 := bn_ (gr_ BK294.out) hg
       have NB298_324 := nb_ (gr_ BK298.out) hg
       have NB324_298 := bn_ (gr_ BK298.out) hg
       have NB302_324 := nb_ (gr_ BK302.out) hg
       have NB324_302 := bn_ (gr_ BK302.out) hg
       have NB305_324 := nb_ (gr_ BK305.out) hg
       have NB324_305 := bn_ (gr_ BK305.out) hg
       have NB312_324 := nb_ (gr_ BK312.out) hg
       have NB324_312 := bn_ (gr_ BK312.out) hg
       replace BK275 := nx_ BK275 hb
       replace BK276 := nx_ BK276 hb
       replace BK277 := nx_ BK277 hb
       replace BK278 := nx_ BK278 hb
       replace BK282 := nx_ BK282 hb
       replace BK286 := nx_ BK286 hb
       replace BK290 := nx_ BK290 hb
       replace BK294 := nx_ BK294 hb
       replace BK298 := nx_ BK298 hb
       replace BK302 := nx_ BK302 hb
       replace BK305 := nx_ BK305 hb
       replace BK312 := nx_ BK312 hb
       replace HB := hx_ HB hb
       clear hb hbox hg
       refine hK.out _ _ ⟨(blk_cell BK305.out 0).trans rfl, (blk_cell BK305.out 1).trans rfl, (blk_cell BK286.out 0).trans rfl, (blk_cell BK286.out 1).trans rfl, (blk_cell BK298.out 0).trans rfl, (blk_cell BK298.out 1).trans rfl, (blk_cell BK282.out 0).trans rfl, (blk_cell BK282.out 1).trans rfl, (blk_cell BK302.out 0).trans rfl, (blk_cell BK302.out 1).trans rfl, (blk_cell BK294.out 0).trans rfl, (blk_cell BK294.out 1).trans rfl⟩ (fun hHeld => ?_)
       clear hK K
       refine norm_ (a' := ?_) ?_ ?_
       rotate_left
       ·
        show Act.put _ (some 24) _ = _
        simp only [Act.put, List.setIfInBounds_toArray, List.set_cons_zero, List.set_cons_succ, i64_w, i32_w]
        rfl
       exact norm_ (by (simp only [putAll, Act.put, List.setIfInBounds_toArray, List.set_cons_zero, List.set_cons_succ]) <;> rfl) (hJ2_5_6_9_10_14 (gb324) _ ⟨hHeld, (gr_ BK275.out), (gr_ BK276.out), (gr_ BK277.out), (gr_ BK278.out), (gr_ BK282.out), (gr_ BK286.out), (gr_ BK290.out), (gr_ BK294.out), (gr_ BK298.out), (gr_ BK302.out), (gr_ BK305.out), (gr_ BK312.out), (gr_ BK324.out), GW324.out, GE324.out, NB275_324.out, NB324_275.out, NB276_324.out, NB324_276.out, NB277_324.out, NB324_277.out, NB278_324.out, NB324_278.out, NB282_324.out, NB324_282.out, NB286_324.out, NB324_286.out, NB290_324.out, NB324_290.out, NB294_324.out, NB324_294.out, NB298_324.out, NB324_298.out, NB302_324.out, NB324_302.out, NB305_324.out, NB324_305.out, NB312_324.out, NB324_312.out, (by repeat (first | (with_reducible first | exact HB.out | apply below_alloc | apply pw_below_drewN | apply below_drew1 | refine below_set ?_ GE275.out | refine below_set ?_ GE276.out | refine below_set ?_ GE277.out | refine below_set ?_ GE278.out | refine below_set ?_ GE282.out | refine below_set ?_ GE286.out | refine below_set ?_ GE290.out | refine below_set ?_ GE294.out | refine below_set ?_ GE298.out | refine below_set ?_ GE302.out | refine below_set ?_ GE305.out | refine below_set ?_ GE312.out | refine below_set ?_ GE324.out) | exact HB.out))⟩)
     rintro gb324 w132 ⟨hS_, h0_, h1_, h2_, h3_, h4_, h5_, h6_, h7_, h8_, h9_, h10_, h11_, h12_, h13_, h14_, h15_, h16_, h17_, h18_, h19_, h20_, h21_, h22_, h23_, h24_, h25_, h26_, h27_, h28_, h29_, h30_, h31_, h32_, h33_, h34_, h35_, h36_, h37_, h38_, h39_⟩
     replace BK275 : Aside0 (w132.heap[gb275]? = some (.cells #[.int .i64 a0_0, .int .i64 a0_1] 23 (0, 0))) := ⟨h0_⟩
     replace BK276 : Aside0 (w132.heap[gb276]? = some (.cells #[.int .i64 a1_0, .int .i64 a1_1] 23 (0, 0))) := ⟨h1_⟩
     replace BK277 : Aside0 (w132.heap[gb277]? = some (.cells #[.int .i64 0, .int .i64 0] 23 (0, 0))) := ⟨h2_⟩
     replace BK278 : Aside0 (w132.heap[gb278]? = some (.cells #[.int .i64 0, .int .i64 0] 23 (0, 0))) := ⟨h3_⟩
     replace BK282 : Aside0 (w132.heap[gb282]? = some (.cells #[.int .i64 t279, .int .i64 t280] 23 (0, 0))) := ⟨h4_⟩
     replace BK286 : Aside0 (w132.heap[gb286]? = some (.cells #[.int .i64 t283, .int .i64 t284] 23 (0, 0))) := ⟨h5_⟩
     replace BK290 : Aside0 (w132.heap[gb290]? = some (.cells #[.int .i64 t287, .int .i64 t288] 23 (0, 0))) := ⟨h6_⟩
     replace BK294 : Aside0 (w132.heap[gb294]? = some (.cells #[.int .i64 t291, .int .i64 t292] 23 (0, 0))) := ⟨h7_⟩
     replace BK298 : Aside0 (w132.heap[gb298]? = some (.cells #[.int .i64 t295, .int .i64 t296] 23 (0, 0))) := ⟨h8_⟩
     replace BK302 : Aside0 (w132.heap[gb302]? = some (.cells #[.int .i64 t299, .int .i64 t300] 23 (0, 0))) := ⟨h9_⟩
     replace BK305 : Aside0 (w132.heap[gb305]? = some (.cells #[.int .i64 t303, .int .i64 t304] 23 (0, 0))) := ⟨h10_⟩
     replace BK312 : Aside0 (w132.heap[gb312]? = some (.cells #[.int .i64 t310, .int .i64 t311] 23 (0, 0))) := ⟨h11_⟩
     have BK324 : Aside0 (w132.heap[gb324]? = some (.cells #[.int .i64 0, .int .i64 0] 23 (0, 0))) := ⟨h12_⟩
     have GW324 : Aside0 (w.heap.size ≤ gb324) := ⟨h13_⟩
     have GE324 : Aside0 (w.heap.size ≤ gb324) := ⟨h14_⟩
     have NB275_324 : Aside0 (gb275 ≠ gb324) := ⟨h15_⟩
     have NB324_275 : Aside0 (gb324 ≠ gb275) := ⟨h16_⟩
     have NB276_324 : Aside0 (gb276 ≠ gb324) := ⟨h17_⟩
     have NB324_276 : Aside0 (gb324 ≠ gb276) := ⟨h18_⟩
     have NB277_324 : Aside0 (gb277 ≠ gb324) := ⟨h19_⟩
     have NB324_277 : Aside0 (gb324 ≠ gb277) := ⟨h20_⟩
     have NB278_324 : Aside0 (gb278 ≠ gb324) := ⟨h21_⟩
     have NB324_278 : Aside0 (gb324 ≠ gb278) := ⟨h22_⟩
     have NB282_324 : Aside0 (gb282 ≠ gb324) := ⟨h23_⟩
     have NB324_282 : Aside0 (gb324 ≠ gb282) := ⟨h24_⟩
     have NB286_324 : Aside0 (gb286 ≠ gb324) := ⟨h25_⟩
     have NB324_286 : Aside0 (gb324 ≠ gb286) := ⟨h26_⟩
     have NB290_324 : Aside0 (gb290 ≠ gb324) := ⟨h27_⟩
     have NB324_290 : Aside0 (gb324 ≠ gb290) := ⟨h28_⟩
     have NB294_324 : Aside0 (gb294 ≠ gb324) := ⟨h29_⟩
     have NB324_294 : Aside0 (gb324 ≠ gb294) := ⟨h30_⟩
     have NB298_324 : Aside0 (gb298 ≠ gb324) := ⟨h31_⟩
     have NB324_298 : Aside0 (gb324 ≠ gb298) := ⟨h32_⟩
     have NB302_324 : Aside0 (gb302 ≠ gb324) := ⟨h33_⟩
     have NB324_302 : Aside0 (gb324 ≠ gb302) := ⟨h34_⟩
     have NB305_324 : Aside0 (gb305 ≠ gb324) := ⟨h35_⟩
     have NB324_305 : Aside0 (gb324 ≠ gb305) := ⟨h36_⟩
     have NB312_324 : Aside0 (gb312 ≠ gb324) := ⟨h37_⟩
     have NB324_312 : Aside0 (gb324 ≠ gb312) := ⟨h38_⟩
     replace HB : Aside0 (Below w.heap.size w w132) := ⟨h39_⟩
     clear h0_ h1_ h2_ h3_ h4_ h5_ h6_ h7_ h8_ h9_ h10_ h11_ h12_ h13_ h14_ h15_ h16_ h17_ h18_ h19_ h20_ h21_ h22_ h23_ h24_ h25_ h26_ h27_ h28_ h29_ h30_ h31_ h32_ h33_ h34_ h35_ h36_ h37_ h38_ h39_
     have hHeld : w132.cell? ⟨gb305, 0, none⟩ = some (.int .i64 t303) ∧ w132.cell? ⟨gb305, 1, none⟩ = some (.int .i64 t304) ∧ w132.cell? ⟨gb286, 0, none⟩ = some (.int .i64 t283) ∧ w132.cell? ⟨gb286, 1, none⟩ = some (.int .i64 t284) ∧ w132.cell? ⟨gb298, 0, none⟩ = some (.int .i64 t295) ∧ w132.cell? ⟨gb298, 1, none⟩ = some (.int .i64 t296) ∧ w132.cell? ⟨gb282, 0, none⟩ = some (.int .i64 t279) ∧ w132.cell? ⟨gb282, 1, none⟩ = some (.int .i64 t280) ∧ w132.cell? ⟨gb302, 0, none⟩ = some (.int .i64 t299) ∧ w132.cell? ⟨gb302, 1, none⟩ = some (.int .i64 t300) ∧ w132.cell? ⟨gb294, 0, none⟩ = some (.int .i64 t291) ∧ w132.cell? ⟨gb294, 1, none⟩ = some (.int .i64 t292) := hS_
     refine norm_ (a' := ?_) ?_ ?_
     rotate_left
     ·
      simp only [putAll, Act.put, List.setIfInBounds_toArray, List.set_cons_zero, List.set_cons_succ]
      rfl
     refine one_ (i := 15) (N := none) #[true, true, true, true, true, true, true, true, true, true, true, true, true, true, true, true, false] rfl rfl (one_of HT_.out (by kernel_rfl)) (by decide) (fun K hK => ?_)
     have hs133 : w132.cell? ⟨gb324, 0, none⟩ = some (.int .i64 0) := (blk_cell BK324.out 0).trans rfl
     have hfs133 := blk_frozen BK324.out 0
     have hns133_0 := NB275_324.out
     have hns133_1 := NB276_324.out
     have hns133_2 := NB277_324.out
     have hns133_3 := NB278_324.out
     have hns133_4 := NB282_324.out
     have hns133_5 := NB286_324.out
     have hns133_6 := NB290_324.out
     have hns133_7 := NB294_324.out
     have hns133_8 := NB298_324.out
     have hns133_9 := NB302_324.out
     have hns133_10 := NB305_324.out
     have hns133_11 := NB312_324.out
     have hms133_0 := NB324_275.out
     have hms133_1 := NB324_276.out
     have hms133_2 := NB324_277.out
     have hms133_3 := NB324_278.out
     have hms133_4 := NB324_282.out
     have hms133_5 := NB324_286.out
     have hms133_6 := NB324_290.out
     have hms133_7 := NB324_294.out
     have hms133_8 := NB324_298.out
     have hms133_9 := NB324_302.out
     have hms133_10 := NB324_305.out
     have hms133_11 := NB324_312.out
     have hs134 : w132.cell? ⟨gb324, 1, none⟩ = some (.int .i64 0) := (blk_cell BK324.out 1).trans rfl
     have hfs134 := blk_frozen BK324.out 1
     have hns134_0 := NB275_324.out
     have hns134_1 := NB276_324.out
     have hns134_2 := NB277_324.out
     have hns134_3 := NB278_324.out
     have hns134_4 := NB282_324.out
     have hns134_5 := NB286_324.out
     have hns134_6 := NB290_324.out
     have hns134_7 := NB294_324.out
     have hns134_8 := NB298_324.out
     have hns134_9 := NB302_324.out
     have hns134_10 := NB305_324.out
     have hns134_11 := NB312_324.out
     have hms134_0 := NB324_275.out
     have hms134_1 := NB324_276.out
     have hms134_2 := NB324_277.out
     have hms134_3 := NB324_278.out
     have hms134_4 := NB324_282.out
     have hms134_5 := NB324_286.out
     have hms134_6 := NB324_290.out
     have hms134_7 := NB324_294.out
     have hms134_8 := NB324_298.out
     have hms134_9 := NB324_302.out
     have hms134_10 := NB324_305.out
     have hms134_11 := NB324_312.out
     refine skip_ (w1 := ?_) (by rfl) rfl ?_ ?_
     rotate_left
     ·
      go_simp
      rfl
     refine hK.out _ _ ⟨((cell_far (p := ⟨gb324, _, none⟩) NB305_324.out _).trans (((cell_far (p := ⟨gb324, _, none⟩) NB305_324.out _).trans (hHeld.1)))), ((cell_far (p := ⟨gb324, _, none⟩) NB305_324.out _).trans (((cell_far (p := ⟨gb324, _, none⟩) NB305_324.out _).trans (hHeld.2.1)))), ((cell_far (p := ⟨gb324, _, none⟩) NB286_324.out _).trans (((cell_far (p := ⟨gb324, _, none⟩) NB286_324.out _).trans (hHeld.2.2.1)))), ((cell_far (p := ⟨gb324, _, none⟩) NB286_324.out _).trans (((cell_far (p := ⟨gb324, _, none⟩) NB286_324.out _).trans (hHeld.2.2.2.1)))), ((cell_far (p := ⟨gb324, _, none⟩) NB298_324.out _).trans (((cell_far (p := ⟨gb324, _, none⟩) NB298_324.out _).trans (hHeld.2.2.2.2.1)))), ((cell_far (p := ⟨gb324, _, none⟩) NB298_324.out _).trans (((cell_far (p := ⟨gb324, _, none⟩) NB298_324.out _).trans (hHeld.2.2.2.2.2.1)))), ((cell_far (p := ⟨gb324, _, none⟩) NB282_324.out _).trans (((cell_far (p := ⟨gb324, _, none⟩) NB282_324.out _).trans (hHeld.2.2.2.2.2.2.1)))), ((cell_far (p := ⟨gb324, _, none⟩) NB282_324.out _).trans (((cell_far (p := ⟨gb324, _, none⟩) NB282_324.out _).trans (hHeld.2.2.2.2.2.2.2.1)))), ((cell_far (p := ⟨gb324, _, none⟩) NB302_324.out _).trans (((cell_far (p := ⟨gb324, _, none⟩) NB302_324.out _).trans (hHeld.2.2.2.2.2.2.2.2.1)))), ((cell_far (p := ⟨gb324, _, none⟩) NB302_324.out _).trans (((cell_far (p := ⟨gb324, _, none⟩) NB302_324.out _).trans (hHeld.2.2.2.2.2.2.2.2.2.1)))), ((cell_far (p := ⟨gb324, _, none⟩) NB294_324.out _).trans (((cell_far (p := ⟨gb324, _, none⟩) NB294_324.out _).trans (hHeld.2.2.2.2.2.2.2.2.2.2.1)))), ((cell_far (p := ⟨gb324, _, none⟩) NB294_324.out _).trans (((cell_far (p := ⟨gb324, _, none⟩) NB294_324.out _).trans (hHeld.2.2.2.2.2.2.2.2.2.2.2))))⟩ (fun hHeld => ?_)
     clear hK K
     refine pure_ (i := 16) (N := some 25) (v := ?_) (a' := ?_) #[true, true, true, true, true, true, true, true, true, true, true, true, true, true, true, true, true] rfl rfl (any_of HT_.out (by kernel_rfl)) (fun _ _ _ h => h) (Or.inl ⟨by rfl, ?_⟩) ?_ ?_
     rotate_left
     ·
      intro w'
      go_simp
      with_reducible rfl
     rotate_left
     ·
      simp only [Act.put, List.setIfInBounds_toArray, List.set_cons_zero, List.set_cons_succ, i64_w, i32_w]
      rfl
     refine done_ (done_of HT_.out (by kernel_rfl)) ?_
     have hnb135 := NB312_275.out
     have hnc135 := NB275_312.out
     have hnb136 := NB312_276.out
     have hnc136 := NB276_312.out
     have hnb137 := NB312_277.out
     have hnc137 := NB277_312.out
     have hnb138 := NB312_278.out
     have hnc138 := NB278_312.out
     have hnb139 := NB312_282.out
     have hnc139 := NB282_312.out
     have hnb140 := NB312_286.out
     have hnc140 := NB286_312.out
     have hnb141 := NB312_290.out
     have hnc141 := NB290_312.out
     have hnb142 := NB312_294.out
     have hnc142 := NB294_312.out
     have hnb143 := NB312_298.out
     have hnc143 := NB298_312.out
     have hnb144 := NB312_302.out
     have hnc144 := NB302_312.out
     have hnb145 := NB312_305.out
     have hnc145 := NB305_312.out
     have hnb146 := NB312_324.out
     have hnc146 := NB324_312.out
     have hcz147_0 : w132.cell? ⟨gb312, 0, none⟩ = some (.int .i64 t310) := (blk_cell BK312.out 0).trans rfl
     have hcz147_1 : w132.cell? ⟨gb312, 1, none⟩ = some (.int .i64 t311) := (blk_cell BK312.out 1).trans rfl
     have hfz147_0 := blk_frozen BK312.out 0
     have hfz147_1 := blk_frozen BK312.out 1
     try go_wp2_with (first | ((with_reducible refine gate_callee (f := 19) rfl ?_); refine goesL_ (some 111) rfl rfl Try.func19 (by kernel_rfl) rfl #[.agg #[.int .i64 t310, .int .i64 t311]] rfl (by (try simp only [List.map_toArray, List.map_cons, List.map_nil]); first | done | rfl | (simp only [List.length_drop, List.length_take]; rfl)) ?_; (with_reducible refine (trig_ArcSin.calls kj2 t310 t311 t325 t326 t327 _ A34.out).mono ?_); rintro e w148 ⟨rfl, hb⟩; refine ⟨_, rfl, ?_⟩; replace BK275 := Aside0.mk (blk_below (g := gb275) (o := .cells #[.int .i64 a0_0, .int .i64 a0_1] 23 (0, 0)) (gr_ (blk_far (gr_ (blk_far (gr_ BK275.out) NB275_324.out _)) NB275_324.out _)) hb); replace BK276 := Aside0.mk (blk_below (g := gb276) (o := .cells #[.int .i64 a1_0, .int .i64 a1_1] 23 (0, 0)) (gr_ (blk_far (gr_ (blk_far (gr_ BK276.out) NB276_324.out _)) NB276_324.out _)) hb); replace BK277 := Aside0.mk (blk_below (g := gb277) (o := .cells #[.int .i64 0, .int .i64 0] 23 (0, 0)) (gr_ (blk_far (gr_ (blk_far (gr_ BK277.out) NB277_324.out _)) NB277_324.out _)) hb); replace BK278 := Aside0.mk (blk_below (g := gb278) (o := .cells #[.int .i64 0, .int .i64 0] 23 (0, 0)) (gr_ (blk_far (gr_ (blk_far (gr_ BK278.out) NB278_324.out _)) NB278_324.out _)) hb); replace BK282 := Aside0.mk (blk_below (g := gb282) (o := .cells #[.int .i64 t279, .int .i64 t280] 23 (0, 0)) (gr_ (blk_far (gr_ (blk_far (gr_ BK282.out) NB282_324.out _)) NB282_324.out _)) hb); replace BK286 := Aside0.mk (blk_below (g := gb286) (o := .cells #[.int .i64 t283, .int .i64 t284] 23 (0, 0)) (gr_ (blk_far (gr_ (blk_far (gr_ BK286.out) NB286_324.out _)) NB286_324.out _)) hb); replace BK290 := Aside0.mk (blk_below (g := gb290) (o := .cells #[.int .i64 t287, .int .i64 t288] 23 (0, 0)) (gr_ (blk_far (gr_ (blk_far (gr_ BK290.out) NB290_324.out _)) NB290_324.out _)) hb); replace BK294 := Aside0.mk (blk_below (g := gb294) (o := .cells #[.int .i64 t291, .int .i64 t292] 23 (0, 0)) (gr_ (blk_far (gr_ (blk_far (gr_ BK294.out) NB294_324.out _)) NB294_324.out _)) hb); replace BK298 := Aside0.mk (blk_below (g := gb298) (o := .cells #[.int .i64 t295, .int .i64 t296] 23 (0, 0)) (gr_ (blk_far (gr_ (blk_far (gr_ BK298.out) NB298_324.out _)) NB298_324.out _)) hb); replace BK302 := Aside0.mk (blk_below (g := gb302) (o := .cells #[.int .i64 t299, .int .i64 t300] 23 (0, 0)) (gr_ (blk_far (gr_ (blk_far (gr_ BK302.out) NB302_324.out _)) NB302_324.out _)) hb); replace BK305 := Aside0.mk (blk_below (g := gb305) (o := .cells #[.int .i64 t303, .int .i64 t304] 23 (0, 0)) (gr_ (blk_far (gr_ (blk_far (gr_ BK305.out) NB305_324.out _)) NB305_324.out _)) hb); replace BK312 := Aside0.mk (blk_below (g := gb312) (o := .cells #[.int .i64 t310, .int .i64 t311] 23 (0, 0)) (gr_ (blk_far (gr_ (blk_far (gr_ BK312.out) NB312_324.out _)) NB312_324.out _)) hb); replace BK324 := Aside0.mk (blk_below (g := gb324) (o := .cells #[.int .i64 t321, .int .i64 t322] 23 (0, 0)) (gr_ (blk_put (cs := #[.int .i64 t321, .int .i64 0]) (gr_ (blk_put (cs := #[.int .i64 0, .int .i64 0]) (gr_ BK324.out) 0 _ rfl)) 1 _ rfl)) hb); replace HB := Aside0.mk (below_step (by repeat (first | (with_reducible first | exact HB.out | apply below_alloc | apply pw_below_drewN | apply below_drew1 | refine below_set ?_ GE324.out) | exact HB.out)) hb); (try clear hb); (try clear hb2); (try clear hk); (try clear hi)) | ((with_reducible refine gate_dst (N := 26) rfl ?_); refine box_event ?hg (N := 26) ?hd (cs := #[.int .i64 0, .int .i64 0]) (t := 23) ?hr ?_; (case hd => rfl); (case hg => rfl); (case hr => first | (go_simp; done) | (go_simp; rfl)); intro gb328 hg w149 hbox hb; have BK328 := Aside0.mk hbox; have GW328 := ge_ (hb_ HB.out) hg; have GE328 := ge_ (hb_ HB.out) hg; have NB275_328 := nb_ (gr_ BK275.out) hg; have NB328_275 := bn_ (gr_ BK275.out) hg; have NB276_328 := nb_ (gr_ BK276.out) hg; have NB328_276 := bn_ (gr_ BK276.out) hg; have NB277_328 := nb_ (gr_ BK277.out) hg; have NB328_277 := bn_ (gr_ BK277.out) hg; have NB278_328 := nb_ (gr_ BK278.out) hg; have NB328_278 := bn_ (gr_ BK278.out) hg; have NB282_328 := nb_ (gr_ BK282.out) hg; have NB328_282 := bn_ (gr_ BK282.out) hg; have NB286_328 := nb_ (gr_ BK286.out) hg; have NB328_286 := bn_ (gr_ BK286.out) hg; have NB290_328 := nb_ (gr_ BK290.out) hg; have NB328_290 := bn_ (gr_ BK290.out) hg; have NB294_328 := nb_ (gr_ BK294.out) hg; have NB328_294 := bn_ (gr_ BK294.out) hg; have NB298_328 := nb_ (gr_ BK298.out) hg; have NB328_298 := bn_ (gr_ BK298.out) hg; have NB302_328 := nb_ (gr_ BK302.out) hg; have NB328_302 := bn_ (gr_ BK302.out) hg; have NB305_328 := nb_ (gr_ BK305.out) hg; have NB328_305 := bn_ (gr_ BK305.out) hg; have NB312_328 := nb_ (gr_ BK312.out) hg; have NB328_312 := bn_ (gr_ BK312.out) hg; have NB324_328 := nb_ (gr_ BK324.out) hg; have NB328_324 := bn_ (gr_ BK324.out) hg; replace BK275 := nx_ BK275 hb; replace BK276 := nx_ BK276 hb; replace BK277 := nx_ BK277 hb; replace BK278 := nx_ BK278 hb; replace BK282 := nx_ BK282 hb; replace BK286 := nx_ BK286 hb; replace BK290 := nx_ BK290 hb; replace BK294 := nx_ BK294 hb; replace BK298 := nx_ BK298 hb; replace BK302 := nx_ BK302 hb; replace BK305 := nx_ BK305 hb; replace BK312 := nx_ BK312 hb; replace BK324 := nx_ BK324 hb; replace HB := hx_ HB hb; clear hb hbox hg; have hnb150 := NB328_275.out; have hnc150 := NB275_328.out; have hnb151 := NB328_276.out; have hnc151 := NB276_328.out; have hnb152 := NB328_277.out; have hnc152 := NB277_328.out; have hnb153 := NB328_278.out; have hnc153 := NB278_328.out; have hnb154 := NB328_282.out; have hnc154 := NB282_328.out; have hnb155 := NB328_286.out; have hnc155 := NB286_328.out; have hnb156 := NB328_290.out; have hnc156 := NB290_328.out; have hnb157 := NB328_294.out; have hnc157 := NB294_328.out; have hnb158 := NB328_298.out; have hnc158 := NB298_328.out; have hnb159 := NB328_302.out; have hnc159 := NB302_328.out; have hnb160 := NB328_305.out; have hnc160 := NB305_328.out; have hnb161 := NB328_312.out; have hnc161 := NB312_328.out; have hnb162 := NB328_324.out; have hnc162 := NB324_328.out; have hcz163_0 : w149.cell? ⟨gb328, 0, none⟩ = some (.int .i64 0) := (blk_cell BK328.out 0).trans rfl; have hcz163_1 : w149.cell? ⟨gb328, 1, none⟩ = some (.int .i64 0) := (blk_cell BK328.out 1).trans rfl; have hfz163_0 := blk_frozen BK328.out 0; have hfz163_1 := blk_frozen BK328.out 1))
     have n0_ : Aside0 (((w149.setCell ⟨gb328, 0, none⟩ (.int .i64 t325)).setCell ⟨gb328, 1, none⟩ (.int .i64 t326)).heap[gb275]? = some (.cells #[.int .i64 a0_0, .int .i64 a0_1] 23 (0, 0))) := ⟨(gr_ (blk_far (gr_ (blk_far (gr_ BK275.out) NB275_328.out _)) NB275_328.out _))⟩
     have n1_ : Aside0 (((w149.setCell ⟨gb328, 0, none⟩ (.int .i64 t325)).setCell ⟨gb328, 1, none⟩ (.int .i64 t326)).heap[gb276]? = some (.cells #[.int .i64 a1_0, .int .i64 a1_1] 23 (0, 0))) := ⟨(gr_ (blk_far (gr_ (blk_far (gr_ BK276.out) NB276_328.out _)) NB276_328.out _))⟩
     have n2_ : Aside0 (((w149.setCell ⟨gb328, 0, none⟩ (.int .i64 t325)).setCell ⟨gb328, 1, none⟩ (.int .i64 t326)).heap[gb277]? = some (.cells #[.int .i64 0, .int .i64 0] 23 (0, 0))) := ⟨(gr_ (blk_far (gr_ (blk_far (gr_ BK277.out) NB277_328.out _)) NB277_328.out _))⟩
     have n3_ : Aside0 (((w149.setCell ⟨gb328, 0, none⟩ (.int .i64 t325)).setCell ⟨gb328, 1, none⟩ (.int .i64 t326)).heap[gb278]? = some (.cells #[.int .i64 0, .int .i64 0] 23 (0, 0))) := ⟨(gr_ (blk_far (gr_ (blk_far (gr_ BK278.out) NB278_328.out _)) NB278_328.out _))⟩
     have n4_ : Aside0 (((w149.setCell ⟨gb328, 0, none⟩ (.int .i64 t325)).setCell ⟨gb328, 1, none⟩ (.int .i64 t326)).heap[gb282]? = some (.cells #[.int .i64 t279, .int .i64 t280] 23 (0, 0))) := ⟨(gr_ (blk_far (gr_ (blk_far (gr_ BK282.out) NB282_328.out _)) NB282_328.out _))⟩
     have n5_ : Aside0 (((w149.setCell ⟨gb328, 0, none⟩ (.int .i64 t325)).setCell ⟨gb328, 1, none⟩ (.int .i64 t326)).heap[gb286]? = some (.cells #[.int .i64 t283, .int .i64 t284] 23 (0, 0))) := ⟨(gr_ (blk_far (gr_ (blk_far (gr_ BK286.out) NB286_328.out _)) NB286_328.out _))⟩
     have n6_ : Aside0 (((w149.setCell ⟨gb328, 0, none⟩ (.int .i64 t325)).setCell ⟨gb328, 1, none⟩ (.int .i64 t326)).heap[gb290]? = some (.cells #[.int .i64 t287, .int .i64 t288] 23 (0, 0))) := ⟨(gr_ (blk_far (gr_ (blk_far (gr_ BK290.out) NB290_328.out _)) NB290_328.out _))⟩
     have n7_ : Aside0 (((w149.setCell ⟨gb328, 0, none⟩ (.int .i64 t325)).setCell ⟨gb328, 1, none⟩ (.int .i64 t326)).heap[gb294]? = some (.cells #[.int .i64 t291, .int .i64 t292] 23 (0, 0))) := ⟨(gr_ (blk_far (gr_ (blk_far (gr_ BK294.out) NB294_328.out _)) NB294_328.out _))⟩
     have n8_ : Aside0 (((w149.setCell ⟨gb328, 0, none⟩ (.int .i64 t325)).setCell ⟨gb328, 1, none⟩ (.int .i64 t326)).heap[gb298]? = some (.cells #[.int .i64 t295, .int .i64 t296] 23 (0, 0))) := ⟨(gr_ (blk_far (gr_ (blk_far (gr_ BK298.out) NB298_328.out _)) NB298_328.out _))⟩
     have n9_ : Aside0 (((w149.setCell ⟨gb328, 0, none⟩ (.int .i64 t325)).setCell ⟨gb328, 1, none⟩ (.int .i64 t326)).heap[gb302]? = some (.cells #[.int .i64 t299, .int .i64 t300] 23 (0, 0))) := ⟨(gr_ (blk_far (gr_ (blk_far (gr_ BK302.out) NB302_328.out _)) NB302_328.out _))⟩
     have n10_ : Aside0 (((w149.setCell ⟨gb328, 0, none⟩ (.int .i64 t325)).setCell ⟨gb328, 1, none⟩ (.int .i64 t326)).heap[gb305]? = some (.cells #[.int .i64 t303, .int .i64 t304] 23 (0, 0))) := ⟨(gr_ (blk_far (gr_ (blk_far (gr_ BK305.out) NB305_328.out _)) NB305_328.out _))⟩
     have n11_ : Aside0 (((w149.setCell ⟨gb328, 0, none⟩ (.int .i64 t325)).setCell ⟨gb328, 1, none⟩ (.int .i64 t326)).heap[gb312]? = some (.cells #[.int .i64 t310, .int .i64 t311] 23 (0, 0))) := ⟨(gr_ (blk_far (gr_ (blk_far (gr_ BK312.out) NB312_328.out _)) NB312_328.out _))⟩
     have n12_ : Aside0 (((w149.setCell ⟨gb328, 0, none⟩ (.int .i64 t325)).setCell ⟨gb328, 1, none⟩ (.int .i64 t326)).heap[gb324]? = some (.cells #[.int .i64 t321, .int .i64 t322] 23 (0, 0))) := ⟨(gr_ (blk_far (gr_ (blk_far (gr_ BK324.out) NB324_328.out _)) NB324_328.out _))⟩
     have n13_ : Aside0 (((w149.setCell ⟨gb328, 0, none⟩ (.int .i64 t325)).setCell ⟨gb328, 1, none⟩ (.int .i64 t326)).heap[gb328]? = some (.cells #[.int .i64 t325, .int .i64 t326] 23 (0, 0))) := ⟨(gr_ (blk_put (cs := #[.int .i64 t325, .int .i64 0]) (gr_ (blk_put (cs := #[.int .i64 0, .int .i64 0]) (gr_ BK328.out) 0 _ rfl)) 1 _ rfl))⟩
     have n14_ : Aside0 (Below w.heap.size w ((w149.setCell ⟨gb328, 0, none⟩ (.int .i64 t325)).setCell ⟨gb328, 1, none⟩ (.int .i64 t326))) := ⟨by repeat (first | (with_reducible first | exact HB.out | apply below_alloc | apply pw_below_drewN | apply below_drew1 | refine below_set ?_ GE275.out | refine below_set ?_ GE276.out | refine below_set ?_ GE277.out | refine below_set ?_ GE278.out | refine below_set ?_ GE282.out | refine below_set ?_ GE286.out | refine below_set ?_ GE290.out | refine below_set ?_ GE294.out | refine below_set ?_ GE298.out | refine below_set ?_ GE302.out | refine below_set ?_ GE305.out | refine below_set ?_ GE312.out | refine below_set ?_ GE324.out | refine below_set ?_ GE328.out) | exact HB.out)⟩
     (try clear BK275)
     (try clear BK276)
     (try clear BK277)
     (try clear BK278)
     (try clear BK282)
     (try clear BK286)
     (try clear BK290)
     (try clear BK294)
     (try clear BK298)
     (try clear BK302)
     (try clear BK305)
     (try clear BK312)
     (try clear BK324)
     (try clear BK328)
     (try clear HB)
     generalize ((w149.setCell ⟨gb328, 0, none⟩ (.int .i64 t325)).setCell ⟨gb328, 1, none⟩ (.int .i64 t326)) = w164 at n0_ n1_ n2_ n3_ n4_ n5_ n6_ n7_ n8_ n9_ n10_ n11_ n12_ n13_ n14_ ⊢
     have BK275 := n0_
     have BK276 := n1_
     have BK277 := n2_
     have BK278 := n3_
     have BK282 := n4_
     have BK286 := n5_
     have BK290 := n6_
     have BK294 := n7_
     have BK298 := n8_
     have BK302 := n9_
     have BK305 := n10_
     have BK312 := n11_
     have BK324 := n12_
     have BK328 := n13_
     have HB := n14_
     clear n0_ n1_ n2_ n3_ n4_ n5_ n6_ n7_ n8_ n9_ n10_ n11_ n12_ n13_ n14_
     have n0_ := Aside0.mk (blk_drew BK275.out)
     have n1_ := Aside0.mk (blk_drew BK276.out)
     have n2_ := Aside0.mk (blk_drew BK277.out)
     have n3_ := Aside0.mk (blk_drew BK278.out)
     have n4_ := Aside0.mk (blk_drew BK282.out)
     have n5_ := Aside0.mk (blk_drew BK286.out)
     have n6_ := Aside0.mk (blk_drew BK290.out)
     have n7_ := Aside0.mk (blk_drew BK294.out)
     have n8_ := Aside0.mk (blk_drew BK298.out)
     have n9_ := Aside0.mk (blk_drew BK302.out)
     have n10_ := Aside0.mk (blk_drew BK305.out)
     have n11_ := Aside0.mk (blk_drew BK312.out)
     have n12_ := Aside0.mk (blk_drew BK324.out)
     have n13_ := Aside0.mk (blk_drew BK328.out)
     have n14_ := Aside0.mk (below_drew1 HB.out)
     clear BK275
     clear BK276
     clear BK277
     clear BK278
     clear BK282
     clear BK286
     clear BK290
     clear BK294
     clear BK298
     clear BK302
     clear BK305
     clear BK312
     clear BK324
     clear BK328
     clear HB
     have BK275 := n0_
     have BK276 := n1_
     have BK277 := n2_
     have BK278 := n3_
     have BK282 := n4_
     have BK286 := n5_
     have BK290 := n6_
     have BK294 := n7_
     have BK298 := n8_
     have BK302 := n9_
     have BK305 := n10_
     have BK312 := n11_
     have BK324 := n12_
     have BK328 := n13_
     have HB := n14_
     clear n0_ n1_ n2_ n3_ n4_ n5_ n6_ n7_ n8_ n9_ n10_ n11_ n12_ n13_ n14_
     refine start_ (n := 5) (S := fun w' => w'.cell? ⟨gb324, 0, none⟩ = some (.int .i64 t321) ∧ w'.cell? ⟨gb324, 1, none⟩ = some (.int .i64 t322) ∧ w'.cell? ⟨gb328, 0, none⟩ = some (.int .i64 t325) ∧ w'.cell? ⟨gb328, 1, none⟩ = some (.int .i64 t326)) (ds := []) #[false, false, false, false, false] (by kernel_rfl) rfl rfl ⟨(blk_cell BK324.out 0).trans rfl, (blk_cell BK324.out 1).trans rfl, (blk_cell BK328.out 0).trans rfl, (blk_cell BK328.out 1).trans rfl⟩ (fun hHeld => ?_)
     generalize w164.drew = w165 at BK275 BK276 BK277 BK278 BK282 BK286 BK290 BK294 BK298 BK302 BK305 BK312 BK324 BK328 HB hHeld ⊢
     refine take_ (i := 0) (N := some 114) (v := ?_) (a' := ?_) #[true, false, false, false, false] rfl rfl (by kernel_rfl) (fun _ _ _ h => h) (Or.inl ⟨by rfl, ?_⟩) hHeld ?_ ?_
     rotate_left
     ·
      rintro w' ⟨s0, s1, s2, s3⟩
      go_simp
      with_reducible rfl
     rotate_left
     ·
      simp only [Act.put, List.setIfInBounds_toArray, List.set_cons_zero, List.set_cons_succ, i64_w, i32_w]
      rfl
     refine take_ (i := 1) (N := some 115) (v := ?_) (a' := ?_) #[true, true, false, false, false] rfl rfl (by kernel_rfl) (fun _ _ _ h => h) (Or.inl ⟨by rfl, ?_⟩) hHeld ?_ ?_
     rotate_left
     ·
      rintro w' ⟨s0, s1, s2, s3⟩
      go_simp
      with_reducible rfl
     rotate_left
     ·
      simp only [Act.put, List.setIfInBounds_toArray, List.set_cons_zero, List.set_cons_succ, i64_w, i32_w]
      rfl
     refine one_ (i := 2) (N := none) #[true, true, true, false, false] rfl rfl (by kernel_rfl) (by decide) (fun K hK => ?_)
     have hs166 : w165.cell? ⟨gb277, 0, none⟩ = some (.int .i64 0) := (blk_cell BK277.out 0).trans rfl
     have hfs166 := blk_frozen BK277.out 0
     have hns166_0 := NB275_277.out
     have hns166_1 := NB276_277.out
     have hns166_3 := NB278_277.out
     have hns166_4 := NB282_277.out
     have hns166_5 := NB286_277.out
     have hns166_6 := NB290_277.out
     have hns166_7 := NB294_277.out
     have hns166_8 := NB298_277.out
     have hns166_9 := NB302_277.out
     have hns166_10 := NB305_277.out
     have hns166_11 := NB312_277.out
     have hns166_12 := NB324_277.out
     have hns166_13 := NB328_277.out
     have hms166_0 := NB277_275.out
     have hms166_1 := NB277_276.out
     have hms166_3 := NB277_278.out
     have hms166_4 := NB277_282.out
     have hms166_5 := NB277_286.out
     have hms166_6 := NB277_290.out
     have hms166_7 := NB277_294.out
     have hms166_8 := NB277_298.out
     have hms166_9 := NB277_302.out
     have hms166_10 := NB277_305.out
     have hms166_11 := NB277_312.out
     have hms166_12 := NB277_324.out
     have hms166_13 := NB277_328.out
     have hs167 : w165.cell? ⟨gb277, 1, none⟩ = some (.int .i64 0) := (blk_cell BK277.out 1).trans rfl
     have hfs167 := blk_frozen BK277.out 1
     have hns167_0 := NB275_277.out
     have hns167_1 := NB276_277.out
     have hns167_3 := NB278_277.out
     have hns167_4 := NB282_277.out
     have hns167_5 := NB286_277.out
     have hns167_6 := NB290_277.out
     have hns167_7 := NB294_277.out
     have hns167_8 := NB298_277.out
     have hns167_9 := NB302_277.out
     have hns167_10 := NB305_277.out
     have hns167_11 := NB312_277.out
     have hns167_12 := NB324_277.out
     have hns167_13 := NB328_277.out
     have hms167_0 := NB277_275.out
     have hms167_1 := NB277_276.out
     have hms167_3 := NB277_278.out
     have hms167_4 := NB277_282.out
     have hms167_5 := NB277_286.out
     have hms167_6 := NB277_290.out
     have hms167_7 := NB277_294.out
     have hms167_8 := NB277_298.out
     have hms167_9 := NB277_302.out
     have hms167_10 := NB277_305.out
     have hms167_11 := NB277_312.out
     have hms167_12 := NB277_324.out
     have hms167_13 := NB277_328.out
     refine skip_ (w1 := ?_) (by rfl) rfl ?_ ?_
     rotate_left
     ·
      go_simp
      rfl
     refine hK.out _ _ ⟨((cell_far (p := ⟨gb277, _, none⟩) NB324_277.out _).trans (((cell_far (p := ⟨gb277, _, none⟩) NB324_277.out _).trans (hHeld.1)))), ((cell_far (p := ⟨gb277, _, none⟩) NB324_277.out _).trans (((cell_far (p := ⟨gb277, _, none⟩) NB324_277.out _).trans (hHeld.2.1)))), ((cell_far (p := ⟨gb277, _, none⟩) NB328_277.out _).trans (((cell_far (p := ⟨gb277, _, none⟩) NB328_277.out _).trans (hHeld.2.2.1)))), ((cell_far (p := ⟨gb277, _, none⟩) NB328_277.out _).trans (((cell_far (p := ⟨gb277, _, none⟩) NB328_277.out _).trans (hHeld.2.2.2))))⟩ (fun hHeld => ?_)
     clear hK K
     refine one_ (i := 3) (N := none) #[true, true, true, true, false] rfl rfl (by kernel_rfl) (by decide) (fun K hK => ?_)
     have hs168 : w165.cell? ⟨gb278, 0, none⟩ = some (.int .i64 0) := (blk_cell BK278.out 0).trans rfl
     have hfs168 := blk_frozen BK278.out 0
     have hns168_0 := NB275_278.out
     have hns168_1 := NB276_278.out
     have hns168_2 := NB277_278.out
     have hns168_4 := NB282_278.out
     have hns168_5 := NB286_278.out
     have hns168_6 := NB290_278.out
     have hns168_7 := NB294_278.out
     have hns168_8 := NB298_278.out
     have hns168_9 := NB302_278.out
     have hns168_10 := NB305_278.out
     have hns168_11 := NB312_278.out
     have hns168_12 := NB324_278.out
     have hns168_13 := NB328_278.out
     have hms168_0 := NB278_275.out
     have hms168_1 := NB278_276.out
     have hms168_2 := NB278_277.out
     have hms168_4 := NB278_282.out
     have hms168_5 := NB278_286.out
     have hms168_6 := NB278_290.out
     have hms168_7 := NB278_294.out
     have hms168_8 := NB278_298.out
     have hms168_9 := NB278_302.out
     have hms168_10 := NB278_305.out
     have hms168_11 := NB278_312.out
     have hms168_12 := NB278_324.out
     have hms168_13 := NB278_328.out
     have hs169 : w165.cell? ⟨gb278, 1, none⟩ = some (.int .i64 0) := (blk_cell BK278.out 1).trans rfl
     have hfs169 := blk_frozen BK278.out 1
     have hns169_0 := NB275_278.out
     have hns169_1 := NB276_278.out
     have hns169_2 := NB277_278.out
     have hns169_4 := NB282_278.out
     have hns169_5 := NB286_278.out
     have hns169_6 := NB290_278.out
     have hns169_7 := NB294_278.out
     have hns169_8 := NB298_278.out
     have hns169_9 := NB302_278.out
     have hns169_10 := NB305_278.out
     have hns169_11 := NB312_278.out
     have hns169_12 := NB324_278.out
     have hns169_13 := NB328_278.out
     have hms169_0 := NB278_275.out
     have hms169_1 := NB278_276.out
     have hms169_2 := NB278_277.out
     have hms169_4 := NB278_282.out
     have hms169_5 := NB278_286.out
     have hms169_6 := NB278_290.out
     have hms169_7 := NB278_294.out
     have hms169_8 := NB278_298.out
     have hms169_9 := NB278_302.out
     have hms169_10 := NB278_305.out
     have hms169_11 := NB278_312.out
     have hms169_12 := NB278_324.out
     have hms169_13 := NB278_328.out
     refine skip_ (w1 := ?_) (by rfl) rfl ?_ ?_
     rotate_left
     ·
      go_simp
      rfl
     refine hK.out _ _ ⟨((cell_far (p := ⟨gb278, _, none⟩) NB324_278.out _).trans (((cell_far (p := ⟨gb278, _, none⟩) NB324_278.out _).trans (hHeld.1)))), ((cell_far (p := ⟨gb278, _, none⟩) NB324_278.out _).trans (((cell_far (p := ⟨gb278, _, none⟩) NB324_278.out _).trans (hHeld.2.1)))), ((cell_far (p := ⟨gb278, _, none⟩) NB328_278.out _).trans (((cell_far (p := ⟨gb278, _, none⟩) NB328_278.out _).trans (hHeld.2.2.1)))), ((cell_far (p := ⟨gb278, _, none⟩) NB328_278.out _).trans (((cell_far (p := ⟨gb278, _, none⟩) NB328_278.out _).trans (hHeld.2.2.2))))⟩ (fun hHeld => ?_)
     clear hK K
     refine pure_ (i := 4) (N := some 6) (v := ?_) (a' := ?_) #[true, true, true, true, true] rfl rfl (by kernel_rfl) (fun _ _ _ h => h) (Or.inl ⟨by rfl, ?_⟩) ?_ ?_
     rotate_left
     ·
      intro w'
      go_simp
      with_reducible rfl
     rotate_left
     ·
      simp only [Act.put, List.setIfInBounds_toArray, List.set_cons_zero, List.set_cons_succ, i64_w, i32_w]
      rfl
     refine done_ (by kernel_rfl) ?_
     try go_wp2
     refine bodyPost_ret (results_list (rs := [.cell 4 23, .cell 5 23, .tmp 6]) rfl (by simp) (.cell gb277 23 #[.int .i64 t321, .int .i64 t322] (0, 0) _ rfl (gr_ (blk_far (gr_ (blk_far (gr_ (blk_put (cs := #[.int .i64 t321, .int .i64 0]) (gr_ (blk_put (cs := #[.int .i64 0, .int .i64 0]) (gr_ BK277.out) 0 _ rfl)) 1 _ rfl)) NB277_278.out _)) NB277_278.out _)) Try.underlying23 rfl (by kernel_rfl) (.cell gb278 23 #[.int .i64 t325, .int .i64 t326] (0, 0) _ rfl (gr_ (blk_put (cs := #[.int .i64 t325, .int .i64 0]) (gr_ (blk_put (cs := #[.int .i64 0, .int .i64 0]) (gr_ (blk_far (gr_ (blk_far (gr_ BK278.out) NB278_277.out _)) NB278_277.out _)) 0 _ rfl)) 1 _ rfl)) Try.underlying23 rfl (by kernel_rfl) (.tmp .nil)))) rfl ?_
     exact ⟨by first | rfl | (simp [errW_none, errW_some] <;> rfl) | (simp [*, errW_none, errW_some] <;> rfl), by repeat (first | (with_reducible first | exact HB.out | apply below_alloc | apply pw_below_drewN | apply below_drew1 | refine below_set ?_ GE275.out | refine below_set ?_ GE276.out | refine below_set ?_ GE277.out | refine below_set ?_ GE278.out | refine below_set ?_ GE282.out | refine below_set ?_ GE286.out | refine below_set ?_ GE290.out | refine below_set ?_ GE294.out | refine below_set ?_ GE298.out | refine below_set ?_ GE302.out | refine below_set ?_ GE305.out | refine below_set ?_ GE312.out | refine below_set ?_ GE324.out | refine below_set ?_ GE328.out) | exact HB.out)⟩
    ·
     rw [if_neg c33] at H
     have c33b0 : (t323 == 0) = false := beq_eq_false_iff_ne.mpr c33
     have c33b1 : (t323 != 0) = true := bne_iff_ne.mpr c33
     exact absurd H (by simp)

end Go.Proofs.Ytmoffcpbmigngaa.JS
