-- Made by a program of this session (wip/hp.py, over the kit's print) out of the translation. Not trusted: Lean checks it.
import Derived.Test.YtmoffcpbmigngaaJSx0
import Derived.Test.YtmoffcpbmigngaaJSx1
import Derived.Test.YtmoffcpbmigngaaJSx2
import Derived.Test.YtmoffcpbmigngaaJSx15
import Derived.Test.YtmoffcpbmigngaaJSx25
namespace Go.Proofs.Ytmoffcpbmigngaa.JS
open Go.RowKit Go.Proofs.YtmoffcpbmigngaaW.PrintWords Go.Proofs.YtmoffcpbmigngaaW.PrintLast Go.Proofs.YtmoffcpbmigngaaW.PrintMore
attribute [local go_sem] max2_int min2_int max_two min_two max_three min_three max_four min_four   -- for this text's walks alone
set_option linter.unusedVariables false
set_option linter.unusedSimpArgs false

/-! ### sun_At: function 31 -/
set_option maxHeartbeats 8000000 in
set_option maxRecDepth 100000 in
theorem sun_At.calls (k : Nat) (a0 : Int) (r1 : Int) (r2 : Int) (r3 : Int) (r4 : Int) (r5 : Int) (w : World) (h : sun_At.f k a0 = some (r1, r2, r3, r4, r5)) :
  Calls Try.prog 31 #[.int .i64 a0] w fun e w' => e = .returned (.tuple #[.agg #[.int .i64 r1, .int .i64 r2], .agg #[.int .i64 r3, .int .i64 r4], .int .i64 r5]) ∧ Below w.heap.size w w' := by
 have hu23 := Try.underlying23
 have HB := Aside0.mk (Below.refl w.heap.size w)
 have H : ((sun_Longitude.f k a0).bind fun bt331 => (if bt331.2.2 = 0 then ((sun_Equator.f k bt331.1 bt331.2.1 0 0).bind fun bt335 => (some (bt335.1, bt335.2.1, bt335.2.2.1, bt335.2.2.2.1, bt335.2.2.2.2))) else (some (0, 0, 0, 0, bt331.2.2)))) = some (r1, r2, r3, r4, r5) := h
 clear h
 replace H := Option.bind_eq_some_iff.mp H
 obtain ⟨⟨t331, t332, t333⟩, A20, H⟩ := H
 replace H : (if t333 = 0 then ((sun_Equator.f k t331 t332 0 0).bind fun bt335 => (some (bt335.1, bt335.2.1, bt335.2.2.1, bt335.2.2.2.1, bt335.2.2.2.2))) else (some (0, 0, 0, 0, t333))) = some (r1, r2, r3, r4, r5) := H
 have A2 := Aside0.mk A20
 clear A20
 by_cases c3 : t333 = 0
 ·
  rw [if_pos c3] at H
  have c3b0 : (t333 == 0) = true := beq_iff_eq.mpr c3
  have c3b1 : (t333 != 0) = false := bne_eq_false_iff_eq.mpr c3
  clear c3
  replace H := Option.bind_eq_some_iff.mp H
  obtain ⟨⟨t335, t336, t337, t338, t339⟩, A40, H⟩ := H
  replace H : (some (t335, t336, t337, t338, t339)) = some (r1, r2, r3, r4, r5) := H
  have A4 := Aside0.mk A40
  clear A40
  simp only [Option.some.injEq, Prod.mk.injEq] at H
  obtain ⟨rfl, rfl, rfl, rfl, rfl⟩ := H
  go_enter Try.func31, Try.ntmps31
  go_wp2_with (first | ((with_reducible refine gate_dst (N := 2) rfl ?_); refine box_event ?hg (N := 2) ?hd (cs := #[.int .i64 0, .int .i64 0]) (t := 23) ?hr ?_; (case hd => rfl); (case hg => rfl); (case hr => first | (go_simp; done) | (go_simp; rfl)); intro gb329 hg w5 hbox hb; have BK329 := Aside0.mk hbox; have GW329 := ge_ (hb_ HB.out) hg; have GE329 := ge_ (hb_ HB.out) hg; replace HB := hx_ HB hb; clear hb hbox hg) | ((with_reducible refine gate_dst (N := 3) rfl ?_); refine box_event ?hg (N := 3) ?hd (cs := #[.int .i64 0, .int .i64 0]) (t := 23) ?hr ?_; (case hd => rfl); (case hg => rfl); (case hr => first | (go_simp; done) | (go_simp; rfl)); intro gb330 hg w6 hbox hb; have BK330 := Aside0.mk hbox; have GW330 := ge_ (hb_ HB.out) hg; have GE330 := ge_ (hb_ HB.out) hg; have NB329_330 := nb_ (gr_ BK329.out) hg; have NB330_329 := bn_ (gr_ BK329.out) hg; replace BK329 := nx_ BK329 hb; replace HB := hx_ HB hb; clear hb hbox hg) | ((with_reducible refine gate_callee (f := 30) rfl ?_); refine goesL_ (some 9) rfl rfl Try.func30 (by kernel_rfl) rfl #[.int .i64 a0] rfl (by (try simp only [List.map_toArray, List.map_cons, List.map_nil]); first | done | rfl | (simp only [List.length_drop, List.length_take]; rfl)) ?_; (with_reducible refine (sun_Longitude.calls k a0 t331 t332 t333 _ A2.out).mono ?_); rintro e w7 ⟨rfl, hb⟩; refine ⟨_, rfl, ?_⟩; replace BK329 := nx_ BK329 hb; replace BK330 := nx_ BK330 hb; replace HB := hx_ HB hb; (try clear hb); (try clear hb2); (try clear hk); (try clear hi)) | ((with_reducible refine gate_dst (N := 5) rfl ?_); refine box_event ?hg (N := 5) ?hd (cs := #[.int .i64 0, .int .i64 0]) (t := 23) ?hr ?_; (case hd => rfl); (case hg => rfl); (case hr => first | (go_simp; done) | (go_simp; rfl)); intro gb334 hg w8 hbox hb; have BK334 := Aside0.mk hbox; have GW334 := ge_ (hb_ HB.out) hg; have GE334 := ge_ (hb_ HB.out) hg; have NB329_334 := nb_ (gr_ BK329.out) hg; have NB334_329 := bn_ (gr_ BK329.out) hg; have NB330_334 := nb_ (gr_ BK330.out) hg; have NB334_330 := bn_ (gr_ BK330.out) hg; replace BK329 := nx_ BK329 hb; replace BK330 := nx_ BK330 hb; replace HB := hx_ HB hb; clear hb hbox hg; have hnb9 := NB334_329.out; have hnc9 := NB329_334.out; have hnb10 := NB334_330.out; have hnc10 := NB330_334.out; have hcz11_0 : w8.cell? ⟨gb334, 0, none⟩ = some (.int .i64 0) := (blk_cell BK334.out 0).trans rfl; have hcz11_1 : w8.cell? ⟨gb334, 1, none⟩ = some (.int .i64 0) := (blk_cell BK334.out 1).trans rfl; have hfz11_0 := blk_frozen BK334.out 0; have hfz11_1 := blk_frozen BK334.out 1) | ((with_reducible refine gate_callee (f := 64) rfl ?_); refine goesL_ (some 19) rfl rfl Try.func64 (by kernel_rfl) rfl #[.agg #[.int .i64 t331, .int .i64 t332], .agg #[.int .i64 0, .int .i64 0]] rfl (by (try simp only [List.map_toArray, List.map_cons, List.map_nil]); first | done | rfl | (simp only [List.length_drop, List.length_take]; rfl)) ?_; (with_reducible refine (sun_Equator.calls k t331 t332 0 0 t335 t336 t337 t338 t339 _ A4.out).mono ?_); rintro e w12 ⟨rfl, hb⟩; refine ⟨_, rfl, ?_⟩; replace BK329 := Aside0.mk (blk_below (g := gb329) (o := .cells #[.int .i64 0, .int .i64 0] 23 (0, 0)) (gr_ (blk_far (gr_ (blk_far (gr_ BK329.out) NB329_334.out _)) NB329_334.out _)) hb); replace BK330 := Aside0.mk (blk_below (g := gb330) (o := .cells #[.int .i64 0, .int .i64 0] 23 (0, 0)) (gr_ (blk_far (gr_ (blk_far (gr_ BK330.out) NB330_334.out _)) NB330_334.out _)) hb); replace BK334 := Aside0.mk (blk_below (g := gb334) (o := .cells #[.int .i64 t331, .int .i64 t332] 23 (0, 0)) (gr_ (blk_put (cs := #[.int .i64 t331, .int .i64 0]) (gr_ (blk_put (cs := #[.int .i64 0, .int .i64 0]) (gr_ BK334.out) 0 _ rfl)) 1 _ rfl)) hb); replace HB := Aside0.mk (below_step (by repeat (first | (with_reducible first | exact HB.out | apply below_alloc | apply pw_below_drewN | apply below_drew1 | refine below_set ?_ GE334.out) | exact HB.out)) hb); (try clear hb); (try clear hb2); (try clear hk); (try clear hi); have hnb13 := NB329_330.out; have hnc13 := NB330_329.out; have hcz14_0 : w12.cell? ⟨gb329, 0, none⟩ = some (.int .i64 0) := (blk_cell BK329.out 0).trans rfl; have hcz14_1 : w12.cell? ⟨gb329, 1, none⟩ = some (.int .i64 0) := (blk_cell BK329.out 1).trans rfl; have hfz14_0 := blk_frozen BK329.out 0; have hfz14_1 := blk_frozen BK329.out 1; have hcz15_0 : w12.cell? ⟨gb330, 0, none⟩ = some (.int .i64 0) := (blk_cell BK330.out 0).trans rfl; have hcz15_1 : w12.cell? ⟨gb330, 1, none⟩ = some (.int .i64 0) := (blk_cell BK330.out 1).trans rfl; have hfz15_0 := blk_frozen BK330.out 0; have hfz15_1 := blk_frozen BK330.out 1))
  refine bodyPost_ret (results_list (rs := [.cell 2 23, .cell 3 23, .tmp 4]) rfl (by simp) (.cell gb329 23 #[.int .i64 t335, .int .i64 t336] (0, 0) _ rfl (gr_ (blk_far (gr_ (blk_far (gr_ (blk_put (cs := #[.int .i64 t335, .int .i64 0]) (gr_ (blk_put (cs := #[.int .i64 0, .int .i64 0]) (gr_ BK329.out) 0 _ rfl)) 1 _ rfl)) NB329_330.out _)) NB329_330.out _)) Try.underlying23 rfl (by kernel_rfl) (.cell gb330 23 #[.int .i64 t337, .int .i64 t338] (0, 0) _ rfl (gr_ (blk_put (cs := #[.int .i64 t337, .int .i64 0]) (gr_ (blk_put (cs := #[.int .i64 0, .int .i64 0]) (gr_ (blk_far (gr_ (blk_far (gr_ BK330.out) NB330_329.out _)) NB330_329.out _)) 0 _ rfl)) 1 _ rfl)) Try.underlying23 rfl (by kernel_rfl) (.tmp .nil)))) rfl ?_
  exact ⟨by first | rfl | (simp [errW_none, errW_some] <;> rfl) | (simp [*, errW_none, errW_some] <;> rfl), by repeat (first | (with_reducible first | exact HB.out | apply below_alloc | apply pw_below_drewN | apply below_drew1 | refine below_set ?_ GE329.out | refine below_set ?_ GE330.out | refine below_set ?_ GE334.out) | exact HB.out)⟩
 ·
  rw [if_neg c3] at H
  have c3b0 : (t333 == 0) = false := beq_eq_false_iff_ne.mpr c3
  have c3b1 : (t333 != 0) = true := bne_iff_ne.mpr c3
  simp only [Option.some.injEq, Prod.mk.injEq] at H
  obtain ⟨rfl, rfl, rfl, rfl, rfl⟩ := H
  go_enter Try.func31, Try.ntmps31
  go_wp2_with (first | ((with_reducible refine gate_dst (N := 2) rfl ?_); refine box_event ?hg (N := 2) ?hd (cs := #[.int .i64 0, .int .i64 0]) (t := 23) ?hr ?_; (case hd => rfl); (case hg => rfl); (case hr => first | (go_simp; done) | (go_simp; rfl)); intro gb329 hg w16 hbox hb; have BK329 := Aside0.mk hbox; have GW329 := ge_ (hb_ HB.out) hg; have GE329 := ge_ (hb_ HB.out) hg; replace HB := hx_ HB hb; clear hb hbox hg) | ((with_reducible refine gate_dst (N := 3) rfl ?_); refine box_event ?hg (N := 3) ?hd (cs := #[.int .i64 0, .int .i64 0]) (t := 23) ?hr ?_; (case hd => rfl); (case hg => rfl); (case hr => first | (go_simp; done) | (go_simp; rfl)); intro gb330 hg w17 hbox hb; have BK330 := Aside0.mk hbox; have GW330 := ge_ (hb_ HB.out) hg; have GE330 := ge_ (hb_ HB.out) hg; have NB329_330 := nb_ (gr_ BK329.out) hg; have NB330_329 := bn_ (gr_ BK329.out) hg; replace BK329 := nx_ BK329 hb; replace HB := hx_ HB hb; clear hb hbox hg) | ((with_reducible refine gate_callee (f := 30) rfl ?_); refine goesL_ (some 9) rfl rfl Try.func30 (by kernel_rfl) rfl #[.int .i64 a0] rfl (by (try simp only [List.map_toArray, List.map_cons, List.map_nil]); first | done | rfl | (simp only [List.length_drop, List.length_take]; rfl)) ?_; (with_reducible refine (sun_Longitude.calls k a0 t331 t332 t333 _ A2.out).mono ?_); rintro e w18 ⟨rfl, hb⟩; refine ⟨_, rfl, ?_⟩; replace BK329 := nx_ BK329 hb; replace BK330 := nx_ BK330 hb; replace HB := hx_ HB hb; (try clear hb); (try clear hb2); (try clear hk); (try clear hi)) | ((with_reducible refine gate_dst (N := 5) rfl ?_); refine box_event ?hg (N := 5) ?hd (cs := #[.int .i64 0, .int .i64 0]) (t := 23) ?hr ?_; (case hd => rfl); (case hg => rfl); (case hr => first | (go_simp; done) | (go_simp; rfl)); intro gb334 hg w19 hbox hb; have BK334 := Aside0.mk hbox; have GW334 := ge_ (hb_ HB.out) hg; have GE334 := ge_ (hb_ HB.out) hg; have NB329_334 := nb_ (gr_ BK329.out) hg; have NB334_329 := bn_ (gr_ BK329.out) hg; have NB330_334 := nb_ (gr_ BK330.out) hg; have NB334_330 := bn_ (gr_ BK330.out) hg; replace BK329 := nx_ BK329 hb; replace BK330 := nx_ BK330 hb; replace HB := hx_ HB hb; clear hb hbox hg; have hnb20 := NB334_329.out; have hnc20 := NB329_334.out; have hnb21 := NB334_330.out; have hnc21 := NB330_334.out; have hcz22_0 : w19.cell? ⟨gb334, 0, none⟩ = some (.int .i64 0) := (blk_cell BK334.out 0).trans rfl; have hcz22_1 : w19.cell? ⟨gb334, 1, none⟩ = some (.int .i64 0) := (blk_cell BK334.out 1).trans rfl; have hfz22_0 := blk_frozen BK334.out 0; have hfz22_1 := blk_frozen BK334.out 1; have hnb23 := NB329_330.out; have hnc23 := NB330_329.out; have hcz24_0 : w19.cell? ⟨gb329, 0, none⟩ = some (.int .i64 0) := (blk_cell BK329.out 0).trans rfl; have hcz24_1 : w19.cell? ⟨gb329, 1, none⟩ = some (.int .i64 0) := (blk_cell BK329.out 1).trans rfl; have hfz24_0 := blk_frozen BK329.out 0; have hfz24_1 := blk_frozen BK329.out 1; have hcz25_0 : w19.cell? ⟨gb330, 0, none⟩ = some (.int .i64 0) := (blk_cell BK330.out 0).trans rfl; have hcz25_1 : w19.cell? ⟨gb330, 1, none⟩ = some (.int .i64 0) := (blk_cell BK330.out 1).trans rfl; have hfz25_0 := blk_frozen BK330.out 0; have hfz25_1 := blk_frozen BK330.out 1))
  refine bodyPost_ret (results_list (rs := [.cell 2 23, .cell 3 23, .tmp 4]) rfl (by simp) (.cell gb329 23 #[.int .i64 0, .int .i64 0] (0, 0) _ rfl (gr_ (blk_far (gr_ (blk_far (gr_ (blk_put (cs := #[.int .i64 0, .int .i64 0]) (gr_ (blk_put (cs := #[.int .i64 0, .int .i64 0]) (gr_ (blk_far (gr_ (blk_far (gr_ BK329.out) NB329_334.out _)) NB329_334.out _)) 0 _ rfl)) 1 _ rfl)) NB329_330.out _)) NB329_330.out _)) Try.underlying23 rfl (by kernel_rfl) (.cell gb330 23 #[.int .i64 0, .int .i64 0] (0, 0) _ rfl (gr_ (blk_put (cs := #[.int .i64 0, .int .i64 0]) (gr_ (blk_put (cs := #[.int .i64 0, .int .i64 0]) (gr_ (blk_far (gr_ (blk_far (gr_ (blk_far (gr_ (blk_far (gr_ BK330.out) NB330_334.out _)) NB330_334.out _)) NB330_329.out _)) NB330_329.out _)) 0 _ rfl)) 1 _ rfl)) Try.underlying23 rfl (by kernel_rfl) (.tmp .nil)))) rfl ?_
  exact ⟨by first | rfl | (simp [errW_none, errW_some] <;> rfl) | (simp [*, errW_none, errW_some] <;> rfl), by repeat (first | (with_reducible first | exact HB.out | apply below_alloc | apply pw_below_drewN | apply below_drew1 | refine below_set ?_ GE329.out | refine below_set ?_ GE330.out | refine below_set ?_ GE334.out) | exact HB.out)⟩

/-! ### ephemeriskeep2_has: function 54 -/
set_option maxHeartbeats 8000000 in
set_option maxRecDepth 100000 in
theorem ephemeriskeep2_has.calls (a0_0 : Int) (a0_1 : Int) (a1 : Int) (a2 : Int) (r : Bool) (w : World) (h : ephemeriskeep2_has.f a0_0 a0_1 a1 a2 = some r) :
  Calls Try.prog 54 #[.agg #[.int .i64 a0_0, .int .i64 a0_1], .int .i64 a1, .int .i64 a2] w fun e w' => e = .returned (.bool r) ∧ Below w.heap.size w w' := by
 have hu23 := Try.underlying23
 have HB := Aside0.mk (Below.refl w.heap.size w)
 have H : (if a0_0 ≤ a1 then (if a1 ≤ a0_1 then (some (decide ((wrap64 (a0_1 - a0_0)) ≤ a2))) else (some false)) else (some false)) = some r := h
 clear h
 by_cases c4 : a0_0 ≤ a1
 ·
  rw [if_pos c4] at H
  have c4b0 : decide (a0_0 ≤ a1) = true := decide_eq_true c4
  clear c4
  by_cases c5 : a1 ≤ a0_1
  ·
   rw [if_pos c5] at H
   have c5b0 : decide (a1 ≤ a0_1) = true := decide_eq_true c5
   clear c5
   obtain rfl := Option.some.inj H
   go_enter Try.func54, Try.ntmps54
   go_wp2_with (first | ((with_reducible refine gate_dst (N := 3) rfl ?_); refine box_event ?hg (N := 3) ?hd (cs := #[.int .i64 a0_0, .int .i64 a0_1]) (t := 23) ?hr ?_; (case hd => rfl); (case hg => rfl); (case hr => first | (go_simp; done) | (go_simp; rfl)); intro gb340 hg w6 hbox hb; have BK340 := Aside0.mk hbox; have GW340 := ge_ (hb_ HB.out) hg; have GE340 := ge_ (hb_ HB.out) hg; replace HB := hx_ HB hb; clear hb hbox hg; have hcz7_0 : w6.cell? ⟨gb340, 0, none⟩ = some (.int .i64 a0_0) := (blk_cell BK340.out 0).trans rfl; have hcz7_1 : w6.cell? ⟨gb340, 1, none⟩ = some (.int .i64 a0_1) := (blk_cell BK340.out 1).trans rfl; have hfz7_0 := blk_frozen BK340.out 0; have hfz7_1 := blk_frozen BK340.out 1))
   go_ret
   exact ⟨by first | rfl | (simp [errW_none, errW_some] <;> rfl) | (simp [*, errW_none, errW_some] <;> rfl), by repeat (first | (with_reducible first | exact HB.out | apply below_alloc | apply pw_below_drewN | apply below_drew1 | refine below_set ?_ GE340.out) | exact HB.out)⟩
  ·
   rw [if_neg c5] at H
   have c5b0 : decide (a1 ≤ a0_1) = false := decide_eq_false c5
   clear c5
   obtain rfl := Option.some.inj H
   go_enter Try.func54, Try.ntmps54
   go_wp2_with (first | ((with_reducible refine gate_dst (N := 3) rfl ?_); refine box_event ?hg (N := 3) ?hd (cs := #[.int .i64 a0_0, .int .i64 a0_1]) (t := 23) ?hr ?_; (case hd => rfl); (case hg => rfl); (case hr => first | (go_simp; done) | (go_simp; rfl)); intro gb340 hg w8 hbox hb; have BK340 := Aside0.mk hbox; have GW340 := ge_ (hb_ HB.out) hg; have GE340 := ge_ (hb_ HB.out) hg; replace HB := hx_ HB hb; clear hb hbox hg; have hcz9_0 : w8.cell? ⟨gb340, 0, none⟩ = some (.int .i64 a0_0) := (blk_cell BK340.out 0).trans rfl; have hcz9_1 : w8.cell? ⟨gb340, 1, none⟩ = some (.int .i64 a0_1) := (blk_cell BK340.out 1).trans rfl; have hfz9_0 := blk_frozen BK340.out 0; have hfz9_1 := blk_frozen BK340.out 1))
   go_ret
   exact ⟨by first | rfl | (simp [errW_none, errW_some] <;> rfl) | (simp [*, errW_none, errW_some] <;> rfl), by repeat (first | (with_reducible first | exact HB.out | apply below_alloc | apply pw_below_drewN | apply below_drew1 | refine below_set ?_ GE340.out) | exact HB.out)⟩
 ·
  rw [if_neg c4] at H
  have c4b0 : decide (a0_0 ≤ a1) = false := decide_eq_false c4
  clear c4
  obtain rfl := Option.some.inj H
  go_enter Try.func54, Try.ntmps54
  go_wp2_with (first | ((with_reducible refine gate_dst (N := 3) rfl ?_); refine box_event ?hg (N := 3) ?hd (cs := #[.int .i64 a0_0, .int .i64 a0_1]) (t := 23) ?hr ?_; (case hd => rfl); (case hg => rfl); (case hr => first | (go_simp; done) | (go_simp; rfl)); intro gb340 hg w10 hbox hb; have BK340 := Aside0.mk hbox; have GW340 := ge_ (hb_ HB.out) hg; have GE340 := ge_ (hb_ HB.out) hg; replace HB := hx_ HB hb; clear hb hbox hg; have hcz11_0 : w10.cell? ⟨gb340, 0, none⟩ = some (.int .i64 a0_0) := (blk_cell BK340.out 0).trans rfl; have hcz11_1 : w10.cell? ⟨gb340, 1, none⟩ = some (.int .i64 a0_1) := (blk_cell BK340.out 1).trans rfl; have hfz11_0 := blk_frozen BK340.out 0; have hfz11_1 := blk_frozen BK340.out 1))
  go_ret
  exact ⟨by first | rfl | (simp [errW_none, errW_some] <;> rfl) | (simp [*, errW_none, errW_some] <;> rfl), by repeat (first | (with_reducible first | exact HB.out | apply below_alloc | apply pw_below_drewN | apply below_drew1 | refine below_set ?_ GE340.out) | exact HB.out)⟩

/-! ### ephemeriskeep2_sunWorks: function 28 -/
set_option maxHeartbeats 8000000 in
set_option maxRecDepth 100000 in
theorem ephemeriskeep2_sunWorks.calls (k : Nat)  (r : Bool) (w : World) (h : ephemeriskeep2_sunWorks.f k  = some r) :
  Calls Try.prog 28 #[] w fun e w' => e = .returned (.bool r) ∧ Below w.heap.size w w' := by
 have hu23 := Try.underlying23
 have HB := Aside0.mk (Below.refl w.heap.size w)
 have H : ((sun_Longitude.f k 0).bind fun bt341 => ((sun_At.f k 0).bind fun bt345 => (if bt341.2.2 = 0 then ((ephemeriskeep2_has.f bt341.1 bt341.2.1 778094769 4010).bind fun t352 => (if t352 = true then (if bt345.2.2.2.2 = 0 then ((ephemeriskeep2_has.f bt345.1 bt345.2.1 780562381 10000).bind fun t353 => (if t353 = true then ((ephemeriskeep2_has.f bt345.2.2.1 bt345.2.2.2.1 (-64038259) 6000).bind fun t354 => (some t354)) else (none))) else (none)) else (none))) else (none)))) = some r := h
 clear h
 replace H := Option.bind_eq_some_iff.mp H
 obtain ⟨⟨t341, t342, t343⟩, A10, H⟩ := H
 replace H : ((sun_At.f k 0).bind fun bt345 => (if t343 = 0 then ((ephemeriskeep2_has.f t341 t342 778094769 4010).bind fun t352 => (if t352 = true then (if bt345.2.2.2.2 = 0 then ((ephemeriskeep2_has.f bt345.1 bt345.2.1 780562381 10000).bind fun t353 => (if t353 = true then ((ephemeriskeep2_has.f bt345.2.2.1 bt345.2.2.2.1 (-64038259) 6000).bind fun t354 => (some t354)) else (none))) else (none)) else (none))) else (none))) = some r := H
 have A1 := Aside0.mk A10
 clear A10
 replace H := Option.bind_eq_some_iff.mp H
 obtain ⟨⟨t345, t346, t347, t348, t349⟩, A20, H⟩ := H
 replace H : (if t343 = 0 then ((ephemeriskeep2_has.f t341 t342 778094769 4010).bind fun t352 => (if t352 = true then (if t349 = 0 then ((ephemeriskeep2_has.f t345 t346 780562381 10000).bind fun t353 => (if t353 = true then ((ephemeriskeep2_has.f t347 t348 (-64038259) 6000).bind fun t354 => (some t354)) else (none))) else (none)) else (none))) else (none)) = some r := H
 have A2 := Aside0.mk A20
 clear A20
 by_cases c3 : t343 = 0
 ·
  rw [if_pos c3] at H
  have c3b0 : (t343 == 0) = true := beq_iff_eq.mpr c3
  have c3b1 : (t343 != 0) = false := bne_eq_false_iff_eq.mpr c3
  clear c3
  replace H := Option.bind_eq_some_iff.mp H
  obtain ⟨t352, A40, H⟩ := H
  replace H : (if t352 = true then (if t349 = 0 then ((ephemeriskeep2_has.f t345 t346 780562381 10000).bind fun t353 => (if t353 = true then ((ephemeriskeep2_has.f t347 t348 (-64038259) 6000).bind fun t354 => (some t354)) else (none))) else (none)) else (none)) = some r := H
  have A4 := Aside0.mk A40
  clear A40
  by_cases c5 : t352 = true
  ·
   subst c5
   have H1 : (if t349 = 0 then ((ephemeriskeep2_has.f t345 t346 780562381 10000).bind fun t353 => (if t353 = true then ((ephemeriskeep2_has.f t347 t348 (-64038259) 6000).bind fun t354 => (some t354)) else (none))) else (none)) = some r := by rw [if_pos rfl] at H; exact H
   clear H
   have H := H1
   clear H1
   by_cases c6 : t349 = 0
   ·
    rw [if_pos c6] at H
    have c6b0 : (t349 == 0) = true := beq_iff_eq.mpr c6
    have c6b1 : (t349 != 0) = false := bne_eq_false_iff_eq.mpr c6
    clear c6
    replace H := Option.bind_eq_some_iff.mp H
    obtain ⟨t353, A70, H⟩ := H
    replace H : (if t353 = true then ((ephemeriskeep2_has.f t347 t348 (-64038259) 6000).bind fun t354 => (some t354)) else (none)) = some r := H
    have A7 := Aside0.mk A70
    clear A70
    by_cases c8 : t353 = true
    ·
     subst c8
     have H1 : ((ephemeriskeep2_has.f t347 t348 (-64038259) 6000).bind fun t354 => (some t354)) = some r := by rw [if_pos rfl] at H; exact H
     clear H
     have H := H1
     clear H1
     replace H := Option.bind_eq_some_iff.mp H
     obtain ⟨t354, A90, H⟩ := H
     replace H : (some t354) = some r := H
     have A9 := Aside0.mk A90
     clear A90
     obtain rfl := Option.some.inj H
     go_enter Try.func28, Try.ntmps28
     go_wp2_with (first | ((with_reducible refine gate_callee (f := 30) rfl ?_); refine goesL_ (some 7) rfl rfl Try.func30 (by kernel_rfl) rfl #[.int .i64 0] rfl (by (try simp only [List.map_toArray, List.map_cons, List.map_nil]); first | done | rfl | (simp only [List.length_drop, List.length_take]; rfl)) ?_; (with_reducible refine (sun_Longitude.calls k 0 t341 t342 t343 _ A1.out).mono ?_); rintro e w10 ⟨rfl, hb⟩; refine ⟨_, rfl, ?_⟩; replace HB := hx_ HB hb; (try clear hb); (try clear hb2); (try clear hk); (try clear hi)) | ((with_reducible refine gate_dst (N := 1) rfl ?_); refine box_event ?hg (N := 1) ?hd (cs := #[.int .i64 0, .int .i64 0]) (t := 23) ?hr ?_; (case hd => rfl); (case hg => rfl); (case hr => first | (go_simp; done) | (go_simp; rfl)); intro gb344 hg w11 hbox hb; have BK344 := Aside0.mk hbox; have GW344 := ge_ (hb_ HB.out) hg; have GE344 := ge_ (hb_ HB.out) hg; replace HB := hx_ HB hb; clear hb hbox hg; have hcz12_0 : w11.cell? ⟨gb344, 0, none⟩ = some (.int .i64 0) := (blk_cell BK344.out 0).trans rfl; have hcz12_1 : w11.cell? ⟨gb344, 1, none⟩ = some (.int .i64 0) := (blk_cell BK344.out 1).trans rfl; have hfz12_0 := blk_frozen BK344.out 0; have hfz12_1 := blk_frozen BK344.out 1) | ((with_reducible refine gate_callee (f := 31) rfl ?_); refine goesL_ (some 11) rfl rfl Try.func31 (by kernel_rfl) rfl #[.int .i64 0] rfl (by (try simp only [List.map_toArray, List.map_cons, List.map_nil]); first | done | rfl | (simp only [List.length_drop, List.length_take]; rfl)) ?_; (with_reducible refine (sun_At.calls k 0 t345 t346 t347 t348 t349 _ A2.out).mono ?_); rintro e w13 ⟨rfl, hb⟩; refine ⟨_, rfl, ?_⟩; replace BK344 := Aside0.mk (blk_below (g := gb344) (o := .cells #[.int .i64 t341, .int .i64 t342] 23 (0, 0)) (gr_ (blk_put (cs := #[.int .i64 t341, .int .i64 0]) (gr_ (blk_put (cs := #[.int .i64 0, .int .i64 0]) (gr_ BK344.out) 0 _ rfl)) 1 _ rfl)) hb); replace HB := Aside0.mk (below_step (by repeat (first | (with_reducible first | exact HB.out | apply below_alloc | apply pw_below_drewN | apply below_drew1 | refine below_set ?_ GE344.out) | exact HB.out)) hb); (try clear hb); (try clear hb2); (try clear hk); (try clear hi)) | ((with_reducible refine gate_dst (N := 3) rfl ?_); refine box_event ?hg (N := 3) ?hd (cs := #[.int .i64 0, .int .i64 0]) (t := 23) ?hr ?_; (case hd => rfl); (case hg => rfl); (case hr => first | (go_simp; done) | (go_simp; rfl)); intro gb350 hg w14 hbox hb; have BK350 := Aside0.mk hbox; have GW350 := ge_ (hb_ HB.out) hg; have GE350 := ge_ (hb_ HB.out) hg; have NB344_350 := nb_ (gr_ BK344.out) hg; have NB350_344 := bn_ (gr_ BK344.out) hg; replace BK344 := nx_ BK344 hb; replace HB := hx_ HB hb; clear hb hbox hg) | ((with_reducible refine gate_dst (N := 4) rfl ?_); refine box_event ?hg (N := 4) ?hd (cs := #[.int .i64 0, .int .i64 0]) (t := 23) ?hr ?_; (case hd => rfl); (case hg => rfl); (case hr => first | (go_simp; done) | (go_simp; rfl)); intro gb351 hg w15 hbox hb; have BK351 := Aside0.mk hbox; have GW351 := ge_ (hb_ HB.out) hg; have GE351 := ge_ (hb_ HB.out) hg; have NB344_351 := nb_ (gr_ BK344.out) hg; have NB351_344 := bn_ (gr_ BK344.out) hg; have NB350_351 := nb_ (gr_ BK350.out) hg; have NB351_350 := bn_ (gr_ BK350.out) hg; replace BK344 := nx_ BK344 hb; replace BK350 := nx_ BK350 hb; replace HB := hx_ HB hb; clear hb hbox hg; have hnb16 := NB350_344.out; have hnc16 := NB344_350.out; have hnb17 := NB350_351.out; have hnc17 := NB351_350.out; have hcz18_0 : w15.cell? ⟨gb350, 0, none⟩ = some (.int .i64 0) := (blk_cell BK350.out 0).trans rfl; have hcz18_1 : w15.cell? ⟨gb350, 1, none⟩ = some (.int .i64 0) := (blk_cell BK350.out 1).trans rfl; have hfz18_0 := blk_frozen BK350.out 0; have hfz18_1 := blk_frozen BK350.out 1; have hnb19 := NB351_344.out; have hnc19 := NB344_351.out; have hcz20_0 : w15.cell? ⟨gb351, 0, none⟩ = some (.int .i64 0) := (blk_cell BK351.out 0).trans rfl; have hcz20_1 : w15.cell? ⟨gb351, 1, none⟩ = some (.int .i64 0) := (blk_cell BK351.out 1).trans rfl; have hfz20_0 := blk_frozen BK351.out 0; have hfz20_1 := blk_frozen BK351.out 1; have hcz21_0 : w15.cell? ⟨gb344, 0, none⟩ = some (.int .i64 t341) := (blk_cell BK344.out 0).trans rfl; have hcz21_1 : w15.cell? ⟨gb344, 1, none⟩ = some (.int .i64 t342) := (blk_cell BK344.out 1).trans rfl; have hfz21_0 := blk_frozen BK344.out 0; have hfz21_1 := blk_frozen BK344.out 1) | (go_at_call 54; (with_reducible refine (ephemeriskeep2_has.calls t341 t342 778094769 4010 true _ A4.out).mono ?_); rintro e w22 ⟨rfl, hb⟩; replace BK344 := Aside0.mk (blk_below (g := gb344) (o := .cells #[.int .i64 t341, .int .i64 t342] 23 (0, 0)) (gr_ (blk_far (gr_ (blk_far (gr_ (blk_far (gr_ (blk_far (gr_ BK344.out) NB344_350.out _)) NB344_350.out _)) NB344_351.out _)) NB344_351.out _)) hb); replace BK350 := Aside0.mk (blk_below (g := gb350) (o := .cells #[.int .i64 t345, .int .i64 t346] 23 (0, 0)) (gr_ (blk_far (gr_ (blk_far (gr_ (blk_put (cs := #[.int .i64 t345, .int .i64 0]) (gr_ (blk_put (cs := #[.int .i64 0, .int .i64 0]) (gr_ BK350.out) 0 _ rfl)) 1 _ rfl)) NB350_351.out _)) NB350_351.out _)) hb); replace BK351 := Aside0.mk (blk_below (g := gb351) (o := .cells #[.int .i64 t347, .int .i64 t348] 23 (0, 0)) (gr_ (blk_put (cs := #[.int .i64 t347, .int .i64 0]) (gr_ (blk_put (cs := #[.int .i64 0, .int .i64 0]) (gr_ (blk_far (gr_ (blk_far (gr_ BK351.out) NB351_350.out _)) NB351_350.out _)) 0 _ rfl)) 1 _ rfl)) hb); replace HB := Aside0.mk (below_step (by repeat (first | (with_reducible first | exact HB.out | apply below_alloc | apply pw_below_drewN | apply below_drew1 | refine below_set ?_ GE350.out | refine below_set ?_ GE351.out) | exact HB.out)) hb); (try clear hb); (try clear hb2); (try clear hk); (try clear hi); have hcz23_0 : w22.cell? ⟨gb350, 0, none⟩ = some (.int .i64 t345) := (blk_cell BK350.out 0).trans rfl; have hcz23_1 : w22.cell? ⟨gb350, 1, none⟩ = some (.int .i64 t346) := (blk_cell BK350.out 1).trans rfl; have hfz23_0 := blk_frozen BK350.out 0; have hfz23_1 := blk_frozen BK350.out 1) | (go_at_call 54; (with_reducible refine (ephemeriskeep2_has.calls t345 t346 780562381 10000 true _ A7.out).mono ?_); rintro e w24 ⟨rfl, hb⟩; replace BK344 := nx_ BK344 hb; replace BK350 := nx_ BK350 hb; replace BK351 := nx_ BK351 hb; replace HB := hx_ HB hb; (try clear hb); (try clear hb2); (try clear hk); (try clear hi); have hcz25_0 : w24.cell? ⟨gb351, 0, none⟩ = some (.int .i64 t347) := (blk_cell BK351.out 0).trans rfl; have hcz25_1 : w24.cell? ⟨gb351, 1, none⟩ = some (.int .i64 t348) := (blk_cell BK351.out 1).trans rfl; have hfz25_0 := blk_frozen BK351.out 0; have hfz25_1 := blk_frozen BK351.out 1) | (go_at_call 54; (with_reducible refine (ephemeriskeep2_has.calls t347 t348 (-64038259) 6000 t354 _ A9.out).mono ?_); rintro e w26 ⟨rfl, hb⟩; replace BK344 := nx_ BK344 hb; replace BK350 := nx_ BK350 hb; replace BK351 := nx_ BK351 hb; replace HB := hx_ HB hb; (try clear hb); (try clear hb2); (try clear hk); (try clear hi)))
     go_ret
     exact ⟨by first | rfl | (simp [errW_none, errW_some] <;> rfl) | (simp [*, errW_none, errW_some] <;> rfl), by repeat (first | (with_reducible first | exact HB.out | apply below_alloc | apply pw_below_drewN | apply below_drew1 | refine below_set ?_ GE344.out | refine below_set ?_ GE350.out | refine below_set ?_ GE351.out) | exact HB.out)⟩
    ·
     replace c8 := Bool.eq_false_iff.mpr c8
     subst c8
     have H1 : (none) = some r := by rw [if_neg (show ¬ (false = true) by decide)] at H; exact H
     clear H
     have H := H1
     clear H1
     exact absurd H (by simp)
   ·
    rw [if_neg c6] at H
    exact absurd H (by simp)
  ·
   replace c5 := Bool.eq_false_iff.mpr c5
   subst c5
   have H1 : (none) = some r := by rw [if_neg (show ¬ (false = true) by decide)] at H; exact H
   clear H
   have H := H1
   clear H1
   exact absurd H (by simp)
 ·
  rw [if_neg c3] at H
  exact absurd H (by simp)

/-! ### ephemeriskeep2_instant: function 29 -/
set_option maxHeartbeats 8000000 in
set_option maxRecDepth 100000 in
theorem ephemeriskeep2_instant.calls (a0 : Int) (r : Int) (w : World) (h : ephemeriskeep2_instant.f a0 = some r) :
    Calls Try.prog 29 #[.int .i64 a0] w fun e w' => e = .returned (.int .i64 r) ∧ Drawn0 w w' := by
  have H : ((ephemeriskeep2_at.f a0 604800000000000).bind fun t355 => (some (wrap64 (t355 - 302400000000000)))) = some r := h
  clear h
  replace H := Option.bind_eq_some_iff.mp H
  obtain ⟨t355, A20, H⟩ := H
  replace H : (some (wrap64 (t355 - 302400000000000))) = some r := H
  have A2 := Aside0.mk A20
  clear A20
  obtain rfl := Option.some.inj H
  go_enter Try.func29, Try.ntmps29
  go_wp2_with (first | ((with_reducible refine gate_callee (f := 24) rfl ?_); refine goesL_ (some 4) rfl rfl Try.func24 (by kernel_rfl) rfl #[.int .i64 a0, .int .i64 604800000000000] rfl (by (try simp only [List.map_toArray, List.map_cons, List.map_nil]); first | done | rfl | (simp only [List.length_drop, List.length_take]; rfl)) ?_; (with_reducible refine (ephemeriskeep2_at.calls a0 604800000000000 t355 _ A2.out).mono ?_); rintro e w' ⟨rfl, ⟨nd, rfl⟩⟩; refine ⟨_, rfl, ?_⟩))
  go_ret
  exact ⟨by first | rfl | (simp; done) | (simp [*]; done), by repeat (first | exact Drawn0.refl _ | apply Drawn0.step)⟩

end Go.Proofs.Ytmoffcpbmigngaa.JS
