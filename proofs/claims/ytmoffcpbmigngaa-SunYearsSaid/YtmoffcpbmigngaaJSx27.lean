-- Made by a program of this session (wip/hp.py, over the kit's print) out of the translation. Not trusted: Lean checks it.
import Derived.Test.YtmoffcpbmigngaaJSx0
import Derived.Test.YtmoffcpbmigngaaJSx1
import Derived.Test.YtmoffcpbmigngaaJSx2
import Derived.Test.YtmoffcpbmigngaaJSx5
import Derived.Test.YtmoffcpbmigngaaJSx13
import Derived.Test.YtmoffcpbmigngaaJSx15
import Derived.Test.YtmoffcpbmigngaaJSx26
namespace Go.Proofs.Ytmoffcpbmigngaa.JS
open Go.RowKit Go.Proofs.YtmoffcpbmigngaaW.PrintWords Go.Proofs.YtmoffcpbmigngaaW.PrintLast Go.Proofs.YtmoffcpbmigngaaW.PrintMore
attribute [local go_sem] max2_int min2_int max_two min_two max_three min_three max_four min_four   -- for this text's walks alone
set_option linter.unusedVariables false
set_option linter.unusedSimpArgs false

/-! ### ephemeriskeep2_SunYears: function 6 -/
set_option maxHeartbeats 8000000 in
set_option maxRecDepth 100000 in
theorem ephemeriskeep2_SunYears.calls (k : Nat) (a0 : Int) (a1 : Int) (r : Bool) (w : World) (h : ephemeriskeep2_SunYears.f k a0 a1 = some r) :
  Calls Try.prog 6 #[.int .i64 a0, .int .i64 a1] w fun e w' => e = .returned (.bool r) ∧ Below w.heap.size w w' := by
 have hu23 := Try.underlying23
 have HB := Aside0.mk (Below.refl w.heap.size w)
 have H : ((ephemeriskeep2_sunWorks.f k).bind fun t356 => (if t356 = true then ((ephemeriskeep2_instant.f a0).bind fun t357 => ((ephemeriskeep2_at.f a1 50).bind fun t358 => ((sun_Longitude.f k t357).bind fun bt359 => ((sun_Longitude.f k (wrap64 (t357 + (wrap64 (t358 * 31556925000))))).bind fun bt363 => ((sun_At.f k t357).bind fun bt367 => (if bt359.2.2 = 0 then (if bt363.2.2 = 0 then (if bt367.2.2.2.2 = 0 then ((ephemeriskeep2_same.f (wrap64 (bt359.1 - 100000)) (wrap64 (bt359.2.1 + 100000)) bt363.1 bt363.2.1).bind fun t374 => (if t374 = true then (if bt367.2.2.1 ≥ (-65116000) then (some (decide (bt367.2.2.2.1 ≤ 65116000))) else (none)) else (none))) else (none)) else (none)) else (none))))))) else (none))) = some r := h
 clear h
 replace H := Option.bind_eq_some_iff.mp H
 obtain ⟨t356, A30, H⟩ := H
 replace H : (if t356 = true then ((ephemeriskeep2_instant.f a0).bind fun t357 => ((ephemeriskeep2_at.f a1 50).bind fun t358 => ((sun_Longitude.f k t357).bind fun bt359 => ((sun_Longitude.f k (wrap64 (t357 + (wrap64 (t358 * 31556925000))))).bind fun bt363 => ((sun_At.f k t357).bind fun bt367 => (if bt359.2.2 = 0 then (if bt363.2.2 = 0 then (if bt367.2.2.2.2 = 0 then ((ephemeriskeep2_same.f (wrap64 (bt359.1 - 100000)) (wrap64 (bt359.2.1 + 100000)) bt363.1 bt363.2.1).bind fun t374 => (if t374 = true then (if bt367.2.2.1 ≥ (-65116000) then (some (decide (bt367.2.2.2.1 ≤ 65116000))) else (none)) else (none))) else (none)) else (none)) else (none))))))) else (none)) = some r := H
 have A3 := Aside0.mk A30
 clear A30
 by_cases c4 : t356 = true
 ·
  subst c4
  have H1 : ((ephemeriskeep2_instant.f a0).bind fun t357 => ((ephemeriskeep2_at.f a1 50).bind fun t358 => ((sun_Longitude.f k t357).bind fun bt359 => ((sun_Longitude.f k (wrap64 (t357 + (wrap64 (t358 * 31556925000))))).bind fun bt363 => ((sun_At.f k t357).bind fun bt367 => (if bt359.2.2 = 0 then (if bt363.2.2 = 0 then (if bt367.2.2.2.2 = 0 then ((ephemeriskeep2_same.f (wrap64 (bt359.1 - 100000)) (wrap64 (bt359.2.1 + 100000)) bt363.1 bt363.2.1).bind fun t374 => (if t374 = true then (if bt367.2.2.1 ≥ (-65116000) then (some (decide (bt367.2.2.2.1 ≤ 65116000))) else (none)) else (none))) else (none)) else (none)) else (none))))))) = some r := by rw [if_pos rfl] at H; exact H
  clear H
  have H := H1
  clear H1
  replace H := Option.bind_eq_some_iff.mp H
  obtain ⟨t357, A50, H⟩ := H
  replace H : ((ephemeriskeep2_at.f a1 50).bind fun t358 => ((sun_Longitude.f k t357).bind fun bt359 => ((sun_Longitude.f k (wrap64 (t357 + (wrap64 (t358 * 31556925000))))).bind fun bt363 => ((sun_At.f k t357).bind fun bt367 => (if bt359.2.2 = 0 then (if bt363.2.2 = 0 then (if bt367.2.2.2.2 = 0 then ((ephemeriskeep2_same.f (wrap64 (bt359.1 - 100000)) (wrap64 (bt359.2.1 + 100000)) bt363.1 bt363.2.1).bind fun t374 => (if t374 = true then (if bt367.2.2.1 ≥ (-65116000) then (some (decide (bt367.2.2.2.1 ≤ 65116000))) else (none)) else (none))) else (none)) else (none)) else (none)))))) = some r := H
  have A5 := Aside0.mk A50
  clear A50
  replace H := Option.bind_eq_some_iff.mp H
  obtain ⟨t358, A60, H⟩ := H
  replace H : ((sun_Longitude.f k t357).bind fun bt359 => ((sun_Longitude.f k (wrap64 (t357 + (wrap64 (t358 * 31556925000))))).bind fun bt363 => ((sun_At.f k t357).bind fun bt367 => (if bt359.2.2 = 0 then (if bt363.2.2 = 0 then (if bt367.2.2.2.2 = 0 then ((ephemeriskeep2_same.f (wrap64 (bt359.1 - 100000)) (wrap64 (bt359.2.1 + 100000)) bt363.1 bt363.2.1).bind fun t374 => (if t374 = true then (if bt367.2.2.1 ≥ (-65116000) then (some (decide (bt367.2.2.2.1 ≤ 65116000))) else (none)) else (none))) else (none)) else (none)) else (none))))) = some r := H
  have A6 := Aside0.mk A60
  clear A60
  replace H := Option.bind_eq_some_iff.mp H
  obtain ⟨⟨t359, t360, t361⟩, A70, H⟩ := H
  replace H : ((sun_Longitude.f k (wrap64 (t357 + (wrap64 (t358 * 31556925000))))).bind fun bt363 => ((sun_At.f k t357).bind fun bt367 => (if t361 = 0 then (if bt363.2.2 = 0 then (if bt367.2.2.2.2 = 0 then ((ephemeriskeep2_same.f (wrap64 (t359 - 100000)) (wrap64 (t360 + 100000)) bt363.1 bt363.2.1).bind fun t374 => (if t374 = true then (if bt367.2.2.1 ≥ (-65116000) then (some (decide (bt367.2.2.2.1 ≤ 65116000))) else (none)) else (none))) else (none)) else (none)) else (none)))) = some r := H
  have A7 := Aside0.mk A70
  clear A70
  replace H := Option.bind_eq_some_iff.mp H
  obtain ⟨⟨t363, t364, t365⟩, A80, H⟩ := H
  replace H : ((sun_At.f k t357).bind fun bt367 => (if t361 = 0 then (if t365 = 0 then (if bt367.2.2.2.2 = 0 then ((ephemeriskeep2_same.f (wrap64 (t359 - 100000)) (wrap64 (t360 + 100000)) t363 t364).bind fun t374 => (if t374 = true then (if bt367.2.2.1 ≥ (-65116000) then (some (decide (bt367.2.2.2.1 ≤ 65116000))) else (none)) else (none))) else (none)) else (none)) else (none))) = some r := H
  have A8 := Aside0.mk A80
  clear A80
  replace H := Option.bind_eq_some_iff.mp H
  obtain ⟨⟨t367, t368, t369, t370, t371⟩, A90, H⟩ := H
  replace H : (if t361 = 0 then (if t365 = 0 then (if t371 = 0 then ((ephemeriskeep2_same.f (wrap64 (t359 - 100000)) (wrap64 (t360 + 100000)) t363 t364).bind fun t374 => (if t374 = true then (if t369 ≥ (-65116000) then (some (decide (t370 ≤ 65116000))) else (none)) else (none))) else (none)) else (none)) else (none)) = some r := H
  have A9 := Aside0.mk A90
  clear A90
  by_cases c10 : t361 = 0
  ·
   rw [if_pos c10] at H
   have c10b0 : (t361 == 0) = true := beq_iff_eq.mpr c10
   have c10b1 : (t361 != 0) = false := bne_eq_false_iff_eq.mpr c10
   clear c10
   by_cases c11 : t365 = 0
   ·
    rw [if_pos c11] at H
    have c11b0 : (t365 == 0) = true := beq_iff_eq.mpr c11
    have c11b1 : (t365 != 0) = false := bne_eq_false_iff_eq.mpr c11
    clear c11
    by_cases c12 : t371 = 0
    ·
     rw [if_pos c12] at H
     have c12b0 : (t371 == 0) = true := beq_iff_eq.mpr c12
     have c12b1 : (t371 != 0) = false := bne_eq_false_iff_eq.mpr c12
     clear c12
     replace H := Option.bind_eq_some_iff.mp H
     obtain ⟨t374, A130, H⟩ := H
     replace H : (if t374 = true then (if t369 ≥ (-65116000) then (some (decide (t370 ≤ 65116000))) else (none)) else (none)) = some r := H
     have A13 := Aside0.mk A130
     clear A130
     by_cases c14 : t374 = true
     ·
      subst c14
      have H1 : (if t369 ≥ (-65116000) then (some (decide (t370 ≤ 65116000))) else (none)) = some r := by rw [if_pos rfl] at H; exact H
      clear H
      have H := H1
      clear H1
      by_cases c15 : t369 ≥ (-65116000)
      ·
       rw [if_pos c15] at H
       have c15b0 : decide ((-65116000) ≤ t369) = true := decide_eq_true c15
       clear c15
       obtain rfl := Option.some.inj H
       go_enter Try.func6, Try.ntmps6
       go_wp2_with (first | ((with_reducible refine gate_callee (f := 28) rfl ?_); refine goesL_ (some 12) rfl rfl Try.func28 (by kernel_rfl) rfl #[] rfl (by (try simp only [List.map_toArray, List.map_cons, List.map_nil]); first | done | rfl | (simp only [List.length_drop, List.length_take]; rfl)) ?_; (with_reducible refine (ephemeriskeep2_sunWorks.calls k  true _ A3.out).mono ?_); rintro e w16 ⟨rfl, hb⟩; refine ⟨_, rfl, ?_⟩; replace HB := hx_ HB hb; (try clear hb); (try clear hb2); (try clear hk); (try clear hi)) | ((with_reducible refine gate_callee (f := 29) rfl ?_); refine goesL_ (some 15) rfl rfl Try.func29 (by kernel_rfl) rfl #[.int .i64 a0] rfl (by (try simp only [List.map_toArray, List.map_cons, List.map_nil]); first | done | rfl | (simp only [List.length_drop, List.length_take]; rfl)) ?_; (with_reducible refine (ephemeriskeep2_instant.calls a0 t357 _ A5.out).mono ?_); rintro e w' ⟨rfl, ⟨nd, rfl⟩⟩; refine ⟨_, rfl, ?_⟩; (try (rw [drewN_self w16]; generalize hq_ : World.drewN w16 _ = w16; have n0_ : Aside0 (Below w.heap.size w w16) := ⟨by rw [← hq_]; exact (by repeat (first | (with_reducible first | exact HB.out | apply below_alloc | apply pw_below_drewN | apply below_drew1) | exact HB.out))⟩; clear HB hq_; have HB := n0_; clear n0_))) | ((with_reducible refine gate_callee (f := 24) rfl ?_); refine goesL_ (some 17) rfl rfl Try.func24 (by kernel_rfl) rfl #[.int .i64 a1, .int .i64 50] rfl (by (try simp only [List.map_toArray, List.map_cons, List.map_nil]); first | done | rfl | (simp only [List.length_drop, List.length_take]; rfl)) ?_; (with_reducible refine (ephemeriskeep2_at.calls a1 50 t358 _ A6.out).mono ?_); rintro e w' ⟨rfl, ⟨nd, rfl⟩⟩; refine ⟨_, rfl, ?_⟩; (try (rw [drewN_self w16]; generalize hq_ : World.drewN w16 _ = w16; have n0_ : Aside0 (Below w.heap.size w w16) := ⟨by rw [← hq_]; exact (by repeat (first | (with_reducible first | exact HB.out | apply below_alloc | apply pw_below_drewN | apply below_drew1) | exact HB.out))⟩; clear HB hq_; have HB := n0_; clear n0_))) | ((with_reducible refine gate_callee (f := 30) rfl ?_); refine goesL_ (some 20) rfl rfl Try.func30 (by kernel_rfl) rfl #[.int .i64 t357] rfl (by (try simp only [List.map_toArray, List.map_cons, List.map_nil]); first | done | rfl | (simp only [List.length_drop, List.length_take]; rfl)) ?_; (with_reducible refine (sun_Longitude.calls k t357 t359 t360 t361 _ A7.out).mono ?_); rintro e w17 ⟨rfl, hb⟩; refine ⟨_, rfl, ?_⟩; replace HB := hx_ HB hb; (try clear hb); (try clear hb2); (try clear hk); (try clear hi)) | ((with_reducible refine gate_dst (N := 5) rfl ?_); refine box_event ?hg (N := 5) ?hd (cs := #[.int .i64 0, .int .i64 0]) (t := 23) ?hr ?_; (case hd => rfl); (case hg => rfl); (case hr => first | (go_simp; done) | (go_simp; rfl)); intro gb362 hg w18 hbox hb; have BK362 := Aside0.mk hbox; have GW362 := ge_ (hb_ HB.out) hg; have GE362 := ge_ (hb_ HB.out) hg; replace HB := hx_ HB hb; clear hb hbox hg; have hcz19_0 : w18.cell? ⟨gb362, 0, none⟩ = some (.int .i64 0) := (blk_cell BK362.out 0).trans rfl; have hcz19_1 : w18.cell? ⟨gb362, 1, none⟩ = some (.int .i64 0) := (blk_cell BK362.out 1).trans rfl; have hfz19_0 := blk_frozen BK362.out 0; have hfz19_1 := blk_frozen BK362.out 1) | ((with_reducible refine gate_callee (f := 30) rfl ?_); refine goesL_ (some 28) rfl rfl Try.func30 (by kernel_rfl) rfl #[.int .i64 (wrap64 (t357 + (wrap64 (t358 * 31556925000))))] rfl (by (try simp only [List.map_toArray, List.map_cons, List.map_nil]); first | done | rfl | (simp only [List.length_drop, List.length_take]; rfl) | (rw [wrap_in_ (n := t358 * 31556925000) (by omega) (by omega)]; rfl)) ?_; (with_reducible refine (sun_Longitude.calls k (wrap64 (t357 + (wrap64 (t358 * 31556925000)))) t363 t364 t365 _ A8.out).mono ?_); rintro e w20 ⟨rfl, hb⟩; refine ⟨_, rfl, ?_⟩; replace BK362 := Aside0.mk (blk_below (g := gb362) (o := .cells #[.int .i64 t359, .int .i64 t360] 23 (0, 0)) (gr_ (blk_put (cs := #[.int .i64 t359, .int .i64 0]) (gr_ (blk_put (cs := #[.int .i64 0, .int .i64 0]) (gr_ BK362.out) 0 _ rfl)) 1 _ rfl)) hb); replace HB := Aside0.mk (below_step (by repeat (first | (with_reducible first | exact HB.out | apply below_alloc | apply pw_below_drewN | apply below_drew1 | refine below_set ?_ GE362.out) | exact HB.out)) hb); (try clear hb); (try clear hb2); (try clear hk); (try clear hi)) | ((with_reducible refine gate_dst (N := 7) rfl ?_); refine box_event ?hg (N := 7) ?hd (cs := #[.int .i64 0, .int .i64 0]) (t := 23) ?hr ?_; (case hd => rfl); (case hg => rfl); (case hr => first | (go_simp; done) | (go_simp; rfl)); intro gb366 hg w21 hbox hb; have BK366 := Aside0.mk hbox; have GW366 := ge_ (hb_ HB.out) hg; have GE366 := ge_ (hb_ HB.out) hg; have NB362_366 := nb_ (gr_ BK362.out) hg; have NB366_362 := bn_ (gr_ BK362.out) hg; replace BK362 := nx_ BK362 hb; replace HB := hx_ HB hb; clear hb hbox hg; have hnb22 := NB366_362.out; have hnc22 := NB362_366.out; have hcz23_0 : w21.cell? ⟨gb366, 0, none⟩ = some (.int .i64 0) := (blk_cell BK366.out 0).trans rfl; have hcz23_1 : w21.cell? ⟨gb366, 1, none⟩ = some (.int .i64 0) := (blk_cell BK366.out 1).trans rfl; have hfz23_0 := blk_frozen BK366.out 0; have hfz23_1 := blk_frozen BK366.out 1) | ((with_reducible refine gate_callee (f := 31) rfl ?_); refine goesL_ (some 33) rfl rfl Try.func31 (by kernel_rfl) rfl #[.int .i64 t357] rfl (by (try simp only [List.map_toArray, List.map_cons, List.map_nil]); first | done | rfl | (simp only [List.length_drop, List.length_take]; rfl)) ?_; (with_reducible refine (sun_At.calls k t357 t367 t368 t369 t370 t371 _ A9.out).mono ?_); rintro e w24 ⟨rfl, hb⟩; refine ⟨_, rfl, ?_⟩; replace BK362 := Aside0.mk (blk_below (g := gb362) (o := .cells #[.int .i64 t359, .int .i64 t360] 23 (0, 0)) (gr_ (blk_far (gr_ (blk_far (gr_ BK362.out) NB362_366.out _)) NB362_366.out _)) hb); replace BK366 := Aside0.mk (blk_below (g := gb366) (o := .cells #[.int .i64 t363, .int .i64 t364] 23 (0, 0)) (gr_ (blk_put (cs := #[.int .i64 t363, .int .i64 0]) (gr_ (blk_put (cs := #[.int .i64 0, .int .i64 0]) (gr_ BK366.out) 0 _ rfl)) 1 _ rfl)) hb); replace HB := Aside0.mk (below_step (by repeat (first | (with_reducible first | exact HB.out | apply below_alloc | apply pw_below_drewN | apply below_drew1 | refine below_set ?_ GE366.out) | exact HB.out)) hb); (try clear hb); (try clear hb2); (try clear hk); (try clear hi)) | ((with_reducible refine gate_dst (N := 9) rfl ?_); refine box_event ?hg (N := 9) ?hd (cs := #[.int .i64 0, .int .i64 0]) (t := 23) ?hr ?_; (case hd => rfl); (case hg => rfl); (case hr => first | (go_simp; done) | (go_simp; rfl)); intro gb372 hg w25 hbox hb; have BK372 := Aside0.mk hbox; have GW372 := ge_ (hb_ HB.out) hg; have GE372 := ge_ (hb_ HB.out) hg; have NB362_372 := nb_ (gr_ BK362.out) hg; have NB372_362 := bn_ (gr_ BK362.out) hg; have NB366_372 := nb_ (gr_ BK366.out) hg; have NB372_366 := bn_ (gr_ BK366.out) hg; replace BK362 := nx_ BK362 hb; replace BK366 := nx_ BK366 hb; replace HB := hx_ HB hb; clear hb hbox hg) | ((with_reducible refine gate_dst (N := 10) rfl ?_); refine box_event ?hg (N := 10) ?hd (cs := #[.int .i64 0, .int .i64 0]) (t := 23) ?hr ?_; (case hd => rfl); (case hg => rfl); (case hr => first | (go_simp; done) | (go_simp; rfl)); intro gb373 hg w26 hbox hb; have BK373 := Aside0.mk hbox; have GW373 := ge_ (hb_ HB.out) hg; have GE373 := ge_ (hb_ HB.out) hg; have NB362_373 := nb_ (gr_ BK362.out) hg; have NB373_362 := bn_ (gr_ BK362.out) hg; have NB366_373 := nb_ (gr_ BK366.out) hg; have NB373_366 := bn_ (gr_ BK366.out) hg; have NB372_373 := nb_ (gr_ BK372.out) hg; have NB373_372 := bn_ (gr_ BK372.out) hg; replace BK362 := nx_ BK362 hb; replace BK366 := nx_ BK366 hb; replace BK372 := nx_ BK372 hb; replace HB := hx_ HB hb; clear hb hbox hg; have hnb27 := NB372_362.out; have hnc27 := NB362_372.out; have hnb28 := NB372_366.out; have hnc28 := NB366_372.out; have hnb29 := NB372_373.out; have hnc29 := NB373_372.out; have hcz30_0 : w26.cell? ⟨gb372, 0, none⟩ = some (.int .i64 0) := (blk_cell BK372.out 0).trans rfl; have hcz30_1 : w26.cell? ⟨gb372, 1, none⟩ = some (.int .i64 0) := (blk_cell BK372.out 1).trans rfl; have hfz30_0 := blk_frozen BK372.out 0; have hfz30_1 := blk_frozen BK372.out 1; have hnb31 := NB373_362.out; have hnc31 := NB362_373.out; have hnb32 := NB373_366.out; have hnc32 := NB366_373.out; have hcz33_0 : w26.cell? ⟨gb373, 0, none⟩ = some (.int .i64 0) := (blk_cell BK373.out 0).trans rfl; have hcz33_1 : w26.cell? ⟨gb373, 1, none⟩ = some (.int .i64 0) := (blk_cell BK373.out 1).trans rfl; have hfz33_0 := blk_frozen BK373.out 0; have hfz33_1 := blk_frozen BK373.out 1; have hcz34_0 : w26.cell? ⟨gb362, 0, none⟩ = some (.int .i64 t359) := (blk_cell BK362.out 0).trans rfl; have hcz34_1 : w26.cell? ⟨gb362, 1, none⟩ = some (.int .i64 t360) := (blk_cell BK362.out 1).trans rfl; have hfz34_0 := blk_frozen BK362.out 0; have hfz34_1 := blk_frozen BK362.out 1; have hcz35_0 : w26.cell? ⟨gb366, 0, none⟩ = some (.int .i64 t363) := (blk_cell BK366.out 0).trans rfl; have hcz35_1 : w26.cell? ⟨gb366, 1, none⟩ = some (.int .i64 t364) := (blk_cell BK366.out 1).trans rfl; have hfz35_0 := blk_frozen BK366.out 0; have hfz35_1 := blk_frozen BK366.out 1) | (go_at_call 22; (with_reducible refine (ephemeriskeep2_same.calls (wrap64 (t359 - 100000)) (wrap64 (t360 + 100000)) t363 t364 true _ A13.out).mono ?_); rintro e w36 ⟨rfl, hb⟩; replace BK362 := Aside0.mk (blk_below (g := gb362) (o := .cells #[.int .i64 t359, .int .i64 t360] 23 (0, 0)) (gr_ (blk_far (gr_ (blk_far (gr_ (blk_far (gr_ (blk_far (gr_ BK362.out) NB362_372.out _)) NB362_372.out _)) NB362_373.out _)) NB362_373.out _)) hb); replace BK366 := Aside0.mk (blk_below (g := gb366) (o := .cells #[.int .i64 t363, .int .i64 t364] 23 (0, 0)) (gr_ (blk_far (gr_ (blk_far (gr_ (blk_far (gr_ (blk_far (gr_ BK366.out) NB366_372.out _)) NB366_372.out _)) NB366_373.out _)) NB366_373.out _)) hb); replace BK372 := Aside0.mk (blk_below (g := gb372) (o := .cells #[.int .i64 t367, .int .i64 t368] 23 (0, 0)) (gr_ (blk_far (gr_ (blk_far (gr_ (blk_put (cs := #[.int .i64 t367, .int .i64 0]) (gr_ (blk_put (cs := #[.int .i64 0, .int .i64 0]) (gr_ BK372.out) 0 _ rfl)) 1 _ rfl)) NB372_373.out _)) NB372_373.out _)) hb); replace BK373 := Aside0.mk (blk_below (g := gb373) (o := .cells #[.int .i64 t369, .int .i64 t370] 23 (0, 0)) (gr_ (blk_put (cs := #[.int .i64 t369, .int .i64 0]) (gr_ (blk_put (cs := #[.int .i64 0, .int .i64 0]) (gr_ (blk_far (gr_ (blk_far (gr_ BK373.out) NB373_372.out _)) NB373_372.out _)) 0 _ rfl)) 1 _ rfl)) hb); replace HB := Aside0.mk (below_step (by repeat (first | (with_reducible first | exact HB.out | apply below_alloc | apply pw_below_drewN | apply below_drew1 | refine below_set ?_ GE372.out | refine below_set ?_ GE373.out) | exact HB.out)) hb); (try clear hb); (try clear hb2); (try clear hk); (try clear hi); have hcz37_0 : w36.cell? ⟨gb373, 0, none⟩ = some (.int .i64 t369) := (blk_cell BK373.out 0).trans rfl; have hcz37_1 : w36.cell? ⟨gb373, 1, none⟩ = some (.int .i64 t370) := (blk_cell BK373.out 1).trans rfl; have hfz37_0 := blk_frozen BK373.out 0; have hfz37_1 := blk_frozen BK373.out 1))
       go_ret
       exact ⟨by first | rfl | (simp [errW_none, errW_some] <;> rfl) | (simp [*, errW_none, errW_some] <;> rfl), by repeat (first | (with_reducible first | exact HB.out | apply below_alloc | apply pw_below_drewN | apply below_drew1 | refine below_set ?_ GE362.out | refine below_set ?_ GE366.out | refine below_set ?_ GE372.out | refine below_set ?_ GE373.out) | exact HB.out)⟩
      ·
       rw [if_neg c15] at H
       exact absurd H (by simp)
     ·
      replace c14 := Bool.eq_false_iff.mpr c14
      subst c14
      have H1 : (none) = some r := by rw [if_neg (show ¬ (false = true) by decide)] at H; exact H
      clear H
      have H := H1
      clear H1
      exact absurd H (by simp)
    ·
     rw [if_neg c12] at H
     exact absurd H (by simp)
   ·
    rw [if_neg c11] at H
    exact absurd H (by simp)
  ·
   rw [if_neg c10] at H
   exact absurd H (by simp)
 ·
  replace c4 := Bool.eq_false_iff.mpr c4
  subst c4
  have H1 : (none) = some r := by rw [if_neg (show ¬ (false = true) by decide)] at H; exact H
  clear H
  have H := H1
  clear H1
  exact absurd H (by simp)

theorem ephemeriskeep2_SunYears.walk (P : ephemeriskeep2_SunYears.Pure) (a0 : Int) (a1 : Int) (w : World) (w0 : (Lit.int .i64 a0).wf = true) (w1 : (Lit.int .i64 a1).wf = true) :
  Calls Try.prog 6 #[.int .i64 a0, .int .i64 a1] w fun e w' => e = .returned (.bool true) ∧ Below w.heap.size w w' := by
 obtain ⟨k, h⟩ := P a0 a1 w0 w1
 refine (ephemeriskeep2_SunYears.calls k a0 a1 true w h).mono ?_
 rintro e w' ⟨rfl, hd⟩
 exact ⟨rfl, hd⟩

/-! ### series_Value: function 66 -/
set_option maxHeartbeats 8000000 in
set_option maxRecDepth 100000 in
theorem series_Value.calls (k : Nat) (a0_0 : Int) (a0_1 : Int) (A0_2 : Option Addr) (c0_2 : Nat) (l0_2 : List (S93)) (a0_3 : Int) (a1 : Int) (r1 : Int) (r2 : Int) (r3 : Int) (w : World) (hr0_2 : Kd.C k93 w A0_2 l0_2.length l0_2) (hc0_2 : l0_2.length ≤ c0_2) (h : series_Value.f k a0_0 a0_1 l0_2 a0_3 a1 = some (r1, r2, r3)) :
  Calls Try.prog 66 #[.agg #[.int .i64 a0_0, .int .i64 a0_1, .slice A0_2 l0_2.length c0_2, .int .i64 a0_3], .int .i64 a1] w fun e w' => e = .returned (.tuple #[.agg #[.int .i64 r1, .int .i64 r2], .int .i64 r3]) ∧ Below w.heap.size w w' := by
 have hu74 := Try.underlying74
 have hu23 := Try.underlying23
 have HR0_2 := Aside0.mk hr0_2
 have HC0_2 := Aside0.mk hc0_2
 clear hr0_2 hc0_2
 have HB := Aside0.mk (Below.refl w.heap.size w)
 have H : ((series_check.f k a0_0 a0_1 l0_2 a0_3 a1).bind fun t377 => (if t377 = 0 then ((series_sum.f k a0_0 a0_1 l0_2 a0_3 a1).bind fun bt378 => (some (bt378.1, bt378.2, 0))) else (some (0, 0, t377)))) = some (r1, r2, r3) := h
 clear h
 replace H := Option.bind_eq_some_iff.mp H
 obtain ⟨t377, A30, H⟩ := H
 replace H : (if t377 = 0 then ((series_sum.f k a0_0 a0_1 l0_2 a0_3 a1).bind fun bt378 => (some (bt378.1, bt378.2, 0))) else (some (0, 0, t377))) = some (r1, r2, r3) := H
 have A3 := Aside0.mk A30
 clear A30
 by_cases c4 : t377 = 0
 ·
  rw [if_pos c4] at H
  have c4b0 : (t377 == 0) = true := beq_iff_eq.mpr c4
  have c4b1 : (t377 != 0) = false := bne_eq_false_iff_eq.mpr c4
  clear c4
  replace H := Option.bind_eq_some_iff.mp H
  obtain ⟨⟨t378, t379⟩, A50, H⟩ := H
  replace H : (some (t378, t379, 0)) = some (r1, r2, r3) := H
  have A5 := Aside0.mk A50
  clear A50
  simp only [Option.some.injEq, Prod.mk.injEq] at H
  obtain ⟨rfl, rfl, rfl⟩ := H
  go_enter Try.func66, Try.ntmps66
  go_wp2_with (first | ((with_reducible refine gate_dst (N := 2) rfl ?_); refine box_event ?hg (N := 2) ?hd (cs := #[.int .i64 a0_0, .int .i64 a0_1, .slice A0_2 l0_2.length c0_2, .int .i64 a0_3]) (t := 74) ?hr ?_; (case hd => rfl); (case hg => rfl); (case hr => first | (go_simp; done) | (go_simp; rfl)); intro gb375 hg w6 hbox hb; have BK375 := Aside0.mk hbox; have GW375 := ge_ (hb_ HB.out) hg; have GE375 := ge_ (hb_ HB.out) hg; replace HB := hx_ HB hb; clear hb hbox hg) | ((with_reducible refine gate_dst (N := 4) rfl ?_); refine box_event ?hg (N := 4) ?hd (cs := #[.int .i64 0, .int .i64 0]) (t := 23) ?hr ?_; (case hd => rfl); (case hg => rfl); (case hr => first | (go_simp; done) | (go_simp; rfl)); intro gb376 hg w7 hbox hb; have BK376 := Aside0.mk hbox; have GW376 := ge_ (hb_ HB.out) hg; have GE376 := ge_ (hb_ HB.out) hg; have NB375_376 := nb_ (gr_ BK375.out) hg; have NB376_375 := bn_ (gr_ BK375.out) hg; replace BK375 := nx_ BK375 hb; replace HB := hx_ HB hb; clear hb hbox hg; have hnb8 := NB375_376.out; have hnc8 := NB376_375.out; have hcz9_0 : w7.cell? ⟨gb375, 0, none⟩ = some (.int .i64 a0_0) := (blk_cell BK375.out 0).trans rfl; have hcz9_1 : w7.cell? ⟨gb375, 1, none⟩ = some (.int .i64 a0_1) := (blk_cell BK375.out 1).trans rfl; have hcz9_2 : w7.cell? ⟨gb375, 2, none⟩ = some (.slice A0_2 l0_2.length c0_2) := (blk_cell BK375.out 2).trans rfl; have hcz9_3 : w7.cell? ⟨gb375, 3, none⟩ = some (.int .i64 a0_3) := (blk_cell BK375.out 3).trans rfl; have hfz9_0 := blk_frozen BK375.out 0; have hfz9_1 := blk_frozen BK375.out 1; have hfz9_2 := blk_frozen BK375.out 2; have hfz9_3 := blk_frozen BK375.out 3) | ((with_reducible refine gate_callee (f := 98) rfl ?_); refine goesL_ (some 9) rfl rfl Try.func98 (by kernel_rfl) rfl #[.agg #[.int .i64 a0_0, .int .i64 a0_1, .slice A0_2 l0_2.length c0_2, .int .i64 a0_3], .int .i64 a1] rfl (by (try simp only [List.map_toArray, List.map_cons, List.map_nil]); first | done | rfl | (simp only [List.length_drop, List.length_take]; rfl)) ?_; (with_reducible refine (series_check.calls k a0_0 a0_1 _ _ l0_2 a0_3 a1 t377 _ ?side1 ?side2 A3.out).mono ?_); (case side1 => repeat (first | exact (Kd.C_below HR0_2.out HB.out) | (with_reducible refine Kd.C_alloc ?_ _) | (with_reducible refine Kd.C_drewN ?_ _) | (with_reducible refine Kd.C_drew ?_))); (case side2 => exact HC0_2.out); rintro e w10 ⟨rfl, hb⟩; refine ⟨_, rfl, ?_⟩; replace BK375 := nx_ BK375 hb; replace BK376 := nx_ BK376 hb; replace HB := hx_ HB hb; (try clear hb); (try clear hb2); (try clear hk); (try clear hi); have hcz11_0 : w10.cell? ⟨gb375, 0, none⟩ = some (.int .i64 a0_0) := (blk_cell BK375.out 0).trans rfl; have hcz11_1 : w10.cell? ⟨gb375, 1, none⟩ = some (.int .i64 a0_1) := (blk_cell BK375.out 1).trans rfl; have hcz11_2 : w10.cell? ⟨gb375, 2, none⟩ = some (.slice A0_2 l0_2.length c0_2) := (blk_cell BK375.out 2).trans rfl; have hcz11_3 : w10.cell? ⟨gb375, 3, none⟩ = some (.int .i64 a0_3) := (blk_cell BK375.out 3).trans rfl; have hfz11_0 := blk_frozen BK375.out 0; have hfz11_1 := blk_frozen BK375.out 1; have hfz11_2 := blk_frozen BK375.out 2; have hfz11_3 := blk_frozen BK375.out 3) | ((with_reducible refine gate_callee (f := 99) rfl ?_); refine goesL_ (some 16) rfl rfl Try.func99 (by kernel_rfl) rfl #[.agg #[.int .i64 a0_0, .int .i64 a0_1, .slice A0_2 l0_2.length c0_2, .int .i64 a0_3], .int .i64 a1] rfl (by (try simp only [List.map_toArray, List.map_cons, List.map_nil]); first | done | rfl | (simp only [List.length_drop, List.length_take]; rfl)) ?_; (with_reducible refine (series_sum.calls k a0_0 a0_1 _ _ l0_2 a0_3 a1 t378 t379 _ ?side1 ?side2 A5.out).mono ?_); (case side1 => repeat (first | exact (Kd.C_below HR0_2.out HB.out) | (with_reducible refine Kd.C_alloc ?_ _) | (with_reducible refine Kd.C_drewN ?_ _) | (with_reducible refine Kd.C_drew ?_))); (case side2 => exact HC0_2.out); rintro e w12 ⟨rfl, hb⟩; refine ⟨_, rfl, ?_⟩; replace BK375 := nx_ BK375 hb; replace BK376 := nx_ BK376 hb; replace HB := hx_ HB hb; (try clear hb); (try clear hb2); (try clear hk); (try clear hi); have hcz13_0 : w12.cell? ⟨gb376, 0, none⟩ = some (.int .i64 0) := (blk_cell BK376.out 0).trans rfl; have hcz13_1 : w12.cell? ⟨gb376, 1, none⟩ = some (.int .i64 0) := (blk_cell BK376.out 1).trans rfl; have hfz13_0 := blk_frozen BK376.out 0; have hfz13_1 := blk_frozen BK376.out 1))
  refine bodyPost_ret (results_ct rfl _ _ gb376 23 #[.int .i64 t378, .int .i64 t379] (0, 0) _ rfl (gr_ (blk_put (cs := #[.int .i64 t378, .int .i64 0]) (gr_ (blk_put (cs := #[.int .i64 0, .int .i64 0]) (gr_ BK376.out) 0 _ rfl)) 1 _ rfl)) Try.underlying23 rfl (by kernel_rfl)) rfl ?_
  exact ⟨by first | rfl | (simp [errW_none, errW_some] <;> rfl) | (simp [*, errW_none, errW_some] <;> rfl), by repeat (first | (with_reducible first | exact HB.out | apply below_alloc | apply pw_below_drewN | apply below_drew1 | refine below_set ?_ GE375.out | refine below_set ?_ GE376.out) | exact HB.out)⟩
 ·
  rw [if_neg c4] at H
  have c4b0 : (t377 == 0) = false := beq_eq_false_iff_ne.mpr c4
  have c4b1 : (t377 != 0) = true := bne_iff_ne.mpr c4
  simp only [Option.some.injEq, Prod.mk.injEq] at H
  obtain ⟨rfl, rfl, rfl⟩ := H
  go_enter Try.func66, Try.ntmps66
  go_wp2_with (first | ((with_reducible refine gate_dst (N := 2) rfl ?_); refine box_event ?hg (N := 2) ?hd (cs := #[.int .i64 a0_0, .int .i64 a0_1, .slice A0_2 l0_2.length c0_2, .int .i64 a0_3]) (t := 74) ?hr ?_; (case hd => rfl); (case hg => rfl); (case hr => first | (go_simp; done) | (go_simp; rfl)); intro gb375 hg w14 hbox hb; have BK375 := Aside0.mk hbox; have GW375 := ge_ (hb_ HB.out) hg; have GE375 := ge_ (hb_ HB.out) hg; replace HB := hx_ HB hb; clear hb hbox hg) | ((with_reducible refine gate_dst (N := 4) rfl ?_); refine box_event ?hg (N := 4) ?hd (cs := #[.int .i64 0, .int .i64 0]) (t := 23) ?hr ?_; (case hd => rfl); (case hg => rfl); (case hr => first | (go_simp; done) | (go_simp; rfl)); intro gb376 hg w15 hbox hb; have BK376 := Aside0.mk hbox; have GW376 := ge_ (hb_ HB.out) hg; have GE376 := ge_ (hb_ HB.out) hg; have NB375_376 := nb_ (gr_ BK375.out) hg; have NB376_375 := bn_ (gr_ BK375.out) hg; replace BK375 := nx_ BK375 hb; replace HB := hx_ HB hb; clear hb hbox hg; have hnb16 := NB375_376.out; have hnc16 := NB376_375.out; have hcz17_0 : w15.cell? ⟨gb375, 0, none⟩ = some (.int .i64 a0_0) := (blk_cell BK375.out 0).trans rfl; have hcz17_1 : w15.cell? ⟨gb375, 1, none⟩ = some (.int .i64 a0_1) := (blk_cell BK375.out 1).trans rfl; have hcz17_2 : w15.cell? ⟨gb375, 2, none⟩ = some (.slice A0_2 l0_2.length c0_2) := (blk_cell BK375.out 2).trans rfl; have hcz17_3 : w15.cell? ⟨gb375, 3, none⟩ = some (.int .i64 a0_3) := (blk_cell BK375.out 3).trans rfl; have hfz17_0 := blk_frozen BK375.out 0; have hfz17_1 := blk_frozen BK375.out 1; have hfz17_2 := blk_frozen BK375.out 2; have hfz17_3 := blk_frozen BK375.out 3) | ((with_reducible refine gate_callee (f := 98) rfl ?_); refine goesL_ (some 9) rfl rfl Try.func98 (by kernel_rfl) rfl #[.agg #[.int .i64 a0_0, .int .i64 a0_1, .slice A0_2 l0_2.length c0_2, .int .i64 a0_3], .int .i64 a1] rfl (by (try simp only [List.map_toArray, List.map_cons, List.map_nil]); first | done | rfl | (simp only [List.length_drop, List.length_take]; rfl)) ?_; (with_reducible refine (series_check.calls k a0_0 a0_1 _ _ l0_2 a0_3 a1 t377 _ ?side1 ?side2 A3.out).mono ?_); (case side1 => repeat (first | exact (Kd.C_below HR0_2.out HB.out) | (with_reducible refine Kd.C_alloc ?_ _) | (with_reducible refine Kd.C_drewN ?_ _) | (with_reducible refine Kd.C_drew ?_))); (case side2 => exact HC0_2.out); rintro e w18 ⟨rfl, hb⟩; refine ⟨_, rfl, ?_⟩; replace BK375 := nx_ BK375 hb; replace BK376 := nx_ BK376 hb; replace HB := hx_ HB hb; (try clear hb); (try clear hb2); (try clear hk); (try clear hi); have hcz19_0 : w18.cell? ⟨gb376, 0, none⟩ = some (.int .i64 0) := (blk_cell BK376.out 0).trans rfl; have hcz19_1 : w18.cell? ⟨gb376, 1, none⟩ = some (.int .i64 0) := (blk_cell BK376.out 1).trans rfl; have hfz19_0 := blk_frozen BK376.out 0; have hfz19_1 := blk_frozen BK376.out 1))
  refine bodyPost_ret (results_ct rfl _ _ gb376 23 #[.int .i64 0, .int .i64 0] (0, 0) _ rfl (gr_ (blk_put (cs := #[.int .i64 0, .int .i64 0]) (gr_ (blk_put (cs := #[.int .i64 0, .int .i64 0]) (gr_ BK376.out) 0 _ rfl)) 1 _ rfl)) Try.underlying23 rfl (by kernel_rfl)) rfl ?_
  exact ⟨by first | rfl | (simp [errW_none, errW_some] <;> rfl) | (simp [*, errW_none, errW_some] <;> rfl), by repeat (first | (with_reducible first | exact HB.out | apply below_alloc | apply pw_below_drewN | apply below_drew1 | refine below_set ?_ GE375.out | refine below_set ?_ GE376.out) | exact HB.out)⟩

/-! ### moon_North: function 67 -/
set_option maxHeartbeats 8000000 in
set_option maxRecDepth 100000 in
theorem moon_North.calls  (r1 : Int) (r2 : Int) (r3 : List (S93)) (r4 : Int) (w : World) (h : moon_North.f  = some (r1, r2, r3, r4)) :
  Calls Try.prog 67 #[] w fun e w' => ∃ v2_ : Value, e = .returned (.agg #[.int .i64 r1, .int .i64 r2, v2_, .int .i64 r4]) ∧ Kd.R k93 93 w' w.heap.size (fun _ => True) v2_ r3 ∧ Below w.heap.size w w' := by
 have hu74 := Try.underlying74
 have hu93 := Try.underlying93
 have HB := Aside0.mk (Below.refl w.heap.size w)
 have H : (some (0, 0, (([(⟨14244783, 648500531, 36748195111111⟩ : S93), (⟨779450, 747884547, 73039842194444⟩ : S93), (⟨771369, 450883485, (-456548027778)⟩ : S93)] : List (S93))), 20000)) = some (r1, r2, r3, r4) := h
 clear h
 obtain ⟨y381, hy381⟩ : ∃ y_ : List (S93), y_ = (([(⟨14244783, 648500531, 36748195111111⟩ : S93), (⟨779450, 747884547, 73039842194444⟩ : S93), (⟨771369, 450883485, (-456548027778)⟩ : S93)] : List (S93))) := ⟨_, rfl⟩
 replace H : (some (0, 0, y381, 20000)) = some (r1, r2, r3, r4) := by first | (rw [hy381]; with_reducible exact H) | (have H2_ := (Option.bind_some _ _).symm.trans H; rw [hy381]; with_reducible exact H2_) | (have H2_ := (Option.bind_some _ _).symm.trans H; with_reducible exact H2_) | with_reducible exact H | (rw [hy381]; exact H) | exact H
 have Ny381 := Aside0.mk hy381
 clear hy381
 simp only [Option.some.injEq, Prod.mk.injEq] at H
 obtain ⟨rfl, rfl, rfl, rfl⟩ := H
 go_enter Try.func67, Try.ntmps67
 go_wp2_with (first | ((with_reducible refine gate_dst (N := 0) rfl ?_); refine box_event ?hg (N := 0) ?hd (cs := #[.int .i64 0, .int .i64 0, .slice none 0 0, .int .i64 0]) (t := 74) ?hr ?_; (case hd => rfl); (case hg => rfl); (case hr => first | (go_simp; done) | (go_simp; rfl)); intro gb380 hg w1 hbox hb; have BK380 := Aside0.mk hbox; have GW380 := ge_ (hb_ HB.out) hg; have GE380 := ge_ (hb_ HB.out) hg; replace HB := hx_ HB hb; clear hb hbox hg) | ((with_reducible refine gate_dst (N := 4) rfl ?_); refine Kd.R_lit k93 _ 93 ?hg (N := 4) ?hd (xs := ([(⟨14244783, 648500531, 36748195111111⟩ : S93), (⟨779450, 747884547, 73039842194444⟩ : S93), (⟨771369, 450883485, (-456548027778)⟩ : S93)] : List (S93))) (inner := [.int .i64 14244783, .int .i64 648500531, .int .i64 36748195111111, .int .i64 779450, .int .i64 747884547, .int .i64 73039842194444, .int .i64 771369, .int .i64 450883485, .int .i64 (-456548027778)]) (ok := fun _ => True) (okp := fun _ => True) ?hr ?hp (fun _ hk => hk) trivial (Below.refl _ _) (Nat.le_refl _) (by simp) ?_; (case hd => rfl); (case hg => rfl); (case hr => first | (go_simp; done) | (go_simp; rfl)); (case hp => exact (Reps.c3 (show Kd.M k93 _ _ _ (⟨14244783, 648500531, 36748195111111⟩ : S93) [.int .i64 14244783, .int .i64 648500531, .int .i64 36748195111111] from (k93_mkM _ _ _ (⟨14244783, 648500531, 36748195111111⟩ : S93) )) (Reps.c3 (show Kd.M k93 _ _ _ (⟨779450, 747884547, 73039842194444⟩ : S93) [.int .i64 779450, .int .i64 747884547, .int .i64 73039842194444] from (k93_mkM _ _ _ (⟨779450, 747884547, 73039842194444⟩ : S93) )) (Reps.c3 (show Kd.M k93 _ _ _ (⟨771369, 450883485, (-456548027778)⟩ : S93) [.int .i64 771369, .int .i64 450883485, .int .i64 (-456548027778)] from (k93_mkM _ _ _ (⟨771369, 450883485, (-456548027778)⟩ : S93) )) (Reps.none _ _))))); intro v382 w2 ho3 hb hg_ hnew_; clear hg_ hnew_; (first | rw [← Ny381.out] at ho3 | (simp only [Int.reduceToNat] at ho3; rw [← Ny381.out] at ho3)); have n0_ := Aside0.mk (Kd.R_lower ho3 (below_size (by repeat (first | (with_reducible first | exact HB.out | apply below_alloc | apply pw_below_drewN | apply below_drew1 | refine below_set ?_ GE380.out) | exact HB.out)))); have n1_ := Aside0.mk (blk_below (g := gb380) (o := .cells #[.int .i64 0, .int .i64 0, .slice none 0 0, .int .i64 0] 74 (0, 0)) (gr_ BK380.out) hb); have n2_ := Aside0.mk (below_step (by repeat (first | (with_reducible first | exact HB.out | apply below_alloc | apply pw_below_drewN | apply below_drew1 | refine below_set ?_ GE380.out) | exact HB.out)) hb); clear BK380; clear HB; have HO383 := n0_; have BK380 := n1_; have HB := n2_; clear n0_ n1_ n2_; clear hb ho3; obtain ⟨Ao4, co4, eo4⟩ := Kd.R_slice HO383.out; subst eo4; have hcz5_0 : w2.cell? ⟨gb380, 0, none⟩ = some (.int .i64 0) := (blk_cell BK380.out 0).trans rfl; have hcz5_1 : w2.cell? ⟨gb380, 1, none⟩ = some (.int .i64 0) := (blk_cell BK380.out 1).trans rfl; have hcz5_2 : w2.cell? ⟨gb380, 2, none⟩ = some (.slice none 0 0) := (blk_cell BK380.out 2).trans rfl; have hcz5_3 : w2.cell? ⟨gb380, 3, none⟩ = some (.int .i64 0) := (blk_cell BK380.out 3).trans rfl; have hfz5_0 := blk_frozen BK380.out 0; have hfz5_1 := blk_frozen BK380.out 1; have hfz5_2 := blk_frozen BK380.out 2; have hfz5_3 := blk_frozen BK380.out 3))
 refine bodyPost_ret (results_cell_row rfl _ _ gb380 74 #[.int .i64 0, .int .i64 0, .slice Ao4 y381.length co4, .int .i64 20000] (0, 0) _ rfl (gr_ (blk_put (cs := #[.int .i64 0, .int .i64 0, .slice Ao4 y381.length co4, .int .i64 0]) (gr_ (blk_put (cs := #[.int .i64 0, .int .i64 0, .slice none 0 0, .int .i64 0]) (gr_ (blk_put (cs := #[.int .i64 0, .int .i64 0, .slice none 0 0, .int .i64 0]) (gr_ (blk_put (cs := #[.int .i64 0, .int .i64 0, .slice none 0 0, .int .i64 0]) (gr_ BK380.out) 0 _ rfl)) 1 _ rfl)) 2 _ rfl)) 3 _ rfl)) Try.underlying74 rfl (by kernel_rfl)) rfl ?_
 exact ⟨_, by first | rfl | (simp [errW_none, errW_some] <;> rfl) | (simp [*, errW_none, errW_some] <;> rfl), by (with_reducible repeat (first | apply Kd.R_alloc | apply Kd.R_drewN | apply Kd.R_drew)); exact Kd.R_mono (Kd.R_far (p := ⟨gb380, 3, none⟩) (Kd.R_far (p := ⟨gb380, 2, none⟩) (Kd.R_far (p := ⟨gb380, 1, none⟩) (Kd.R_far (p := ⟨gb380, 0, none⟩) (Kd.R_types HO383.out BK380.out (by decide)) (fun _ hk => hk.2) (.int .i64 0)) (fun _ hk => hk.2) (.int .i64 0)) (fun _ hk => hk.2) (.slice Ao4 y381.length co4)) (fun _ hk => hk.2) (.int .i64 20000)) (fun _ hk => trivial), by repeat (first | (with_reducible first | exact HB.out | apply below_alloc | apply pw_below_drewN | apply below_drew1 | refine below_set ?_ GE380.out) | exact HB.out)⟩

end Go.Proofs.Ytmoffcpbmigngaa.JS
