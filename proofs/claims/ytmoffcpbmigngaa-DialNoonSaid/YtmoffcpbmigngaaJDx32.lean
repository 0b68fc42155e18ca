-- Made by a program of this session (wip/hp.py, over the kit's print) out of the translation. Not trusted: Lean checks it.
import Derived.Test.YtmoffcpbmigngaaJDx0
import Derived.Test.YtmoffcpbmigngaaJDx2
import Derived.Test.YtmoffcpbmigngaaJDx11
import Derived.Test.YtmoffcpbmigngaaJDx13
import Derived.Test.YtmoffcpbmigngaaJDx16
import Derived.Test.YtmoffcpbmigngaaJDx31
namespace Go.Proofs.Ytmoffcpbmigngaa.JD
open Go.RowKit Go.Proofs.YtmoffcpbmigngaaW.PrintWords Go.Proofs.YtmoffcpbmigngaaW.PrintLast Go.Proofs.YtmoffcpbmigngaaW.PrintMore
attribute [local go_sem] max2_int min2_int max_two min_two max_three min_three max_four min_four   -- for this text's walks alone
set_option linter.unusedVariables false
set_option linter.unusedSimpArgs false

/-! ### dial_Line: function 25 -/
def dial_Line.T9 : Bool × List (List Nat × List Nat) := (true, [([], []), ([], []), ([0, 1], [0, 1]), ([], []), ([2, 3, 2], [2, 3]), ([4], [4]), ([5], [5]), ([5], [5]), ([], []), ([8, 6, 4, 0, 1, 2, 3, 4, 5, 6, 8], [6, 8]), ([7, 9, 0, 1, 2, 3, 4, 5, 6, 7, 8, 9], [7])])
def dial_Line.B9 : List Nat := [0, 0, 3, 0, 15, 31, 63, 63, 0, 383, 1023]
theorem dial_Line.tab9 : rtab .any (opsOf Try.f25 9) = dial_Line.T9 := by kernel_rfl
theorem dial_Line.bits9 : waitsOk dial_Line.T9.2 dial_Line.B9 = true := by kernel_rfl
set_option maxHeartbeats 8000000 in
set_option maxRecDepth 100000 in
theorem dial_Line.calls (k : Nat) (a0 : Int) (a1 : Int) (r1 : Int) (r2 : Int) (r3 : Int) (w : World) (h : dial_Line.f k a0 a1 = some (r1, r2, r3)) :
    Calls Try.prog 25 #[.int .i64 a0, .int .i64 a1] w fun e w' => e = .returned (.tuple #[.agg #[.int .i64 r1, .int .i64 r2], .int .i64 r3]) ∧ Below w.heap.size w w' := by
  have hu23 := Try.underlying23
  have HB := Aside0.mk (Below.refl w.heap.size w)
  have H : (if a0 < 10000000 then (dial_Line.j0 k a0 a1 true) else (dial_Line.j0 k a0 a1 (decide (a0 > 220000000)))) = some (r1, r2, r3) := h
  clear h
  have HC3 := Aside0.mk H
  clear H
  go_enter Try.func25, Try.ntmps25
  go_upto_region 1 with (first | ((with_reducible refine gate_dst (N := 4) rfl ?_); refine box_event ?hg (N := 4) ?hd (cs := #[.int .i64 0, .int .i64 0]) (t := 23) ?hr ?_; (case hd => rfl); (case hg => rfl); (case hr => first | (go_simp; done) | (go_simp; rfl)); intro gb264 hg w4 hbox hb; have BK264 := Aside0.mk hbox; have GW264 := ge_ (hb_ HB.out) hg; have GE264 := ge_ (hb_ HB.out) hg; replace HB := hx_ HB hb; clear hb hbox hg))
  (try simp only [Act.put, List.setIfInBounds_toArray, List.set_cons_zero, List.set_cons_succ])
  go_cut [20] (fun v20 wc => ∃ (kq : Nat) (x20_2 : Bool), v20 = .bool x20_2 ∧ Aside0 (dial_Line.j0 kq a0 a1 x20_2 = some (r1, r2, r3)) ∧ Aside0 (kq ≤ k) ∧ Aside0 (wc.heap[gb264]? = some (.cells #[.int .i64 0, .int .i64 0] 23 (0, 0))) ∧ Aside0 (Below w.heap.size w wc))
  case first =>
    have H := HC3.out
    clear HC3
    by_cases c5 : a0 < 10000000
    · rw [if_pos c5] at H
      have c5b0 : decide (a0 < 10000000) = true := decide_eq_true c5
      clear c5
      (first | rw [c5b0] | (simp only [i64_w, i32_w]; rw [c5b0]) | rw [c5b1] | skip)
      have H' := Aside0.mk H
      clear H
      go_wp2
      go_meet
      case rel => exact ⟨_, (true), (by first | rfl | (simp; done) | (simp [*]; done)), H', ⟨by first | omega | exact Nat.le_refl _⟩, ⟨(gr_ BK264.out)⟩, ⟨by repeat (first | (with_reducible first | exact HB.out | apply below_alloc | apply pw_below_drewN | apply below_drew1 | refine below_set ?_ GE264.out) | exact HB.out)⟩⟩
    · rw [if_neg c5] at H
      have c5b0 : decide (a0 < 10000000) = false := decide_eq_false c5
      clear c5
      (first | rw [c5b0] | (simp only [i64_w, i32_w]; rw [c5b0]) | rw [c5b1] | skip)
      have H' := Aside0.mk H
      clear H
      go_wp2
      go_meet
      case rel => exact ⟨_, (decide (a0 > 220000000)), (by first | rfl | (simp; done) | (simp [*]; done)), H', ⟨by first | omega | exact Nat.le_refl _⟩, ⟨(gr_ BK264.out)⟩, ⟨by repeat (first | (with_reducible first | exact HB.out | apply below_alloc | apply pw_below_drewN | apply below_drew1 | refine below_set ?_ GE264.out) | exact HB.out)⟩⟩
  case rest =>
    clear HC3
    try clear c2
    try clear p2
    try clear c5
    try clear c5b0
    obtain ⟨kq, x20_2, rfl, HA, HJ2, BK264, HB⟩ := hcut
    cases kq with
    | zero => exact absurd HA.out (by simp [dial_Line.j0])
    | succ kj2 =>
      have H := HA.out
      clear HA
      simp only [dial_Line.j0] at H
      by_cases c6 : x20_2 = true
      · subst c6
        have H1 : (some (0, 0, 3)) = some (r1, r2, r3) := by rw [if_pos rfl] at H; exact H
        clear H
        have H := H1
        clear H1
        simp only [Option.some.injEq, Prod.mk.injEq] at H
        obtain ⟨rfl, rfl, rfl⟩ := H
        have hcz7_0 : wc.cell? ⟨gb264, 0, none⟩ = some (.int .i64 0) := (blk_cell BK264.out 0).trans rfl
        have hcz7_1 : wc.cell? ⟨gb264, 1, none⟩ = some (.int .i64 0) := (blk_cell BK264.out 1).trans rfl
        have hfz7_0 := blk_frozen BK264.out 0
        have hfz7_1 := blk_frozen BK264.out 1
        go_wp2
        refine bodyPost_ret (results_ct rfl _ _ gb264 23 #[.int .i64 0, .int .i64 0] (0, 0) _ rfl (gr_ (blk_put (cs := #[.int .i64 0, .int .i64 0]) (gr_ (blk_put (cs := #[.int .i64 0, .int .i64 0]) (gr_ BK264.out) 0 _ rfl)) 1 _ rfl)) Try.underlying23 rfl (by kernel_rfl)) rfl ?_
        exact ⟨by first | rfl | (simp [errW_none, errW_some] <;> rfl) | (simp [*, errW_none, errW_some] <;> rfl), by repeat (first | (with_reducible first | exact HB.out | apply below_alloc | apply pw_below_drewN | apply below_drew1 | refine below_set ?_ GE264.out) | exact HB.out)⟩
      · replace c6 := Bool.eq_false_iff.mpr c6
        subst c6
        have H1 : (if a1 < 6 then (dial_Line.j1 kj2 a0 a1 true) else (dial_Line.j1 kj2 a0 a1 (decide (a1 > 18)))) = some (r1, r2, r3) := by rw [if_neg (show ¬ (false = true) by decide)] at H; exact H
        clear H
        have H := H1
        clear H1
        have HC8 := Aside0.mk H
        clear H
        go_upto_region 3 with (fail)
        go_cut [27] (fun v27 wc => ∃ (kq : Nat) (x27_7 : Bool), v27 = .bool x27_7 ∧ Aside0 (dial_Line.j1 kq a0 a1 x27_7 = some (r1, r2, r3)) ∧ Aside0 (kq ≤ kj2) ∧ Aside0 (wc.heap[gb264]? = some (.cells #[.int .i64 0, .int .i64 0] 23 (0, 0))) ∧ Aside0 (Below w.heap.size w wc))
        case first =>
          have H := HC8.out
          clear HC8
          by_cases c9 : a1 < 6
          · rw [if_pos c9] at H
            have c9b0 : decide (a1 < 6) = true := decide_eq_true c9
            clear c9
            (first | rw [c9b0] | (simp only [i64_w, i32_w]; rw [c9b0]) | rw [c9b1] | skip)
            have H' := Aside0.mk H
            clear H
            go_wp2
            go_meet
            case rel => exact ⟨_, (true), (by first | rfl | (simp; done) | (simp [*]; done)), H', ⟨by have := HJ2.out; first | omega | exact Nat.le_refl _⟩, ⟨(gr_ BK264.out)⟩, ⟨by repeat (first | (with_reducible first | exact HB.out | apply below_alloc | apply pw_below_drewN | apply below_drew1 | refine below_set ?_ GE264.out) | exact HB.out)⟩⟩
          · rw [if_neg c9] at H
            have c9b0 : decide (a1 < 6) = false := decide_eq_false c9
            clear c9
            (first | rw [c9b0] | (simp only [i64_w, i32_w]; rw [c9b0]) | rw [c9b1] | skip)
            have H' := Aside0.mk H
            clear H
            go_wp2
            go_meet
            case rel => exact ⟨_, (decide (a1 > 18)), (by first | rfl | (simp; done) | (simp [*]; done)), H', ⟨by have := HJ2.out; first | omega | exact Nat.le_refl _⟩, ⟨(gr_ BK264.out)⟩, ⟨by repeat (first | (with_reducible first | exact HB.out | apply below_alloc | apply pw_below_drewN | apply below_drew1 | refine below_set ?_ GE264.out) | exact HB.out)⟩⟩
        case rest =>
          clear HC8
          try clear c2
          try clear p2
          try clear c5
          try clear c5b0
          try clear c6
          try clear c9
          try clear c9b0
          try clear hcz7_0
          try clear hcz7_1
          try clear hfz7_0
          try clear hfz7_1
          try clear p2
          obtain ⟨kq, x27_7, rfl, HA, HJ7, BK264, HB⟩ := hcut
          cases kq with
          | zero => exact absurd HA.out (by simp [dial_Line.j1])
          | succ kj7 =>
            have H := HA.out
            clear HA
            simp only [dial_Line.j1] at H
            by_cases c10 : x27_7 = true
            · subst c10
              have H1 : (some (0, 0, 1)) = some (r1, r2, r3) := by rw [if_pos rfl] at H; exact H
              clear H
              have H := H1
              clear H1
              simp only [Option.some.injEq, Prod.mk.injEq] at H
              obtain ⟨rfl, rfl, rfl⟩ := H
              have hcz11_0 : wc.cell? ⟨gb264, 0, none⟩ = some (.int .i64 0) := (blk_cell BK264.out 0).trans rfl
              have hcz11_1 : wc.cell? ⟨gb264, 1, none⟩ = some (.int .i64 0) := (blk_cell BK264.out 1).trans rfl
              have hfz11_0 := blk_frozen BK264.out 0
              have hfz11_1 := blk_frozen BK264.out 1
              go_wp2
              refine bodyPost_ret (results_ct rfl _ _ gb264 23 #[.int .i64 0, .int .i64 0] (0, 0) _ rfl (gr_ (blk_put (cs := #[.int .i64 0, .int .i64 0]) (gr_ (blk_put (cs := #[.int .i64 0, .int .i64 0]) (gr_ BK264.out) 0 _ rfl)) 1 _ rfl)) Try.underlying23 rfl (by kernel_rfl)) rfl ?_
              exact ⟨by first | rfl | (simp [errW_none, errW_some] <;> rfl) | (simp [*, errW_none, errW_some] <;> rfl), by repeat (first | (with_reducible first | exact HB.out | apply below_alloc | apply pw_below_drewN | apply below_drew1 | refine below_set ?_ GE264.out) | exact HB.out)⟩
            · replace c10 := Bool.eq_false_iff.mpr c10
              subst c10
              have H1 : ((trig_Sin.f kj7 a0).bind fun bt265 => ((trig_Sin.f kj7 (wrap64 (Int.tdiv (wrap64 ((wrap64 (a1 - 12)) * 1000000000)) 24))).bind fun bt269 => ((trig_Cos.f kj7 (wrap64 (Int.tdiv (wrap64 ((wrap64 (a1 - 12)) * 1000000000)) 24))).bind fun bt273 => ((sun_Unit.f bt265.1 bt265.2.1 bt269.1 bt269.2.1).bind fun bt277 => ((trig_Arc.f kj7 bt277.1 bt277.2 bt273.1 bt273.2.1).bind fun bt279 => (if bt279.2.2 = 0 then (if bt279.1 > 500000000 then (some (wrap64 (bt279.1 - 1000000000), wrap64 (bt279.2.1 - 1000000000), 0)) else (some (bt279.1, bt279.2.1, 0))) else (some (0, 0, bt279.2.2)))))))) = some (r1, r2, r3) := by rw [if_neg (show ¬ (false = true) by decide)] at H; exact H
              clear H
              have H := H1
              clear H1
              replace H := Option.bind_eq_some_iff.mp H
              obtain ⟨⟨t265, t266, t267⟩, A120, H⟩ := H
              replace H : ((trig_Sin.f kj7 (wrap64 (Int.tdiv (wrap64 ((wrap64 (a1 - 12)) * 1000000000)) 24))).bind fun bt269 => ((trig_Cos.f kj7 (wrap64 (Int.tdiv (wrap64 ((wrap64 (a1 - 12)) * 1000000000)) 24))).bind fun bt273 => ((sun_Unit.f t265 t266 bt269.1 bt269.2.1).bind fun bt277 => ((trig_Arc.f kj7 bt277.1 bt277.2 bt273.1 bt273.2.1).bind fun bt279 => (if bt279.2.2 = 0 then (if bt279.1 > 500000000 then (some (wrap64 (bt279.1 - 1000000000), wrap64 (bt279.2.1 - 1000000000), 0)) else (some (bt279.1, bt279.2.1, 0))) else (some (0, 0, bt279.2.2))))))) = some (r1, r2, r3) := H
              have A12 := Aside0.mk A120
              clear A120
              replace H := Option.bind_eq_some_iff.mp H
              obtain ⟨⟨t269, t270, t271⟩, A130, H⟩ := H
              replace H : ((trig_Cos.f kj7 (wrap64 (Int.tdiv (wrap64 ((wrap64 (a1 - 12)) * 1000000000)) 24))).bind fun bt273 => ((sun_Unit.f t265 t266 t269 t270).bind fun bt277 => ((trig_Arc.f kj7 bt277.1 bt277.2 bt273.1 bt273.2.1).bind fun bt279 => (if bt279.2.2 = 0 then (if bt279.1 > 500000000 then (some (wrap64 (bt279.1 - 1000000000), wrap64 (bt279.2.1 - 1000000000), 0)) else (some (bt279.1, bt279.2.1, 0))) else (some (0, 0, bt279.2.2)))))) = some (r1, r2, r3) := H
              have A13 := Aside0.mk A130
              clear A130
              replace H := Option.bind_eq_some_iff.mp H
              obtain ⟨⟨t273, t274, t275⟩, A140, H⟩ := H
              replace H : ((sun_Unit.f t265 t266 t269 t270).bind fun bt277 => ((trig_Arc.f kj7 bt277.1 bt277.2 t273 t274).bind fun bt279 => (if bt279.2.2 = 0 then (if bt279.1 > 500000000 then (some (wrap64 (bt279.1 - 1000000000), wrap64 (bt279.2.1 - 1000000000), 0)) else (some (bt279.1, bt279.2.1, 0))) else (some (0, 0, bt279.2.2))))) = some (r1, r2, r3) := H
              have A14 := Aside0.mk A140
              clear A140
              replace H := Option.bind_eq_some_iff.mp H
              obtain ⟨⟨t277, t278⟩, A150, H⟩ := H
              replace H : ((trig_Arc.f kj7 t277 t278 t273 t274).bind fun bt279 => (if bt279.2.2 = 0 then (if bt279.1 > 500000000 then (some (wrap64 (bt279.1 - 1000000000), wrap64 (bt279.2.1 - 1000000000), 0)) else (some (bt279.1, bt279.2.1, 0))) else (some (0, 0, bt279.2.2)))) = some (r1, r2, r3) := H
              have A15 := Aside0.mk A150
              clear A150
              replace H := Option.bind_eq_some_iff.mp H
              obtain ⟨⟨t279, t280, t281⟩, A160, H⟩ := H
              replace H : (if t281 = 0 then (if t279 > 500000000 then (some (wrap64 (t279 - 1000000000), wrap64 (t280 - 1000000000), 0)) else (some (t279, t280, 0))) else (some (0, 0, t281))) = some (r1, r2, r3) := H
              have A16 := Aside0.mk A160
              clear A160
              by_cases c17 : t281 = 0
              · rw [if_pos c17] at H
                have c17b0 : (t281 == 0) = true := beq_iff_eq.mpr c17
                have c17b1 : (t281 != 0) = false := bne_eq_false_iff_eq.mpr c17
                clear c17
                by_cases c18 : t279 > 500000000
                · rw [if_pos c18] at H
                  have c18b0 : decide (500000000 < t279) = true := decide_eq_true c18
                  clear c18
                  simp only [Option.some.injEq, Prod.mk.injEq] at H
                  obtain ⟨rfl, rfl, rfl⟩ := H
                  try go_wp2_with (first | ((with_reducible refine gate_callee (f := 51) rfl ?_); refine goesL_ (some 35) rfl rfl Try.func51 (by kernel_rfl) rfl #[.int .i64 a0] rfl (by (try simp only [List.map_toArray, List.map_cons, List.map_nil]); first | done | rfl | (simp only [List.length_drop, List.length_take]; rfl)) ?_; (with_reducible refine (trig_Sin.calls kj7 a0 t265 t266 t267 _ A12.out).mono ?_); rintro e w19 ⟨rfl, hb⟩; refine ⟨_, rfl, ?_⟩; replace BK264 := nx_ BK264 hb; replace HB := hx_ HB hb; (try clear hb); (try clear hb2); (try clear hk); (try clear hi)) | ((with_reducible refine gate_dst (N := 7) rfl ?_); refine box_event ?hg (N := 7) ?hd (cs := #[.int .i64 0, .int .i64 0]) (t := 23) ?hr ?_; (case hd => rfl); (case hg => rfl); (case hr => first | (go_simp; done) | (go_simp; rfl)); intro gb268 hg w20 hbox hb; have BK268 := Aside0.mk hbox; have GW268 := ge_ (hb_ HB.out) hg; have GE268 := ge_ (hb_ HB.out) hg; have NB264_268 := nb_ (gr_ BK264.out) hg; have NB268_264 := bn_ (gr_ BK264.out) hg; replace BK264 := nx_ BK264 hb; replace HB := hx_ HB hb; clear hb hbox hg; have hnb21 := NB268_264.out; have hnc21 := NB264_268.out; have hcz22_0 : w20.cell? ⟨gb268, 0, none⟩ = some (.int .i64 0) := (blk_cell BK268.out 0).trans rfl; have hcz22_1 : w20.cell? ⟨gb268, 1, none⟩ = some (.int .i64 0) := (blk_cell BK268.out 1).trans rfl; have hfz22_0 := blk_frozen BK268.out 0; have hfz22_1 := blk_frozen BK268.out 1) | ((with_reducible refine gate_callee (f := 51) rfl ?_); refine goesL_ (some 40) rfl rfl Try.func51 (by kernel_rfl) rfl #[.int .i64 (wrap64 (Int.tdiv (wrap64 ((wrap64 (a1 - 12)) * 1000000000)) 24))] rfl (by (try simp only [List.map_toArray, List.map_cons, List.map_nil]); first | done | rfl | (simp only [List.length_drop, List.length_take]; rfl) | (rw [wrap_in_ (n := a1 - 12) (by omega) (by omega)]; rfl)) ?_; (with_reducible refine (trig_Sin.calls kj7 (wrap64 (Int.tdiv (wrap64 ((wrap64 (a1 - 12)) * 1000000000)) 24)) t269 t270 t271 _ A13.out).mono ?_); rintro e w23 ⟨rfl, hb⟩; refine ⟨_, rfl, ?_⟩; replace BK264 := Aside0.mk (blk_below (g := gb264) (o := .cells #[.int .i64 0, .int .i64 0] 23 (0, 0)) (gr_ (blk_far (gr_ (blk_far (gr_ BK264.out) NB264_268.out _)) NB264_268.out _)) hb); replace BK268 := Aside0.mk (blk_below (g := gb268) (o := .cells #[.int .i64 t265, .int .i64 t266] 23 (0, 0)) (gr_ (blk_put (cs := #[.int .i64 t265, .int .i64 0]) (gr_ (blk_put (cs := #[.int .i64 0, .int .i64 0]) (gr_ BK268.out) 0 _ rfl)) 1 _ rfl)) hb); replace HB := Aside0.mk (below_step (by repeat (first | (with_reducible first | exact HB.out | apply below_alloc | apply pw_below_drewN | apply below_drew1 | refine below_set ?_ GE268.out) | exact HB.out)) hb); (try clear hb); (try clear hb2); (try clear hk); (try clear hi)) | ((with_reducible refine gate_dst (N := 9) rfl ?_); refine box_event ?hg (N := 9) ?hd (cs := #[.int .i64 0, .int .i64 0]) (t := 23) ?hr ?_; (case hd => rfl); (case hg => rfl); (case hr => first | (go_simp; done) | (go_simp; rfl)); intro gb272 hg w24 hbox hb; have BK272 := Aside0.mk hbox; have GW272 := ge_ (hb_ HB.out) hg; have GE272 := ge_ (hb_ HB.out) hg; have NB264_272 := nb_ (gr_ BK264.out) hg; have NB272_264 := bn_ (gr_ BK264.out) hg; have NB268_272 := nb_ (gr_ BK268.out) hg; have NB272_268 := bn_ (gr_ BK268.out) hg; replace BK264 := nx_ BK264 hb; replace BK268 := nx_ BK268 hb; replace HB := hx_ HB hb; clear hb hbox hg; have hnb25 := NB272_264.out; have hnc25 := NB264_272.out; have hnb26 := NB272_268.out; have hnc26 := NB268_272.out; have hcz27_0 : w24.cell? ⟨gb272, 0, none⟩ = some (.int .i64 0) := (blk_cell BK272.out 0).trans rfl; have hcz27_1 : w24.cell? ⟨gb272, 1, none⟩ = some (.int .i64 0) := (blk_cell BK272.out 1).trans rfl; have hfz27_0 := blk_frozen BK272.out 0; have hfz27_1 := blk_frozen BK272.out 1) | ((with_reducible refine gate_callee (f := 53) rfl ?_); refine goesL_ (some 45) rfl rfl Try.func53 (by kernel_rfl) rfl #[.int .i64 (wrap64 (Int.tdiv (wrap64 ((wrap64 (a1 - 12)) * 1000000000)) 24))] rfl (by (try simp only [List.map_toArray, List.map_cons, List.map_nil]); first | done | rfl | (simp only [List.length_drop, List.length_take]; rfl) | (rw [wrap_in_ (n := a1 - 12) (by omega) (by omega)]; rfl)) ?_; (with_reducible refine (trig_Cos.calls kj7 (wrap64 (Int.tdiv (wrap64 ((wrap64 (a1 - 12)) * 1000000000)) 24)) t273 t274 t275 _ A14.out).mono ?_); rintro e w28 ⟨rfl, hb⟩; refine ⟨_, rfl, ?_⟩; replace BK264 := Aside0.mk (blk_below (g := gb264) (o := .cells #[.int .i64 0, .int .i64 0] 23 (0, 0)) (gr_ (blk_far (gr_ (blk_far (gr_ BK264.out) NB264_272.out _)) NB264_272.out _)) hb); replace BK268 := Aside0.mk (blk_below (g := gb268) (o := .cells #[.int .i64 t265, .int .i64 t266] 23 (0, 0)) (gr_ (blk_far (gr_ (blk_far (gr_ BK268.out) NB268_272.out _)) NB268_272.out _)) hb); replace BK272 := Aside0.mk (blk_below (g := gb272) (o := .cells #[.int .i64 t269, .int .i64 t270] 23 (0, 0)) (gr_ (blk_put (cs := #[.int .i64 t269, .int .i64 0]) (gr_ (blk_put (cs := #[.int .i64 0, .int .i64 0]) (gr_ BK272.out) 0 _ rfl)) 1 _ rfl)) hb); replace HB := Aside0.mk (below_step (by repeat (first | (with_reducible first | exact HB.out | apply below_alloc | apply pw_below_drewN | apply below_drew1 | refine below_set ?_ GE272.out) | exact HB.out)) hb); (try clear hb); (try clear hb2); (try clear hk); (try clear hi)) | ((with_reducible refine gate_dst (N := 11) rfl ?_); refine box_event ?hg (N := 11) ?hd (cs := #[.int .i64 0, .int .i64 0]) (t := 23) ?hr ?_; (case hd => rfl); (case hg => rfl); (case hr => first | (go_simp; done) | (go_simp; rfl)); intro gb276 hg w29 hbox hb; have BK276 := Aside0.mk hbox; have GW276 := ge_ (hb_ HB.out) hg; have GE276 := ge_ (hb_ HB.out) hg; have NB264_276 := nb_ (gr_ BK264.out) hg; have NB276_264 := bn_ (gr_ BK264.out) hg; have NB268_276 := nb_ (gr_ BK268.out) hg; have NB276_268 := bn_ (gr_ BK268.out) hg; have NB272_276 := nb_ (gr_ BK272.out) hg; have NB276_272 := bn_ (gr_ BK272.out) hg; replace BK264 := nx_ BK264 hb; replace BK268 := nx_ BK268 hb; replace BK272 := nx_ BK272 hb; replace HB := hx_ HB hb; clear hb hbox hg; have hnb30 := NB276_264.out; have hnc30 := NB264_276.out; have hnb31 := NB276_268.out; have hnc31 := NB268_276.out; have hnb32 := NB276_272.out; have hnc32 := NB272_276.out; have hcz33_0 : w29.cell? ⟨gb276, 0, none⟩ = some (.int .i64 0) := (blk_cell BK276.out 0).trans rfl; have hcz33_1 : w29.cell? ⟨gb276, 1, none⟩ = some (.int .i64 0) := (blk_cell BK276.out 1).trans rfl; have hfz33_0 := blk_frozen BK276.out 0; have hfz33_1 := blk_frozen BK276.out 1))
                  have n0_ : Aside0 (((w29.setCell ⟨gb276, 0, none⟩ (.int .i64 t273)).setCell ⟨gb276, 1, none⟩ (.int .i64 t274)).heap[gb264]? = some (.cells #[.int .i64 0, .int .i64 0] 23 (0, 0))) := ⟨(gr_ (blk_far (gr_ (blk_far (gr_ BK264.out) NB264_276.out _)) NB264_276.out _))⟩
                  have n1_ : Aside0 (((w29.setCell ⟨gb276, 0, none⟩ (.int .i64 t273)).setCell ⟨gb276, 1, none⟩ (.int .i64 t274)).heap[gb268]? = some (.cells #[.int .i64 t265, .int .i64 t266] 23 (0, 0))) := ⟨(gr_ (blk_far (gr_ (blk_far (gr_ BK268.out) NB268_276.out _)) NB268_276.out _))⟩
                  have n2_ : Aside0 (((w29.setCell ⟨gb276, 0, none⟩ (.int .i64 t273)).setCell ⟨gb276, 1, none⟩ (.int .i64 t274)).heap[gb272]? = some (.cells #[.int .i64 t269, .int .i64 t270] 23 (0, 0))) := ⟨(gr_ (blk_far (gr_ (blk_far (gr_ BK272.out) NB272_276.out _)) NB272_276.out _))⟩
                  have n3_ : Aside0 (((w29.setCell ⟨gb276, 0, none⟩ (.int .i64 t273)).setCell ⟨gb276, 1, none⟩ (.int .i64 t274)).heap[gb276]? = some (.cells #[.int .i64 t273, .int .i64 t274] 23 (0, 0))) := ⟨(gr_ (blk_put (cs := #[.int .i64 t273, .int .i64 0]) (gr_ (blk_put (cs := #[.int .i64 0, .int .i64 0]) (gr_ BK276.out) 0 _ rfl)) 1 _ rfl))⟩
                  have n4_ : Aside0 (Below w.heap.size w ((w29.setCell ⟨gb276, 0, none⟩ (.int .i64 t273)).setCell ⟨gb276, 1, none⟩ (.int .i64 t274))) := ⟨by repeat (first | (with_reducible first | exact HB.out | apply below_alloc | apply pw_below_drewN | apply below_drew1 | refine below_set ?_ GE264.out | refine below_set ?_ GE268.out | refine below_set ?_ GE272.out | refine below_set ?_ GE276.out) | exact HB.out)⟩
                  (try clear BK264)
                  (try clear BK268)
                  (try clear BK272)
                  (try clear BK276)
                  (try clear HB)
                  generalize ((w29.setCell ⟨gb276, 0, none⟩ (.int .i64 t273)).setCell ⟨gb276, 1, none⟩ (.int .i64 t274)) = w34 at n0_ n1_ n2_ n3_ n4_ ⊢
                  have BK264 := n0_
                  have BK268 := n1_
                  have BK272 := n2_
                  have BK276 := n3_
                  have HB := n4_
                  clear n0_ n1_ n2_ n3_ n4_
                  have n0_ := Aside0.mk (blk_drew BK264.out)
                  have n1_ := Aside0.mk (blk_drew BK268.out)
                  have n2_ := Aside0.mk (blk_drew BK272.out)
                  have n3_ := Aside0.mk (blk_drew BK276.out)
                  have n4_ := Aside0.mk (below_drew1 HB.out)
                  clear BK264
                  clear BK268
                  clear BK272
                  clear BK276
                  clear HB
                  have BK264 := n0_
                  have BK268 := n1_
                  have BK272 := n2_
                  have BK276 := n3_
                  have HB := n4_
                  clear n0_ n1_ n2_ n3_ n4_
                  refine start_ (n := 11) (S := fun w' => w'.cell? ⟨gb268, 0, none⟩ = some (.int .i64 t265) ∧ w'.cell? ⟨gb268, 1, none⟩ = some (.int .i64 t266) ∧ w'.cell? ⟨gb272, 0, none⟩ = some (.int .i64 t269) ∧ w'.cell? ⟨gb272, 1, none⟩ = some (.int .i64 t270) ∧ w'.cell? ⟨gb276, 0, none⟩ = some (.int .i64 t273) ∧ w'.cell? ⟨gb276, 1, none⟩ = some (.int .i64 t274)) (ds := []) #[false, false, false, false, false, false, false, false, false, false, false] (by kernel_rfl) rfl rfl ⟨(blk_cell BK268.out 0).trans rfl, (blk_cell BK268.out 1).trans rfl, (blk_cell BK272.out 0).trans rfl, (blk_cell BK272.out 1).trans rfl, (blk_cell BK276.out 0).trans rfl, (blk_cell BK276.out 1).trans rfl⟩ (fun hHeld => ?_); refine with_tabW dial_Line.tab9 dial_Line.bits9 (fun HT_ HW_ => ?_)
                  generalize w34.drew = w35 at BK264 BK268 BK272 BK276 HB hHeld ⊢
                  refine take_ (i := 0) (N := some 49) (v := ?_) (a' := ?_) #[true, false, false, false, false, false, false, false, false, false, false] rfl rfl (take_ofW HT_.out HW_.out (by kernel_rfl)) (fun _ _ _ h => h) (Or.inl ⟨by rfl, ?_⟩) hHeld ?_ ?_
                  rotate_left
                  · rintro w' ⟨s0, s1, s2, s3, s4, s5⟩
                    go_simp
                    with_reducible rfl
                  rotate_left
                  · simp only [Act.put, List.setIfInBounds_toArray, List.set_cons_zero, List.set_cons_succ, i64_w, i32_w]
                    rfl
                  refine take_ (i := 1) (N := some 50) (v := ?_) (a' := ?_) #[true, true, false, false, false, false, false, false, false, false, false] rfl rfl (take_ofW HT_.out HW_.out (by kernel_rfl)) (fun _ _ _ h => h) (Or.inl ⟨by rfl, ?_⟩) hHeld ?_ ?_
                  rotate_left
                  · rintro w' ⟨s0, s1, s2, s3, s4, s5⟩
                    go_simp
                    with_reducible rfl
                  rotate_left
                  · simp only [Act.put, List.setIfInBounds_toArray, List.set_cons_zero, List.set_cons_succ, i64_w, i32_w]
                    rfl
                  refine take_ (i := 3) (N := some 52) (v := ?_) (a' := ?_) #[true, true, false, true, false, false, false, false, false, false, false] rfl rfl (take_ofW HT_.out HW_.out (by kernel_rfl)) (fun _ _ _ h => h) (Or.inl ⟨by rfl, ?_⟩) hHeld ?_ ?_
                  rotate_left
                  · rintro w' ⟨s0, s1, s2, s3, s4, s5⟩
                    go_simp
                    with_reducible rfl
                  rotate_left
                  · simp only [Act.put, List.setIfInBounds_toArray, List.set_cons_zero, List.set_cons_succ, i64_w, i32_w]
                    rfl
                  refine join_ (σ := Nat) 2 #[true, true, true, true, true, true, true, true, true, false, false] (fun s_ => [(51, .agg #[.int .i64 t277, .int .i64 t278]), (53, .tuple #[.agg #[.int .i64 t279, .int .i64 t280], .int .i64 t281]), (13, .pointer (some ⟨s_, 0, none⟩)), (48, .tuple #[.agg #[.int .i64 t279, .int .i64 t280], .int .i64 t281]), (54, .agg #[.int .i64 t279, .int .i64 t280]), (55, .int .i64 t281)]) (fun s_ w' => (w'.cell? ⟨gb268, 0, none⟩ = some (.int .i64 t265) ∧ w'.cell? ⟨gb268, 1, none⟩ = some (.int .i64 t266) ∧ w'.cell? ⟨gb272, 0, none⟩ = some (.int .i64 t269) ∧ w'.cell? ⟨gb272, 1, none⟩ = some (.int .i64 t270) ∧ w'.cell? ⟨gb276, 0, none⟩ = some (.int .i64 t273) ∧ w'.cell? ⟨gb276, 1, none⟩ = some (.int .i64 t274)) ∧ (w'.heap[gb264]? = some (.cells #[.int .i64 0, .int .i64 0] 23 (0, 0))) ∧ (w'.heap[gb268]? = some (.cells #[.int .i64 t265, .int .i64 t266] 23 (0, 0))) ∧ (w'.heap[gb272]? = some (.cells #[.int .i64 t269, .int .i64 t270] 23 (0, 0))) ∧ (w'.heap[gb276]? = some (.cells #[.int .i64 t273, .int .i64 t274] 23 (0, 0))) ∧ (w'.heap[s_]? = some (.cells #[.int .i64 0, .int .i64 0] 23 (0, 0))) ∧ (w.heap.size ≤ s_) ∧ (w.heap.size ≤ s_) ∧ (gb264 ≠ s_) ∧ (s_ ≠ gb264) ∧ (gb268 ≠ s_) ∧ (s_ ≠ gb268) ∧ (gb272 ≠ s_) ∧ (s_ ≠ gb272) ∧ (gb276 ≠ s_) ∧ (s_ ≠ gb276) ∧ (Below w.heap.size w w')) ?_ ?_
                  rotate_left
                  · intro hCont
                    refine two_ (i := 2) (j := 8) (Ni := some 51) (Nj := some 13) #[true, true, true, true, false, false, false, false, false, false, false] #[true, true, false, true, false, false, false, false, true, false, false] rfl rfl rfl rfl (two_of HT_.out (by kernel_rfl)) (by decide) (by decide) (fun K hK => ?_) (fun K hK => ?_)
                    · skip
                      refine goes_ Try.func61 (by kernel_rfl) rfl #[.agg #[.int .i64 t265, .int .i64 t266], .agg #[.int .i64 t269, .int .i64 t270]] (by rfl) rfl rfl (by (try simp only [List.map_toArray, List.map_cons, List.map_nil]); first | done | rfl | (simp only [List.length_drop, List.length_take]; rfl)) ?_
                      with_reducible refine (sun_Unit.calls t265 t266 t269 t270 t277 t278 _ A15.out).mono ?_
                      rintro e w36 ⟨rfl, hb⟩
                      refine ⟨_, rfl, ?_⟩
                      replace BK264 := nx_ BK264 hb
                      replace BK268 := nx_ BK268 hb
                      replace BK272 := nx_ BK272 hb
                      replace BK276 := nx_ BK276 hb
                      replace HB := hx_ HB hb
                      (try clear hb)
                      (try clear hb2)
                      (try clear hk)
                      (try clear hi)
                      refine hK.out _ _ ⟨(blk_cell BK268.out 0).trans rfl, (blk_cell BK268.out 1).trans rfl, (blk_cell BK272.out 0).trans rfl, (blk_cell BK272.out 1).trans rfl, (blk_cell BK276.out 0).trans rfl, (blk_cell BK276.out 1).trans rfl⟩ (fun hHeld => ?_)
                      clear hK K
                      refine norm_ (a' := ?_) ?_ ?_
                      rotate_left
                      · show Act.put _ (some 51) _ = _
                        simp only [Act.put, List.setIfInBounds_toArray, List.set_cons_zero, List.set_cons_succ, i64_w, i32_w]
                        rfl
                      refine two_ (i := 4) (j := 8) (Ni := some 53) (Nj := some 13) #[true, true, true, true, true, false, false, false, false, false, false] #[true, true, true, true, false, false, false, false, true, false, false] rfl rfl rfl rfl (two_of HT_.out (by kernel_rfl)) (by decide) (by decide) (fun K hK => ?_) (fun K hK => ?_)
                      · skip
                        refine goes_ Try.func20 (by kernel_rfl) rfl #[.agg #[.int .i64 t277, .int .i64 t278], .agg #[.int .i64 t273, .int .i64 t274]] (by rfl) rfl rfl (by (try simp only [List.map_toArray, List.map_cons, List.map_nil]); first | done | rfl | (simp only [List.length_drop, List.length_take]; rfl)) ?_
                        with_reducible refine (trig_Arc.calls kj7 t277 t278 t273 t274 t279 t280 t281 _ A16.out).mono ?_
                        rintro e w37 ⟨rfl, hb⟩
                        refine ⟨_, rfl, ?_⟩
                        replace BK264 := nx_ BK264 hb
                        replace BK268 := nx_ BK268 hb
                        replace BK272 := nx_ BK272 hb
                        replace BK276 := nx_ BK276 hb
                        replace HB := hx_ HB hb
                        (try clear hb)
                        (try clear hb2)
                        (try clear hk)
                        (try clear hi)
                        refine hK.out _ _ ⟨(blk_cell BK268.out 0).trans rfl, (blk_cell BK268.out 1).trans rfl, (blk_cell BK272.out 0).trans rfl, (blk_cell BK272.out 1).trans rfl, (blk_cell BK276.out 0).trans rfl, (blk_cell BK276.out 1).trans rfl⟩ (fun hHeld => ?_)
                        clear hK K
                        refine norm_ (a' := ?_) ?_ ?_
                        rotate_left
                        · show Act.put _ (some 53) _ = _
                          simp only [Act.put, List.setIfInBounds_toArray, List.set_cons_zero, List.set_cons_succ, i64_w, i32_w]
                          rfl
                        refine pure_ (i := 5) (N := some 48) (v := ?_) (a' := ?_) #[true, true, true, true, true, true, false, false, false, false, false] rfl rfl (any_of HT_.out (by kernel_rfl)) (fun _ _ _ h => h) (Or.inl ⟨by rfl, ?_⟩) ?_ ?_
                        rotate_left
                        · intro w'
                          go_simp
                          with_reducible rfl
                        rotate_left
                        · simp only [Act.put, List.setIfInBounds_toArray, List.set_cons_zero, List.set_cons_succ, i64_w, i32_w]
                          rfl
                        refine pure_ (i := 6) (N := some 54) (v := ?_) (a' := ?_) #[true, true, true, true, true, true, true, false, false, false, false] rfl rfl (any_of HT_.out (by kernel_rfl)) (fun _ _ _ h => h) (Or.inl ⟨by rfl, ?_⟩) ?_ ?_
                        rotate_left
                        · intro w'
                          go_simp
                          with_reducible rfl
                        rotate_left
                        · simp only [Act.put, List.setIfInBounds_toArray, List.set_cons_zero, List.set_cons_succ, i64_w, i32_w]
                          rfl
                        refine pure_ (i := 7) (N := some 55) (v := ?_) (a' := ?_) #[true, true, true, true, true, true, true, true, false, false, false] rfl rfl (any_of HT_.out (by kernel_rfl)) (fun _ _ _ h => h) (Or.inl ⟨by rfl, ?_⟩) ?_ ?_
                        rotate_left
                        · intro w'
                          go_simp
                          with_reducible rfl
                        rotate_left
                        · simp only [Act.put, List.setIfInBounds_toArray, List.set_cons_zero, List.set_cons_succ, i64_w, i32_w]
                          rfl
                        refine one_ (i := 8) (N := some 13) #[true, true, true, true, true, true, true, true, true, false, false] rfl rfl (one_of HT_.out (by kernel_rfl)) (by decide) (fun K hK => ?_)
                        refine box_step ?hg (N := 13) ?hd (cs := #[.int .i64 0, .int .i64 0]) (t := 23) ?hr ?_; (case hd => rfl); (case hg => rfl); (case hr => first | (go_simp; done) | (go_simp; rfl))
                        intro gb282 hg w38 hbox hb
                        have BK282 := Aside0.mk hbox
                        have GW282 := ge_ (hb_ HB.out) hg
                        have GE282 := ge_ (hb_ HB.out) hg
                        have NB264_282 := nb_ (gr_ BK264.out) hg
                        have NB282_264 := bn_ (gr_ BK264.out) hg
                        have NB268_282 := nb_ (gr_ BK268.out) hg
                        have NB282_268 := bn_ (gr_ BK268.out) hg
                        have NB272_282 := nb_ (gr_ BK272.out) hg
                        have NB282_272 := bn_ (gr_ BK272.out) hg
                        have NB276_282 := nb_ (gr_ BK276.out) hg
                        have NB282_276 := bn_ (gr_ BK276.out) hg
                        replace BK264 := nx_ BK264 hb
                        replace BK268 := nx_ BK268 hb
                        replace BK272 := nx_ BK272 hb
                        replace BK276 := nx_ BK276 hb
                        replace HB := hx_ HB hb
                        clear hb hbox hg
                        refine hK.out _ _ ⟨(blk_cell BK268.out 0).trans rfl, (blk_cell BK268.out 1).trans rfl, (blk_cell BK272.out 0).trans rfl, (blk_cell BK272.out 1).trans rfl, (blk_cell BK276.out 0).trans rfl, (blk_cell BK276.out 1).trans rfl⟩ (fun hHeld => ?_)
                        clear hK K
                        refine norm_ (a' := ?_) ?_ ?_
                        rotate_left
                        · show Act.put _ (some 13) _ = _
                          simp only [Act.put, List.setIfInBounds_toArray, List.set_cons_zero, List.set_cons_succ, i64_w, i32_w]
                          rfl
                        exact norm_ (by simp only [putAll, Act.put, List.setIfInBounds_toArray, List.set_cons_zero, List.set_cons_succ]) (hCont (gb282) _ ⟨hHeld, (gr_ BK264.out), (gr_ BK268.out), (gr_ BK272.out), (gr_ BK276.out), (gr_ BK282.out), GW282.out, GE282.out, NB264_282.out, NB282_264.out, NB268_282.out, NB282_268.out, NB272_282.out, NB282_272.out, NB276_282.out, NB282_276.out, (by repeat (first | (with_reducible first | exact HB.out | apply below_alloc | apply pw_below_drewN | apply below_drew1 | refine below_set ?_ GE264.out | refine below_set ?_ GE268.out | refine below_set ?_ GE272.out | refine below_set ?_ GE276.out | refine below_set ?_ GE282.out) | exact HB.out))⟩)
                      · skip
                        refine box_step ?hg (N := 13) ?hd (cs := #[.int .i64 0, .int .i64 0]) (t := 23) ?hr ?_; (case hd => rfl); (case hg => rfl); (case hr => first | (go_simp; done) | (go_simp; rfl))
                        intro gb282 hg w37 hbox hb
                        have BK282 := Aside0.mk hbox
                        have GW282 := ge_ (hb_ HB.out) hg
                        have GE282 := ge_ (hb_ HB.out) hg
                        have NB264_282 := nb_ (gr_ BK264.out) hg
                        have NB282_264 := bn_ (gr_ BK264.out) hg
                        have NB268_282 := nb_ (gr_ BK268.out) hg
                        have NB282_268 := bn_ (gr_ BK268.out) hg
                        have NB272_282 := nb_ (gr_ BK272.out) hg
                        have NB282_272 := bn_ (gr_ BK272.out) hg
                        have NB276_282 := nb_ (gr_ BK276.out) hg
                        have NB282_276 := bn_ (gr_ BK276.out) hg
                        replace BK264 := nx_ BK264 hb
                        replace BK268 := nx_ BK268 hb
                        replace BK272 := nx_ BK272 hb
                        replace BK276 := nx_ BK276 hb
                        replace HB := hx_ HB hb
                        clear hb hbox hg
                        refine hK.out _ _ ⟨(blk_cell BK268.out 0).trans rfl, (blk_cell BK268.out 1).trans rfl, (blk_cell BK272.out 0).trans rfl, (blk_cell BK272.out 1).trans rfl, (blk_cell BK276.out 0).trans rfl, (blk_cell BK276.out 1).trans rfl⟩ (fun hHeld => ?_)
                        clear hK K
                        refine norm_ (a' := ?_) ?_ ?_
                        rotate_left
                        · show Act.put _ (some 13) _ = _
                          simp only [Act.put, List.setIfInBounds_toArray, List.set_cons_zero, List.set_cons_succ, i64_w, i32_w]
                          rfl
                        refine one_ (i := 4) (N := some 53) #[true, true, true, true, true, false, false, false, true, false, false] rfl rfl (one_of HT_.out (by kernel_rfl)) (by decide) (fun K hK => ?_)
                        refine goes_ Try.func20 (by kernel_rfl) rfl #[.agg #[.int .i64 t277, .int .i64 t278], .agg #[.int .i64 t273, .int .i64 t274]] (by rfl) rfl rfl (by (try simp only [List.map_toArray, List.map_cons, List.map_nil]); first | done | rfl | (simp only [List.length_drop, List.length_take]; rfl)) ?_
                        with_reducible refine (trig_Arc.calls kj7 t277 t278 t273 t274 t279 t280 t281 _ A16.out).mono ?_
                        rintro e w38 ⟨rfl, hb⟩
                        refine ⟨_, rfl, ?_⟩
                        replace BK264 := nx_ BK264 hb
                        replace BK268 := nx_ BK268 hb
                        replace BK272 := nx_ BK272 hb
                        replace BK276 := nx_ BK276 hb
                        replace BK282 := nx_ BK282 hb
                        replace HB := hx_ HB hb
                        (try clear hb)
                        (try clear hb2)
                        (try clear hk)
                        (try clear hi)
                        refine hK.out _ _ ⟨(blk_cell BK268.out 0).trans rfl, (blk_cell BK268.out 1).trans rfl, (blk_cell BK272.out 0).trans rfl, (blk_cell BK272.out 1).trans rfl, (blk_cell BK276.out 0).trans rfl, (blk_cell BK276.out 1).trans rfl⟩ (fun hHeld => ?_)
                        clear hK K
                        refine norm_ (a' := ?_) ?_ ?_
                        rotate_left
                        · show Act.put _ (some 53) _ = _
                          simp only [Act.put, List.setIfInBounds_toArray, List.set_cons_zero, List.set_cons_succ, i64_w, i32_w]
                          rfl
                        refine pure_ (i := 5) (N := some 48) (v := ?_) (a' := ?_) #[true, true, true, true, true, true, false, false, true, false, false] rfl rfl (any_of HT_.out (by kernel_rfl)) (fun _ _ _ h => h) (Or.inl ⟨by rfl, ?_⟩) ?_ ?_
                        rotate_left
                        · intro w'
                          go_simp
                          with_reducible rfl
                        rotate_left
                        · simp only [Act.put, List.setIfInBounds_toArray, List.set_cons_zero, List.set_cons_succ, i64_w, i32_w]
                          rfl
                        refine pure_ (i := 6) (N := some 54) (v := ?_) (a' := ?_) #[true, true, true, true, true, true, true, false, true, false, false] rfl rfl (any_of HT_.out (by kernel_rfl)) (fun _ _ _ h => h) (Or.inl ⟨by rfl, ?_⟩) ?_ ?_
                        rotate_left
                        · intro w'
                          go_simp
                          with_reducible rfl
                        rotate_left
                        · simp only [Act.put, List.setIfInBounds_toArray, List.set_cons_zero, List.set_cons_succ, i64_w, i32_w]
                          rfl
                        refine pure_ (i := 7) (N := some 55) (v := ?_) (a' := ?_) #[true, true, true, true, true, true, true, true, true, false, false] rfl rfl (any_of HT_.out (by kernel_rfl)) (fun _ _ _ h => h) (Or.inl ⟨by rfl, ?_⟩) ?_ ?_
                        rotate_left
                        · intro w'
                          go_simp
                          with_reducible rfl
                        rotate_left
                        · simp only [Act.put, List.setIfInBounds_toArray, List.set_cons_zero, List.set_cons_succ, i64_w, i32_w]
                          rfl
                        exact norm_ (by simp only [putAll, Act.put, List.setIfInBounds_toArray, List.set_cons_zero, List.set_cons_succ]) (hCont (gb282) _ ⟨hHeld, (gr_ BK264.out), (gr_ BK268.out), (gr_ BK272.out), (gr_ BK276.out), (gr_ BK282.out), GW282.out, GE282.out, NB264_282.out, NB282_264.out, NB268_282.out, NB282_268.out, NB272_282.out, NB282_272.out, NB276_282.out, NB282_276.out, (by repeat (first | (with_reducible first | exact HB.out | apply below_alloc | apply pw_below_drewN | apply below_drew1 | refine below_set ?_ GE264.out | refine below_set ?_ GE268.out | refine below_set ?_ GE272.out | refine below_set ?_ GE276.out | refine below_set ?_ GE282.out) | exact HB.out))⟩)
                    · skip
                      refine box_step ?hg (N := 13) ?hd (cs := #[.int .i64 0, .int .i64 0]) (t := 23) ?hr ?_; (case hd => rfl); (case hg => rfl); (case hr => first | (go_simp; done) | (go_simp; rfl))
                      intro gb282 hg w36 hbox hb
                      have BK282 := Aside0.mk hbox
                      have GW282 := ge_ (hb_ HB.out) hg
                      have GE282 := ge_ (hb_ HB.out) hg
                      have NB264_282 := nb_ (gr_ BK264.out) hg
                      have NB282_264 := bn_ (gr_ BK264.out) hg
                      have NB268_282 := nb_ (gr_ BK268.out) hg
                      have NB282_268 := bn_ (gr_ BK268.out) hg
                      have NB272_282 := nb_ (gr_ BK272.out) hg
                      have NB282_272 := bn_ (gr_ BK272.out) hg
                      have NB276_282 := nb_ (gr_ BK276.out) hg
                      have NB282_276 := bn_ (gr_ BK276.out) hg
                      replace BK264 := nx_ BK264 hb
                      replace BK268 := nx_ BK268 hb
                      replace BK272 := nx_ BK272 hb
                      replace BK276 := nx_ BK276 hb
                      replace HB := hx_ HB hb
                      clear hb hbox hg
                      refine hK.out _ _ ⟨(blk_cell BK268.out 0).trans rfl, (blk_cell BK268.out 1).trans rfl, (blk_cell BK272.out 0).trans rfl, (blk_cell BK272.out 1).trans rfl, (blk_cell BK276.out 0).trans rfl, (blk_cell BK276.out 1).trans rfl⟩ (fun hHeld => ?_)
                      clear hK K
                      refine norm_ (a' := ?_) ?_ ?_
                      rotate_left
                      · show Act.put _ (some 13) _ = _
                        simp only [Act.put, List.setIfInBounds_toArray, List.set_cons_zero, List.set_cons_succ, i64_w, i32_w]
                        rfl
                      refine one_ (i := 2) (N := some 51) #[true, true, true, true, false, false, false, false, true, false, false] rfl rfl (one_of HT_.out (by kernel_rfl)) (by decide) (fun K hK => ?_)
                      refine goes_ Try.func61 (by kernel_rfl) rfl #[.agg #[.int .i64 t265, .int .i64 t266], .agg #[.int .i64 t269, .int .i64 t270]] (by rfl) rfl rfl (by (try simp only [List.map_toArray, List.map_cons, List.map_nil]); first | done | rfl | (simp only [List.length_drop, List.length_take]; rfl)) ?_
                      with_reducible refine (sun_Unit.calls t265 t266 t269 t270 t277 t278 _ A15.out).mono ?_
                      rintro e w37 ⟨rfl, hb⟩
                      refine ⟨_, rfl, ?_⟩
                      replace BK264 := nx_ BK264 hb
                      replace BK268 := nx_ BK268 hb
                      replace BK272 := nx_ BK272 hb
                      replace BK276 := nx_ BK276 hb
                      replace BK282 := nx_ BK282 hb
                      replace HB := hx_ HB hb
                      (try clear hb)
                      (try clear hb2)
                      (try clear hk)
                      (try clear hi)
                      refine hK.out _ _ ⟨(blk_cell BK268.out 0).trans rfl, (blk_cell BK268.out 1).trans rfl, (blk_cell BK272.out 0).trans rfl, (blk_cell BK272.out 1).trans rfl, (blk_cell BK276.out 0).trans rfl, (blk_cell BK276.out 1).trans rfl⟩ (fun hHeld => ?_)
                      clear hK K
                      refine norm_ (a' := ?_) ?_ ?_
                      rotate_left
                      · show Act.put _ (some 51) _ = _
                        simp only [Act.put, List.setIfInBounds_toArray, List.set_cons_zero, List.set_cons_succ, i64_w, i32_w]
                        rfl
                      refine one_ (i := 4) (N := some 53) #[true, true, true, true, true, false, false, false, true, false, false] rfl rfl (one_of HT_.out (by kernel_rfl)) (by decide) (fun K hK => ?_)
                      refine goes_ Try.func20 (by kernel_rfl) rfl #[.agg #[.int .i64 t277, .int .i64 t278], .agg #[.int .i64 t273, .int .i64 t274]] (by rfl) rfl rfl (by (try simp only [List.map_toArray, List.map_cons, List.map_nil]); first | done | rfl | (simp only [List.length_drop, List.length_take]; rfl)) ?_
                      with_reducible refine (trig_Arc.calls kj7 t277 t278 t273 t274 t279 t280 t281 _ A16.out).mono ?_
                      rintro e w38 ⟨rfl, hb⟩
                      refine ⟨_, rfl, ?_⟩
                      replace BK264 := nx_ BK264 hb
                      replace BK268 := nx_ BK268 hb
                      replace BK272 := nx_ BK272 hb
                      replace BK276 := nx_ BK276 hb
                      replace BK282 := nx_ BK282 hb
                      replace HB := hx_ HB hb
                      (try clear hb)
                      (try clear hb2)
                      (try clear hk)
                      (try clear hi)
                      refine hK.out _ _ ⟨(blk_cell BK268.out 0).trans rfl, (blk_cell BK268.out 1).trans rfl, (blk_cell BK272.out 0).trans rfl, (blk_cell BK272.out 1).trans rfl, (blk_cell BK276.out 0).trans rfl, (blk_cell BK276.out 1).trans rfl⟩ (fun hHeld => ?_)
                      clear hK K
                      refine norm_ (a' := ?_) ?_ ?_
                      rotate_left
                      · show Act.put _ (some 53) _ = _
                        simp only [Act.put, List.setIfInBounds_toArray, List.set_cons_zero, List.set_cons_succ, i64_w, i32_w]
                        rfl
                      refine pure_ (i := 5) (N := some 48) (v := ?_) (a' := ?_) #[true, true, true, true, true, true, false, false, true, false, false] rfl rfl (any_of HT_.out (by kernel_rfl)) (fun _ _ _ h => h) (Or.inl ⟨by rfl, ?_⟩) ?_ ?_
                      rotate_left
                      · intro w'
                        go_simp
                        with_reducible rfl
                      rotate_left
                      · simp only [Act.put, List.setIfInBounds_toArray, List.set_cons_zero, List.set_cons_succ, i64_w, i32_w]
                        rfl
                      refine pure_ (i := 6) (N := some 54) (v := ?_) (a' := ?_) #[true, true, true, true, true, true, true, false, true, false, false] rfl rfl (any_of HT_.out (by kernel_rfl)) (fun _ _ _ h => h) (Or.inl ⟨by rfl, ?_⟩) ?_ ?_
                      rotate_left
                      · intro w'
                        go_simp
                        with_reducible rfl
                      rotate_left
                      · simp only [Act.put, List.setIfInBounds_toArray, List.set_cons_zero, List.set_cons_succ, i64_w, i32_w]
                        rfl
                      refine pure_ (i := 7) (N := some 55) (v := ?_) (a' := ?_) #[true, true, true, true, true, true, true, true, true, false, false] rfl rfl (any_of HT_.out (by kernel_rfl)) (fun _ _ _ h => h) (Or.inl ⟨by rfl, ?_⟩) ?_ ?_
                      rotate_left
                      · intro w'
                        go_simp
                        with_reducible rfl
                      rotate_left
                      · simp only [Act.put, List.setIfInBounds_toArray, List.set_cons_zero, List.set_cons_succ, i64_w, i32_w]
                        rfl
                      exact norm_ (by simp only [putAll, Act.put, List.setIfInBounds_toArray, List.set_cons_zero, List.set_cons_succ]) (hCont (gb282) _ ⟨hHeld, (gr_ BK264.out), (gr_ BK268.out), (gr_ BK272.out), (gr_ BK276.out), (gr_ BK282.out), GW282.out, GE282.out, NB264_282.out, NB282_264.out, NB268_282.out, NB282_268.out, NB272_282.out, NB282_272.out, NB276_282.out, NB282_276.out, (by repeat (first | (with_reducible first | exact HB.out | apply below_alloc | apply pw_below_drewN | apply below_drew1 | refine below_set ?_ GE264.out | refine below_set ?_ GE268.out | refine below_set ?_ GE272.out | refine below_set ?_ GE276.out | refine below_set ?_ GE282.out) | exact HB.out))⟩)
                  rintro gb282 w39 ⟨hS_, h0_, h1_, h2_, h3_, h4_, h5_, h6_, h7_, h8_, h9_, h10_, h11_, h12_, h13_, h14_, h15_⟩
                  replace BK264 : Aside0 (w39.heap[gb264]? = some (.cells #[.int .i64 0, .int .i64 0] 23 (0, 0))) := ⟨h0_⟩
                  replace BK268 : Aside0 (w39.heap[gb268]? = some (.cells #[.int .i64 t265, .int .i64 t266] 23 (0, 0))) := ⟨h1_⟩
                  replace BK272 : Aside0 (w39.heap[gb272]? = some (.cells #[.int .i64 t269, .int .i64 t270] 23 (0, 0))) := ⟨h2_⟩
                  replace BK276 : Aside0 (w39.heap[gb276]? = some (.cells #[.int .i64 t273, .int .i64 t274] 23 (0, 0))) := ⟨h3_⟩
                  have BK282 : Aside0 (w39.heap[gb282]? = some (.cells #[.int .i64 0, .int .i64 0] 23 (0, 0))) := ⟨h4_⟩
                  have GW282 : Aside0 (w.heap.size ≤ gb282) := ⟨h5_⟩
                  have GE282 : Aside0 (w.heap.size ≤ gb282) := ⟨h6_⟩
                  have NB264_282 : Aside0 (gb264 ≠ gb282) := ⟨h7_⟩
                  have NB282_264 : Aside0 (gb282 ≠ gb264) := ⟨h8_⟩
                  have NB268_282 : Aside0 (gb268 ≠ gb282) := ⟨h9_⟩
                  have NB282_268 : Aside0 (gb282 ≠ gb268) := ⟨h10_⟩
                  have NB272_282 : Aside0 (gb272 ≠ gb282) := ⟨h11_⟩
                  have NB282_272 : Aside0 (gb282 ≠ gb272) := ⟨h12_⟩
                  have NB276_282 : Aside0 (gb276 ≠ gb282) := ⟨h13_⟩
                  have NB282_276 : Aside0 (gb282 ≠ gb276) := ⟨h14_⟩
                  replace HB : Aside0 (Below w.heap.size w w39) := ⟨h15_⟩
                  clear h0_ h1_ h2_ h3_ h4_ h5_ h6_ h7_ h8_ h9_ h10_ h11_ h12_ h13_ h14_ h15_
                  have hHeld : w39.cell? ⟨gb268, 0, none⟩ = some (.int .i64 t265) ∧ w39.cell? ⟨gb268, 1, none⟩ = some (.int .i64 t266) ∧ w39.cell? ⟨gb272, 0, none⟩ = some (.int .i64 t269) ∧ w39.cell? ⟨gb272, 1, none⟩ = some (.int .i64 t270) ∧ w39.cell? ⟨gb276, 0, none⟩ = some (.int .i64 t273) ∧ w39.cell? ⟨gb276, 1, none⟩ = some (.int .i64 t274) := hS_
                  refine norm_ (a' := ?_) ?_ ?_
                  rotate_left
                  · simp only [putAll, Act.put, List.setIfInBounds_toArray, List.set_cons_zero, List.set_cons_succ]
                    rfl
                  refine one_ (i := 9) (N := none) #[true, true, true, true, true, true, true, true, true, true, false] rfl rfl (one_of HT_.out (by kernel_rfl)) (by decide) (fun K hK => ?_)
                  have hs40 : w39.cell? ⟨gb282, 0, none⟩ = some (.int .i64 0) := (blk_cell BK282.out 0).trans rfl
                  have hfs40 := blk_frozen BK282.out 0
                  have hns40_0 := NB264_282.out
                  have hns40_1 := NB268_282.out
                  have hns40_2 := NB272_282.out
                  have hns40_3 := NB276_282.out
                  have hms40_0 := NB282_264.out
                  have hms40_1 := NB282_268.out
                  have hms40_2 := NB282_272.out
                  have hms40_3 := NB282_276.out
                  have hs41 : w39.cell? ⟨gb282, 1, none⟩ = some (.int .i64 0) := (blk_cell BK282.out 1).trans rfl
                  have hfs41 := blk_frozen BK282.out 1
                  have hns41_0 := NB264_282.out
                  have hns41_1 := NB268_282.out
                  have hns41_2 := NB272_282.out
                  have hns41_3 := NB276_282.out
                  have hms41_0 := NB282_264.out
                  have hms41_1 := NB282_268.out
                  have hms41_2 := NB282_272.out
                  have hms41_3 := NB282_276.out
                  refine skip_ (w1 := ?_) (by rfl) rfl ?_ ?_
                  rotate_left
                  · go_simp
                    rfl
                  refine hK.out _ _ ⟨((cell_far (p := ⟨gb282, _, none⟩) NB268_282.out _).trans (((cell_far (p := ⟨gb282, _, none⟩) NB268_282.out _).trans (hHeld.1)))), ((cell_far (p := ⟨gb282, _, none⟩) NB268_282.out _).trans (((cell_far (p := ⟨gb282, _, none⟩) NB268_282.out _).trans (hHeld.2.1)))), ((cell_far (p := ⟨gb282, _, none⟩) NB272_282.out _).trans (((cell_far (p := ⟨gb282, _, none⟩) NB272_282.out _).trans (hHeld.2.2.1)))), ((cell_far (p := ⟨gb282, _, none⟩) NB272_282.out _).trans (((cell_far (p := ⟨gb282, _, none⟩) NB272_282.out _).trans (hHeld.2.2.2.1)))), ((cell_far (p := ⟨gb282, _, none⟩) NB276_282.out _).trans (((cell_far (p := ⟨gb282, _, none⟩) NB276_282.out _).trans (hHeld.2.2.2.2.1)))), ((cell_far (p := ⟨gb282, _, none⟩) NB276_282.out _).trans (((cell_far (p := ⟨gb282, _, none⟩) NB276_282.out _).trans (hHeld.2.2.2.2.2))))⟩ (fun hHeld => ?_)
                  clear hK K
                  refine pure_ (i := 10) (N := some 14) (v := ?_) (a' := ?_) #[true, true, true, true, true, true, true, true, true, true, true] rfl rfl (any_of HT_.out (by kernel_rfl)) (fun _ _ _ h => h) (Or.inl ⟨by rfl, ?_⟩) ?_ ?_
                  rotate_left
                  · intro w'
                    go_simp
                    with_reducible rfl
                  rotate_left
                  · simp only [Act.put, List.setIfInBounds_toArray, List.set_cons_zero, List.set_cons_succ, i64_w, i32_w]
                    rfl
                  refine done_ (done_of HT_.out (by kernel_rfl)) ?_
                  have hnb42 := NB282_264.out
                  have hnc42 := NB264_282.out
                  have hnb43 := NB282_268.out
                  have hnc43 := NB268_282.out
                  have hnb44 := NB282_272.out
                  have hnc44 := NB272_282.out
                  have hnb45 := NB282_276.out
                  have hnc45 := NB276_282.out
                  have hcz46_0 : w39.cell? ⟨gb282, 0, none⟩ = some (.int .i64 0) := (blk_cell BK282.out 0).trans rfl
                  have hcz46_1 : w39.cell? ⟨gb282, 1, none⟩ = some (.int .i64 0) := (blk_cell BK282.out 1).trans rfl
                  have hfz46_0 := blk_frozen BK282.out 0
                  have hfz46_1 := blk_frozen BK282.out 1
                  have hcz47_0 : w39.cell? ⟨gb264, 0, none⟩ = some (.int .i64 0) := (blk_cell BK264.out 0).trans rfl
                  have hcz47_1 : w39.cell? ⟨gb264, 1, none⟩ = some (.int .i64 0) := (blk_cell BK264.out 1).trans rfl
                  have hfz47_0 := blk_frozen BK264.out 0
                  have hfz47_1 := blk_frozen BK264.out 1
                  have BQ_ := Aside0.mk (blk_put (cs := #[.int .i64 (wrap64 (t279 - 1000000000)), .int .i64 t280]) (blk_put (cs := #[.int .i64 t279, .int .i64 t280]) (blk_put (cs := #[.int .i64 t279, .int .i64 0]) (blk_put (cs := #[.int .i64 0, .int .i64 0]) BK282.out 0 (.int .i64 t279) rfl) 1 (.int .i64 t280) rfl) 0 (.int .i64 (wrap64 (t279 - 1000000000))) rfl) 1 (.int .i64 (wrap64 (t280 - 1000000000))) rfl)
                  have hq0_ : ((((w39.setCell ⟨gb282, 0, none⟩ (.int .i64 t279)).setCell ⟨gb282, 1, none⟩ (.int .i64 t280)).setCell ⟨gb282, 0, none⟩ (.int .i64 (wrap64 (t279 - 1000000000)))).setCell ⟨gb282, 1, none⟩ (.int .i64 (wrap64 (t280 - 1000000000)))).cell? ⟨gb282, 0, none⟩ = some (.int .i64 (wrap64 (t279 - 1000000000))) := (blk_cell BQ_.out 0).trans rfl
                  have hq1_ : ((((w39.setCell ⟨gb282, 0, none⟩ (.int .i64 t279)).setCell ⟨gb282, 1, none⟩ (.int .i64 t280)).setCell ⟨gb282, 0, none⟩ (.int .i64 (wrap64 (t279 - 1000000000)))).setCell ⟨gb282, 1, none⟩ (.int .i64 (wrap64 (t280 - 1000000000)))).cell? ⟨gb282, 1, none⟩ = some (.int .i64 (wrap64 (t280 - 1000000000))) := (blk_cell BQ_.out 1).trans rfl
                  try go_wp2
                  refine bodyPost_ret (results_ct rfl _ _ gb264 23 #[.int .i64 (wrap64 (t279 - 1000000000)), .int .i64 (wrap64 (t280 - 1000000000))] (0, 0) _ rfl (gr_ (blk_put (cs := #[.int .i64 (wrap64 (t279 - 1000000000)), .int .i64 0]) (gr_ (blk_put (cs := #[.int .i64 0, .int .i64 0]) (gr_ (blk_far (gr_ (blk_far (gr_ (blk_far (gr_ (blk_far (gr_ BK264.out) NB264_282.out _)) NB264_282.out _)) NB264_282.out _)) NB264_282.out _)) 0 _ rfl)) 1 _ rfl)) Try.underlying23 rfl (by kernel_rfl)) rfl ?_
                  exact ⟨by first | rfl | (simp [errW_none, errW_some] <;> rfl) | (simp [*, errW_none, errW_some] <;> rfl), by repeat (first | (with_reducible first | exact HB.out | apply below_alloc | apply pw_below_drewN | apply below_drew1 | refine below_set ?_ GE264.out | refine below_set ?_ GE268.out | refine below_set ?_ GE272.out | refine below_set ?_ GE276.out | refine below_set ?_ GE282.out) | exact HB.out)⟩
                · rw [if_neg c18] at H
                  have c18b0 : decide (500000000 < t279) = false := decide_eq_false c18
                  clear c18
                  simp only [Option.some.injEq, Prod.mk.injEq] at H
                  obtain ⟨rfl, rfl, rfl⟩ := H
                  try go_wp2_with (first | ((with_reducible refine gate_callee (f := 51) rfl ?_); refine goesL_ (some 35) rfl rfl Try.func51 (by kernel_rfl) rfl #[.int .i64 a0] rfl (by (try simp only [List.map_toArray, List.map_cons, List.map_nil]); first | done | rfl | (simp only [List.length_drop, List.length_take]; rfl)) ?_; (with_reducible refine (trig_Sin.calls kj7 a0 t265 t266 t267 _ A12.out).mono ?_); rintro e w48 ⟨rfl, hb⟩; refine ⟨_, rfl, ?_⟩; replace BK264 := nx_ BK264 hb; replace HB := hx_ HB hb; (try clear hb); (try clear hb2); (try clear hk); (try clear hi)) | ((with_reducible refine gate_dst (N := 7) rfl ?_); refine box_event ?hg (N := 7) ?hd (cs := #[.int .i64 0, .int .i64 0]) (t := 23) ?hr ?_; (case hd => rfl); (case hg => rfl); (case hr => first | (go_simp; done) | (go_simp; rfl)); intro gb268 hg w49 hbox hb; have BK268 := Aside0.mk hbox; have GW268 := ge_ (hb_ HB.out) hg; have GE268 := ge_ (hb_ HB.out) hg; have NB264_268 := nb_ (gr_ BK264.out) hg; have NB268_264 := bn_ (gr_ BK264.out) hg; replace BK264 := nx_ BK264 hb; replace HB := hx_ HB hb; clear hb hbox hg; have hnb50 := NB268_264.out; have hnc50 := NB264_268.out; have hcz51_0 : w49.cell? ⟨gb268, 0, none⟩ = some (.int .i64 0) := (blk_cell BK268.out 0).trans rfl; have hcz51_1 : w49.cell? ⟨gb268, 1, none⟩ = some (.int .i64 0) := (blk_cell BK268.out 1).trans rfl; have hfz51_0 := blk_frozen BK268.out 0; have hfz51_1 := blk_frozen BK268.out 1) | ((with_reducible refine gate_callee (f := 51) rfl ?_); refine goesL_ (some 40) rfl rfl Try.func51 (by kernel_rfl) rfl #[.int .i64 (wrap64 (Int.tdiv (wrap64 ((wrap64 (a1 - 12)) * 1000000000)) 24))] rfl (by (try simp only [List.map_toArray, List.map_cons, List.map_nil]); first | done | rfl | (simp only [List.length_drop, List.length_take]; rfl) | (rw [wrap_in_ (n := a1 - 12) (by omega) (by omega)]; rfl)) ?_; (with_reducible refine (trig_Sin.calls kj7 (wrap64 (Int.tdiv (wrap64 ((wrap64 (a1 - 12)) * 1000000000)) 24)) t269 t270 t271 _ A13.out).mono ?_); rintro e w52 ⟨rfl, hb⟩; refine ⟨_, rfl, ?_⟩; replace BK264 := Aside0.mk (blk_below (g := gb264) (o := .cells #[.int .i64 0, .int .i64 0] 23 (0, 0)) (gr_ (blk_far (gr_ (blk_far (gr_ BK264.out) NB264_268.out _)) NB264_268.out _)) hb); replace BK268 := Aside0.mk (blk_below (g := gb268) (o := .cells #[.int .i64 t265, .int .i64 t266] 23 (0, 0)) (gr_ (blk_put (cs := #[.int .i64 t265, .int .i64 0]) (gr_ (blk_put (cs := #[.int .i64 0, .int .i64 0]) (gr_ BK268.out) 0 _ rfl)) 1 _ rfl)) hb); replace HB := Aside0.mk (below_step (by repeat (first | (with_reducible first | exact HB.out | apply below_alloc | apply pw_below_drewN | apply below_drew1 | refine below_set ?_ GE268.out) | exact HB.out)) hb); (try clear hb); (try clear hb2); (try clear hk); (try clear hi)) | ((with_reducible refine gate_dst (N := 9) rfl ?_); refine box_event ?hg (N := 9) ?hd (cs := #[.int .i64 0, .int .i64 0]) (t := 23) ?hr ?_; (case hd => rfl); (case hg => rfl); (case hr => first | (go_simp; done) | (go_simp; rfl)); intro gb272 hg w53 hbox hb; have BK272 := Aside0.mk hbox; have GW272 := ge_ (hb_ HB.out) hg; have GE272 := ge_ (hb_ HB.out) hg; have NB264_272 := nb_ (gr_ BK264.out) hg; have NB272_264 := bn_ (gr_ BK264.out) hg; have NB268_272 := nb_ (gr_ BK268.out) hg; have NB272_268 := bn_ (gr_ BK268.out) hg; replace BK264 := nx_ BK264 hb; replace BK268 := nx_ BK268 hb; replace HB := hx_ HB hb; clear hb hbox hg; have hnb54 := NB272_264.out; have hnc54 := NB264_272.out; have hnb55 := NB272_268.out; have hnc55 := NB268_272.out; have hcz56_0 : w53.cell? ⟨gb272, 0, none⟩ = some (.int .i64 0) := (blk_cell BK272.out 0).trans rfl; have hcz56_1 : w53.cell? ⟨gb272, 1, none⟩ = some (.int .i64 0) := (blk_cell BK272.out 1).trans rfl; have hfz56_0 := blk_frozen BK272.out 0; have hfz56_1 := blk_frozen BK272.out 1) | ((with_reducible refine gate_callee (f := 53) rfl ?_); refine goesL_ (some 45) rfl rfl Try.func53 (by kernel_rfl) rfl #[.int .i64 (wrap64 (Int.tdiv (wrap64 ((wrap64 (a1 - 12)) * 1000000000)) 24))] rfl (by (try simp only [List.map_toArray, List.map_cons, List.map_nil]); first | done | rfl | (simp only [List.length_drop, List.length_take]; rfl) | (rw [wrap_in_ (n := a1 - 12) (by omega) (by omega)]; rfl)) ?_; (with_reducible refine (trig_Cos.calls kj7 (wrap64 (Int.tdiv (wrap64 ((wrap64 (a1 - 12)) * 1000000000)) 24)) t273 t274 t275 _ A14.out).mono ?_); rintro e w57 ⟨rfl, hb⟩; refine ⟨_, rfl, ?_⟩; replace BK264 := Aside0.mk (blk_below (g := gb264) (o := .cells #[.int .i64 0, .int .i64 0] 23 (0, 0)) (gr_ (blk_far (gr_ (blk_far (gr_ BK264.out) NB264_272.out _)) NB264_272.out _)) hb); replace BK268 := Aside0.mk (blk_below (g := gb268) (o := .cells #[.int .i64 t265, .int .i64 t266] 23 (0, 0)) (gr_ (blk_far (gr_ (blk_far (gr_ BK268.out) NB268_272.out _)) NB268_272.out _)) hb); replace BK272 := Aside0.mk (blk_below (g := gb272) (o := .cells #[.int .i64 t269, .int .i64 t270] 23 (0, 0)) (gr_ (blk_put (cs := #[.int .i64 t269, .int .i64 0]) (gr_ (blk_put (cs := #[.int .i64 0, .int .i64 0]) (gr_ BK272.out) 0 _ rfl)) 1 _ rfl)) hb); replace HB := Aside0.mk (below_step (by repeat (first | (with_reducible first | exact HB.out | apply below_alloc | apply pw_below_drewN | apply below_drew1 | refine below_set ?_ GE272.out) | exact HB.out)) hb); (try clear hb); (try clear hb2); (try clear hk); (try clear hi)) | ((with_reducible refine gate_dst (N := 11) rfl ?_); refine box_event ?hg (N := 11) ?hd (cs := #[.int .i64 0, .int .i64 0]) (t := 23) ?hr ?_; (case hd => rfl); (case hg => rfl); (case hr => first | (go_simp; done) | (go_simp; rfl)); intro gb276 hg w58 hbox hb; have BK276 := Aside0.mk hbox; have GW276 := ge_ (hb_ HB.out) hg; have GE276 := ge_ (hb_ HB.out) hg; have NB264_276 := nb_ (gr_ BK264.out) hg; have NB276_264 := bn_ (gr_ BK264.out) hg; have NB268_276 := nb_ (gr_ BK268.out) hg; have NB276_268 := bn_ (gr_ BK268.out) hg; have NB272_276 := nb_ (gr_ BK272.out) hg; have NB276_272 := bn_ (gr_ BK272.out) hg; replace BK264 := nx_ BK264 hb; replace BK268 := nx_ BK268 hb; replace BK272 := nx_ BK272 hb; replace HB := hx_ HB hb; clear hb hbox hg; have hnb59 := NB276_264.out; have hnc59 := NB264_276.out; have hnb60 := NB276_268.out; have hnc60 := NB268_276.out; have hnb61 := NB276_272.out; have hnc61 := NB272_276.out; have hcz62_0 : w58.cell? ⟨gb276, 0, none⟩ = some (.int .i64 0) := (blk_cell BK276.out 0).trans rfl; have hcz62_1 : w58.cell? ⟨gb276, 1, none⟩ = some (.int .i64 0) := (blk_cell BK276.out 1).trans rfl; have hfz62_0 := blk_frozen BK276.out 0; have hfz62_1 := blk_frozen BK276.out 1))
                  have n0_ : Aside0 (((w58.setCell ⟨gb276, 0, none⟩ (.int .i64 t273)).setCell ⟨gb276, 1, none⟩ (.int .i64 t274)).heap[gb264]? = some (.cells #[.int .i64 0, .int .i64 0] 23 (0, 0))) := ⟨(gr_ (blk_far (gr_ (blk_far (gr_ BK264.out) NB264_276.out _)) NB264_276.out _))⟩
                  have n1_ : Aside0 (((w58.setCell ⟨gb276, 0, none⟩ (.int .i64 t273)).setCell ⟨gb276, 1, none⟩ (.int .i64 t274)).heap[gb268]? = some (.cells #[.int .i64 t265, .int .i64 t266] 23 (0, 0))) := ⟨(gr_ (blk_far (gr_ (blk_far (gr_ BK268.out) NB268_276.out _)) NB268_276.out _))⟩
                  have n2_ : Aside0 (((w58.setCell ⟨gb276, 0, none⟩ (.int .i64 t273)).setCell ⟨gb276, 1, none⟩ (.int .i64 t274)).heap[gb272]? = some (.cells #[.int .i64 t269, .int .i64 t270] 23 (0, 0))) := ⟨(gr_ (blk_far (gr_ (blk_far (gr_ BK272.out) NB272_276.out _)) NB272_276.out _))⟩
                  have n3_ : Aside0 (((w58.setCell ⟨gb276, 0, none⟩ (.int .i64 t273)).setCell ⟨gb276, 1, none⟩ (.int .i64 t274)).heap[gb276]? = some (.cells #[.int .i64 t273, .int .i64 t274] 23 (0, 0))) := ⟨(gr_ (blk_put (cs := #[.int .i64 t273, .int .i64 0]) (gr_ (blk_put (cs := #[.int .i64 0, .int .i64 0]) (gr_ BK276.out) 0 _ rfl)) 1 _ rfl))⟩
                  have n4_ : Aside0 (Below w.heap.size w ((w58.setCell ⟨gb276, 0, none⟩ (.int .i64 t273)).setCell ⟨gb276, 1, none⟩ (.int .i64 t274))) := ⟨by repeat (first | (with_reducible first | exact HB.out | apply below_alloc | apply pw_below_drewN | apply below_drew1 | refine below_set ?_ GE264.out | refine below_set ?_ GE268.out | refine below_set ?_ GE272.out | refine below_set ?_ GE276.out) | exact HB.out)⟩
                  (try clear BK264)
                  (try clear BK268)
                  (try clear BK272)
                  (try clear BK276)
                  (try clear HB)
                  generalize ((w58.setCell ⟨gb276, 0, none⟩ (.int .i64 t273)).setCell ⟨gb276, 1, none⟩ (.int .i64 t274)) = w63 at n0_ n1_ n2_ n3_ n4_ ⊢
                  have BK264 := n0_
                  have BK268 := n1_
                  have BK272 := n2_
                  have BK276 := n3_
                  have HB := n4_
                  clear n0_ n1_ n2_ n3_ n4_
                  have n0_ := Aside0.mk (blk_drew BK264.out)
                  have n1_ := Aside0.mk (blk_drew BK268.out)
                  have n2_ := Aside0.mk (blk_drew BK272.out)
                  have n3_ := Aside0.mk (blk_drew BK276.out)
                  have n4_ := Aside0.mk (below_drew1 HB.out)
                  clear BK264
                  clear BK268
                  clear BK272
                  clear BK276
                  clear HB
                  have BK264 := n0_
                  have BK268 := n1_
                  have BK272 := n2_
                  have BK276 := n3_
                  have HB := n4_
                  clear n0_ n1_ n2_ n3_ n4_
                  refine start_ (n := 11) (S := fun w' => w'.cell? ⟨gb268, 0, none⟩ = some (.int .i64 t265) ∧ w'.cell? ⟨gb268, 1, none⟩ = some (.int .i64 t266) ∧ w'.cell? ⟨gb272, 0, none⟩ = some (.int .i64 t269) ∧ w'.cell? ⟨gb272, 1, none⟩ = some (.int .i64 t270) ∧ w'.cell? ⟨gb276, 0, none⟩ = some (.int .i64 t273) ∧ w'.cell? ⟨gb276, 1, none⟩ = some (.int .i64 t274)) (ds := []) #[false, false, false, false, false, false, false, false, false, false, false] (by kernel_rfl) rfl rfl ⟨(blk_cell BK268.out 0).trans rfl, (blk_cell BK268.out 1).trans rfl, (blk_cell BK272.out 0).trans rfl, (blk_cell BK272.out 1).trans rfl, (blk_cell BK276.out 0).trans rfl, (blk_cell BK276.out 1).trans rfl⟩ (fun hHeld => ?_); refine with_tabW dial_Line.tab9 dial_Line.bits9 (fun HT_ HW_ => ?_)
                  generalize w63.drew = w64 at BK264 BK268 BK272 BK276 HB hHeld ⊢
                  refine take_ (i := 0) (N := some 49) (v := ?_) (a' := ?_) #[true, false, false, false, false, false, false, false, false, false, false] rfl rfl (take_ofW HT_.out HW_.out (by kernel_rfl)) (fun _ _ _ h => h) (Or.inl ⟨by rfl, ?_⟩) hHeld ?_ ?_
                  rotate_left
                  · rintro w' ⟨s0, s1, s2, s3, s4, s5⟩
                    go_simp
                    with_reducible rfl
                  rotate_left
                  · simp only [Act.put, List.setIfInBounds_toArray, List.set_cons_zero, List.set_cons_succ, i64_w, i32_w]
                    rfl
                  refine take_ (i := 1) (N := some 50) (v := ?_) (a' := ?_) #[true, true, false, false, false, false, false, false, false, false, false] rfl rfl (take_ofW HT_.out HW_.out (by kernel_rfl)) (fun _ _ _ h => h) (Or.inl ⟨by rfl, ?_⟩) hHeld ?_ ?_
                  rotate_left
                  · rintro w' ⟨s0, s1, s2, s3, s4, s5⟩
                    go_simp
                    with_reducible rfl
                  rotate_left
                  · simp only [Act.put, List.setIfInBounds_toArray, List.set_cons_zero, List.set_cons_succ, i64_w, i32_w]
                    rfl
                  refine take_ (i := 3) (N := some 52) (v := ?_) (a' := ?_) #[true, true, false, true, false, false, false, false, false, false, false] rfl rfl (take_ofW HT_.out HW_.out (by kernel_rfl)) (fun _ _ _ h => h) (Or.inl ⟨by rfl, ?_⟩) hHeld ?_ ?_
                  rotate_left
                  · rintro w' ⟨s0, s1, s2, s3, s4, s5⟩
                    go_simp
                    with_reducible rfl
                  rotate_left
                  · simp only [Act.put, List.setIfInBounds_toArray, List.set_cons_zero, List.set_cons_succ, i64_w, i32_w]
                    rfl
                  refine join_ (σ := Nat) 2 #[true, true, true, true, true, true, true, true, true, false, false] (fun s_ => [(51, .agg #[.int .i64 t277, .int .i64 t278]), (53, .tuple #[.agg #[.int .i64 t279, .int .i64 t280], .int .i64 t281]), (13, .pointer (some ⟨s_, 0, none⟩)), (48, .tuple #[.agg #[.int .i64 t279, .int .i64 t280], .int .i64 t281]), (54, .agg #[.int .i64 t279, .int .i64 t280]), (55, .int .i64 t281)]) (fun s_ w' => (w'.cell? ⟨gb268, 0, none⟩ = some (.int .i64 t265) ∧ w'.cell? ⟨gb268, 1, none⟩ = some (.int .i64 t266) ∧ w'.cell? ⟨gb272, 0, none⟩ = some (.int .i64 t269) ∧ w'.cell? ⟨gb272, 1, none⟩ = some (.int .i64 t270) ∧ w'.cell? ⟨gb276, 0, none⟩ = some (.int .i64 t273) ∧ w'.cell? ⟨gb276, 1, none⟩ = some (.int .i64 t274)) ∧ (w'.heap[gb264]? = some (.cells #[.int .i64 0, .int .i64 0] 23 (0, 0))) ∧ (w'.heap[gb268]? = some (.cells #[.int .i64 t265, .int .i64 t266] 23 (0, 0))) ∧ (w'.heap[gb272]? = some (.cells #[.int .i64 t269, .int .i64 t270] 23 (0, 0))) ∧ (w'.heap[gb276]? = some (.cells #[.int .i64 t273, .int .i64 t274] 23 (0, 0))) ∧ (w'.heap[s_]? = some (.cells #[.int .i64 0, .int .i64 0] 23 (0, 0))) ∧ (w.heap.size ≤ s_) ∧ (w.heap.size ≤ s_) ∧ (gb264 ≠ s_) ∧ (s_ ≠ gb264) ∧ (gb268 ≠ s_) ∧ (s_ ≠ gb268) ∧ (gb272 ≠ s_) ∧ (s_ ≠ gb272) ∧ (gb276 ≠ s_) ∧ (s_ ≠ gb276) ∧ (Below w.heap.size w w')) ?_ ?_
                  rotate_left
                  · intro hCont
                    refine two_ (i := 2) (j := 8) (Ni := some 51) (Nj := some 13) #[true, true, true, true, false, false, false, false, false, false, false] #[true, true, false, true, false, false, false, false, true, false, false] rfl rfl rfl rfl (two_of HT_.out (by kernel_rfl)) (by decide) (by decide) (fun K hK => ?_) (fun K hK => ?_)
                    · skip
                      refine goes_ Try.func61 (by kernel_rfl) rfl #[.agg #[.int .i64 t265, .int .i64 t266], .agg #[.int .i64 t269, .int .i64 t270]] (by rfl) rfl rfl (by (try simp only [List.map_toArray, List.map_cons, List.map_nil]); first | done | rfl | (simp only [List.length_drop, List.length_take]; rfl)) ?_
                      with_reducible refine (sun_Unit.calls t265 t266 t269 t270 t277 t278 _ A15.out).mono ?_
                      rintro e w65 ⟨rfl, hb⟩
                      refine ⟨_, rfl, ?_⟩
                      replace BK264 := nx_ BK264 hb
                      replace BK268 := nx_ BK268 hb
                      replace BK272 := nx_ BK272 hb
                      replace BK276 := nx_ BK276 hb
                      replace HB := hx_ HB hb
                      (try clear hb)
                      (try clear hb2)
                      (try clear hk)
                      (try clear hi)
                      refine hK.out _ _ ⟨(blk_cell BK268.out 0).trans rfl, (blk_cell BK268.out 1).trans rfl, (blk_cell BK272.out 0).trans rfl, (blk_cell BK272.out 1).trans rfl, (blk_cell BK276.out 0).trans rfl, (blk_cell BK276.out 1).trans rfl⟩ (fun hHeld => ?_)
                      clear hK K
                      refine norm_ (a' := ?_) ?_ ?_
                      rotate_left
                      · show Act.put _ (some 51) _ = _
                        simp only [Act.put, List.setIfInBounds_toArray, List.set_cons_zero, List.set_cons_succ, i64_w, i32_w]
                        rfl
                      refine two_ (i := 4) (j := 8) (Ni := some 53) (Nj := some 13) #[true, true, true, true, true, false, false, false, false, false, false] #[true, true, true, true, false, false, false, false, true, false, false] rfl rfl rfl rfl (two_of HT_.out (by kernel_rfl)) (by decide) (by decide) (fun K hK => ?_) (fun K hK => ?_)
                      · skip
                        refine goes_ Try.func20 (by kernel_rfl) rfl #[.agg #[.int .i64 t277, .int .i64 t278], .agg #[.int .i64 t273, .int .i64 t274]] (by rfl) rfl rfl (by (try simp only [List.map_toArray, List.map_cons, List.map_nil]); first | done | rfl | (simp only [List.length_drop, List.length_take]; rfl)) ?_
                        with_reducible refine (trig_Arc.calls kj7 t277 t278 t273 t274 t279 t280 t281 _ A16.out).mono ?_
                        rintro e w66 ⟨rfl, hb⟩
                        refine ⟨_, rfl, ?_⟩
                        replace BK264 := nx_ BK264 hb
                        replace BK268 := nx_ BK268 hb
                        replace BK272 := nx_ BK272 hb
                        replace BK276 := nx_ BK276 hb
                        replace HB := hx_ HB hb
                        (try clear hb)
                        (try clear hb2)
                        (try clear hk)
                        (try clear hi)
                        refine hK.out _ _ ⟨(blk_cell BK268.out 0).trans rfl, (blk_cell BK268.out 1).trans rfl, (blk_cell BK272.out 0).trans rfl, (blk_cell BK272.out 1).trans rfl, (blk_cell BK276.out 0).trans rfl, (blk_cell BK276.out 1).trans rfl⟩ (fun hHeld => ?_)
                        clear hK K
                        refine norm_ (a' := ?_) ?_ ?_
                        rotate_left
                        · show Act.put _ (some 53) _ = _
                          simp only [Act.put, List.setIfInBounds_toArray, List.set_cons_zero, List.set_cons_succ, i64_w, i32_w]
                          rfl
                        refine pure_ (i := 5) (N := some 48) (v := ?_) (a' := ?_) #[true, true, true, true, true, true, false, false, false, false, false] rfl rfl (any_of HT_.out (by kernel_rfl)) (fun _ _ _ h => h) (Or.inl ⟨by rfl, ?_⟩) ?_ ?_
                        rotate_left
                        · intro w'
                          go_simp
                          with_reducible rfl
                        rotate_left
                        · simp only [Act.put, List.setIfInBounds_toArray, List.set_cons_zero, List.set_cons_succ, i64_w, i32_w]
                          rfl
                        refine pure_ (i := 6) (N := some 54) (v := ?_) (a' := ?_) #[true, true, true, true, true, true, true, false, false, false, false] rfl rfl (any_of HT_.out (by kernel_rfl)) (fun _ _ _ h => h) (Or.inl ⟨by rfl, ?_⟩) ?_ ?_
                        rotate_left
                        · intro w'
                          go_simp
                          with_reducible rfl
                        rotate_left
                        · simp only [Act.put, List.setIfInBounds_toArray, List.set_cons_zero, List.set_cons_succ, i64_w, i32_w]
                          rfl
                        refine pure_ (i := 7) (N := some 55) (v := ?_) (a' := ?_) #[true, true, true, true, true, true, true, true, false, false, false] rfl rfl (any_of HT_.out (by kernel_rfl)) (fun _ _ _ h => h) (Or.inl ⟨by rfl, ?_⟩) ?_ ?_
                        rotate_left
                        · intro w'
                          go_simp
                          with_reducible rfl
                        rotate_left
                        · simp only [Act.put, List.setIfInBounds_toArray, List.set_cons_zero, List.set_cons_succ, i64_w, i32_w]
                          rfl
                        refine one_ (i := 8) (N := some 13) #[true, true, true, true, true, true, true, true, true, false, false] rfl rfl (one_of HT_.out (by kernel_rfl)) (by decide) (fun K hK => ?_)
                        refine box_step ?hg (N := 13) ?hd (cs := #[.int .i64 0, .int .i64 0]) (t := 23) ?hr ?_; (case hd => rfl); (case hg => rfl); (case hr => first | (go_simp; done) | (go_simp; rfl))
                        intro gb282 hg w67 hbox hb
                        have BK282 := Aside0.mk hbox
                        have GW282 := ge_ (hb_ HB.out) hg
                        have GE282 := ge_ (hb_ HB.out) hg
                        have NB264_282 := nb_ (gr_ BK264.out) hg
                        have NB282_264 := bn_ (gr_ BK264.out) hg
                        have NB268_282 := nb_ (gr_ BK268.out) hg
                        have NB282_268 := bn_ (gr_ BK268.out) hg
                        have NB272_282 := nb_ (gr_ BK272.out) hg
                        have NB282_272 := bn_ (gr_ BK272.out) hg
                        have NB276_282 := nb_ (gr_ BK276.out) hg
                        have NB282_276 := bn_ (gr_ BK276.out) hg
                        replace BK264 := nx_ BK264 hb
                        replace BK268 := nx_ BK268 hb
                        replace BK272 := nx_ BK272 hb
                        replace BK276 := nx_ BK276 hb
                        replace HB := hx_ HB hb
                        clear hb hbox hg
                        refine hK.out _ _ ⟨(blk_cell BK268.out 0).trans rfl, (blk_cell BK268.out 1).trans rfl, (blk_cell BK272.out 0).trans rfl, (blk_cell BK272.out 1).trans rfl, (blk_cell BK276.out 0).trans rfl, (blk_cell BK276.out 1).trans rfl⟩ (fun hHeld => ?_)
                        clear hK K
                        refine norm_ (a' := ?_) ?_ ?_
                        rotate_left
                        · show Act.put _ (some 13) _ = _
                          simp only [Act.put, List.setIfInBounds_toArray, List.set_cons_zero, List.set_cons_succ, i64_w, i32_w]
                          rfl
                        exact norm_ (by simp only [putAll, Act.put, List.setIfInBounds_toArray, List.set_cons_zero, List.set_cons_succ]) (hCont (gb282) _ ⟨hHeld, (gr_ BK264.out), (gr_ BK268.out), (gr_ BK272.out), (gr_ BK276.out), (gr_ BK282.out), GW282.out, GE282.out, NB264_282.out, NB282_264.out, NB268_282.out, NB282_268.out, NB272_282.out, NB282_272.out, NB276_282.out, NB282_276.out, (by repeat (first | (with_reducible first | exact HB.out | apply below_alloc | apply pw_below_drewN | apply below_drew1 | refine below_set ?_ GE264.out | refine below_set ?_ GE268.out | refine below_set ?_ GE272.out | refine below_set ?_ GE276.out | refine below_set ?_ GE282.out) | exact HB.out))⟩)
                      · skip
                        refine box_step ?hg (N := 13) ?hd (cs := #[.int .i64 0, .int .i64 0]) (t := 23) ?hr ?_; (case hd => rfl); (case hg => rfl); (case hr => first | (go_simp; done) | (go_simp; rfl))
                        intro gb282 hg w66 hbox hb
                        have BK282 := Aside0.mk hbox
                        have GW282 := ge_ (hb_ HB.out) hg
                        have GE282 := ge_ (hb_ HB.out) hg
                        have NB264_282 := nb_ (gr_ BK264.out) hg
                        have NB282_264 := bn_ (gr_ BK264.out) hg
                        have NB268_282 := nb_ (gr_ BK268.out) hg
                        have NB282_268 := bn_ (gr_ BK268.out) hg
                        have NB272_282 := nb_ (gr_ BK272.out) hg
                        have NB282_272 := bn_ (gr_ BK272.out) hg
                        have NB276_282 := nb_ (gr_ BK276.out) hg
                        have NB282_276 := bn_ (gr_ BK276.out) hg
                        replace BK264 := nx_ BK264 hb
                        replace BK268 := nx_ BK268 hb
                        replace BK272 := nx_ BK272 hb
                        replace BK276 := nx_ BK276 hb
                        replace HB := hx_ HB hb
                        clear hb hbox hg
                        refine hK.out _ _ ⟨(blk_cell BK268.out 0).trans rfl, (blk_cell BK268.out 1).trans rfl, (blk_cell BK272.out 0).trans rfl, (blk_cell BK272.out 1).trans rfl, (blk_cell BK276.out 0).trans rfl, (blk_cell BK276.out 1).trans rfl⟩ (fun hHeld => ?_)
                        clear hK K
                        refine norm_ (a' := ?_) ?_ ?_
                        rotate_left
                        · show Act.put _ (some 13) _ = _
                          simp only [Act.put, List.setIfInBounds_toArray, List.set_cons_zero, List.set_cons_succ, i64_w, i32_w]
                          rfl
                        refine one_ (i := 4) (N := some 53) #[true, true, true, true, true, false, false, false, true, false, false] rfl rfl (one_of HT_.out (by kernel_rfl)) (by decide) (fun K hK => ?_)
                        refine goes_ Try.func20 (by kernel_rfl) rfl #[.agg #[.int .i64 t277, .int .i64 t278], .agg #[.int .i64 t273, .int .i64 t274]] (by rfl) rfl rfl (by (try simp only [List.map_toArray, List.map_cons, List.map_nil]); first | done | rfl | (simp only [List.length_drop, List.length_take]; rfl)) ?_
                        with_reducible refine (trig_Arc.calls kj7 t277 t278 t273 t274 t279 t280 t281 _ A16.out).mono ?_
                        rintro e w67 ⟨rfl, hb⟩
                        refine ⟨_, rfl, ?_⟩
                        replace BK264 := nx_ BK264 hb
                        replace BK268 := nx_ BK268 hb
                        replace BK272 := nx_ BK272 hb
                        replace BK276 := nx_ BK276 hb
                        replace BK282 := nx_ BK282 hb
                        replace HB := hx_ HB hb
                        (try clear hb)
                        (try clear hb2)
                        (try clear hk)
                        (try clear hi)
                        refine hK.out _ _ ⟨(blk_cell BK268.out 0).trans rfl, (blk_cell BK268.out 1).trans rfl, (blk_cell BK272.out 0).trans rfl, (blk_cell BK272.out 1).trans rfl, (blk_cell BK276.out 0).trans rfl, (blk_cell BK276.out 1).trans rfl⟩ (fun hHeld => ?_)
                        clear hK K
                        refine norm_ (a' := ?_) ?_ ?_
                        rotate_left
                        · show Act.put _ (some 53) _ = _
                          simp only [Act.put, List.setIfInBounds_toArray, List.set_cons_zero, List.set_cons_succ, i64_w, i32_w]
                          rfl
                        refine pure_ (i := 5) (N := some 48) (v := ?_) (a' := ?_) #[true, true, true, true, true, true, false, false, true, false, false] rfl rfl (any_of HT_.out (by kernel_rfl)) (fun _ _ _ h => h) (Or.inl ⟨by rfl, ?_⟩) ?_ ?_
                        rotate_left
                        · intro w'
                          go_simp
                          with_reducible rfl
                        rotate_left
                        · simp only [Act.put, List.setIfInBounds_toArray, List.set_cons_zero, List.set_cons_succ, i64_w, i32_w]
                          rfl
                        refine pure_ (i := 6) (N := some 54) (v := ?_) (a' := ?_) #[true, true, true, true, true, true, true, false, true, false, false] rfl rfl (any_of HT_.out (by kernel_rfl)) (fun _ _ _ h => h) (Or.inl ⟨by rfl, ?_⟩) ?_ ?_
                        rotate_left
                        · intro w'
                          go_simp
                          with_reducible rfl
                        rotate_left
                        · simp only [Act.put, List.setIfInBounds_toArray, List.set_cons_zero, List.set_cons_succ, i64_w, i32_w]
                          rfl
                        refine pure_ (i := 7) (N := some 55) (v := ?_) (a' := ?_) #[true, true, true, true, true, true, true, true, true, false, false] rfl rfl (any_of HT_.out (by kernel_rfl)) (fun _ _ _ h => h) (Or.inl ⟨by rfl, ?_⟩) ?_ ?_
                        rotate_left
                        · intro w'
                          go_simp
                          with_reducible rfl
                        rotate_left
                        · simp only [Act.put, List.setIfInBounds_toArray, List.set_cons_zero, List.set_cons_succ, i64_w, i32_w]
                          rfl
                        exact norm_ (by simp only [putAll, Act.put, List.setIfInBounds_toArray, List.set_cons_zero, List.set_cons_succ]) (hCont (gb282) _ ⟨hHeld, (gr_ BK264.out), (gr_ BK268.out), (gr_ BK272.out), (gr_ BK276.out), (gr_ BK282.out), GW282.out, GE282.out, NB264_282.out, NB282_264.out, NB268_282.out, NB282_268.out, NB272_282.out, NB282_272.out, NB276_282.out, NB282_276.out, (by repeat (first | (with_reducible first | exact HB.out | apply below_alloc | apply pw_below_drewN | apply below_drew1 | refine below_set ?_ GE264.out | refine below_set ?_ GE268.out | refine below_set ?_ GE272.out | refine below_set ?_ GE276.out | refine below_set ?_ GE282.out) | exact HB.out))⟩)
                    · skip
                      refine box_step ?hg (N := 13) ?hd (cs := #[.int .i64 0, .int .i64 0]) (t := 23) ?hr ?_; (case hd => rfl); (case hg => rfl); (case hr => first | (go_simp; done) | (go_simp; rfl))
                      intro gb282 hg w65 hbox hb
                      have BK282 := Aside0.mk hbox
                      have GW282 := ge_ (hb_ HB.out) hg
                      have GE282 := ge_ (hb_ HB.out) hg
                      have NB264_282 := nb_ (gr_ BK264.out) hg
                      have NB282_264 := bn_ (gr_ BK264.out) hg
                      have NB268_282 := nb_ (gr_ BK268.out) hg
                      have NB282_268 := bn_ (gr_ BK268.out) hg
                      have NB272_282 := nb_ (gr_ BK272.out) hg
                      have NB282_272 := bn_ (gr_ BK272.out) hg
                      have NB276_282 := nb_ (gr_ BK276.out) hg
                      have NB282_276 := bn_ (gr_ BK276.out) hg
                      replace BK264 := nx_ BK264 hb
                      replace BK268 := nx_ BK268 hb
                      replace BK272 := nx_ BK272 hb
                      replace BK276 := nx_ BK276 hb
                      replace HB := hx_ HB hb
                      clear hb hbox hg
                      refine hK.out _ _ ⟨(blk_cell BK268.out 0).trans rfl, (blk_cell BK268.out 1).trans rfl, (blk_cell BK272.out 0).trans rfl, (blk_cell BK272.out 1).trans rfl, (blk_cell BK276.out 0).trans rfl, (blk_cell BK276.out 1).trans rfl⟩ (fun hHeld => ?_)
                      clear hK K
                      refine norm_ (a' := ?_) ?_ ?_
                      rotate_left
                      · show Act.put _ (some 13) _ = _
                        simp only [Act.put, List.setIfInBounds_toArray, List.set_cons_zero, List.set_cons_succ, i64_w, i32_w]
                        rfl
                      refine one_ (i := 2) (N := some 51) #[true, true, true, true, false, false, false, false, true, false, false] rfl rfl (one_of HT_.out (by kernel_rfl)) (by decide) (fun K hK => ?_)
                      refine goes_ Try.func61 (by kernel_rfl) rfl #[.agg #[.int .i64 t265, .int .i64 t266], .agg #[.int .i64 t269, .int .i64 t270]] (by rfl) rfl rfl (by (try simp only [List.map_toArray, List.map_cons, List.map_nil]); first | done | rfl | (simp only [List.length_drop, List.length_take]; rfl)) ?_
                      with_reducible refine (sun_Unit.calls t265 t266 t269 t270 t277 t278 _ A15.out).mono ?_
                      rintro e w66 ⟨rfl, hb⟩
                      refine ⟨_, rfl, ?_⟩
                      replace BK264 := nx_ BK264 hb
                      replace BK268 := nx_ BK268 hb
                      replace BK272 := nx_ BK272 hb
                      replace BK276 := nx_ BK276 hb
                      replace BK282 := nx_ BK282 hb
                      replace HB := hx_ HB hb
                      (try clear hb)
                      (try clear hb2)
                      (try clear hk)
                      (try clear hi)
                      refine hK.out _ _ ⟨(blk_cell BK268.out 0).trans rfl, (blk_cell BK268.out 1).trans rfl, (blk_cell BK272.out 0).trans rfl, (blk_cell BK272.out 1).trans rfl, (blk_cell BK276.out 0).trans rfl, (blk_cell BK276.out 1).trans rfl⟩ (fun hHeld => ?_)
                      clear hK K
                      refine norm_ (a' := ?_) ?_ ?_
                      rotate_left
                      · show Act.put _ (some 51) _ = _
                        simp only [Act.put, List.setIfInBounds_toArray, List.set_cons_zero, List.set_cons_succ, i64_w, i32_w]
                        rfl
                      refine one_ (i := 4) (N := some 53) #[true, true, true, true, true, false, false, false, true, false, false] rfl rfl (one_of HT_.out (by kernel_rfl)) (by decide) (fun K hK => ?_)
                      refine goes_ Try.func20 (by kernel_rfl) rfl #[.agg #[.int .i64 t277, .int .i64 t278], .agg #[.int .i64 t273, .int .i64 t274]] (by rfl) rfl rfl (by (try simp only [List.map_toArray, List.map_cons, List.map_nil]); first | done | rfl | (simp only [List.length_drop, List.length_take]; rfl)) ?_
                      with_reducible refine (trig_Arc.calls kj7 t277 t278 t273 t274 t279 t280 t281 _ A16.out).mono ?_
                      rintro e w67 ⟨rfl, hb⟩
                      refine ⟨_, rfl, ?_⟩
                      replace BK264 := nx_ BK264 hb
                      replace BK268 := nx_ BK268 hb
                      replace BK272 := nx_ BK272 hb
                      replace BK276 := nx_ BK276 hb
                      replace BK282 := nx_ BK282 hb
                      replace HB := hx_ HB hb
                      (try clear hb)
                      (try clear hb2)
                      (try clear hk)
                      (try clear hi)
                      refine hK.out _ _ ⟨(blk_cell BK268.out 0).trans rfl, (blk_cell BK268.out 1).trans rfl, (blk_cell BK272.out 0).trans rfl, (blk_cell BK272.out 1).trans rfl, (blk_cell BK276.out 0).trans rfl, (blk_cell BK276.out 1).trans rfl⟩ (fun hHeld => ?_)
                      clear hK K
                      refine norm_ (a' := ?_) ?_ ?_
                      rotate_left
                      · show Act.put _ (some 53) _ = _
                        simp only [Act.put, List.setIfInBounds_toArray, List.set_cons_zero, List.set_cons_succ, i64_w, i32_w]
                        rfl
                      refine pure_ (i := 5) (N := some 48) (v := ?_) (a' := ?_) #[true, true, true, true, true, true, false, false, true, false, false] rfl rfl (any_of HT_.out (by kernel_rfl)) (fun _ _ _ h => h) (Or.inl ⟨by rfl, ?_⟩) ?_ ?_
                      rotate_left
                      · intro w'
                        go_simp
                        with_reducible rfl
                      rotate_left
                      · simp only [Act.put, List.setIfInBounds_toArray, List.set_cons_zero, List.set_cons_succ, i64_w, i32_w]
                        rfl
                      refine pure_ (i := 6) (N := some 54) (v := ?_) (a' := ?_) #[true, true, true, true, true, true, true, false, true, false, false] rfl rfl (any_of HT_.out (by kernel_rfl)) (fun _ _ _ h => h) (Or.inl ⟨by rfl, ?_⟩) ?_ ?_
                      rotate_left
                      · intro w'
                        go_simp
                        with_reducible rfl
                      rotate_left
                      · simp only [Act.put, List.setIfInBounds_toArray, List.set_cons_zero, List.set_cons_succ, i64_w, i32_w]
                        rfl
                      refine pure_ (i := 7) (N := some 55) (v := ?_) (a' := ?_) #[true, true, true, true, true, true, true, true, true, false, false] rfl rfl (any_of HT_.out (by kernel_rfl)) (fun _ _ _ h => h) (Or.inl ⟨by rfl, ?_⟩) ?_ ?_
                      rotate_left
                      · intro w'
                        go_simp
                        with_reducible rfl
                      rotate_left
                      · simp only [Act.put, List.setIfInBounds_toArray, List.set_cons_zero, List.set_cons_succ, i64_w, i32_w]
                        rfl
                      exact norm_ (by simp only [putAll, Act.put, List.setIfInBounds_toArray, List.set_cons_zero, List.set_cons_succ]) (hCont (gb282) _ ⟨hHeld, (gr_ BK264.out), (gr_ BK268.out), (gr_ BK272.out), (gr_ BK276.out), (gr_ BK282.out), GW282.out, GE282.out, NB264_282.out, NB282_264.out, NB268_282.out, NB282_268.out, NB272_282.out, NB282_272.out, NB276_282.out, NB282_276.out, (by repeat (first | (with_reducible first | exact HB.out | apply below_alloc | apply pw_below_drewN | apply below_drew1 | refine below_set ?_ GE264.out | refine below_set ?_ GE268.out | refine below_set ?_ GE272.out | refine below_set ?_ GE276.out | refine below_set ?_ GE282.out) | exact HB.out))⟩)
                  rintro gb282 w68 ⟨hS_, h0_, h1_, h2_, h3_, h4_, h5_, h6_, h7_, h8_, h9_, h10_, h11_, h12_, h13_, h14_, h15_⟩
                  replace BK264 : Aside0 (w68.heap[gb264]? = some (.cells #[.int .i64 0, .int .i64 0] 23 (0, 0))) := ⟨h0_⟩
                  replace BK268 : Aside0 (w68.heap[gb268]? = some (.cells #[.int .i64 t265, .int .i64 t266] 23 (0, 0))) := ⟨h1_⟩
                  replace BK272 : Aside0 (w68.heap[gb272]? = some (.cells #[.int .i64 t269, .int .i64 t270] 23 (0, 0))) := ⟨h2_⟩
                  replace BK276 : Aside0 (w68.heap[gb276]? = some (.cells #[.int .i64 t273, .int .i64 t274] 23 (0, 0))) := ⟨h3_⟩
                  have BK282 : Aside0 (w68.heap[gb282]? = some (.cells #[.int .i64 0, .int .i64 0] 23 (0, 0))) := ⟨h4_⟩
                  have GW282 : Aside0 (w.heap.size ≤ gb282) := ⟨h5_⟩
                  have GE282 : Aside0 (w.heap.size ≤ gb282) := ⟨h6_⟩
                  have NB264_282 : Aside0 (gb264 ≠ gb282) := ⟨h7_⟩
                  have NB282_264 : Aside0 (gb282 ≠ gb264) := ⟨h8_⟩
                  have NB268_282 : Aside0 (gb268 ≠ gb282) := ⟨h9_⟩
                  have NB282_268 : Aside0 (gb282 ≠ gb268) := ⟨h10_⟩
                  have NB272_282 : Aside0 (gb272 ≠ gb282) := ⟨h11_⟩
                  have NB282_272 : Aside0 (gb282 ≠ gb272) := ⟨h12_⟩
                  have NB276_282 : Aside0 (gb276 ≠ gb282) := ⟨h13_⟩
                  have NB282_276 : Aside0 (gb282 ≠ gb276) := ⟨h14_⟩
                  replace HB : Aside0 (Below w.heap.size w w68) := ⟨h15_⟩
                  clear h0_ h1_ h2_ h3_ h4_ h5_ h6_ h7_ h8_ h9_ h10_ h11_ h12_ h13_ h14_ h15_
                  have hHeld : w68.cell? ⟨gb268, 0, none⟩ = some (.int .i64 t265) ∧ w68.cell? ⟨gb268, 1, none⟩ = some (.int .i64 t266) ∧ w68.cell? ⟨gb272, 0, none⟩ = some (.int .i64 t269) ∧ w68.cell? ⟨gb272, 1, none⟩ = some (.int .i64 t270) ∧ w68.cell? ⟨gb276, 0, none⟩ = some (.int .i64 t273) ∧ w68.cell? ⟨gb276, 1, none⟩ = some (.int .i64 t274) := hS_
                  refine norm_ (a' := ?_) ?_ ?_
                  rotate_left
                  · simp only [putAll, Act.put, List.setIfInBounds_toArray, List.set_cons_zero, List.set_cons_succ]
                    rfl
                  refine one_ (i := 9) (N := none) #[true, true, true, true, true, true, true, true, true, true, false] rfl rfl (one_of HT_.out (by kernel_rfl)) (by decide) (fun K hK => ?_)
                  have hs69 : w68.cell? ⟨gb282, 0, none⟩ = some (.int .i64 0) := (blk_cell BK282.out 0).trans rfl
                  have hfs69 := blk_frozen BK282.out 0
                  have hns69_0 := NB264_282.out
                  have hns69_1 := NB268_282.out
                  have hns69_2 := NB272_282.out
                  have hns69_3 := NB276_282.out
                  have hms69_0 := NB282_264.out
                  have hms69_1 := NB282_268.out
                  have hms69_2 := NB282_272.out
                  have hms69_3 := NB282_276.out
                  have hs70 : w68.cell? ⟨gb282, 1, none⟩ = some (.int .i64 0) := (blk_cell BK282.out 1).trans rfl
                  have hfs70 := blk_frozen BK282.out 1
                  have hns70_0 := NB264_282.out
                  have hns70_1 := NB268_282.out
                  have hns70_2 := NB272_282.out
                  have hns70_3 := NB276_282.out
                  have hms70_0 := NB282_264.out
                  have hms70_1 := NB282_268.out
                  have hms70_2 := NB282_272.out
                  have hms70_3 := NB282_276.out
                  refine skip_ (w1 := ?_) (by rfl) rfl ?_ ?_
                  rotate_left
                  · go_simp
                    rfl
                  refine hK.out _ _ ⟨((cell_far (p := ⟨gb282, _, none⟩) NB268_282.out _).trans (((cell_far (p := ⟨gb282, _, none⟩) NB268_282.out _).trans (hHeld.1)))), ((cell_far (p := ⟨gb282, _, none⟩) NB268_282.out _).trans (((cell_far (p := ⟨gb282, _, none⟩) NB268_282.out _).trans (hHeld.2.1)))), ((cell_far (p := ⟨gb282, _, none⟩) NB272_282.out _).trans (((cell_far (p := ⟨gb282, _, none⟩) NB272_282.out _).trans (hHeld.2.2.1)))), ((cell_far (p := ⟨gb282, _, none⟩) NB272_282.out _).trans (((cell_far (p := ⟨gb282, _, none⟩) NB272_282.out _).trans (hHeld.2.2.2.1)))), ((cell_far (p := ⟨gb282, _, none⟩) NB276_282.out _).trans (((cell_far (p := ⟨gb282, _, none⟩) NB276_282.out _).trans (hHeld.2.2.2.2.1)))), ((cell_far (p := ⟨gb282, _, none⟩) NB276_282.out _).trans (((cell_far (p := ⟨gb282, _, none⟩) NB276_282.out _).trans (hHeld.2.2.2.2.2))))⟩ (fun hHeld => ?_)
                  clear hK K
                  refine pure_ (i := 10) (N := some 14) (v := ?_) (a' := ?_) #[true, true, true, true, true, true, true, true, true, true, true] rfl rfl (any_of HT_.out (by kernel_rfl)) (fun _ _ _ h => h) (Or.inl ⟨by rfl, ?_⟩) ?_ ?_
                  rotate_left
                  · intro w'
                    go_simp
                    with_reducible rfl
                  rotate_left
                  · simp only [Act.put, List.setIfInBounds_toArray, List.set_cons_zero, List.set_cons_succ, i64_w, i32_w]
                    rfl
                  refine done_ (done_of HT_.out (by kernel_rfl)) ?_
                  have hnb71 := NB282_264.out
                  have hnc71 := NB264_282.out
                  have hnb72 := NB282_268.out
                  have hnc72 := NB268_282.out
                  have hnb73 := NB282_272.out
                  have hnc73 := NB272_282.out
                  have hnb74 := NB282_276.out
                  have hnc74 := NB276_282.out
                  have hcz75_0 : w68.cell? ⟨gb282, 0, none⟩ = some (.int .i64 0) := (blk_cell BK282.out 0).trans rfl
                  have hcz75_1 : w68.cell? ⟨gb282, 1, none⟩ = some (.int .i64 0) := (blk_cell BK282.out 1).trans rfl
                  have hfz75_0 := blk_frozen BK282.out 0
                  have hfz75_1 := blk_frozen BK282.out 1
                  have hcz76_0 : w68.cell? ⟨gb264, 0, none⟩ = some (.int .i64 0) := (blk_cell BK264.out 0).trans rfl
                  have hcz76_1 : w68.cell? ⟨gb264, 1, none⟩ = some (.int .i64 0) := (blk_cell BK264.out 1).trans rfl
                  have hfz76_0 := blk_frozen BK264.out 0
                  have hfz76_1 := blk_frozen BK264.out 1
                  try go_wp2
                  refine bodyPost_ret (results_ct rfl _ _ gb264 23 #[.int .i64 t279, .int .i64 t280] (0, 0) _ rfl (gr_ (blk_put (cs := #[.int .i64 t279, .int .i64 0]) (gr_ (blk_put (cs := #[.int .i64 0, .int .i64 0]) (gr_ (blk_far (gr_ (blk_far (gr_ BK264.out) NB264_282.out _)) NB264_282.out _)) 0 _ rfl)) 1 _ rfl)) Try.underlying23 rfl (by kernel_rfl)) rfl ?_
                  exact ⟨by first | rfl | (simp [errW_none, errW_some] <;> rfl) | (simp [*, errW_none, errW_some] <;> rfl), by repeat (first | (with_reducible first | exact HB.out | apply below_alloc | apply pw_below_drewN | apply below_drew1 | refine below_set ?_ GE264.out | refine below_set ?_ GE268.out | refine below_set ?_ GE272.out | refine below_set ?_ GE276.out | refine below_set ?_ GE282.out) | exact HB.out)⟩
              · rw [if_neg c17] at H
                have c17b0 : (t281 == 0) = false := beq_eq_false_iff_ne.mpr c17
                have c17b1 : (t281 != 0) = true := bne_iff_ne.mpr c17
                simp only [Option.some.injEq, Prod.mk.injEq] at H
                obtain ⟨rfl, rfl, rfl⟩ := H
                try go_wp2_with (first | ((with_reducible refine gate_callee (f := 51) rfl ?_); refine goesL_ (some 35) rfl rfl Try.func51 (by kernel_rfl) rfl #[.int .i64 a0] rfl (by (try simp only [List.map_toArray, List.map_cons, List.map_nil]); first | done | rfl | (simp only [List.length_drop, List.length_take]; rfl)) ?_; (with_reducible refine (trig_Sin.calls kj7 a0 t265 t266 t267 _ A12.out).mono ?_); rintro e w77 ⟨rfl, hb⟩; refine ⟨_, rfl, ?_⟩; replace BK264 := nx_ BK264 hb; replace HB := hx_ HB hb; (try clear hb); (try clear hb2); (try clear hk); (try clear hi)) | ((with_reducible refine gate_dst (N := 7) rfl ?_); refine box_event ?hg (N := 7) ?hd (cs := #[.int .i64 0, .int .i64 0]) (t := 23) ?hr ?_; (case hd => rfl); (case hg => rfl); (case hr => first | (go_simp; done) | (go_simp; rfl)); intro gb268 hg w78 hbox hb; have BK268 := Aside0.mk hbox; have GW268 := ge_ (hb_ HB.out) hg; have GE268 := ge_ (hb_ HB.out) hg; have NB264_268 := nb_ (gr_ BK264.out) hg; have NB268_264 := bn_ (gr_ BK264.out) hg; replace BK264 := nx_ BK264 hb; replace HB := hx_ HB hb; clear hb hbox hg; have hnb79 := NB268_264.out; have hnc79 := NB264_268.out; have hcz80_0 : w78.cell? ⟨gb268, 0, none⟩ = some (.int .i64 0) := (blk_cell BK268.out 0).trans rfl; have hcz80_1 : w78.cell? ⟨gb268, 1, none⟩ = some (.int .i64 0) := (blk_cell BK268.out 1).trans rfl; have hfz80_0 := blk_frozen BK268.out 0; have hfz80_1 := blk_frozen BK268.out 1) | ((with_reducible refine gate_callee (f := 51) rfl ?_); refine goesL_ (some 40) rfl rfl Try.func51 (by kernel_rfl) rfl #[.int .i64 (wrap64 (Int.tdiv (wrap64 ((wrap64 (a1 - 12)) * 1000000000)) 24))] rfl (by (try simp only [List.map_toArray, List.map_cons, List.map_nil]); first | done | rfl | (simp only [List.length_drop, List.length_take]; rfl) | (rw [wrap_in_ (n := a1 - 12) (by omega) (by omega)]; rfl)) ?_; (with_reducible refine (trig_Sin.calls kj7 (wrap64 (Int.tdiv (wrap64 ((wrap64 (a1 - 12)) * 1000000000)) 24)) t269 t270 t271 _ A13.out).mono ?_); rintro e w81 ⟨rfl, hb⟩; refine ⟨_, rfl, ?_⟩; replace BK264 := Aside0.mk (blk_below (g := gb264) (o := .cells #[.int .i64 0, .int .i64 0] 23 (0, 0)) (gr_ (blk_far (gr_ (blk_far (gr_ BK264.out) NB264_268.out _)) NB264_268.out _)) hb); replace BK268 := Aside0.mk (blk_below (g := gb268) (o := .cells #[.int .i64 t265, .int .i64 t266] 23 (0, 0)) (gr_ (blk_put (cs := #[.int .i64 t265, .int .i64 0]) (gr_ (blk_put (cs := #[.int .i64 0, .int .i64 0]) (gr_ BK268.out) 0 _ rfl)) 1 _ rfl)) hb); replace HB := Aside0.mk (below_step (by repeat (first | (with_reducible first | exact HB.out | apply below_alloc | apply pw_below_drewN | apply below_drew1 | refine below_set ?_ GE268.out) | exact HB.out)) hb); (try clear hb); (try clear hb2); (try clear hk); (try clear hi)) | ((with_reducible refine gate_dst (N := 9) rfl ?_); refine box_event ?hg (N := 9) ?hd (cs := #[.int .i64 0, .int .i64 0]) (t := 23) ?hr ?_; (case hd => rfl); (case hg => rfl); (case hr => first | (go_simp; done) | (go_simp; rfl)); intro gb272 hg w82 hbox hb; have BK272 := Aside0.mk hbox; have GW272 := ge_ (hb_ HB.out) hg; have GE272 := ge_ (hb_ HB.out) hg; have NB264_272 := nb_ (gr_ BK264.out) hg; have NB272_264 := bn_ (gr_ BK264.out) hg; have NB268_272 := nb_ (gr_ BK268.out) hg; have NB272_268 := bn_ (gr_ BK268.out) hg; replace BK264 := nx_ BK264 hb; replace BK268 := nx_ BK268 hb; replace HB := hx_ HB hb; clear hb hbox hg; have hnb83 := NB272_264.out; have hnc83 := NB264_272.out; have hnb84 := NB272_268.out; have hnc84 := NB268_272.out; have hcz85_0 : w82.cell? ⟨gb272, 0, none⟩ = some (.int .i64 0) := (blk_cell BK272.out 0).trans rfl; have hcz85_1 : w82.cell? ⟨gb272, 1, none⟩ = some (.int .i64 0) := (blk_cell BK272.out 1).trans rfl; have hfz85_0 := blk_frozen BK272.out 0; have hfz85_1 := blk_frozen BK272.out 1) | ((with_reducible refine gate_callee (f := 53) rfl ?_); refine goesL_ (some 45) rfl rfl Try.func53 (by kernel_rfl) rfl #[.int .i64 (wrap64 (Int.tdiv (wrap64 ((wrap64 (a1 - 12)) * 1000000000)) 24))] rfl (by (try simp only [List.map_toArray, List.map_cons, List.map_nil]); first | done | rfl | (simp only [List.length_drop, List.length_take]; rfl) | (rw [wrap_in_ (n := a1 - 12) (by omega) (by omega)]; rfl)) ?_; (with_reducible refine (trig_Cos.calls kj7 (wrap64 (Int.tdiv (wrap64 ((wrap64 (a1 - 12)) * 1000000000)) 24)) t273 t274 t275 _ A14.out).mono ?_); rintro e w86 ⟨rfl, hb⟩; refine ⟨_, rfl, ?_⟩; replace BK264 := Aside0.mk (blk_below (g := gb264) (o := .cells #[.int .i64 0, .int .i64 0] 23 (0, 0)) (gr_ (blk_far (gr_ (blk_far (gr_ BK264.out) NB264_272.out _)) NB264_272.out _)) hb); replace BK268 := Aside0.mk (blk_below (g := gb268) (o := .cells #[.int .i64 t265, .int .i64 t266] 23 (0, 0)) (gr_ (blk_far (gr_ (blk_far (gr_ BK268.out) NB268_272.out _)) NB268_272.out _)) hb); replace BK272 := Aside0.mk (blk_below (g := gb272) (o := .cells #[.int .i64 t269, .int .i64 t270] 23 (0, 0)) (gr_ (blk_put (cs := #[.int .i64 t269, .int .i64 0]) (gr_ (blk_put (cs := #[.int .i64 0, .int .i64 0]) (gr_ BK272.out) 0 _ rfl)) 1 _ rfl)) hb); replace HB := Aside0.mk (below_step (by repeat (first | (with_reducible first | exact HB.out | apply below_alloc | apply pw_below_drewN | apply below_drew1 | refine below_set ?_ GE272.out) | exact HB.out)) hb); (try clear hb); (try clear hb2); (try clear hk); (try clear hi)) | ((with_reducible refine gate_dst (N := 11) rfl ?_); refine box_event ?hg (N := 11) ?hd (cs := #[.int .i64 0, .int .i64 0]) (t := 23) ?hr ?_; (case hd => rfl); (case hg => rfl); (case hr => first | (go_simp; done) | (go_simp; rfl)); intro gb276 hg w87 hbox hb; have BK276 := Aside0.mk hbox; have GW276 := ge_ (hb_ HB.out) hg; have GE276 := ge_ (hb_ HB.out) hg; have NB264_276 := nb_ (gr_ BK264.out) hg; have NB276_264 := bn_ (gr_ BK264.out) hg; have NB268_276 := nb_ (gr_ BK268.out) hg; have NB276_268 := bn_ (gr_ BK268.out) hg; have NB272_276 := nb_ (gr_ BK272.out) hg; have NB276_272 := bn_ (gr_ BK272.out) hg; replace BK264 := nx_ BK264 hb; replace BK268 := nx_ BK268 hb; replace BK272 := nx_ BK272 hb; replace HB := hx_ HB hb; clear hb hbox hg; have hnb88 := NB276_264.out; have hnc88 := NB264_276.out; have hnb89 := NB276_268.out; have hnc89 := NB268_276.out; have hnb90 := NB276_272.out; have hnc90 := NB272_276.out; have hcz91_0 : w87.cell? ⟨gb276, 0, none⟩ = some (.int .i64 0) := (blk_cell BK276.out 0).trans rfl; have hcz91_1 : w87.cell? ⟨gb276, 1, none⟩ = some (.int .i64 0) := (blk_cell BK276.out 1).trans rfl; have hfz91_0 := blk_frozen BK276.out 0; have hfz91_1 := blk_frozen BK276.out 1))
                have n0_ : Aside0 (((w87.setCell ⟨gb276, 0, none⟩ (.int .i64 t273)).setCell ⟨gb276, 1, none⟩ (.int .i64 t274)).heap[gb264]? = some (.cells #[.int .i64 0, .int .i64 0] 23 (0, 0))) := ⟨(gr_ (blk_far (gr_ (blk_far (gr_ BK264.out) NB264_276.out _)) NB264_276.out _))⟩
                have n1_ : Aside0 (((w87.setCell ⟨gb276, 0, none⟩ (.int .i64 t273)).setCell ⟨gb276, 1, none⟩ (.int .i64 t274)).heap[gb268]? = some (.cells #[.int .i64 t265, .int .i64 t266] 23 (0, 0))) := ⟨(gr_ (blk_far (gr_ (blk_far (gr_ BK268.out) NB268_276.out _)) NB268_276.out _))⟩
                have n2_ : Aside0 (((w87.setCell ⟨gb276, 0, none⟩ (.int .i64 t273)).setCell ⟨gb276, 1, none⟩ (.int .i64 t274)).heap[gb272]? = some (.cells #[.int .i64 t269, .int .i64 t270] 23 (0, 0))) := ⟨(gr_ (blk_far (gr_ (blk_far (gr_ BK272.out) NB272_276.out _)) NB272_276.out _))⟩
                have n3_ : Aside0 (((w87.setCell ⟨gb276, 0, none⟩ (.int .i64 t273)).setCell ⟨gb276, 1, none⟩ (.int .i64 t274)).heap[gb276]? = some (.cells #[.int .i64 t273, .int .i64 t274] 23 (0, 0))) := ⟨(gr_ (blk_put (cs := #[.int .i64 t273, .int .i64 0]) (gr_ (blk_put (cs := #[.int .i64 0, .int .i64 0]) (gr_ BK276.out) 0 _ rfl)) 1 _ rfl))⟩
                have n4_ : Aside0 (Below w.heap.size w ((w87.setCell ⟨gb276, 0, none⟩ (.int .i64 t273)).setCell ⟨gb276, 1, none⟩ (.int .i64 t274))) := ⟨by repeat (first | (with_reducible first | exact HB.out | apply below_alloc | apply pw_below_drewN | apply below_drew1 | refine below_set ?_ GE264.out | refine below_set ?_ GE268.out | refine below_set ?_ GE272.out | refine below_set ?_ GE276.out) | exact HB.out)⟩
                (try clear BK264)
                (try clear BK268)
                (try clear BK272)
                (try clear BK276)
                (try clear HB)
                generalize ((w87.setCell ⟨gb276, 0, none⟩ (.int .i64 t273)).setCell ⟨gb276, 1, none⟩ (.int .i64 t274)) = w92 at n0_ n1_ n2_ n3_ n4_ ⊢
                have BK264 := n0_
                have BK268 := n1_
                have BK272 := n2_
                have BK276 := n3_
                have HB := n4_
                clear n0_ n1_ n2_ n3_ n4_
                have n0_ := Aside0.mk (blk_drew BK264.out)
                have n1_ := Aside0.mk (blk_drew BK268.out)
                have n2_ := Aside0.mk (blk_drew BK272.out)
                have n3_ := Aside0.mk (blk_drew BK276.out)
                have n4_ := Aside0.mk (below_drew1 HB.out)
                clear BK264
                clear BK268
                clear BK272
                clear BK276
                clear HB
                have BK264 := n0_
                have BK268 := n1_
                have BK272 := n2_
                have BK276 := n3_
                have HB := n4_
                clear n0_ n1_ n2_ n3_ n4_
                refine start_ (n := 11) (S := fun w' => w'.cell? ⟨gb268, 0, none⟩ = some (.int .i64 t265) ∧ w'.cell? ⟨gb268, 1, none⟩ = some (.int .i64 t266) ∧ w'.cell? ⟨gb272, 0, none⟩ = some (.int .i64 t269) ∧ w'.cell? ⟨gb272, 1, none⟩ = some (.int .i64 t270) ∧ w'.cell? ⟨gb276, 0, none⟩ = some (.int .i64 t273) ∧ w'.cell? ⟨gb276, 1, none⟩ = some (.int .i64 t274)) (ds := []) #[false, false, false, false, false, false, false, false, false, false, false] (by kernel_rfl) rfl rfl ⟨(blk_cell BK268.out 0).trans rfl, (blk_cell BK268.out 1).trans rfl, (blk_cell BK272.out 0).trans rfl, (blk_cell BK272.out 1).trans rfl, (blk_cell BK276.out 0).trans rfl, (blk_cell BK276.out 1).trans rfl⟩ (fun hHeld => ?_); refine with_tabW dial_Line.tab9 dial_Line.bits9 (fun HT_ HW_ => ?_)
                generalize w92.drew = w93 at BK264 BK268 BK272 BK276 HB hHeld ⊢
                refine take_ (i := 0) (N := some 49) (v := ?_) (a' := ?_) #[true, false, false, false, false, false, false, false, false, false, false] rfl rfl (take_ofW HT_.out HW_.out (by kernel_rfl)) (fun _ _ _ h => h) (Or.inl ⟨by rfl, ?_⟩) hHeld ?_ ?_
                rotate_left
                · rintro w' ⟨s0, s1, s2, s3, s4, s5⟩
                  go_simp
                  with_reducible rfl
                rotate_left
                · simp only [Act.put, List.setIfInBounds_toArray, List.set_cons_zero, List.set_cons_succ, i64_w, i32_w]
                  rfl
                refine take_ (i := 1) (N := some 50) (v := ?_) (a' := ?_) #[true, true, false, false, false, false, false, false, false, false, false] rfl rfl (take_ofW HT_.out HW_.out (by kernel_rfl)) (fun _ _ _ h => h) (Or.inl ⟨by rfl, ?_⟩) hHeld ?_ ?_
                rotate_left
                · rintro w' ⟨s0, s1, s2, s3, s4, s5⟩
                  go_simp
                  with_reducible rfl
                rotate_left
                · simp only [Act.put, List.setIfInBounds_toArray, List.set_cons_zero, List.set_cons_succ, i64_w, i32_w]
                  rfl
                refine take_ (i := 3) (N := some 52) (v := ?_) (a' := ?_) #[true, true, false, true, false, false, false, false, false, false, false] rfl rfl (take_ofW HT_.out HW_.out (by kernel_rfl)) (fun _ _ _ h => h) (Or.inl ⟨by rfl, ?_⟩) hHeld ?_ ?_
                rotate_left
                · rintro w' ⟨s0, s1, s2, s3, s4, s5⟩
                  go_simp
                  with_reducible rfl
                rotate_left
                · simp only [Act.put, List.setIfInBounds_toArray, List.set_cons_zero, List.set_cons_succ, i64_w, i32_w]
                  rfl
                refine join_ (σ := Nat) 2 #[true, true, true, true, true, true, true, true, true, false, false] (fun s_ => [(51, .agg #[.int .i64 t277, .int .i64 t278]), (53, .tuple #[.agg #[.int .i64 t279, .int .i64 t280], .int .i64 t281]), (13, .pointer (some ⟨s_, 0, none⟩)), (48, .tuple #[.agg #[.int .i64 t279, .int .i64 t280], .int .i64 t281]), (54, .agg #[.int .i64 t279, .int .i64 t280]), (55, .int .i64 t281)]) (fun s_ w' => (w'.cell? ⟨gb268, 0, none⟩ = some (.int .i64 t265) ∧ w'.cell? ⟨gb268, 1, none⟩ = some (.int .i64 t266) ∧ w'.cell? ⟨gb272, 0, none⟩ = some (.int .i64 t269) ∧ w'.cell? ⟨gb272, 1, none⟩ = some (.int .i64 t270) ∧ w'.cell? ⟨gb276, 0, none⟩ = some (.int .i64 t273) ∧ w'.cell? ⟨gb276, 1, none⟩ = some (.int .i64 t274)) ∧ (w'.heap[gb264]? = some (.cells #[.int .i64 0, .int .i64 0] 23 (0, 0))) ∧ (w'.heap[gb268]? = some (.cells #[.int .i64 t265, .int .i64 t266] 23 (0, 0))) ∧ (w'.heap[gb272]? = some (.cells #[.int .i64 t269, .int .i64 t270] 23 (0, 0))) ∧ (w'.heap[gb276]? = some (.cells #[.int .i64 t273, .int .i64 t274] 23 (0, 0))) ∧ (w'.heap[s_]? = some (.cells #[.int .i64 0, .int .i64 0] 23 (0, 0))) ∧ (w.heap.size ≤ s_) ∧ (w.heap.size ≤ s_) ∧ (gb264 ≠ s_) ∧ (s_ ≠ gb264) ∧ (gb268 ≠ s_) ∧ (s_ ≠ gb268) ∧ (gb272 ≠ s_) ∧ (s_ ≠ gb272) ∧ (gb276 ≠ s_) ∧ (s_ ≠ gb276) ∧ (Below w.heap.size w w')) ?_ ?_
                rotate_left
                · intro hCont
                  refine two_ (i := 2) (j := 8) (Ni := some 51) (Nj := some 13) #[true, true, true, true, false, false, false, false, false, false, false] #[true, true, false, true, false, false, false, false, true, false, false] rfl rfl rfl rfl (two_of HT_.out (by kernel_rfl)) (by decide) (by decide) (fun K hK => ?_) (fun K hK => ?_)
                  · skip
                    refine goes_ Try.func61 (by kernel_rfl) rfl #[.agg #[.int .i64 t265, .int .i64 t266], .agg #[.int .i64 t269, .int .i64 t270]] (by rfl) rfl rfl (by (try simp only [List.map_toArray, List.map_cons, List.map_nil]); first | done | rfl | (simp only [List.length_drop, List.length_take]; rfl)) ?_
                    with_reducible refine (sun_Unit.calls t265 t266 t269 t270 t277 t278 _ A15.out).mono ?_
                    rintro e w94 ⟨rfl, hb⟩
                    refine ⟨_, rfl, ?_⟩
                    replace BK264 := nx_ BK264 hb
                    replace BK268 := nx_ BK268 hb
                    replace BK272 := nx_ BK272 hb
                    replace BK276 := nx_ BK276 hb
                    replace HB := hx_ HB hb
                    (try clear hb)
                    (try clear hb2)
                    (try clear hk)
                    (try clear hi)
                    refine hK.out _ _ ⟨(blk_cell BK268.out 0).trans rfl, (blk_cell BK268.out 1).trans rfl, (blk_cell BK272.out 0).trans rfl, (blk_cell BK272.out 1).trans rfl, (blk_cell BK276.out 0).trans rfl, (blk_cell BK276.out 1).trans rfl⟩ (fun hHeld => ?_)
                    clear hK K
                    refine norm_ (a' := ?_) ?_ ?_
                    rotate_left
                    · show Act.put _ (some 51) _ = _
                      simp only [Act.put, List.setIfInBounds_toArray, List.set_cons_zero, List.set_cons_succ, i64_w, i32_w]
                      rfl
                    refine two_ (i := 4) (j := 8) (Ni := some 53) (Nj := some 13) #[true, true, true, true, true, false, false, false, false, false, false] #[true, true, true, true, false, false, false, false, true, false, false] rfl rfl rfl rfl (two_of HT_.out (by kernel_rfl)) (by decide) (by decide) (fun K hK => ?_) (fun K hK => ?_)
                    · skip
                      refine goes_ Try.func20 (by kernel_rfl) rfl #[.agg #[.int .i64 t277, .int .i64 t278], .agg #[.int .i64 t273, .int .i64 t274]] (by rfl) rfl rfl (by (try simp only [List.map_toArray, List.map_cons, List.map_nil]); first | done | rfl | (simp only [List.length_drop, List.length_take]; rfl)) ?_
                      with_reducible refine (trig_Arc.calls kj7 t277 t278 t273 t274 t279 t280 t281 _ A16.out).mono ?_
                      rintro e w95 ⟨rfl, hb⟩
                      refine ⟨_, rfl, ?_⟩
                      replace BK264 := nx_ BK264 hb
                      replace BK268 := nx_ BK268 hb
                      replace BK272 := nx_ BK272 hb
                      replace BK276 := nx_ BK276 hb
                      replace HB := hx_ HB hb
                      (try clear hb)
                      (try clear hb2)
                      (try clear hk)
                      (try clear hi)
                      refine hK.out _ _ ⟨(blk_cell BK268.out 0).trans rfl, (blk_cell BK268.out 1).trans rfl, (blk_cell BK272.out 0).trans rfl, (blk_cell BK272.out 1).trans rfl, (blk_cell BK276.out 0).trans rfl, (blk_cell BK276.out 1).trans rfl⟩ (fun hHeld => ?_)
                      clear hK K
                      refine norm_ (a' := ?_) ?_ ?_
                      rotate_left
                      · show Act.put _ (some 53) _ = _
                        simp only [Act.put, List.setIfInBounds_toArray, List.set_cons_zero, List.set_cons_succ, i64_w, i32_w]
                        rfl
                      refine pure_ (i := 5) (N := some 48) (v := ?_) (a' := ?_) #[true, true, true, true, true, true, false, false, false, false, false] rfl rfl (any_of HT_.out (by kernel_rfl)) (fun _ _ _ h => h) (Or.inl ⟨by rfl, ?_⟩) ?_ ?_
                      rotate_left
                      · intro w'
                        go_simp
                        with_reducible rfl
                      rotate_left
                      · simp only [Act.put, List.setIfInBounds_toArray, List.set_cons_zero, List.set_cons_succ, i64_w, i32_w]
                        rfl
                      refine pure_ (i := 6) (N := some 54) (v := ?_) (a' := ?_) #[true, true, true, true, true, true, true, false, false, false, false] rfl rfl (any_of HT_.out (by kernel_rfl)) (fun _ _ _ h => h) (Or.inl ⟨by rfl, ?_⟩) ?_ ?_
                      rotate_left
                      · intro w'
                        go_simp
                        with_reducible rfl
                      rotate_left
                      · simp only [Act.put, List.setIfInBounds_toArray, List.set_cons_zero, List.set_cons_succ, i64_w, i32_w]
                        rfl
                      refine pure_ (i := 7) (N := some 55) (v := ?_) (a' := ?_) #[true, true, true, true, true, true, true, true, false, false, false] rfl rfl (any_of HT_.out (by kernel_rfl)) (fun _ _ _ h => h) (Or.inl ⟨by rfl, ?_⟩) ?_ ?_
                      rotate_left
                      · intro w'
                        go_simp
                        with_reducible rfl
                      rotate_left
                      · simp only [Act.put, List.setIfInBounds_toArray, List.set_cons_zero, List.set_cons_succ, i64_w, i32_w]
                        rfl
                      refine one_ (i := 8) (N := some 13) #[true, true, true, true, true, true, true, true, true, false, false] rfl rfl (one_of HT_.out (by kernel_rfl)) (by decide) (fun K hK => ?_)
                      refine box_step ?hg (N := 13) ?hd (cs := #[.int .i64 0, .int .i64 0]) (t := 23) ?hr ?_; (case hd => rfl); (case hg => rfl); (case hr => first | (go_simp; done) | (go_simp; rfl))
                      intro gb282 hg w96 hbox hb
                      have BK282 := Aside0.mk hbox
                      have GW282 := ge_ (hb_ HB.out) hg
                      have GE282 := ge_ (hb_ HB.out) hg
                      have NB264_282 := nb_ (gr_ BK264.out) hg
                      have NB282_264 := bn_ (gr_ BK264.out) hg
                      have NB268_282 := nb_ (gr_ BK268.out) hg
                      have NB282_268 := bn_ (gr_ BK268.out) hg
                      have NB272_282 := nb_ (gr_ BK272.out) hg
                      have NB282_272 := bn_ (gr_ BK272.out) hg
                      have NB276_282 := nb_ (gr_ BK276.out) hg
                      have NB282_276 := bn_ (gr_ BK276.out) hg
                      replace BK264 := nx_ BK264 hb
                      replace BK268 := nx_ BK268 hb
                      replace BK272 := nx_ BK272 hb
                      replace BK276 := nx_ BK276 hb
                      replace HB := hx_ HB hb
                      clear hb hbox hg
                      refine hK.out _ _ ⟨(blk_cell BK268.out 0).trans rfl, (blk_cell BK268.out 1).trans rfl, (blk_cell BK272.out 0).trans rfl, (blk_cell BK272.out 1).trans rfl, (blk_cell BK276.out 0).trans rfl, (blk_cell BK276.out 1).trans rfl⟩ (fun hHeld => ?_)
                      clear hK K
                      refine norm_ (a' := ?_) ?_ ?_
                      rotate_left
                      · show Act.put _ (some 13) _ = _
                        simp only [Act.put, List.setIfInBounds_toArray, List.set_cons_zero, List.set_cons_succ, i64_w, i32_w]
                        rfl
                      exact norm_ (by simp only [putAll, Act.put, List.setIfInBounds_toArray, List.set_cons_zero, List.set_cons_succ]) (hCont (gb282) _ ⟨hHeld, (gr_ BK264.out), (gr_ BK268.out), (gr_ BK272.out), (gr_ BK276.out), (gr_ BK282.out), GW282.out, GE282.out, NB264_282.out, NB282_264.out, NB268_282.out, NB282_268.out, NB272_282.out, NB282_272.out, NB276_282.out, NB282_276.out, (by repeat (first | (with_reducible first | exact HB.out | apply below_alloc | apply pw_below_drewN | apply below_drew1 | refine below_set ?_ GE264.out | refine below_set ?_ GE268.out | refine below_set ?_ GE272.out | refine below_set ?_ GE276.out | refine below_set ?_ GE282.out) | exact HB.out))⟩)
                    · skip
                      refine box_step ?hg (N := 13) ?hd (cs := #[.int .i64 0, .int .i64 0]) (t := 23) ?hr ?_; (case hd => rfl); (case hg => rfl); (case hr => first | (go_simp; done) | (go_simp; rfl))
                      intro gb282 hg w95 hbox hb
                      have BK282 := Aside0.mk hbox
                      have GW282 := ge_ (hb_ HB.out) hg
                      have GE282 := ge_ (hb_ HB.out) hg
                      have NB264_282 := nb_ (gr_ BK264.out) hg
                      have NB282_264 := bn_ (gr_ BK264.out) hg
                      have NB268_282 := nb_ (gr_ BK268.out) hg
                      have NB282_268 := bn_ (gr_ BK268.out) hg
                      have NB272_282 := nb_ (gr_ BK272.out) hg
                      have NB282_272 := bn_ (gr_ BK272.out) hg
                      have NB276_282 := nb_ (gr_ BK276.out) hg
                      have NB282_276 := bn_ (gr_ BK276.out) hg
                      replace BK264 := nx_ BK264 hb
                      replace BK268 := nx_ BK268 hb
                      replace BK272 := nx_ BK272 hb
                      replace BK276 := nx_ BK276 hb
                      replace HB := hx_ HB hb
                      clear hb hbox hg
                      refine hK.out _ _ ⟨(blk_cell BK268.out 0).trans rfl, (blk_cell BK268.out 1).trans rfl, (blk_cell BK272.out 0).trans rfl, (blk_cell BK272.out 1).trans rfl, (blk_cell BK276.out 0).trans rfl, (blk_cell BK276.out 1).trans rfl⟩ (fun hHeld => ?_)
                      clear hK K
                      refine norm_ (a' := ?_) ?_ ?_
                      rotate_left
                      · show Act.put _ (some 13) _ = _
                        simp only [Act.put, List.setIfInBounds_toArray, List.set_cons_zero, List.set_cons_succ, i64_w, i32_w]
                        rfl
                      refine one_ (i := 4) (N := some 53) #[true, true, true, true, true, false, false, false, true, false, false] rfl rfl (one_of HT_.out (by kernel_rfl)) (by decide) (fun K hK => ?_)
                      refine goes_ Try.func20 (by kernel_rfl) rfl #[.agg #[.int .i64 t277, .int .i64 t278], .agg #[.int .i64 t273, .int .i64 t274]] (by rfl) rfl rfl (by (try simp only [List.map_toArray, List.map_cons, List.map_nil]); first | done | rfl | (simp only [List.length_drop, List.length_take]; rfl)) ?_
                      with_reducible refine (trig_Arc.calls kj7 t277 t278 t273 t274 t279 t280 t281 _ A16.out).mono ?_
                      rintro e w96 ⟨rfl, hb⟩
                      refine ⟨_, rfl, ?_⟩
                      replace BK264 := nx_ BK264 hb
                      replace BK268 := nx_ BK268 hb
                      replace BK272 := nx_ BK272 hb
                      replace BK276 := nx_ BK276 hb
                      replace BK282 := nx_ BK282 hb
                      replace HB := hx_ HB hb
                      (try clear hb)
                      (try clear hb2)
                      (try clear hk)
                      (try clear hi)
                      refine hK.out _ _ ⟨(blk_cell BK268.out 0).trans rfl, (blk_cell BK268.out 1).trans rfl, (blk_cell BK272.out 0).trans rfl, (blk_cell BK272.out 1).trans rfl, (blk_cell BK276.out 0).trans rfl, (blk_cell BK276.out 1).trans rfl⟩ (fun hHeld => ?_)
                      clear hK K
                      refine norm_ (a' := ?_) ?_ ?_
                      rotate_left
                      · show Act.put _ (some 53) _ = _
                        simp only [Act.put, List.setIfInBounds_toArray, List.set_cons_zero, List.set_cons_succ, i64_w, i32_w]
                        rfl
                      refine pure_ (i := 5) (N := some 48) (v := ?_) (a' := ?_) #[true, true, true, true, true, true, false, false, true, false, false] rfl rfl (any_of HT_.out (by kernel_rfl)) (fun _ _ _ h => h) (Or.inl ⟨by rfl, ?_⟩) ?_ ?_
                      rotate_left
                      · intro w'
                        go_simp
                        with_reducible rfl
                      rotate_left
                      · simp only [Act.put, List.setIfInBounds_toArray, List.set_cons_zero, List.set_cons_succ, i64_w, i32_w]
                        rfl
                      refine pure_ (i := 6) (N := some 54) (v := ?_) (a' := ?_) #[true, true, true, true, true, true, true, false, true, false, false] rfl rfl (any_of HT_.out (by kernel_rfl)) (fun _ _ _ h => h) (Or.inl ⟨by rfl, ?_⟩) ?_ ?_
                      rotate_left
                      · intro w'
                        go_simp
                        with_reducible rfl
                      rotate_left
                      · simp only [Act.put, List.setIfInBounds_toArray, List.set_cons_zero, List.set_cons_succ, i64_w, i32_w]
                        rfl
                      refine pure_ (i := 7) (N := some 55) (v := ?_) (a' := ?_) #[true, true, true, true, true, true, true, true, true, false, false] rfl rfl (any_of HT_.out (by kernel_rfl)) (fun _ _ _ h => h) (Or.inl ⟨by rfl, ?_⟩) ?_ ?_
                      rotate_left
                      · intro w'
                        go_simp
                        with_reducible rfl
                      rotate_left
                      · simp only [Act.put, List.setIfInBounds_toArray, List.set_cons_zero, List.set_cons_succ, i64_w, i32_w]
                        rfl
                      exact norm_ (by simp only [putAll, Act.put, List.setIfInBounds_toArray, List.set_cons_zero, List.set_cons_succ]) (hCont (gb282) _ ⟨hHeld, (gr_ BK264.out), (gr_ BK268.out), (gr_ BK272.out), (gr_ BK276.out), (gr_ BK282.out), GW282.out, GE282.out, NB264_282.out, NB282_264.out, NB268_282.out, NB282_268.out, NB272_282.out, NB282_272.out, NB276_282.out, NB282_276.out, (by repeat (first | (with_reducible first | exact HB.out | apply below_alloc | apply pw_below_drewN | apply below_drew1 | refine below_set ?_ GE264.out | refine below_set ?_ GE268.out | refine below_set ?_ GE272.out | refine below_set ?_ GE276.out | refine below_set ?_ GE282.out) | exact HB.out))⟩)
                  · skip
                    refine box_step ?hg (N := 13) ?hd (cs := #[.int .i64 0, .int .i64 0]) (t := 23) ?hr ?_; (case hd => rfl); (case hg => rfl); (case hr => first | (go_simp; done) | (go_simp; rfl))
                    intro gb282 hg w94 hbox hb
                    have BK282 := Aside0.mk hbox
                    have GW282 := ge_ (hb_ HB.out) hg
                    have GE282 := ge_ (hb_ HB.out) hg
                    have NB264_282 := nb_ (gr_ BK264.out) hg
                    have NB282_264 := bn_ (gr_ BK264.out) hg
                    have NB268_282 := nb_ (gr_ BK268.out) hg
                    have NB282_268 := bn_ (gr_ BK268.out) hg
                    have NB272_282 := nb_ (gr_ BK272.out) hg
                    have NB282_272 := bn_ (gr_ BK272.out) hg
                    have NB276_282 := nb_ (gr_ BK276.out) hg
                    have NB282_276 := bn_ (gr_ BK276.out) hg
                    replace BK264 := nx_ BK264 hb
                    replace BK268 := nx_ BK268 hb
                    replace BK272 := nx_ BK272 hb
                    replace BK276 := nx_ BK276 hb
                    replace HB := hx_ HB hb
                    clear hb hbox hg
                    refine hK.out _ _ ⟨(blk_cell BK268.out 0).trans rfl, (blk_cell BK268.out 1).trans rfl, (blk_cell BK272.out 0).trans rfl, (blk_cell BK272.out 1).trans rfl, (blk_cell BK276.out 0).trans rfl, (blk_cell BK276.out 1).trans rfl⟩ (fun hHeld => ?_)
                    clear hK K
                    refine norm_ (a' := ?_) ?_ ?_
                    rotate_left
                    · show Act.put _ (some 13) _ = _
                      simp only [Act.put, List.setIfInBounds_toArray, List.set_cons_zero, List.set_cons_succ, i64_w, i32_w]
                      rfl
                    refine one_ (i := 2) (N := some 51) #[true, true, true, true, false, false, false, false, true, false, false] rfl rfl (one_of HT_.out (by kernel_rfl)) (by decide) (fun K hK => ?_)
                    refine goes_ Try.func61 (by kernel_rfl) rfl #[.agg #[.int .i64 t265, .int .i64 t266], .agg #[.int .i64 t269, .int .i64 t270]] (by rfl) rfl rfl (by (try simp only [List.map_toArray, List.map_cons, List.map_nil]); first | done | rfl | (simp only [List.length_drop, List.length_take]; rfl)) ?_
                    with_reducible refine (sun_Unit.calls t265 t266 t269 t270 t277 t278 _ A15.out).mono ?_
                    rintro e w95 ⟨rfl, hb⟩
                    refine ⟨_, rfl, ?_⟩
                    replace BK264 := nx_ BK264 hb
                    replace BK268 := nx_ BK268 hb
                    replace BK272 := nx_ BK272 hb
                    replace BK276 := nx_ BK276 hb
                    replace BK282 := nx_ BK282 hb
                    replace HB := hx_ HB hb
                    (try clear hb)
                    (try clear hb2)
                    (try clear hk)
                    (try clear hi)
                    refine hK.out _ _ ⟨(blk_cell BK268.out 0).trans rfl, (blk_cell BK268.out 1).trans rfl, (blk_cell BK272.out 0).trans rfl, (blk_cell BK272.out 1).trans rfl, (blk_cell BK276.out 0).trans rfl, (blk_cell BK276.out 1).trans rfl⟩ (fun hHeld => ?_)
                    clear hK K
                    refine norm_ (a' := ?_) ?_ ?_
                    rotate_left
                    · show Act.put _ (some 51) _ = _
                      simp only [Act.put, List.setIfInBounds_toArray, List.set_cons_zero, List.set_cons_succ, i64_w, i32_w]
                      rfl
                    refine one_ (i := 4) (N := some 53) #[true, true, true, true, true, false, false, false, true, false, false] rfl rfl (one_of HT_.out (by kernel_rfl)) (by decide) (fun K hK => ?_)
                    refine goes_ Try.func20 (by kernel_rfl) rfl #[.agg #[.int .i64 t277, .int .i64 t278], .agg #[.int .i64 t273, .int .i64 t274]] (by rfl) rfl rfl (by (try simp only [List.map_toArray, List.map_cons, List.map_nil]); first | done | rfl | (simp only [List.length_drop, List.length_take]; rfl)) ?_
                    with_reducible refine (trig_Arc.calls kj7 t277 t278 t273 t274 t279 t280 t281 _ A16.out).mono ?_
                    rintro e w96 ⟨rfl, hb⟩
                    refine ⟨_, rfl, ?_⟩
                    replace BK264 := nx_ BK264 hb
                    replace BK268 := nx_ BK268 hb
                    replace BK272 := nx_ BK272 hb
                    replace BK276 := nx_ BK276 hb
                    replace BK282 := nx_ BK282 hb
                    replace HB := hx_ HB hb
                    (try clear hb)
                    (try clear hb2)
                    (try clear hk)
                    (try clear hi)
                    refine hK.out _ _ ⟨(blk_cell BK268.out 0).trans rfl, (blk_cell BK268.out 1).trans rfl, (blk_cell BK272.out 0).trans rfl, (blk_cell BK272.out 1).trans rfl, (blk_cell BK276.out 0).trans rfl, (blk_cell BK276.out 1).trans rfl⟩ (fun hHeld => ?_)
                    clear hK K
                    refine norm_ (a' := ?_) ?_ ?_
                    rotate_left
                    · show Act.put _ (some 53) _ = _
                      simp only [Act.put, List.setIfInBounds_toArray, List.set_cons_zero, List.set_cons_succ, i64_w, i32_w]
                      rfl
                    refine pure_ (i := 5) (N := some 48) (v := ?_) (a' := ?_) #[true, true, true, true, true, true, false, false, true, false, false] rfl rfl (any_of HT_.out (by kernel_rfl)) (fun _ _ _ h => h) (Or.inl ⟨by rfl, ?_⟩) ?_ ?_
                    rotate_left
                    · intro w'
                      go_simp
                      with_reducible rfl
                    rotate_left
                    · simp only [Act.put, List.setIfInBounds_toArray, List.set_cons_zero, List.set_cons_succ, i64_w, i32_w]
                      rfl
                    refine pure_ (i := 6) (N := some 54) (v := ?_) (a' := ?_) #[true, true, true, true, true, true, true, false, true, false, false] rfl rfl (any_of HT_.out (by kernel_rfl)) (fun _ _ _ h => h) (Or.inl ⟨by rfl, ?_⟩) ?_ ?_
                    rotate_left
                    · intro w'
                      go_simp
                      with_reducible rfl
                    rotate_left
                    · simp only [Act.put, List.setIfInBounds_toArray, List.set_cons_zero, List.set_cons_succ, i64_w, i32_w]
                      rfl
                    refine pure_ (i := 7) (N := some 55) (v := ?_) (a' := ?_) #[true, true, true, true, true, true, true, true, true, false, false] rfl rfl (any_of HT_.out (by kernel_rfl)) (fun _ _ _ h => h) (Or.inl ⟨by rfl, ?_⟩) ?_ ?_
                    rotate_left
                    · intro w'
                      go_simp
                      with_reducible rfl
                    rotate_left
                    · simp only [Act.put, List.setIfInBounds_toArray, List.set_cons_zero, List.set_cons_succ, i64_w, i32_w]
                      rfl
                    exact norm_ (by simp only [putAll, Act.put, List.setIfInBounds_toArray, List.set_cons_zero, List.set_cons_succ]) (hCont (gb282) _ ⟨hHeld, (gr_ BK264.out), (gr_ BK268.out), (gr_ BK272.out), (gr_ BK276.out), (gr_ BK282.out), GW282.out, GE282.out, NB264_282.out, NB282_264.out, NB268_282.out, NB282_268.out, NB272_282.out, NB282_272.out, NB276_282.out, NB282_276.out, (by repeat (first | (with_reducible first | exact HB.out | apply below_alloc | apply pw_below_drewN | apply below_drew1 | refine below_set ?_ GE264.out | refine below_set ?_ GE268.out | refine below_set ?_ GE272.out | refine below_set ?_ GE276.out | refine below_set ?_ GE282.out) | exact HB.out))⟩)
                rintro gb282 w97 ⟨hS_, h0_, h1_, h2_, h3_, h4_, h5_, h6_, h7_, h8_, h9_, h10_, h11_, h12_, h13_, h14_, h15_⟩
                replace BK264 : Aside0 (w97.heap[gb264]? = some (.cells #[.int .i64 0, .int .i64 0] 23 (0, 0))) := ⟨h0_⟩
                replace BK268 : Aside0 (w97.heap[gb268]? = some (.cells #[.int .i64 t265, .int .i64 t266] 23 (0, 0))) := ⟨h1_⟩
                replace BK272 : Aside0 (w97.heap[gb272]? = some (.cells #[.int .i64 t269, .int .i64 t270] 23 (0, 0))) := ⟨h2_⟩
                replace BK276 : Aside0 (w97.heap[gb276]? = some (.cells #[.int .i64 t273, .int .i64 t274] 23 (0, 0))) := ⟨h3_⟩
                have BK282 : Aside0 (w97.heap[gb282]? = some (.cells #[.int .i64 0, .int .i64 0] 23 (0, 0))) := ⟨h4_⟩
                have GW282 : Aside0 (w.heap.size ≤ gb282) := ⟨h5_⟩
                have GE282 : Aside0 (w.heap.size ≤ gb282) := ⟨h6_⟩
                have NB264_282 : Aside0 (gb264 ≠ gb282) := ⟨h7_⟩
                have NB282_264 : Aside0 (gb282 ≠ gb264) := ⟨h8_⟩
                have NB268_282 : Aside0 (gb268 ≠ gb282) := ⟨h9_⟩
                have NB282_268 : Aside0 (gb282 ≠ gb268) := ⟨h10_⟩
                have NB272_282 : Aside0 (gb272 ≠ gb282) := ⟨h11_⟩
                have NB282_272 : Aside0 (gb282 ≠ gb272) := ⟨h12_⟩
                have NB276_282 : Aside0 (gb276 ≠ gb282) := ⟨h13_⟩
                have NB282_276 : Aside0 (gb282 ≠ gb276) := ⟨h14_⟩
                replace HB : Aside0 (Below w.heap.size w w97) := ⟨h15_⟩
                clear h0_ h1_ h2_ h3_ h4_ h5_ h6_ h7_ h8_ h9_ h10_ h11_ h12_ h13_ h14_ h15_
                have hHeld : w97.cell? ⟨gb268, 0, none⟩ = some (.int .i64 t265) ∧ w97.cell? ⟨gb268, 1, none⟩ = some (.int .i64 t266) ∧ w97.cell? ⟨gb272, 0, none⟩ = some (.int .i64 t269) ∧ w97.cell? ⟨gb272, 1, none⟩ = some (.int .i64 t270) ∧ w97.cell? ⟨gb276, 0, none⟩ = some (.int .i64 t273) ∧ w97.cell? ⟨gb276, 1, none⟩ = some (.int .i64 t274) := hS_
                refine norm_ (a' := ?_) ?_ ?_
                rotate_left
                · simp only [putAll, Act.put, List.setIfInBounds_toArray, List.set_cons_zero, List.set_cons_succ]
                  rfl
                refine one_ (i := 9) (N := none) #[true, true, true, true, true, true, true, true, true, true, false] rfl rfl (one_of HT_.out (by kernel_rfl)) (by decide) (fun K hK => ?_)
                have hs98 : w97.cell? ⟨gb282, 0, none⟩ = some (.int .i64 0) := (blk_cell BK282.out 0).trans rfl
                have hfs98 := blk_frozen BK282.out 0
                have hns98_0 := NB264_282.out
                have hns98_1 := NB268_282.out
                have hns98_2 := NB272_282.out
                have hns98_3 := NB276_282.out
                have hms98_0 := NB282_264.out
                have hms98_1 := NB282_268.out
                have hms98_2 := NB282_272.out
                have hms98_3 := NB282_276.out
                have hs99 : w97.cell? ⟨gb282, 1, none⟩ = some (.int .i64 0) := (blk_cell BK282.out 1).trans rfl
                have hfs99 := blk_frozen BK282.out 1
                have hns99_0 := NB264_282.out
                have hns99_1 := NB268_282.out
                have hns99_2 := NB272_282.out
                have hns99_3 := NB276_282.out
                have hms99_0 := NB282_264.out
                have hms99_1 := NB282_268.out
                have hms99_2 := NB282_272.out
                have hms99_3 := NB282_276.out
                refine skip_ (w1 := ?_) (by rfl) rfl ?_ ?_
                rotate_left
                · go_simp
                  rfl
                refine hK.out _ _ ⟨((cell_far (p := ⟨gb282, _, none⟩) NB268_282.out _).trans (((cell_far (p := ⟨gb282, _, none⟩) NB268_282.out _).trans (hHeld.1)))), ((cell_far (p := ⟨gb282, _, none⟩) NB268_282.out _).trans (((cell_far (p := ⟨gb282, _, none⟩) NB268_282.out _).trans (hHeld.2.1)))), ((cell_far (p := ⟨gb282, _, none⟩) NB272_282.out _).trans (((cell_far (p := ⟨gb282, _, none⟩) NB272_282.out _).trans (hHeld.2.2.1)))), ((cell_far (p := ⟨gb282, _, none⟩) NB272_282.out _).trans (((cell_far (p := ⟨gb282, _, none⟩) NB272_282.out _).trans (hHeld.2.2.2.1)))), ((cell_far (p := ⟨gb282, _, none⟩) NB276_282.out _).trans (((cell_far (p := ⟨gb282, _, none⟩) NB276_282.out _).trans (hHeld.2.2.2.2.1)))), ((cell_far (p := ⟨gb282, _, none⟩) NB276_282.out _).trans (((cell_far (p := ⟨gb282, _, none⟩) NB276_282.out _).trans (hHeld.2.2.2.2.2))))⟩ (fun hHeld => ?_)
                clear hK K
                refine pure_ (i := 10) (N := some 14) (v := ?_) (a' := ?_) #[true, true, true, true, true, true, true, true, true, true, true] rfl rfl (any_of HT_.out (by kernel_rfl)) (fun _ _ _ h => h) (Or.inl ⟨by rfl, ?_⟩) ?_ ?_
                rotate_left
                · intro w'
                  go_simp
                  with_reducible rfl
                rotate_left
                · simp only [Act.put, List.setIfInBounds_toArray, List.set_cons_zero, List.set_cons_succ, i64_w, i32_w]
                  rfl
                refine done_ (done_of HT_.out (by kernel_rfl)) ?_
                have hnb100 := NB264_282.out
                have hnc100 := NB282_264.out
                have hcz101_0 : w97.cell? ⟨gb264, 0, none⟩ = some (.int .i64 0) := (blk_cell BK264.out 0).trans rfl
                have hcz101_1 : w97.cell? ⟨gb264, 1, none⟩ = some (.int .i64 0) := (blk_cell BK264.out 1).trans rfl
                have hfz101_0 := blk_frozen BK264.out 0
                have hfz101_1 := blk_frozen BK264.out 1
                try go_wp2
                refine bodyPost_ret (results_ct rfl _ _ gb264 23 #[.int .i64 0, .int .i64 0] (0, 0) _ rfl (gr_ (blk_put (cs := #[.int .i64 0, .int .i64 0]) (gr_ (blk_put (cs := #[.int .i64 0, .int .i64 0]) (gr_ (blk_far (gr_ (blk_far (gr_ BK264.out) NB264_282.out _)) NB264_282.out _)) 0 _ rfl)) 1 _ rfl)) Try.underlying23 rfl (by kernel_rfl)) rfl ?_
                exact ⟨by first | rfl | (simp [errW_none, errW_some] <;> rfl) | (simp [*, errW_none, errW_some] <;> rfl), by repeat (first | (with_reducible first | exact HB.out | apply below_alloc | apply pw_below_drewN | apply below_drew1 | refine below_set ?_ GE264.out | refine below_set ?_ GE268.out | refine below_set ?_ GE272.out | refine below_set ?_ GE276.out | refine below_set ?_ GE282.out) | exact HB.out)⟩

end Go.Proofs.Ytmoffcpbmigngaa.JD
