-- Made by a program of this session (wip/hp.py, over the kit's print) out of the translation. Not trusted: Lean checks it.
import Derived.Test.YtjcpilmecgcooaaJDx0
import Derived.Test.YtjcpilmecgcooaaJDx1
import Derived.Test.YtjcpilmecgcooaaJDx2
import Derived.Test.YtjcpilmecgcooaaJDx26
import Derived.Test.YtjcpilmecgcooaaJDx28
import Derived.Test.YtjcpilmecgcooaaJDx41
import Derived.Test.YtjcpilmecgcooaaJDx43
import Derived.Test.YtjcpilmecgcooaaJDx44
import Derived.Test.YtjcpilmecgcooaaJDx45
import Derived.Test.YtjcpilmecgcooaaJDx48
namespace Go.Proofs.Ytjcpilmecgcooaa.JD
open Go.RowKit Go.Proofs.YtjcpilmecgcooaaW.PrintWords Go.Proofs.YtjcpilmecgcooaaW.PrintLast Go.Proofs.YtjcpilmecgcooaaW.PrintMore
attribute [local go_sem] max2_int min2_int max_two min_two max_three min_three max_four min_four   -- for this text's walks alone
set_option linter.unusedVariables false
set_option linter.unusedSimpArgs false

attribute [local go_sem high] eqA29
/-! ### ephemeriskeep2_TideTops: function 9 -/
set_option maxHeartbeats 8000000 in
set_option maxRecDepth 100000 in
theorem ephemeriskeep2_TideTops.calls (k : Nat) (A0 : Option Addr) (c0 : Nat) (l0 : List (S48)) (a1 : Int) (a2 : Int) (r : Bool) (w : World) (hr0 : Kd.C k48 w A0 l0.length l0) (hc0 : l0.length ≤ c0) (h : ephemeriskeep2_TideTops.f k l0 a1 a2 = some r) :
    Calls Try.prog 9 #[.slice A0 l0.length c0, .int .i64 a1, .int .i64 a2] w fun e w' => e = .returned (.bool r) ∧ Below w.heap.size w w' := by
  have hu29 := Try.underlying29
  have HR0 := Aside0.mk hr0
  have HC0 := Aside0.mk hc0
  clear hr0 hc0
  have HB := Aside0.mk (Below.refl w.heap.size w)
  have H : ((ephemeriskeep2_tideWorks.f k).bind fun t537 => (if t537 = true then ((ephemeriskeep2_tides.f k l0).bind fun t538 => ((ephemeriskeep2_instant.f a1).bind fun t541 => ((ephemeriskeep2_at.f a2 480).bind fun t542 => ((tide_High.f k t538 t541 (wrap64 (t541 + (wrap64 (t542 * 3600000))))).bind fun bt543 => ((tide_Low.f k t538 t541 (wrap64 (t541 + (wrap64 (t542 * 3600000))))).bind fun bt547 => (if bt543.2 = 0 then (ephemeriskeep2_TideTops.j0 k t538 bt543.1 bt547.1 (bt547.2 != 0)) else (ephemeriskeep2_TideTops.j0 k t538 bt543.1 bt547.1 true))))))) else (none))) = some r := h
  clear h
  replace H := Option.bind_eq_some_iff.mp H
  obtain ⟨t537, A40, H⟩ := H
  replace H : (if t537 = true then ((ephemeriskeep2_tides.f k l0).bind fun t538 => ((ephemeriskeep2_instant.f a1).bind fun t541 => ((ephemeriskeep2_at.f a2 480).bind fun t542 => ((tide_High.f k t538 t541 (wrap64 (t541 + (wrap64 (t542 * 3600000))))).bind fun bt543 => ((tide_Low.f k t538 t541 (wrap64 (t541 + (wrap64 (t542 * 3600000))))).bind fun bt547 => (if bt543.2 = 0 then (ephemeriskeep2_TideTops.j0 k t538 bt543.1 bt547.1 (bt547.2 != 0)) else (ephemeriskeep2_TideTops.j0 k t538 bt543.1 bt547.1 true))))))) else (none)) = some r := H
  have A4 := Aside0.mk A40
  clear A40
  by_cases c5 : t537 = true
  · subst c5
    have H1 : ((ephemeriskeep2_tides.f k l0).bind fun t538 => ((ephemeriskeep2_instant.f a1).bind fun t541 => ((ephemeriskeep2_at.f a2 480).bind fun t542 => ((tide_High.f k t538 t541 (wrap64 (t541 + (wrap64 (t542 * 3600000))))).bind fun bt543 => ((tide_Low.f k t538 t541 (wrap64 (t541 + (wrap64 (t542 * 3600000))))).bind fun bt547 => (if bt543.2 = 0 then (ephemeriskeep2_TideTops.j0 k t538 bt543.1 bt547.1 (bt547.2 != 0)) else (ephemeriskeep2_TideTops.j0 k t538 bt543.1 bt547.1 true))))))) = some r := by rw [if_pos rfl] at H; exact H
    clear H
    have H := H1
    clear H1
    replace H := Option.bind_eq_some_iff.mp H
    obtain ⟨t538, A60, H⟩ := H
    replace H : ((ephemeriskeep2_instant.f a1).bind fun t541 => ((ephemeriskeep2_at.f a2 480).bind fun t542 => ((tide_High.f k t538 t541 (wrap64 (t541 + (wrap64 (t542 * 3600000))))).bind fun bt543 => ((tide_Low.f k t538 t541 (wrap64 (t541 + (wrap64 (t542 * 3600000))))).bind fun bt547 => (if bt543.2 = 0 then (ephemeriskeep2_TideTops.j0 k t538 bt543.1 bt547.1 (bt547.2 != 0)) else (ephemeriskeep2_TideTops.j0 k t538 bt543.1 bt547.1 true)))))) = some r := H
    have A6 := Aside0.mk A60
    clear A60
    replace H := Option.bind_eq_some_iff.mp H
    obtain ⟨t541, A70, H⟩ := H
    replace H : ((ephemeriskeep2_at.f a2 480).bind fun t542 => ((tide_High.f k t538 t541 (wrap64 (t541 + (wrap64 (t542 * 3600000))))).bind fun bt543 => ((tide_Low.f k t538 t541 (wrap64 (t541 + (wrap64 (t542 * 3600000))))).bind fun bt547 => (if bt543.2 = 0 then (ephemeriskeep2_TideTops.j0 k t538 bt543.1 bt547.1 (bt547.2 != 0)) else (ephemeriskeep2_TideTops.j0 k t538 bt543.1 bt547.1 true))))) = some r := H
    have A7 := Aside0.mk A70
    clear A70
    replace H := Option.bind_eq_some_iff.mp H
    obtain ⟨t542, A80, H⟩ := H
    replace H : ((tide_High.f k t538 t541 (wrap64 (t541 + (wrap64 (t542 * 3600000))))).bind fun bt543 => ((tide_Low.f k t538 t541 (wrap64 (t541 + (wrap64 (t542 * 3600000))))).bind fun bt547 => (if bt543.2 = 0 then (ephemeriskeep2_TideTops.j0 k t538 bt543.1 bt547.1 (bt547.2 != 0)) else (ephemeriskeep2_TideTops.j0 k t538 bt543.1 bt547.1 true)))) = some r := H
    have A8 := Aside0.mk A80
    clear A80
    replace H := Option.bind_eq_some_iff.mp H
    obtain ⟨⟨t543, t544⟩, A90, H⟩ := H
    replace H : ((tide_Low.f k t538 t541 (wrap64 (t541 + (wrap64 (t542 * 3600000))))).bind fun bt547 => (if t544 = 0 then (ephemeriskeep2_TideTops.j0 k t538 t543 bt547.1 (bt547.2 != 0)) else (ephemeriskeep2_TideTops.j0 k t538 t543 bt547.1 true))) = some r := H
    have A9 := Aside0.mk A90
    clear A90
    replace H := Option.bind_eq_some_iff.mp H
    obtain ⟨⟨t547, t548⟩, A100, H⟩ := H
    replace H : (if t544 = 0 then (ephemeriskeep2_TideTops.j0 k t538 t543 t547 (t548 != 0)) else (ephemeriskeep2_TideTops.j0 k t538 t543 t547 true)) = some r := H
    have A10 := Aside0.mk A100
    clear A100
    have HC11 := Aside0.mk H
    clear H
    go_enter Try.func9, Try.ntmps9
    go_upto_region 7 with (first | ((with_reducible refine gate_callee (f := 27) rfl ?_); refine goesL_ (some 22) rfl rfl Try.func27 (by kernel_rfl) rfl #[] rfl (by (try simp only [List.map_toArray, List.map_cons, List.map_nil]); first | done | rfl | (simp only [List.length_drop, List.length_take]; rfl)) ?_; (with_reducible refine (ephemeriskeep2_tideWorks.calls k  true _ A4.out).mono ?_); rintro e w12 ⟨rfl, hb⟩; refine ⟨_, rfl, ?_⟩; have n0_ := Aside0.mk (below_step (by repeat (first | (with_reducible first | exact HB.out | apply below_alloc | apply pw_below_drewN | apply below_drew1) | exact HB.out)) hb); clear HB; have HB := n0_; clear n0_; (try clear hb); (try clear hb2); (try clear hk); (try clear hi)) | ((with_reducible refine gate_callee (f := 28) rfl ?_); refine goesL_ (some 25) rfl rfl Try.func28 (by kernel_rfl) rfl #[.slice A0 l0.length c0] rfl (by (try simp only [List.map_toArray, List.map_cons, List.map_nil]); first | done | rfl | (simp only [List.length_drop, List.length_take]; rfl)) ?_; (with_reducible refine (ephemeriskeep2_tides.calls k _ _ l0 t538 _ ?side1 ?side2 A6.out).mono ?_); (case side1 => repeat (first | exact (Kd.C_below HR0.out HB.out) | (with_reducible refine Kd.C_alloc ?_ _) | (with_reducible refine Kd.C_drewN ?_ _) | (with_reducible refine Kd.C_drew ?_))); (case side2 => exact HC0.out); rintro e w13 ⟨v539, rfl, ho0, hb⟩; refine ⟨_, rfl, ?_⟩; have n0_ := Aside0.mk (Kd.R_lower ho0 (below_size (by repeat (first | (with_reducible first | exact HB.out | apply below_alloc | apply pw_below_drewN | apply below_drew1) | exact HB.out)))); have n1_ := Aside0.mk (below_step (by repeat (first | (with_reducible first | exact HB.out | apply below_alloc | apply pw_below_drewN | apply below_drew1) | exact HB.out)) hb); clear HB; have HO540 := n0_; have HB := n1_; clear n0_ n1_; (try clear hb); (try clear hb2); (try clear hk); (try clear hi); (try clear ho0)) | ((with_reducible refine gate_callee (f := 16) rfl ?_); refine goesL_ (some 27) rfl rfl Try.func16 (by kernel_rfl) rfl #[.int .i64 a1] rfl (by (try simp only [List.map_toArray, List.map_cons, List.map_nil]); first | done | rfl | (simp only [List.length_drop, List.length_take]; rfl)) ?_; (with_reducible refine (ephemeriskeep2_instant.calls a1 t541 _ A7.out).mono ?_); rintro e w' ⟨rfl, ⟨nd, rfl⟩⟩; refine ⟨_, rfl, ?_⟩) | ((with_reducible refine gate_callee (f := 20) rfl ?_); refine goesL_ (some 30) rfl rfl Try.func20 (by kernel_rfl) rfl #[.int .i64 a2, .int .i64 480] rfl (by (try simp only [List.map_toArray, List.map_cons, List.map_nil]); first | done | rfl | (simp only [List.length_drop, List.length_take]; rfl)) ?_; (with_reducible refine (ephemeriskeep2_at.calls a2 480 t542 _ A8.out).mono ?_); rintro e w' ⟨rfl, ⟨nd, rfl⟩⟩; refine ⟨_, rfl, ?_⟩; obtain ⟨Ao14, co14, eo14⟩ := Kd.R_slice HO540.out; subst eo14) | ((with_reducible refine gate_callee (f := 30) rfl ?_); refine goesL_ (some 37) rfl rfl Try.func30 (by kernel_rfl) rfl #[.slice Ao14 t538.length co14, .int .i64 t541, .int .i64 (wrap64 (t541 + (wrap64 (t542 * 3600000))))] rfl (by (try simp only [List.map_toArray, List.map_cons, List.map_nil]); first | done | rfl | (simp only [List.length_drop, List.length_take]; rfl) | (rw [wrap_in_ (n := t542 * 3600000) (by omega) (by omega)]; rfl)) ?_; (with_reducible refine (tide_High.calls k _ _ t538 t541 (wrap64 (t541 + (wrap64 (t542 * 3600000)))) t543 t544 _ ?side1 ?side2 A9.out).mono ?_); (case side1 => repeat (first | exact (Kd.R_reads' HO540.out).2.2 | (with_reducible refine Kd.C_alloc ?_ _) | (with_reducible refine Kd.C_drewN ?_ _) | (with_reducible refine Kd.C_drew ?_))); (case side2 => exact (Kd.R_reads' HO540.out).2.1); rintro e w15 ⟨v545, rfl, ho0, hb⟩; refine ⟨_, rfl, ?_⟩; have n0_ := Aside0.mk (Kd.R_below (by (with_reducible repeat (first | apply Kd.R_alloc | apply Kd.R_drewN | apply Kd.R_drew)); exact HO540.out) hb); have n1_ := Aside0.mk (Kd.R_lower ho0 (below_size (by repeat (first | (with_reducible first | exact HB.out | apply below_alloc | apply pw_below_drewN | apply below_drew1) | exact HB.out)))); have n2_ := Aside0.mk (below_step (by repeat (first | (with_reducible first | exact HB.out | apply below_alloc | apply pw_below_drewN | apply below_drew1) | exact HB.out)) hb); clear HO540; clear HB; have HO540 := n0_; have HO546 := n1_; have HB := n2_; clear n0_ n1_ n2_; (try clear hb); (try clear hb2); (try clear hk); (try clear hi); (try clear ho0)) | ((with_reducible refine gate_callee (f := 31) rfl ?_); refine goesL_ (some 44) rfl rfl Try.func31 (by kernel_rfl) rfl #[.slice Ao14 t538.length co14, .int .i64 t541, .int .i64 (wrap64 (t541 + (wrap64 (t542 * 3600000))))] rfl (by (try simp only [List.map_toArray, List.map_cons, List.map_nil]); first | done | rfl | (simp only [List.length_drop, List.length_take]; rfl) | (rw [wrap_in_ (n := t542 * 3600000) (by omega) (by omega)]; rfl)) ?_; (with_reducible refine (tide_Low.calls k _ _ t538 t541 (wrap64 (t541 + (wrap64 (t542 * 3600000)))) t547 t548 _ ?side1 ?side2 A10.out).mono ?_); (case side1 => repeat (first | exact (Kd.R_reads' HO540.out).2.2 | (with_reducible refine Kd.C_alloc ?_ _) | (with_reducible refine Kd.C_drewN ?_ _) | (with_reducible refine Kd.C_drew ?_))); (case side2 => exact (Kd.R_reads' HO540.out).2.1); rintro e w16 ⟨v549, rfl, ho0, hb⟩; refine ⟨_, rfl, ?_⟩; have n0_ := Aside0.mk (Kd.R_below (by (with_reducible repeat (first | apply Kd.R_alloc | apply Kd.R_drewN | apply Kd.R_drew)); exact HO540.out) hb); have n1_ := Aside0.mk (Kd.R_elder' (by (with_reducible repeat (first | apply Kd.R_alloc | apply Kd.R_drewN | apply Kd.R_drew)); exact HO546.out) (Kd.R_base ho0) hb); have n2_ := Aside0.mk (Kd.R_lower (Kd.R_new' ho0 (Kd.R_lt (by (with_reducible repeat (first | apply Kd.R_alloc | apply Kd.R_drewN | apply Kd.R_drew)); exact HO546.out))) (below_size (by repeat (first | (with_reducible first | exact HB.out | apply below_alloc | apply pw_below_drewN | apply below_drew1) | exact HB.out)))); have n3_ := Aside0.mk (below_step (by repeat (first | (with_reducible first | exact HB.out | apply below_alloc | apply pw_below_drewN | apply below_drew1) | exact HB.out)) hb); clear HO540; clear HO546; clear HB; have HO540 := n0_; have HO546 := n1_; have HO550 := n2_; have HB := n3_; clear n0_ n1_ n2_ n3_; (try clear hb); (try clear hb2); (try clear hk); (try clear hi); (try clear ho0)))
    (try simp only [Act.put, List.setIfInBounds_toArray, List.set_cons_zero, List.set_cons_succ])
    go_cut [52] (fun v52 wc => ∃ (kq : Nat) (x52_10 : Bool), v52 = .bool x52_10 ∧ Aside0 (ephemeriskeep2_TideTops.j0 kq t538 t543 t547 x52_10 = some r) ∧ Aside0 (kq ≤ k) ∧ Aside0 (Kd.R k48 48 wc w.heap.size (fun _ => True) (.slice Ao14 t538.length co14) t538) ∧ Aside0 (Kd.R k29 29 wc w.heap.size (fun k_ => some k_ ≠ (v549 : Value).ownBlock) v545 t543) ∧ Aside0 (Kd.R k29 29 wc w.heap.size (fun k_ => some k_ ≠ (v545 : Value).ownBlock) v549 t547) ∧ Aside0 (Below w.heap.size w wc))
    case first =>
      have H := HC11.out
      clear HC11
      by_cases c17 : t544 = 0
      · rw [if_pos c17] at H
        have c17b0 : (t544 == 0) = true := beq_iff_eq.mpr c17
        have c17b1 : (t544 != 0) = false := bne_eq_false_iff_eq.mpr c17
        clear c17
        (first | rw [c17b0] | (simp only [i64_w, i32_w]; rw [c17b0]) | skip)
        have H' := Aside0.mk H
        clear H
        go_wp2
        go_meet
        case rel => exact ⟨_, ((t548 != 0)), (by first | rfl | (simp; done) | (simp [*]; done)), H', ⟨by first | omega | exact Nat.le_refl _⟩, ⟨by (with_reducible repeat (first | apply Kd.R_alloc | apply Kd.R_drewN | apply Kd.R_drew)); exact HO540.out⟩, ⟨by (with_reducible repeat (first | apply Kd.R_alloc | apply Kd.R_drewN | apply Kd.R_drew)); exact Kd.R_mono HO546.out (fun _ hk => hk.2)⟩, ⟨by (with_reducible repeat (first | apply Kd.R_alloc | apply Kd.R_drewN | apply Kd.R_drew)); exact Kd.R_mono HO550.out (fun _ hk => hk.2)⟩, ⟨by repeat (first | (with_reducible first | exact HB.out | apply below_alloc | apply pw_below_drewN | apply below_drew1) | exact HB.out)⟩⟩
      · rw [if_neg c17] at H
        have c17b0 : (t544 == 0) = false := beq_eq_false_iff_ne.mpr c17
        have c17b1 : (t544 != 0) = true := bne_iff_ne.mpr c17
        (first | rw [c17b0] | (simp only [i64_w, i32_w]; rw [c17b0]) | skip)
        have H' := Aside0.mk H
        clear H
        go_wp2
        go_meet
        case rel => exact ⟨_, (true), (by first | rfl | (simp; done) | (simp [*]; done)), H', ⟨by first | omega | exact Nat.le_refl _⟩, ⟨by (with_reducible repeat (first | apply Kd.R_alloc | apply Kd.R_drewN | apply Kd.R_drew)); exact HO540.out⟩, ⟨by (with_reducible repeat (first | apply Kd.R_alloc | apply Kd.R_drewN | apply Kd.R_drew)); exact Kd.R_mono HO546.out (fun _ hk => hk.2)⟩, ⟨by (with_reducible repeat (first | apply Kd.R_alloc | apply Kd.R_drewN | apply Kd.R_drew)); exact Kd.R_mono HO550.out (fun _ hk => hk.2)⟩, ⟨by repeat (first | (with_reducible first | exact HB.out | apply below_alloc | apply pw_below_drewN | apply below_drew1) | exact HB.out)⟩⟩
    case rest =>
      clear HC11
      try clear c1
      try clear c2
      try clear p2
      try clear c3
      try clear c5
      try clear p6
      try clear c9
      try clear c16
      try clear c17
      try clear c17b0
      try clear c17b1
      obtain ⟨kq, x52_10, rfl, HA, HJ10, HO_0, HO_8, HO_10, HB⟩ := hcut
      cases kq with
      | zero => exact absurd HA.out (by simp [ephemeriskeep2_TideTops.j0])
      | succ kj10 =>
        have H := HA.out
        clear HA
        simp only [ephemeriskeep2_TideTops.j0] at H
        by_cases c18 : x52_10 = true
        · subst c18
          have H1 : (none) = some r := by rw [if_pos rfl] at H; exact H
          clear H
          have H := H1
          clear H1
          exact absurd H (by simp)
        · replace c18 := Bool.eq_false_iff.mpr c18
          subst c18
          have H1 : (ephemeriskeep2_TideTops.l0 kj10 t538 t547 t543 (t543.length : Int) 0) = some r := by rw [if_neg (show ¬ (false = true) by decide)] at H; exact H
          clear H
          have H := H1
          clear H1
          have H' := Aside0.mk H
          clear H
          obtain ⟨Ao19, co19, eo19⟩ := Kd.R_slice HO_8.out
          subst eo19
          go_wp2
          go_loopg [55] kj10 (fun kq v55 w' => ∃ (x55_2 : Int), v55 = .int .i64 x55_2 ∧ Aside0 (ephemeriskeep2_TideTops.l0 kq t538 t547 t543 (t543.length : Int) x55_2 = some r) ∧ Aside0 (kq ≤ kj10) ∧ Aside0 (Kd.R k48 48 w' w.heap.size (fun _ => True) (.slice Ao14 t538.length co14) t538) ∧ Aside0 (Kd.R k29 29 w' w.heap.size (fun k_ => some k_ ≠ ((.slice Ao19 t543.length co19) : Value).ownBlock) v549 t547) ∧ Aside0 (Kd.R k29 29 w' w.heap.size (fun k_ => some k_ ≠ (v549 : Value).ownBlock) (.slice Ao19 t543.length co19) t543) ∧ Aside0 (Below w.heap.size w w'))
          case atStart => exact ⟨(0), (by first | rfl | (simp; done) | (simp [*]; done)), H', ⟨Nat.le_refl _⟩, ⟨by (with_reducible repeat (first | apply Kd.R_alloc | apply Kd.R_drewN | apply Kd.R_drew)); exact HO_0.out⟩, ⟨by (with_reducible repeat (first | apply Kd.R_alloc | apply Kd.R_drewN | apply Kd.R_drew)); exact HO_10.out⟩, ⟨by (with_reducible repeat (first | apply Kd.R_alloc | apply Kd.R_drewN | apply Kd.R_drew)); exact HO_8.out⟩, ⟨by repeat (first | (with_reducible first | exact HB.out | apply below_alloc | apply pw_below_drewN | apply below_drew1) | exact HB.out)⟩⟩
          case round =>
            clear H'
            try clear c1
            try clear c2
            try clear p2
            try clear c3
            try clear c5
            try clear p6
            try clear c9
            try clear c16
            try clear c17
            try clear c17b0
            try clear c17b1
            try clear c18
            try clear p2
            try clear p6
            obtain ⟨x55_2, rfl, HA, HK2, HO_0, HO_10, HO_53, HB⟩ := hrel
            cases gk with
            | zero => exact absurd HA.out (by simp [ephemeriskeep2_TideTops.l0])
            | succ k2 =>
              have H := HA.out
              clear HA
              simp only [ephemeriskeep2_TideTops.l0] at H
              by_cases c20 : x55_2 < (t543.length : Int)
              · rw [if_pos c20] at H
                have c20b0 : decide (x55_2 < (t543.length : Int)) = true := decide_eq_true c20
                clear c20
                by_cases c21 : 0 ≤ x55_2
                · rw [if_pos c21] at H
                  have c21b0 : decide (0 ≤ x55_2) = true := decide_eq_true c21
                  clear c21
                  by_cases c22 : x55_2 < (t543.length : Int)
                  · rw [if_pos c22] at H
                    have c22b0 : decide (x55_2 < (t543.length : Int)) = true := decide_eq_true c22
                    clear c22
                    replace H := Option.bind_eq_some_iff.mp H
                    obtain ⟨⟨t553, t554, t555⟩, A230, H⟩ := H
                    replace H : ((tide_Height.f k2 t538 (wrap64 (Int.tdiv (wrap64 (((rd_T29 t543 x55_2).f0) + ((rd_T29 t543 x55_2).f1))) 2))).bind fun bt557 => ((tide_Height.f k2 t538 ((rd_T29 t543 x55_2).f1)).bind fun bt561 => (if bt557.1 ≤ t554 then (ephemeriskeep2_TideTops.j2 k2 t538 t547 t543 (t543.length : Int) x55_2 true ((rd_T29 t543 x55_2).f0) ((rd_T29 t543 x55_2).f1)) else (ephemeriskeep2_TideTops.j2 k2 t538 t547 t543 (t543.length : Int) x55_2 (decide (bt557.1 ≤ bt561.2.1)) ((rd_T29 t543 x55_2).f0) ((rd_T29 t543 x55_2).f1))))) = some r := H
                    have A23 := Aside0.mk A230
                    clear A230
                    replace H := Option.bind_eq_some_iff.mp H
                    obtain ⟨⟨t557, t558, t559⟩, A240, H⟩ := H
                    replace H : ((tide_Height.f k2 t538 ((rd_T29 t543 x55_2).f1)).bind fun bt561 => (if t557 ≤ t554 then (ephemeriskeep2_TideTops.j2 k2 t538 t547 t543 (t543.length : Int) x55_2 true ((rd_T29 t543 x55_2).f0) ((rd_T29 t543 x55_2).f1)) else (ephemeriskeep2_TideTops.j2 k2 t538 t547 t543 (t543.length : Int) x55_2 (decide (t557 ≤ bt561.2.1)) ((rd_T29 t543 x55_2).f0) ((rd_T29 t543 x55_2).f1)))) = some r := H
                    have A24 := Aside0.mk A240
                    clear A240
                    replace H := Option.bind_eq_some_iff.mp H
                    obtain ⟨⟨t561, t562, t563⟩, A250, H⟩ := H
                    replace H : (if t557 ≤ t554 then (ephemeriskeep2_TideTops.j2 k2 t538 t547 t543 (t543.length : Int) x55_2 true ((rd_T29 t543 x55_2).f0) ((rd_T29 t543 x55_2).f1)) else (ephemeriskeep2_TideTops.j2 k2 t538 t547 t543 (t543.length : Int) x55_2 (decide (t557 ≤ t562)) ((rd_T29 t543 x55_2).f0) ((rd_T29 t543 x55_2).f1))) = some r := H
                    have A25 := Aside0.mk A250
                    clear A250
                    have HC26 := Aside0.mk H
                    clear H
                    have p551 : 0 ≤ (x55_2 : Int) := of_decide_eq_true (by first | (with_reducible assumption) | assumption)
                    have q551 : x55_2 < (t543.length : Int) := of_decide_eq_true (by first | (with_reducible assumption) | assumption)
                    obtain ⟨ad551, e551, hx551_0, hx551_1⟩ := at_T29 (Kd.R_reads' HO_53.out).2.2 x55_2 p551 q551
                    cases e551
                    replace p551 := eq_true p551
                    replace q551 := eq_true q551
                    go_upto_region 15 with (first | ((with_reducible refine gate_dst (N := 13) rfl ?_); refine box_event ?hg (N := 13) ?hd (cs := #[.int .i64 0, .int .i64 0]) (t := 29) ?hr ?_; (case hd => rfl); (case hg => rfl); (case hr => first | (go_simp; done) | (go_simp; rfl)); intro gb552 hg w27 hbox hb; have n0_ := Aside0.mk (Kd.R_below (by (with_reducible repeat (first | apply Kd.R_alloc | apply Kd.R_drewN | apply Kd.R_drew)); exact HO_0.out) hb); have n1_ := Aside0.mk (Kd.R_below (Kd.R_elderB (by (with_reducible repeat (first | apply Kd.R_alloc | apply Kd.R_drewN | apply Kd.R_drew)); exact HO_10.out) gb552 (Nat.le_of_eq hg.symm)) hb); have n2_ := Aside0.mk (Kd.R_below (Kd.R_elderB (by (with_reducible repeat (first | apply Kd.R_alloc | apply Kd.R_drewN | apply Kd.R_drew)); exact HO_53.out) gb552 (Nat.le_of_eq hg.symm)) hb); have n3_ := Aside0.mk (below_step (by repeat (first | (with_reducible first | exact HB.out | apply below_alloc | apply pw_below_drewN | apply below_drew1) | exact HB.out)) hb); have n4_ := Aside0.mk (hbox); have n5_ := Aside0.mk ((by rw [hg]; exact (below_size (by repeat (first | (with_reducible first | exact HB.out | apply below_alloc | apply pw_below_drewN | apply below_drew1) | exact HB.out))) : w.heap.size ≤ gb552)); have n6_ := Aside0.mk ((by rw [hg]; exact (below_size (by repeat (first | (with_reducible first | exact HB.out | apply below_alloc | apply pw_below_drewN | apply below_drew1) | exact HB.out))) : w.heap.size ≤ gb552)); clear HO_0; clear HO_10; clear HO_53; clear HB; have HO_0 := n0_; have HO_10 := n1_; have HO_53 := n2_; have HB := n3_; have BK552 := n4_; have GW552 := n5_; have GE552 := n6_; clear n0_ n1_ n2_ n3_ n4_ n5_ n6_; clear hb hbox hg; have hcz28_0 : w27.cell? ⟨gb552, 0, none⟩ = some (.int .i64 0) := (blk_cell BK552.out 0).trans rfl; have hcz28_1 : w27.cell? ⟨gb552, 1, none⟩ = some (.int .i64 0) := (blk_cell BK552.out 1).trans rfl; have hfz28_0 := blk_frozen BK552.out 0; have hfz28_1 := blk_frozen BK552.out 1) | ((with_reducible refine gate_callee (f := 29) rfl ?_); refine goesL_ (some 63) rfl rfl Try.func29 (by kernel_rfl) rfl #[.slice Ao14 t538.length co14, .int .i64 ((rd_T29 t543 x55_2).f0)] rfl (by (try simp only [List.map_toArray, List.map_cons, List.map_nil]); first | done | rfl | (simp only [List.length_drop, List.length_take]; rfl)) ?_; (with_reducible refine (tide_Height.calls k2 _ _ t538 ((rd_T29 t543 x55_2).f0) t553 t554 t555 _ ?side1 ?side2 A23.out).mono ?_); (case side1 => refine (Kd.R_reads' (e := 48) (base := w.heap.size) (ok := fun k_ => True) (n := t538.length) (c := co14) ?_).2.2; exact (by (with_reducible repeat (first | apply Kd.R_alloc | apply Kd.R_drewN | apply Kd.R_drew)); exact (Kd.R_mono (Kd.R_far (p := ⟨gb552, 1, none⟩) (Kd.R_far (p := ⟨gb552, 0, none⟩) (Kd.R_types HO_0.out BK552.out (by decide)) (fun _ hk => hk.2) (.int .i64 ((rd_T29 t543 x55_2).f0))) (fun _ hk => hk.2) (.int .i64 ((rd_T29 t543 x55_2).f1))) (fun _ h_ => by first | exact h_.1 | (repeat' (first | exact h_ | exact h_.1 | exact h_.2 | exact h_.1.1 | exact h_.1.2 | exact h_.2.1 | exact h_.2.2 | exact h_.1.1.1 | exact h_.1.1.2 | exact h_.1.2.1 | exact h_.1.2.2 | exact True.intro | apply And.intro)))))); (case side2 => exact (Kd.R_reads' HO_0.out).2.1); rintro e w29 ⟨rfl, hb⟩; refine ⟨_, rfl, ?_⟩; have n0_ := Aside0.mk (Kd.R_below (by (with_reducible repeat (first | apply Kd.R_alloc | apply Kd.R_drewN | apply Kd.R_drew)); exact (Kd.R_mono (Kd.R_far (p := ⟨gb552, 1, none⟩) (Kd.R_far (p := ⟨gb552, 0, none⟩) (Kd.R_types HO_0.out BK552.out (by decide)) (fun _ hk => hk.2) (.int .i64 ((rd_T29 t543 x55_2).f0))) (fun _ hk => hk.2) (.int .i64 ((rd_T29 t543 x55_2).f1))) (fun _ h_ => by first | exact h_.1 | (repeat' (first | exact h_ | exact h_.1 | exact h_.2 | exact h_.1.1 | exact h_.1.2 | exact h_.2.1 | exact h_.2.2 | exact h_.1.1.1 | exact h_.1.1.2 | exact h_.1.2.1 | exact h_.1.2.2 | exact True.intro | apply And.intro))))) hb); have n1_ := Aside0.mk (Kd.R_below (by (with_reducible repeat (first | apply Kd.R_alloc | apply Kd.R_drewN | apply Kd.R_drew)); exact (Kd.R_mono (Kd.R_far (p := ⟨gb552, 1, none⟩) (Kd.R_far (p := ⟨gb552, 0, none⟩) (Kd.R_mono HO_10.out (fun k_ hk => (⟨hk, hk.2⟩ : _ ∧ k_ ≠ gb552))) (fun _ hk => hk.2) (.int .i64 ((rd_T29 t543 x55_2).f0))) (fun _ hk => hk.2) (.int .i64 ((rd_T29 t543 x55_2).f1))) (fun _ h_ => by first | exact h_.1 | (repeat' (first | exact h_ | exact h_.1 | exact h_.2 | exact h_.1.1 | exact h_.1.2 | exact h_.2.1 | exact h_.2.2 | exact h_.1.1.1 | exact h_.1.1.2 | exact h_.1.2.1 | exact h_.1.2.2 | exact True.intro | apply And.intro))))) hb); have n2_ := Aside0.mk (Kd.R_below (by (with_reducible repeat (first | apply Kd.R_alloc | apply Kd.R_drewN | apply Kd.R_drew)); exact (Kd.R_mono (Kd.R_far (p := ⟨gb552, 1, none⟩) (Kd.R_far (p := ⟨gb552, 0, none⟩) (Kd.R_mono HO_53.out (fun k_ hk => (⟨hk, hk.2⟩ : _ ∧ k_ ≠ gb552))) (fun _ hk => hk.2) (.int .i64 ((rd_T29 t543 x55_2).f0))) (fun _ hk => hk.2) (.int .i64 ((rd_T29 t543 x55_2).f1))) (fun _ h_ => by first | exact h_.1 | (repeat' (first | exact h_ | exact h_.1 | exact h_.2 | exact h_.1.1 | exact h_.1.2 | exact h_.2.1 | exact h_.2.2 | exact h_.1.1.1 | exact h_.1.1.2 | exact h_.1.2.1 | exact h_.1.2.2 | exact True.intro | apply And.intro))))) hb); have n3_ := Aside0.mk (blk_below (g := gb552) (o := .cells #[.int .i64 ((rd_T29 t543 x55_2).f0), .int .i64 ((rd_T29 t543 x55_2).f1)] 29 (0, 0)) (by (with_reducible repeat (first | refine blk_drewN ?_ _ | refine blk_drew ?_ | refine blk_alloc ?_ _)); refine blk_put (cs := #[.int .i64 ((rd_T29 t543 x55_2).f0), .int .i64 0]) ?_ 1 _ rfl; (with_reducible repeat (first | refine blk_drewN ?_ _ | refine blk_drew ?_ | refine blk_alloc ?_ _)); refine blk_put (cs := #[.int .i64 0, .int .i64 0]) ?_ 0 _ rfl; (with_reducible repeat (first | refine blk_drewN ?_ _ | refine blk_drew ?_ | refine blk_alloc ?_ _)); exact BK552.out) hb); have n4_ := Aside0.mk (below_step (by repeat (first | (with_reducible first | exact HB.out | apply below_alloc | apply pw_below_drewN | apply below_drew1 | refine below_set ?_ GE552.out) | exact HB.out)) hb); clear HO_0; clear HO_10; clear HO_53; clear BK552; clear HB; have HO_0 := n0_; have HO_10 := n1_; have HO_53 := n2_; have BK552 := n3_; have HB := n4_; clear n0_ n1_ n2_ n3_ n4_; (try clear hb); (try clear hb2); (try clear hk); (try clear hi)) | ((with_reducible refine gate_dst (N := 14) rfl ?_); refine box_event ?hg (N := 14) ?hd (cs := #[.int .i64 0, .int .i64 0]) (t := 29) ?hr ?_; (case hd => rfl); (case hg => rfl); (case hr => first | (go_simp; done) | (go_simp; rfl)); intro gb556 hg w30 hbox hb; have n0_ := Aside0.mk (Kd.R_below (by (with_reducible repeat (first | apply Kd.R_alloc | apply Kd.R_drewN | apply Kd.R_drew)); exact HO_0.out) hb); have n1_ := Aside0.mk (Kd.R_below (Kd.R_elderB (by (with_reducible repeat (first | apply Kd.R_alloc | apply Kd.R_drewN | apply Kd.R_drew)); exact HO_10.out) gb556 (Nat.le_of_eq hg.symm)) hb); have n2_ := Aside0.mk (Kd.R_below (Kd.R_elderB (by (with_reducible repeat (first | apply Kd.R_alloc | apply Kd.R_drewN | apply Kd.R_drew)); exact HO_53.out) gb556 (Nat.le_of_eq hg.symm)) hb); have n3_ := Aside0.mk (blk_below (g := gb552) (o := .cells #[.int .i64 ((rd_T29 t543 x55_2).f0), .int .i64 ((rd_T29 t543 x55_2).f1)] 29 (0, 0)) (by (with_reducible repeat (first | refine blk_drewN ?_ _ | refine blk_drew ?_ | refine blk_alloc ?_ _)); exact BK552.out) hb); have n4_ := Aside0.mk (below_step (by repeat (first | (with_reducible first | exact HB.out | apply below_alloc | apply pw_below_drewN | apply below_drew1 | refine below_set ?_ GE552.out) | exact HB.out)) hb); have n5_ := Aside0.mk (hbox); have n6_ := Aside0.mk ((by rw [hg]; exact (below_size (by repeat (first | (with_reducible first | exact HB.out | apply below_alloc | apply pw_below_drewN | apply below_drew1 | refine below_set ?_ GE552.out) | exact HB.out))) : w.heap.size ≤ gb556)); have n7_ := Aside0.mk ((by rw [hg]; exact (below_size (by repeat (first | (with_reducible first | exact HB.out | apply below_alloc | apply pw_below_drewN | apply below_drew1 | refine below_set ?_ GE552.out) | exact HB.out))) : w.heap.size ≤ gb556)); have n8_ := Aside0.mk ((by rw [hg]; exact Nat.ne_of_lt (blk_lt (g := gb552) (o := .cells #[.int .i64 ((rd_T29 t543 x55_2).f0), .int .i64 ((rd_T29 t543 x55_2).f1)] 29 (0, 0)) (by (with_reducible repeat (first | refine blk_drewN ?_ _ | refine blk_drew ?_ | refine blk_alloc ?_ _)); exact BK552.out)) : gb552 ≠ gb556)); have n9_ := Aside0.mk ((by rw [hg]; exact Nat.ne_of_gt (blk_lt (g := gb552) (o := .cells #[.int .i64 ((rd_T29 t543 x55_2).f0), .int .i64 ((rd_T29 t543 x55_2).f1)] 29 (0, 0)) (by (with_reducible repeat (first | refine blk_drewN ?_ _ | refine blk_drew ?_ | refine blk_alloc ?_ _)); exact BK552.out)) : gb556 ≠ gb552)); clear HO_0; clear HO_10; clear HO_53; clear BK552; clear HB; have HO_0 := n0_; have HO_10 := n1_; have HO_53 := n2_; have BK552 := n3_; have HB := n4_; have BK556 := n5_; have GW556 := n6_; have GE556 := n7_; have NB552_556 := n8_; have NB556_552 := n9_; clear n0_ n1_ n2_ n3_ n4_ n5_ n6_ n7_ n8_ n9_; clear hb hbox hg; have hnb31 := NB556_552.out; have hnc31 := NB552_556.out; have hcz32_0 : w30.cell? ⟨gb556, 0, none⟩ = some (.int .i64 0) := (blk_cell BK556.out 0).trans rfl; have hcz32_1 : w30.cell? ⟨gb556, 1, none⟩ = some (.int .i64 0) := (blk_cell BK556.out 1).trans rfl; have hfz32_0 := blk_frozen BK556.out 0; have hfz32_1 := blk_frozen BK556.out 1; have hcz33_0 : w30.cell? ⟨gb552, 0, none⟩ = some (.int .i64 ((rd_T29 t543 x55_2).f0)) := (blk_cell BK552.out 0).trans rfl; have hcz33_1 : w30.cell? ⟨gb552, 1, none⟩ = some (.int .i64 ((rd_T29 t543 x55_2).f1)) := (blk_cell BK552.out 1).trans rfl; have hfz33_0 := blk_frozen BK552.out 0; have hfz33_1 := blk_frozen BK552.out 1) | ((with_reducible refine gate_callee (f := 29) rfl ?_); refine goesL_ (some 74) rfl rfl Try.func29 (by kernel_rfl) rfl #[.slice Ao14 t538.length co14, .int .i64 (wrap64 (Int.tdiv (wrap64 (((rd_T29 t543 x55_2).f0) + ((rd_T29 t543 x55_2).f1))) 2))] rfl (by (try simp only [List.map_toArray, List.map_cons, List.map_nil]); first | done | rfl | (simp only [List.length_drop, List.length_take]; rfl)) ?_; (with_reducible refine (tide_Height.calls k2 _ _ t538 (wrap64 (Int.tdiv (wrap64 (((rd_T29 t543 x55_2).f0) + ((rd_T29 t543 x55_2).f1))) 2)) t557 t558 t559 _ ?side1 ?side2 A24.out).mono ?_); (case side1 => refine (Kd.R_reads' (e := 48) (base := w.heap.size) (ok := fun k_ => True) (n := t538.length) (c := co14) ?_).2.2; exact (by (with_reducible repeat (first | apply Kd.R_alloc | apply Kd.R_drewN | apply Kd.R_drew)); exact (Kd.R_mono (Kd.R_far (p := ⟨gb556, 1, none⟩) (Kd.R_far (p := ⟨gb556, 0, none⟩) (Kd.R_types HO_0.out BK556.out (by decide)) (fun _ hk => hk.2) (.int .i64 t553)) (fun _ hk => hk.2) (.int .i64 t554)) (fun _ h_ => by first | exact h_.1 | (repeat' (first | exact h_ | exact h_.1 | exact h_.2 | exact h_.1.1 | exact h_.1.2 | exact h_.2.1 | exact h_.2.2 | exact h_.1.1.1 | exact h_.1.1.2 | exact h_.1.2.1 | exact h_.1.2.2 | exact True.intro | apply And.intro)))))); (case side2 => exact (Kd.R_reads' HO_0.out).2.1); rintro e w34 ⟨rfl, hb⟩; refine ⟨_, rfl, ?_⟩; have n0_ := Aside0.mk (Kd.R_below (by (with_reducible repeat (first | apply Kd.R_alloc | apply Kd.R_drewN | apply Kd.R_drew)); exact (Kd.R_mono (Kd.R_far (p := ⟨gb556, 1, none⟩) (Kd.R_far (p := ⟨gb556, 0, none⟩) (Kd.R_types HO_0.out BK556.out (by decide)) (fun _ hk => hk.2) (.int .i64 t553)) (fun _ hk => hk.2) (.int .i64 t554)) (fun _ h_ => by first | exact h_.1 | (repeat' (first | exact h_ | exact h_.1 | exact h_.2 | exact h_.1.1 | exact h_.1.2 | exact h_.2.1 | exact h_.2.2 | exact h_.1.1.1 | exact h_.1.1.2 | exact h_.1.2.1 | exact h_.1.2.2 | exact True.intro | apply And.intro))))) hb); have n1_ := Aside0.mk (Kd.R_below (by (with_reducible repeat (first | apply Kd.R_alloc | apply Kd.R_drewN | apply Kd.R_drew)); exact (Kd.R_mono (Kd.R_far (p := ⟨gb556, 1, none⟩) (Kd.R_far (p := ⟨gb556, 0, none⟩) (Kd.R_mono HO_10.out (fun k_ hk => (⟨hk, hk.2⟩ : _ ∧ k_ ≠ gb556))) (fun _ hk => hk.2) (.int .i64 t553)) (fun _ hk => hk.2) (.int .i64 t554)) (fun _ h_ => by first | exact h_.1 | (repeat' (first | exact h_ | exact h_.1 | exact h_.2 | exact h_.1.1 | exact h_.1.2 | exact h_.2.1 | exact h_.2.2 | exact h_.1.1.1 | exact h_.1.1.2 | exact h_.1.2.1 | exact h_.1.2.2 | exact True.intro | apply And.intro))))) hb); have n2_ := Aside0.mk (Kd.R_below (by (with_reducible repeat (first | apply Kd.R_alloc | apply Kd.R_drewN | apply Kd.R_drew)); exact (Kd.R_mono (Kd.R_far (p := ⟨gb556, 1, none⟩) (Kd.R_far (p := ⟨gb556, 0, none⟩) (Kd.R_mono HO_53.out (fun k_ hk => (⟨hk, hk.2⟩ : _ ∧ k_ ≠ gb556))) (fun _ hk => hk.2) (.int .i64 t553)) (fun _ hk => hk.2) (.int .i64 t554)) (fun _ h_ => by first | exact h_.1 | (repeat' (first | exact h_ | exact h_.1 | exact h_.2 | exact h_.1.1 | exact h_.1.2 | exact h_.2.1 | exact h_.2.2 | exact h_.1.1.1 | exact h_.1.1.2 | exact h_.1.2.1 | exact h_.1.2.2 | exact True.intro | apply And.intro))))) hb); have n3_ := Aside0.mk (blk_below (g := gb552) (o := .cells #[.int .i64 ((rd_T29 t543 x55_2).f0), .int .i64 ((rd_T29 t543 x55_2).f1)] 29 (0, 0)) (by (with_reducible repeat (first | refine blk_drewN ?_ _ | refine blk_drew ?_ | refine blk_alloc ?_ _)); refine blk_far ?_ NB552_556.out _; (with_reducible repeat (first | refine blk_drewN ?_ _ | refine blk_drew ?_ | refine blk_alloc ?_ _)); refine blk_far ?_ NB552_556.out _; (with_reducible repeat (first | refine blk_drewN ?_ _ | refine blk_drew ?_ | refine blk_alloc ?_ _)); exact BK552.out) hb); have n4_ := Aside0.mk (blk_below (g := gb556) (o := .cells #[.int .i64 t553, .int .i64 t554] 29 (0, 0)) (by (with_reducible repeat (first | refine blk_drewN ?_ _ | refine blk_drew ?_ | refine blk_alloc ?_ _)); refine blk_put (cs := #[.int .i64 t553, .int .i64 0]) ?_ 1 _ rfl; (with_reducible repeat (first | refine blk_drewN ?_ _ | refine blk_drew ?_ | refine blk_alloc ?_ _)); refine blk_put (cs := #[.int .i64 0, .int .i64 0]) ?_ 0 _ rfl; (with_reducible repeat (first | refine blk_drewN ?_ _ | refine blk_drew ?_ | refine blk_alloc ?_ _)); exact BK556.out) hb); have n5_ := Aside0.mk (below_step (by repeat (first | (with_reducible first | exact HB.out | apply below_alloc | apply pw_below_drewN | apply below_drew1 | refine below_set ?_ GE552.out | refine below_set ?_ GE556.out) | exact HB.out)) hb); clear HO_0; clear HO_10; clear HO_53; clear BK552; clear BK556; clear HB; have HO_0 := n0_; have HO_10 := n1_; have HO_53 := n2_; have BK552 := n3_; have BK556 := n4_; have HB := n5_; clear n0_ n1_ n2_ n3_ n4_ n5_; (try clear hb); (try clear hb2); (try clear hk); (try clear hi)) | ((with_reducible refine gate_dst (N := 16) rfl ?_); refine box_event ?hg (N := 16) ?hd (cs := #[.int .i64 0, .int .i64 0]) (t := 29) ?hr ?_; (case hd => rfl); (case hg => rfl); (case hr => first | (go_simp; done) | (go_simp; rfl)); intro gb560 hg w35 hbox hb; have n0_ := Aside0.mk (Kd.R_below (by (with_reducible repeat (first | apply Kd.R_alloc | apply Kd.R_drewN | apply Kd.R_drew)); exact HO_0.out) hb); have n1_ := Aside0.mk (Kd.R_below (Kd.R_elderB (by (with_reducible repeat (first | apply Kd.R_alloc | apply Kd.R_drewN | apply Kd.R_drew)); exact HO_10.out) gb560 (Nat.le_of_eq hg.symm)) hb); have n2_ := Aside0.mk (Kd.R_below (Kd.R_elderB (by (with_reducible repeat (first | apply Kd.R_alloc | apply Kd.R_drewN | apply Kd.R_drew)); exact HO_53.out) gb560 (Nat.le_of_eq hg.symm)) hb); have n3_ := Aside0.mk (blk_below (g := gb552) (o := .cells #[.int .i64 ((rd_T29 t543 x55_2).f0), .int .i64 ((rd_T29 t543 x55_2).f1)] 29 (0, 0)) (by (with_reducible repeat (first | refine blk_drewN ?_ _ | refine blk_drew ?_ | refine blk_alloc ?_ _)); exact BK552.out) hb); have n4_ := Aside0.mk (blk_below (g := gb556) (o := .cells #[.int .i64 t553, .int .i64 t554] 29 (0, 0)) (by (with_reducible repeat (first | refine blk_drewN ?_ _ | refine blk_drew ?_ | refine blk_alloc ?_ _)); exact BK556.out) hb); have n5_ := Aside0.mk (below_step (by repeat (first | (with_reducible first | exact HB.out | apply below_alloc | apply pw_below_drewN | apply below_drew1 | refine below_set ?_ GE552.out | refine below_set ?_ GE556.out) | exact HB.out)) hb); have n6_ := Aside0.mk (hbox); have n7_ := Aside0.mk ((by rw [hg]; exact (below_size (by repeat (first | (with_reducible first | exact HB.out | apply below_alloc | apply pw_below_drewN | apply below_drew1 | refine below_set ?_ GE552.out | refine below_set ?_ GE556.out) | exact HB.out))) : w.heap.size ≤ gb560)); have n8_ := Aside0.mk ((by rw [hg]; exact (below_size (by repeat (first | (with_reducible first | exact HB.out | apply below_alloc | apply pw_below_drewN | apply below_drew1 | refine below_set ?_ GE552.out | refine below_set ?_ GE556.out) | exact HB.out))) : w.heap.size ≤ gb560)); have n9_ := Aside0.mk ((by rw [hg]; exact Nat.ne_of_lt (blk_lt (g := gb552) (o := .cells #[.int .i64 ((rd_T29 t543 x55_2).f0), .int .i64 ((rd_T29 t543 x55_2).f1)] 29 (0, 0)) (by (with_reducible repeat (first | refine blk_drewN ?_ _ | refine blk_drew ?_ | refine blk_alloc ?_ _)); exact BK552.out)) : gb552 ≠ gb560)); have n10_ := Aside0.mk ((by rw [hg]; exact Nat.ne_of_gt (blk_lt (g := gb552) (o := .cells #[.int .i64 ((rd_T29 t543 x55_2).f0), .int .i64 ((rd_T29 t543 x55_2).f1)] 29 (0, 0)) (by (with_reducible repeat (first | refine blk_drewN ?_ _ | refine blk_drew ?_ | refine blk_alloc ?_ _)); exact BK552.out)) : gb560 ≠ gb552)); have n11_ := Aside0.mk ((by rw [hg]; exact Nat.ne_of_lt (blk_lt (g := gb556) (o := .cells #[.int .i64 t553, .int .i64 t554] 29 (0, 0)) (by (with_reducible repeat (first | refine blk_drewN ?_ _ | refine blk_drew ?_ | refine blk_alloc ?_ _)); exact BK556.out)) : gb556 ≠ gb560)); have n12_ := Aside0.mk ((by rw [hg]; exact Nat.ne_of_gt (blk_lt (g := gb556) (o := .cells #[.int .i64 t553, .int .i64 t554] 29 (0, 0)) (by (with_reducible repeat (first | refine blk_drewN ?_ _ | refine blk_drew ?_ | refine blk_alloc ?_ _)); exact BK556.out)) : gb560 ≠ gb556)); clear HO_0; clear HO_10; clear HO_53; clear BK552; clear BK556; clear HB; have HO_0 := n0_; have HO_10 := n1_; have HO_53 := n2_; have BK552 := n3_; have BK556 := n4_; have HB := n5_; have BK560 := n6_; have GW560 := n7_; have GE560 := n8_; have NB552_560 := n9_; have NB560_552 := n10_; have NB556_560 := n11_; have NB560_556 := n12_; clear n0_ n1_ n2_ n3_ n4_ n5_ n6_ n7_ n8_ n9_ n10_ n11_ n12_; clear hb hbox hg; have hnb36 := NB560_552.out; have hnc36 := NB552_560.out; have hnb37 := NB560_556.out; have hnc37 := NB556_560.out; have hcz38_0 : w35.cell? ⟨gb560, 0, none⟩ = some (.int .i64 0) := (blk_cell BK560.out 0).trans rfl; have hcz38_1 : w35.cell? ⟨gb560, 1, none⟩ = some (.int .i64 0) := (blk_cell BK560.out 1).trans rfl; have hfz38_0 := blk_frozen BK560.out 0; have hfz38_1 := blk_frozen BK560.out 1; have hcz39_0 : w35.cell? ⟨gb552, 0, none⟩ = some (.int .i64 ((rd_T29 t543 x55_2).f0)) := (blk_cell BK552.out 0).trans rfl; have hcz39_1 : w35.cell? ⟨gb552, 1, none⟩ = some (.int .i64 ((rd_T29 t543 x55_2).f1)) := (blk_cell BK552.out 1).trans rfl; have hfz39_0 := blk_frozen BK552.out 0; have hfz39_1 := blk_frozen BK552.out 1) | ((with_reducible refine gate_callee (f := 29) rfl ?_); refine goesL_ (some 81) rfl rfl Try.func29 (by kernel_rfl) rfl #[.slice Ao14 t538.length co14, .int .i64 ((rd_T29 t543 x55_2).f1)] rfl (by (try simp only [List.map_toArray, List.map_cons, List.map_nil]); first | done | rfl | (simp only [List.length_drop, List.length_take]; rfl)) ?_; (with_reducible refine (tide_Height.calls k2 _ _ t538 ((rd_T29 t543 x55_2).f1) t561 t562 t563 _ ?side1 ?side2 A25.out).mono ?_); (case side1 => refine (Kd.R_reads' (e := 48) (base := w.heap.size) (ok := fun k_ => True) (n := t538.length) (c := co14) ?_).2.2; exact (by (with_reducible repeat (first | apply Kd.R_alloc | apply Kd.R_drewN | apply Kd.R_drew)); exact (Kd.R_mono (Kd.R_far (p := ⟨gb560, 1, none⟩) (Kd.R_far (p := ⟨gb560, 0, none⟩) (Kd.R_types HO_0.out BK560.out (by decide)) (fun _ hk => hk.2) (.int .i64 t557)) (fun _ hk => hk.2) (.int .i64 t558)) (fun _ h_ => by first | exact h_.1 | (repeat' (first | exact h_ | exact h_.1 | exact h_.2 | exact h_.1.1 | exact h_.1.2 | exact h_.2.1 | exact h_.2.2 | exact h_.1.1.1 | exact h_.1.1.2 | exact h_.1.2.1 | exact h_.1.2.2 | exact True.intro | apply And.intro)))))); (case side2 => exact (Kd.R_reads' HO_0.out).2.1); rintro e w40 ⟨rfl, hb⟩; refine ⟨_, rfl, ?_⟩; have n0_ := Aside0.mk (Kd.R_below (by (with_reducible repeat (first | apply Kd.R_alloc | apply Kd.R_drewN | apply Kd.R_drew)); exact (Kd.R_mono (Kd.R_far (p := ⟨gb560, 1, none⟩) (Kd.R_far (p := ⟨gb560, 0, none⟩) (Kd.R_types HO_0.out BK560.out (by decide)) (fun _ hk => hk.2) (.int .i64 t557)) (fun _ hk => hk.2) (.int .i64 t558)) (fun _ h_ => by first | exact h_.1 | (repeat' (first | exact h_ | exact h_.1 | exact h_.2 | exact h_.1.1 | exact h_.1.2 | exact h_.2.1 | exact h_.2.2 | exact h_.1.1.1 | exact h_.1.1.2 | exact h_.1.2.1 | exact h_.1.2.2 | exact True.intro | apply And.intro))))) hb); have n1_ := Aside0.mk (Kd.R_below (by (with_reducible repeat (first | apply Kd.R_alloc | apply Kd.R_drewN | apply Kd.R_drew)); exact (Kd.R_mono (Kd.R_far (p := ⟨gb560, 1, none⟩) (Kd.R_far (p := ⟨gb560, 0, none⟩) (Kd.R_mono HO_10.out (fun k_ hk => (⟨hk, hk.2⟩ : _ ∧ k_ ≠ gb560))) (fun _ hk => hk.2) (.int .i64 t557)) (fun _ hk => hk.2) (.int .i64 t558)) (fun _ h_ => by first | exact h_.1 | (repeat' (first | exact h_ | exact h_.1 | exact h_.2 | exact h_.1.1 | exact h_.1.2 | exact h_.2.1 | exact h_.2.2 | exact h_.1.1.1 | exact h_.1.1.2 | exact h_.1.2.1 | exact h_.1.2.2 | exact True.intro | apply And.intro))))) hb); have n2_ := Aside0.mk (Kd.R_below (by (with_reducible repeat (first | apply Kd.R_alloc | apply Kd.R_drewN | apply Kd.R_drew)); exact (Kd.R_mono (Kd.R_far (p := ⟨gb560, 1, none⟩) (Kd.R_far (p := ⟨gb560, 0, none⟩) (Kd.R_mono HO_53.out (fun k_ hk => (⟨hk, hk.2⟩ : _ ∧ k_ ≠ gb560))) (fun _ hk => hk.2) (.int .i64 t557)) (fun _ hk => hk.2) (.int .i64 t558)) (fun _ h_ => by first | exact h_.1 | (repeat' (first | exact h_ | exact h_.1 | exact h_.2 | exact h_.1.1 | exact h_.1.2 | exact h_.2.1 | exact h_.2.2 | exact h_.1.1.1 | exact h_.1.1.2 | exact h_.1.2.1 | exact h_.1.2.2 | exact True.intro | apply And.intro))))) hb); have n3_ := Aside0.mk (blk_below (g := gb552) (o := .cells #[.int .i64 ((rd_T29 t543 x55_2).f0), .int .i64 ((rd_T29 t543 x55_2).f1)] 29 (0, 0)) (by (with_reducible repeat (first | refine blk_drewN ?_ _ | refine blk_drew ?_ | refine blk_alloc ?_ _)); refine blk_far ?_ NB552_560.out _; (with_reducible repeat (first | refine blk_drewN ?_ _ | refine blk_drew ?_ | refine blk_alloc ?_ _)); refine blk_far ?_ NB552_560.out _; (with_reducible repeat (first | refine blk_drewN ?_ _ | refine blk_drew ?_ | refine blk_alloc ?_ _)); exact BK552.out) hb); have n4_ := Aside0.mk (blk_below (g := gb556) (o := .cells #[.int .i64 t553, .int .i64 t554] 29 (0, 0)) (by (with_reducible repeat (first | refine blk_drewN ?_ _ | refine blk_drew ?_ | refine blk_alloc ?_ _)); refine blk_far ?_ NB556_560.out _; (with_reducible repeat (first | refine blk_drewN ?_ _ | refine blk_drew ?_ | refine blk_alloc ?_ _)); refine blk_far ?_ NB556_560.out _; (with_reducible repeat (first | refine blk_drewN ?_ _ | refine blk_drew ?_ | refine blk_alloc ?_ _)); exact BK556.out) hb); have n5_ := Aside0.mk (blk_below (g := gb560) (o := .cells #[.int .i64 t557, .int .i64 t558] 29 (0, 0)) (by (with_reducible repeat (first | refine blk_drewN ?_ _ | refine blk_drew ?_ | refine blk_alloc ?_ _)); refine blk_put (cs := #[.int .i64 t557, .int .i64 0]) ?_ 1 _ rfl; (with_reducible repeat (first | refine blk_drewN ?_ _ | refine blk_drew ?_ | refine blk_alloc ?_ _)); refine blk_put (cs := #[.int .i64 0, .int .i64 0]) ?_ 0 _ rfl; (with_reducible repeat (first | refine blk_drewN ?_ _ | refine blk_drew ?_ | refine blk_alloc ?_ _)); exact BK560.out) hb); have n6_ := Aside0.mk (below_step (by repeat (first | (with_reducible first | exact HB.out | apply below_alloc | apply pw_below_drewN | apply below_drew1 | refine below_set ?_ GE552.out | refine below_set ?_ GE556.out | refine below_set ?_ GE560.out) | exact HB.out)) hb); clear HO_0; clear HO_10; clear HO_53; clear BK552; clear BK556; clear BK560; clear HB; have HO_0 := n0_; have HO_10 := n1_; have HO_53 := n2_; have BK552 := n3_; have BK556 := n4_; have BK560 := n5_; have HB := n6_; clear n0_ n1_ n2_ n3_ n4_ n5_ n6_; (try clear hb); (try clear hb2); (try clear hk); (try clear hi)) | ((with_reducible refine gate_dst (N := 18) rfl ?_); refine box_event ?hg (N := 18) ?hd (cs := #[.int .i64 0, .int .i64 0]) (t := 29) ?hr ?_; (case hd => rfl); (case hg => rfl); (case hr => first | (go_simp; done) | (go_simp; rfl)); intro gb564 hg w41 hbox hb; have n0_ := Aside0.mk (Kd.R_below (by (with_reducible repeat (first | apply Kd.R_alloc | apply Kd.R_drewN | apply Kd.R_drew)); exact HO_0.out) hb); have n1_ := Aside0.mk (Kd.R_below (Kd.R_elderB (by (with_reducible repeat (first | apply Kd.R_alloc | apply Kd.R_drewN | apply Kd.R_drew)); exact HO_10.out) gb564 (Nat.le_of_eq hg.symm)) hb); have n2_ := Aside0.mk (Kd.R_below (Kd.R_elderB (by (with_reducible repeat (first | apply Kd.R_alloc | apply Kd.R_drewN | apply Kd.R_drew)); exact HO_53.out) gb564 (Nat.le_of_eq hg.symm)) hb); have n3_ := Aside0.mk (blk_below (g := gb552) (o := .cells #[.int .i64 ((rd_T29 t543 x55_2).f0), .int .i64 ((rd_T29 t543 x55_2).f1)] 29 (0, 0)) (by (with_reducible repeat (first | refine blk_drewN ?_ _ | refine blk_drew ?_ | refine blk_alloc ?_ _)); exact BK552.out) hb); have n4_ := Aside0.mk (blk_below (g := gb556) (o := .cells #[.int .i64 t553, .int .i64 t554] 29 (0, 0)) (by (with_reducible repeat (first | refine blk_drewN ?_ _ | refine blk_drew ?_ | refine blk_alloc ?_ _)); exact BK556.out) hb); have n5_ := Aside0.mk (blk_below (g := gb560) (o := .cells #[.int .i64 t557, .int .i64 t558] 29 (0, 0)) (by (with_reducible repeat (first | refine blk_drewN ?_ _ | refine blk_drew ?_ | refine blk_alloc ?_ _)); exact BK560.out) hb); have n6_ := Aside0.mk (below_step (by repeat (first | (with_reducible first | exact HB.out | apply below_alloc | apply pw_below_drewN | apply below_drew1 | refine below_set ?_ GE552.out | refine below_set ?_ GE556.out | refine below_set ?_ GE560.out) | exact HB.out)) hb); have n7_ := Aside0.mk (hbox); have n8_ := Aside0.mk ((by rw [hg]; exact (below_size (by repeat (first | (with_reducible first | exact HB.out | apply below_alloc | apply pw_below_drewN | apply below_drew1 | refine below_set ?_ GE552.out | refine below_set ?_ GE556.out | refine below_set ?_ GE560.out) | exact HB.out))) : w.heap.size ≤ gb564)); have n9_ := Aside0.mk ((by rw [hg]; exact (below_size (by repeat (first | (with_reducible first | exact HB.out | apply below_alloc | apply pw_below_drewN | apply below_drew1 | refine below_set ?_ GE552.out | refine below_set ?_ GE556.out | refine below_set ?_ GE560.out) | exact HB.out))) : w.heap.size ≤ gb564)); have n10_ := Aside0.mk ((by rw [hg]; exact Nat.ne_of_lt (blk_lt (g := gb552) (o := .cells #[.int .i64 ((rd_T29 t543 x55_2).f0), .int .i64 ((rd_T29 t543 x55_2).f1)] 29 (0, 0)) (by (with_reducible repeat (first | refine blk_drewN ?_ _ | refine blk_drew ?_ | refine blk_alloc ?_ _)); exact BK552.out)) : gb552 ≠ gb564)); have n11_ := Aside0.mk ((by rw [hg]; exact Nat.ne_of_gt (blk_lt (g := gb552) (o := .cells #[.int .i64 ((rd_T29 t543 x55_2).f0), .int .i64 ((rd_T29 t543 x55_2).f1)] 29 (0, 0)) (by (with_reducible repeat (first | refine blk_drewN ?_ _ | refine blk_drew ?_ | refine blk_alloc ?_ _)); exact BK552.out)) : gb564 ≠ gb552)); have n12_ := Aside0.mk ((by rw [hg]; exact Nat.ne_of_lt (blk_lt (g := gb556) (o := .cells #[.int .i64 t553, .int .i64 t554] 29 (0, 0)) (by (with_reducible repeat (first | refine blk_drewN ?_ _ | refine blk_drew ?_ | refine blk_alloc ?_ _)); exact BK556.out)) : gb556 ≠ gb564)); have n13_ := Aside0.mk ((by rw [hg]; exact Nat.ne_of_gt (blk_lt (g := gb556) (o := .cells #[.int .i64 t553, .int .i64 t554] 29 (0, 0)) (by (with_reducible repeat (first | refine blk_drewN ?_ _ | refine blk_drew ?_ | refine blk_alloc ?_ _)); exact BK556.out)) : gb564 ≠ gb556)); have n14_ := Aside0.mk ((by rw [hg]; exact Nat.ne_of_lt (blk_lt (g := gb560) (o := .cells #[.int .i64 t557, .int .i64 t558] 29 (0, 0)) (by (with_reducible repeat (first | refine blk_drewN ?_ _ | refine blk_drew ?_ | refine blk_alloc ?_ _)); exact BK560.out)) : gb560 ≠ gb564)); have n15_ := Aside0.mk ((by rw [hg]; exact Nat.ne_of_gt (blk_lt (g := gb560) (o := .cells #[.int .i64 t557, .int .i64 t558] 29 (0, 0)) (by (with_reducible repeat (first | refine blk_drewN ?_ _ | refine blk_drew ?_ | refine blk_alloc ?_ _)); exact BK560.out)) : gb564 ≠ gb560)); clear HO_0; clear HO_10; clear HO_53; clear BK552; clear BK556; clear BK560; clear HB; have HO_0 := n0_; have HO_10 := n1_; have HO_53 := n2_; have BK552 := n3_; have BK556 := n4_; have BK560 := n5_; have HB := n6_; have BK564 := n7_; have GW564 := n8_; have GE564 := n9_; have NB552_564 := n10_; have NB564_552 := n11_; have NB556_564 := n12_; have NB564_556 := n13_; have NB560_564 := n14_; have NB564_560 := n15_; clear n0_ n1_ n2_ n3_ n4_ n5_ n6_ n7_ n8_ n9_ n10_ n11_ n12_ n13_ n14_ n15_; clear hb hbox hg; have hnb42 := NB564_552.out; have hnc42 := NB552_564.out; have hnb43 := NB564_556.out; have hnc43 := NB556_564.out; have hnb44 := NB564_560.out; have hnc44 := NB560_564.out; have hcz45_0 : w41.cell? ⟨gb564, 0, none⟩ = some (.int .i64 0) := (blk_cell BK564.out 0).trans rfl; have hcz45_1 : w41.cell? ⟨gb564, 1, none⟩ = some (.int .i64 0) := (blk_cell BK564.out 1).trans rfl; have hfz45_0 := blk_frozen BK564.out 0; have hfz45_1 := blk_frozen BK564.out 1))
                    (try simp only [Act.put, List.setIfInBounds_toArray, List.set_cons_zero, List.set_cons_succ])
                    go_cut [95] (fun v95 wc => ∃ (kq : Nat) (x95_25 : Bool), v95 = .bool x95_25 ∧ Aside0 (ephemeriskeep2_TideTops.j2 kq t538 t547 t543 (t543.length : Int) x55_2 x95_25 ((rd_T29 t543 x55_2).f0) ((rd_T29 t543 x55_2).f1) = some r) ∧ Aside0 (kq ≤ k2) ∧ Aside0 (Kd.R k48 48 wc w.heap.size (fun _ => True) (.slice Ao14 t538.length co14) t538) ∧ Aside0 (Kd.R k29 29 wc w.heap.size (fun k_ => some k_ ≠ ((.slice (some ad551) t543.length co19) : Value).ownBlock ∧ k_ ≠ gb552 ∧ k_ ≠ gb556 ∧ k_ ≠ gb560 ∧ k_ ≠ gb564) v549 t547) ∧ Aside0 (Kd.R k29 29 wc w.heap.size (fun k_ => some k_ ≠ (v549 : Value).ownBlock ∧ k_ ≠ gb552 ∧ k_ ≠ gb556 ∧ k_ ≠ gb560 ∧ k_ ≠ gb564) (.slice (some ad551) t543.length co19) t543) ∧ Aside0 (wc.heap[gb552]? = some (.cells #[.int .i64 ((rd_T29 t543 x55_2).f0), .int .i64 ((rd_T29 t543 x55_2).f1)] 29 (0, 0))) ∧ Aside0 (wc.heap[gb556]? = some (.cells #[.int .i64 t553, .int .i64 t554] 29 (0, 0))) ∧ Aside0 (wc.heap[gb560]? = some (.cells #[.int .i64 t557, .int .i64 t558] 29 (0, 0))) ∧ Aside0 (wc.heap[gb564]? = some (.cells #[.int .i64 t561, .int .i64 t562] 29 (0, 0))) ∧ Aside0 (Below w.heap.size w wc))
                    case first =>
                      have H := HC26.out
                      clear HC26
                      by_cases c46 : t557 ≤ t554
                      · rw [if_pos c46] at H
                        have c46b0 : decide (t557 ≤ t554) = true := decide_eq_true c46
                        clear c46
                        (first | rw [c46b0] | (simp only [i64_w, i32_w]; rw [c46b0]) | skip)
                        have H' := Aside0.mk H
                        clear H
                        have hnb47 := NB560_552.out
                        have hnc47 := NB552_560.out
                        have hnb48 := NB560_556.out
                        have hnc48 := NB556_560.out
                        have hnb49 := NB560_564.out
                        have hnc49 := NB564_560.out
                        have hcz50_0 : w41.cell? ⟨gb560, 0, none⟩ = some (.int .i64 t557) := (blk_cell BK560.out 0).trans rfl
                        have hcz50_1 : w41.cell? ⟨gb560, 1, none⟩ = some (.int .i64 t558) := (blk_cell BK560.out 1).trans rfl
                        have hfz50_0 := blk_frozen BK560.out 0
                        have hfz50_1 := blk_frozen BK560.out 1
                        have hnb51 := NB556_552.out
                        have hnc51 := NB552_556.out
                        have hnb52 := NB556_564.out
                        have hnc52 := NB564_556.out
                        have hcz53_0 : w41.cell? ⟨gb556, 0, none⟩ = some (.int .i64 t553) := (blk_cell BK556.out 0).trans rfl
                        have hcz53_1 : w41.cell? ⟨gb556, 1, none⟩ = some (.int .i64 t554) := (blk_cell BK556.out 1).trans rfl
                        have hfz53_0 := blk_frozen BK556.out 0
                        have hfz53_1 := blk_frozen BK556.out 1
                        go_wp2
                        go_meet
                        case rel => exact ⟨_, (true), (by first | rfl | (simp; done) | (simp [*]; done)), H', ⟨by have := HJ10.out; have := HK2.out; first | omega | exact Nat.le_refl _⟩, ⟨by (with_reducible repeat (first | apply Kd.R_alloc | apply Kd.R_drewN | apply Kd.R_drew)); exact Kd.R_mono (Kd.R_far (p := ⟨gb564, 1, none⟩) (Kd.R_far (p := ⟨gb564, 0, none⟩) (Kd.R_types HO_0.out BK564.out (by decide)) (fun _ hk => hk.2) (.int .i64 t561)) (fun _ hk => hk.2) (.int .i64 t562)) (fun _ hk => trivial)⟩, ⟨by (with_reducible repeat (first | apply Kd.R_alloc | apply Kd.R_drewN | apply Kd.R_drew)); exact Kd.R_mono (Kd.R_far (p := ⟨gb564, 1, none⟩) (Kd.R_far (p := ⟨gb564, 0, none⟩) (Kd.R_mono HO_10.out (fun k_ hk => (⟨hk, hk.2⟩ : _ ∧ k_ ≠ gb564))) (fun _ hk => hk.2) (.int .i64 t561)) (fun _ hk => hk.2) (.int .i64 t562)) (fun _ hk => by first | exact ⟨hk.1.1.1.1.1, ⟨hk.1.1.1.1.2, ⟨hk.1.1.1.2, ⟨hk.1.1.2, hk.1.2⟩⟩⟩⟩ | (repeat' (first | exact hk | exact hk.1 | exact hk.2 | exact hk.1.1 | exact hk.1.2 | exact hk.2.1 | exact hk.2.2 | exact hk.1.1.1 | exact hk.1.1.2 | exact hk.1.2.1 | exact hk.1.2.2 | exact True.intro | apply And.intro)))⟩, ⟨by (with_reducible repeat (first | apply Kd.R_alloc | apply Kd.R_drewN | apply Kd.R_drew)); exact Kd.R_mono (Kd.R_far (p := ⟨gb564, 1, none⟩) (Kd.R_far (p := ⟨gb564, 0, none⟩) (Kd.R_mono HO_53.out (fun k_ hk => (⟨hk, hk.2⟩ : _ ∧ k_ ≠ gb564))) (fun _ hk => hk.2) (.int .i64 t561)) (fun _ hk => hk.2) (.int .i64 t562)) (fun _ hk => by first | exact ⟨hk.1.1.1.1.1, ⟨hk.1.1.1.1.2, ⟨hk.1.1.1.2, ⟨hk.1.1.2, hk.1.2⟩⟩⟩⟩ | (repeat' (first | exact hk | exact hk.1 | exact hk.2 | exact hk.1.1 | exact hk.1.2 | exact hk.2.1 | exact hk.2.2 | exact hk.1.1.1 | exact hk.1.1.2 | exact hk.1.2.1 | exact hk.1.2.2 | exact True.intro | apply And.intro)))⟩, ⟨by (with_reducible repeat (first | refine blk_drewN ?_ _ | refine blk_drew ?_ | refine blk_alloc ?_ _)); refine blk_far ?_ NB552_564.out _; (with_reducible repeat (first | refine blk_drewN ?_ _ | refine blk_drew ?_ | refine blk_alloc ?_ _)); refine blk_far ?_ NB552_564.out _; (with_reducible repeat (first | refine blk_drewN ?_ _ | refine blk_drew ?_ | refine blk_alloc ?_ _)); exact BK552.out⟩, ⟨by (with_reducible repeat (first | refine blk_drewN ?_ _ | refine blk_drew ?_ | refine blk_alloc ?_ _)); refine blk_far ?_ NB556_564.out _; (with_reducible repeat (first | refine blk_drewN ?_ _ | refine blk_drew ?_ | refine blk_alloc ?_ _)); refine blk_far ?_ NB556_564.out _; (with_reducible repeat (first | refine blk_drewN ?_ _ | refine blk_drew ?_ | refine blk_alloc ?_ _)); exact BK556.out⟩, ⟨by (with_reducible repeat (first | refine blk_drewN ?_ _ | refine blk_drew ?_ | refine blk_alloc ?_ _)); refine blk_far ?_ NB560_564.out _; (with_reducible repeat (first | refine blk_drewN ?_ _ | refine blk_drew ?_ | refine blk_alloc ?_ _)); refine blk_far ?_ NB560_564.out _; (with_reducible repeat (first | refine blk_drewN ?_ _ | refine blk_drew ?_ | refine blk_alloc ?_ _)); exact BK560.out⟩, ⟨by (with_reducible repeat (first | refine blk_drewN ?_ _ | refine blk_drew ?_ | refine blk_alloc ?_ _)); refine blk_put (cs := #[.int .i64 t561, .int .i64 0]) ?_ 1 _ rfl; (with_reducible repeat (first | refine blk_drewN ?_ _ | refine blk_drew ?_ | refine blk_alloc ?_ _)); refine blk_put (cs := #[.int .i64 0, .int .i64 0]) ?_ 0 _ rfl; (with_reducible repeat (first | refine blk_drewN ?_ _ | refine blk_drew ?_ | refine blk_alloc ?_ _)); exact BK564.out⟩, ⟨by repeat (first | (with_reducible first | exact HB.out | apply below_alloc | apply pw_below_drewN | apply below_drew1 | refine below_set ?_ GE552.out | refine below_set ?_ GE556.out | refine below_set ?_ GE560.out | refine below_set ?_ GE564.out) | exact HB.out)⟩⟩
                      · rw [if_neg c46] at H
                        have c46b0 : decide (t557 ≤ t554) = false := decide_eq_false c46
                        clear c46
                        (first | rw [c46b0] | (simp only [i64_w, i32_w]; rw [c46b0]) | skip)
                        have H' := Aside0.mk H
                        clear H
                        have hnb54 := NB560_552.out
                        have hnc54 := NB552_560.out
                        have hnb55 := NB560_556.out
                        have hnc55 := NB556_560.out
                        have hnb56 := NB560_564.out
                        have hnc56 := NB564_560.out
                        have hcz57_0 : w41.cell? ⟨gb560, 0, none⟩ = some (.int .i64 t557) := (blk_cell BK560.out 0).trans rfl
                        have hcz57_1 : w41.cell? ⟨gb560, 1, none⟩ = some (.int .i64 t558) := (blk_cell BK560.out 1).trans rfl
                        have hfz57_0 := blk_frozen BK560.out 0
                        have hfz57_1 := blk_frozen BK560.out 1
                        have hnb58 := NB556_552.out
                        have hnc58 := NB552_556.out
                        have hnb59 := NB556_564.out
                        have hnc59 := NB564_556.out
                        have hcz60_0 : w41.cell? ⟨gb556, 0, none⟩ = some (.int .i64 t553) := (blk_cell BK556.out 0).trans rfl
                        have hcz60_1 : w41.cell? ⟨gb556, 1, none⟩ = some (.int .i64 t554) := (blk_cell BK556.out 1).trans rfl
                        have hfz60_0 := blk_frozen BK556.out 0
                        have hfz60_1 := blk_frozen BK556.out 1
                        have hnb61 := NB564_552.out
                        have hnc61 := NB552_564.out
                        have hcz62_0 : w41.cell? ⟨gb564, 0, none⟩ = some (.int .i64 0) := (blk_cell BK564.out 0).trans rfl
                        have hcz62_1 : w41.cell? ⟨gb564, 1, none⟩ = some (.int .i64 0) := (blk_cell BK564.out 1).trans rfl
                        have hfz62_0 := blk_frozen BK564.out 0
                        have hfz62_1 := blk_frozen BK564.out 1
                        go_wp2
                        go_meet
                        case rel => exact ⟨_, (decide (t557 ≤ t562)), (by first | rfl | (simp; done) | (simp [*]; done)), H', ⟨by have := HJ10.out; have := HK2.out; first | omega | exact Nat.le_refl _⟩, ⟨by (with_reducible repeat (first | apply Kd.R_alloc | apply Kd.R_drewN | apply Kd.R_drew)); exact Kd.R_mono (Kd.R_far (p := ⟨gb564, 1, none⟩) (Kd.R_far (p := ⟨gb564, 0, none⟩) (Kd.R_types HO_0.out BK564.out (by decide)) (fun _ hk => hk.2) (.int .i64 t561)) (fun _ hk => hk.2) (.int .i64 t562)) (fun _ hk => trivial)⟩, ⟨by (with_reducible repeat (first | apply Kd.R_alloc | apply Kd.R_drewN | apply Kd.R_drew)); exact Kd.R_mono (Kd.R_far (p := ⟨gb564, 1, none⟩) (Kd.R_far (p := ⟨gb564, 0, none⟩) (Kd.R_mono HO_10.out (fun k_ hk => (⟨hk, hk.2⟩ : _ ∧ k_ ≠ gb564))) (fun _ hk => hk.2) (.int .i64 t561)) (fun _ hk => hk.2) (.int .i64 t562)) (fun _ hk => by first | exact ⟨hk.1.1.1.1.1, ⟨hk.1.1.1.1.2, ⟨hk.1.1.1.2, ⟨hk.1.1.2, hk.1.2⟩⟩⟩⟩ | (repeat' (first | exact hk | exact hk.1 | exact hk.2 | exact hk.1.1 | exact hk.1.2 | exact hk.2.1 | exact hk.2.2 | exact hk.1.1.1 | exact hk.1.1.2 | exact hk.1.2.1 | exact hk.1.2.2 | exact True.intro | apply And.intro)))⟩, ⟨by (with_reducible repeat (first | apply Kd.R_alloc | apply Kd.R_drewN | apply Kd.R_drew)); exact Kd.R_mono (Kd.R_far (p := ⟨gb564, 1, none⟩) (Kd.R_far (p := ⟨gb564, 0, none⟩) (Kd.R_mono HO_53.out (fun k_ hk => (⟨hk, hk.2⟩ : _ ∧ k_ ≠ gb564))) (fun _ hk => hk.2) (.int .i64 t561)) (fun _ hk => hk.2) (.int .i64 t562)) (fun _ hk => by first | exact ⟨hk.1.1.1.1.1, ⟨hk.1.1.1.1.2, ⟨hk.1.1.1.2, ⟨hk.1.1.2, hk.1.2⟩⟩⟩⟩ | (repeat' (first | exact hk | exact hk.1 | exact hk.2 | exact hk.1.1 | exact hk.1.2 | exact hk.2.1 | exact hk.2.2 | exact hk.1.1.1 | exact hk.1.1.2 | exact hk.1.2.1 | exact hk.1.2.2 | exact True.intro | apply And.intro)))⟩, ⟨by (with_reducible repeat (first | refine blk_drewN ?_ _ | refine blk_drew ?_ | refine blk_alloc ?_ _)); refine blk_far ?_ NB552_564.out _; (with_reducible repeat (first | refine blk_drewN ?_ _ | refine blk_drew ?_ | refine blk_alloc ?_ _)); refine blk_far ?_ NB552_564.out _; (with_reducible repeat (first | refine blk_drewN ?_ _ | refine blk_drew ?_ | refine blk_alloc ?_ _)); exact BK552.out⟩, ⟨by (with_reducible repeat (first | refine blk_drewN ?_ _ | refine blk_drew ?_ | refine blk_alloc ?_ _)); refine blk_far ?_ NB556_564.out _; (with_reducible repeat (first | refine blk_drewN ?_ _ | refine blk_drew ?_ | refine blk_alloc ?_ _)); refine blk_far ?_ NB556_564.out _; (with_reducible repeat (first | refine blk_drewN ?_ _ | refine blk_drew ?_ | refine blk_alloc ?_ _)); exact BK556.out⟩, ⟨by (with_reducible repeat (first | refine blk_drewN ?_ _ | refine blk_drew ?_ | refine blk_alloc ?_ _)); refine blk_far ?_ NB560_564.out _; (with_reducible repeat (first | refine blk_drewN ?_ _ | refine blk_drew ?_ | refine blk_alloc ?_ _)); refine blk_far ?_ NB560_564.out _; (with_reducible repeat (first | refine blk_drewN ?_ _ | refine blk_drew ?_ | refine blk_alloc ?_ _)); exact BK560.out⟩, ⟨by (with_reducible repeat (first | refine blk_drewN ?_ _ | refine blk_drew ?_ | refine blk_alloc ?_ _)); refine blk_put (cs := #[.int .i64 t561, .int .i64 0]) ?_ 1 _ rfl; (with_reducible repeat (first | refine blk_drewN ?_ _ | refine blk_drew ?_ | refine blk_alloc ?_ _)); refine blk_put (cs := #[.int .i64 0, .int .i64 0]) ?_ 0 _ rfl; (with_reducible repeat (first | refine blk_drewN ?_ _ | refine blk_drew ?_ | refine blk_alloc ?_ _)); exact BK564.out⟩, ⟨by repeat (first | (with_reducible first | exact HB.out | apply below_alloc | apply pw_below_drewN | apply below_drew1 | refine below_set ?_ GE552.out | refine below_set ?_ GE556.out | refine below_set ?_ GE560.out | refine below_set ?_ GE564.out) | exact HB.out)⟩⟩
                    case rest =>
                      clear HC26
                      try clear c1
                      try clear c2
                      try clear p2
                      try clear c3
                      try clear c4
                      try clear c5
                      try clear p5
                      try clear q5
                      try clear hx5
                      try clear c6
                      try clear p6
                      try clear c9
                      try clear c16
                      try clear c17
                      try clear c17b0
                      try clear c17b1
                      try clear c18
                      try clear c20
                      try clear c20b0
                      try clear c21
                      try clear c21b0
                      try clear c22
                      try clear c22b0
                      try clear c27
                      try clear c28
                      try clear c29
                      try clear c30
                      try clear c31
                      try clear c36
                      try clear c37
                      try clear c42
                      try clear c43
                      try clear c44
                      try clear c46
                      try clear c46b0
                      try clear c47
                      try clear c48
                      try clear c49
                      try clear c51
                      try clear c52
                      try clear c54
                      try clear c55
                      try clear p55
                      try clear q55
                      try clear hx55
                      try clear c56
                      try clear c58
                      try clear c59
                      try clear c61
                      try clear hcz28_0
                      try clear hcz28_1
                      try clear hcz32_0
                      try clear hcz32_1
                      try clear hcz33_0
                      try clear hcz33_1
                      try clear hcz38_0
                      try clear hcz38_1
                      try clear hcz39_0
                      try clear hcz39_1
                      try clear hcz45_0
                      try clear hcz45_1
                      try clear hcz50_0
                      try clear hcz50_1
                      try clear hcz53_0
                      try clear hcz53_1
                      try clear hcz57_0
                      try clear hcz57_1
                      try clear hcz60_0
                      try clear hcz60_1
                      try clear hcz62_0
                      try clear hcz62_1
                      try clear hfz28_0
                      try clear hfz28_1
                      try clear hfz32_0
                      try clear hfz32_1
                      try clear hfz33_0
                      try clear hfz33_1
                      try clear hfz38_0
                      try clear hfz38_1
                      try clear hfz39_0
                      try clear hfz39_1
                      try clear hfz45_0
                      try clear hfz45_1
                      try clear hfz50_0
                      try clear hfz50_1
                      try clear hfz53_0
                      try clear hfz53_1
                      try clear hfz57_0
                      try clear hfz57_1
                      try clear hfz60_0
                      try clear hfz60_1
                      try clear hfz62_0
                      try clear hfz62_1
                      try clear hx551_0
                      try clear hx551_1
                      try clear p2
                      try clear p551
                      try clear p6
                      try clear q551
                      obtain ⟨kq, x95_25, rfl, HA, HJ25, HO_0, HO_10, HO_53, BK552, BK556, BK560, BK564, HB⟩ := hcut
                      cases kq with
                      | zero => exact absurd HA.out (by simp [ephemeriskeep2_TideTops.j2])
                      | succ kj25 =>
                        have H := HA.out
                        clear HA
                        simp only [ephemeriskeep2_TideTops.j2] at H
                        by_cases c63 : x95_25 = true
                        · subst c63
                          have H1 : (none) = some r := by rw [if_pos rfl] at H; exact H
                          clear H
                          have H := H1
                          clear H1
                          exact absurd H (by simp)
                        · replace c63 := Bool.eq_false_iff.mpr c63
                          subst c63
                          have H1 : (ephemeriskeep2_TideTops.l1 kj25 t538 t547 t543 (t543.length : Int) x55_2 t547 (t547.length : Int) 0 ((rd_T29 t543 x55_2).f0) ((rd_T29 t543 x55_2).f1)) = some r := by rw [if_neg (show ¬ (false = true) by decide)] at H; exact H
                          clear H
                          have H := H1
                          clear H1
                          have H' := Aside0.mk H
                          clear H
                          obtain ⟨Ao64, co64, eo64⟩ := Kd.R_slice HO_10.out
                          subst eo64
                          go_wp2
                          go_loopg [98] kj25 (fun kq v98 w' => ∃ (x98_4 : Int), v98 = .int .i64 x98_4 ∧ Aside0 (ephemeriskeep2_TideTops.l1 kq t538 t547 t543 (t543.length : Int) x55_2 t547 (t547.length : Int) x98_4 ((rd_T29 t543 x55_2).f0) ((rd_T29 t543 x55_2).f1) = some r) ∧ Aside0 (kq ≤ kj25) ∧ Aside0 (Kd.R k48 48 w' w.heap.size (fun _ => True) (.slice Ao14 t538.length co14) t538) ∧ Aside0 (Kd.R k29 29 w' w.heap.size (fun k_ => some k_ ≠ ((.slice (some ad551) t543.length co19) : Value).ownBlock ∧ k_ ≠ gb552 ∧ k_ ≠ gb556 ∧ k_ ≠ gb560 ∧ k_ ≠ gb564) (.slice Ao64 t547.length co64) t547) ∧ Aside0 (Kd.R k29 29 w' w.heap.size (fun k_ => some k_ ≠ ((.slice Ao64 t547.length co64) : Value).ownBlock ∧ some k_ ≠ ((.slice Ao64 t547.length co64) : Value).ownBlock ∧ k_ ≠ gb552 ∧ k_ ≠ gb556 ∧ k_ ≠ gb560 ∧ k_ ≠ gb564) (.slice (some ad551) t543.length co19) t543) ∧ Aside0 (Kd.R k29 29 w' w.heap.size (fun k_ => some k_ ≠ ((.slice (some ad551) t543.length co19) : Value).ownBlock ∧ k_ ≠ gb552 ∧ k_ ≠ gb556 ∧ k_ ≠ gb560 ∧ k_ ≠ gb564) (.slice Ao64 t547.length co64) t547) ∧ Aside0 (w'.heap[gb552]? = some (.cells #[.int .i64 ((rd_T29 t543 x55_2).f0), .int .i64 ((rd_T29 t543 x55_2).f1)] 29 (0, 0))) ∧ Aside0 (w'.heap[gb556]? = some (.cells #[.int .i64 t553, .int .i64 t554] 29 (0, 0))) ∧ Aside0 (w'.heap[gb560]? = some (.cells #[.int .i64 t557, .int .i64 t558] 29 (0, 0))) ∧ Aside0 (w'.heap[gb564]? = some (.cells #[.int .i64 t561, .int .i64 t562] 29 (0, 0))) ∧ Aside0 (Below w.heap.size w w'))
                          case atStart => exact ⟨(0), (by first | rfl | (simp; done) | (simp [*]; done)), H', ⟨Nat.le_refl _⟩, ⟨by (with_reducible repeat (first | apply Kd.R_alloc | apply Kd.R_drewN | apply Kd.R_drew)); exact HO_0.out⟩, ⟨by (with_reducible repeat (first | apply Kd.R_alloc | apply Kd.R_drewN | apply Kd.R_drew)); exact HO_10.out⟩, ⟨by (with_reducible repeat (first | apply Kd.R_alloc | apply Kd.R_drewN | apply Kd.R_drew)); exact Kd.R_mono HO_53.out (fun _ hk => by first | exact ⟨hk.1, ⟨hk.1, ⟨hk.2.1, ⟨hk.2.2.1, ⟨hk.2.2.2.1, hk.2.2.2.2⟩⟩⟩⟩⟩ | (repeat' (first | exact hk | exact hk.1 | exact hk.2 | exact hk.1.1 | exact hk.1.2 | exact hk.2.1 | exact hk.2.2 | exact hk.1.1.1 | exact hk.1.1.2 | exact hk.1.2.1 | exact hk.1.2.2 | exact True.intro | apply And.intro)))⟩, ⟨by (with_reducible repeat (first | apply Kd.R_alloc | apply Kd.R_drewN | apply Kd.R_drew)); exact HO_10.out⟩, ⟨by (with_reducible repeat (first | refine blk_drewN ?_ _ | refine blk_drew ?_ | refine blk_alloc ?_ _)); exact BK552.out⟩, ⟨by (with_reducible repeat (first | refine blk_drewN ?_ _ | refine blk_drew ?_ | refine blk_alloc ?_ _)); exact BK556.out⟩, ⟨by (with_reducible repeat (first | refine blk_drewN ?_ _ | refine blk_drew ?_ | refine blk_alloc ?_ _)); exact BK560.out⟩, ⟨by (with_reducible repeat (first | refine blk_drewN ?_ _ | refine blk_drew ?_ | refine blk_alloc ?_ _)); exact BK564.out⟩, ⟨by repeat (first | (with_reducible first | exact HB.out | apply below_alloc | apply pw_below_drewN | apply below_drew1 | refine below_set ?_ GE552.out | refine below_set ?_ GE556.out | refine below_set ?_ GE560.out | refine below_set ?_ GE564.out) | exact HB.out)⟩⟩
                          case round =>
                            clear H'
                            try clear c1
                            try clear c2
                            try clear p2
                            try clear c3
                            try clear c4
                            try clear c5
                            try clear p5
                            try clear q5
                            try clear hx5
                            try clear c6
                            try clear p6
                            try clear c9
                            try clear c16
                            try clear c17
                            try clear c17b0
                            try clear c17b1
                            try clear c18
                            try clear c20
                            try clear c20b0
                            try clear c21
                            try clear c21b0
                            try clear c22
                            try clear c22b0
                            try clear c27
                            try clear c28
                            try clear c29
                            try clear c30
                            try clear c31
                            try clear c36
                            try clear c37
                            try clear c42
                            try clear c43
                            try clear c44
                            try clear c46
                            try clear c46b0
                            try clear c47
                            try clear c48
                            try clear c49
                            try clear c51
                            try clear c52
                            try clear c54
                            try clear c55
                            try clear p55
                            try clear q55
                            try clear hx55
                            try clear c56
                            try clear c58
                            try clear c59
                            try clear c61
                            try clear c63
                            try clear p64
                            try clear hcz28_0
                            try clear hcz28_1
                            try clear hcz32_0
                            try clear hcz32_1
                            try clear hcz33_0
                            try clear hcz33_1
                            try clear hcz38_0
                            try clear hcz38_1
                            try clear hcz39_0
                            try clear hcz39_1
                            try clear hcz45_0
                            try clear hcz45_1
                            try clear hcz50_0
                            try clear hcz50_1
                            try clear hcz53_0
                            try clear hcz53_1
                            try clear hcz57_0
                            try clear hcz57_1
                            try clear hcz60_0
                            try clear hcz60_1
                            try clear hcz62_0
                            try clear hcz62_1
                            try clear hfz28_0
                            try clear hfz28_1
                            try clear hfz32_0
                            try clear hfz32_1
                            try clear hfz33_0
                            try clear hfz33_1
                            try clear hfz38_0
                            try clear hfz38_1
                            try clear hfz39_0
                            try clear hfz39_1
                            try clear hfz45_0
                            try clear hfz45_1
                            try clear hfz50_0
                            try clear hfz50_1
                            try clear hfz53_0
                            try clear hfz53_1
                            try clear hfz57_0
                            try clear hfz57_1
                            try clear hfz60_0
                            try clear hfz60_1
                            try clear hfz62_0
                            try clear hfz62_1
                            try clear hx551_0
                            try clear hx551_1
                            try clear p2
                            try clear p5
                            try clear p55
                            try clear p551
                            try clear p6
                            try clear q5
                            try clear q55
                            try clear q551
                            obtain ⟨x98_4, rfl, HA, HK4, HO_0, HO_10, HO_53, HO_96, BK552, BK556, BK560, BK564, HB⟩ := hrel
                            cases gk with
                            | zero => exact absurd HA.out (by simp [ephemeriskeep2_TideTops.l1])
                            | succ k4 =>
                              have H := HA.out
                              clear HA
                              simp only [ephemeriskeep2_TideTops.l1] at H
                              by_cases c65 : x98_4 < (t547.length : Int)
                              · rw [if_pos c65] at H
                                have c65b0 : decide (x98_4 < (t547.length : Int)) = true := decide_eq_true c65
                                clear c65
                                by_cases c66 : 0 ≤ x98_4
                                · rw [if_pos c66] at H
                                  have c66b0 : decide (0 ≤ x98_4) = true := decide_eq_true c66
                                  clear c66
                                  by_cases c67 : x98_4 < (t547.length : Int)
                                  · rw [if_pos c67] at H
                                    have c67b0 : decide (x98_4 < (t547.length : Int)) = true := decide_eq_true c67
                                    clear c67
                                    by_cases c68 : (((rd_T29 t547 x98_4).f0) == ((rd_T29 t543 x55_2).f0) && (((rd_T29 t547 x98_4).f1) == ((rd_T29 t543 x55_2).f1))) = true
                                    · rw [if_pos c68] at H
                                      exact absurd H (by simp)
                                    · rw [if_neg c68] at H
                                      have c68b0 : (((rd_T29 t547 x98_4).f0) == ((rd_T29 t543 x55_2).f0) && (((rd_T29 t547 x98_4).f1) == ((rd_T29 t543 x55_2).f1))) = false := by simpa using c68
                                      (try (have c68b1 : decide (((rd_T29 t547 x98_4).f0) = ((rd_T29 t543 x55_2).f0) && (((rd_T29 t547 x98_4).f1) == ((rd_T29 t543 x55_2).f1))) = false := by simpa using c68))
                                      (try (have c68b2 : (((rd_T29 t547 x98_4).f0) == ((rd_T29 t543 x55_2).f0) && (((rd_T29 t547 x98_4).f1) == ((rd_T29 t543 x55_2).f1))) = false := by simpa using c68))
                                      (try (have c68b3 : ¬ (((rd_T29 t547 x98_4).f0) = ((rd_T29 t543 x55_2).f0) && (((rd_T29 t547 x98_4).f1) == ((rd_T29 t543 x55_2).f1))) := by simpa using c68))
                                      clear c68
                                      have H' := Aside0.mk H
                                      clear H
                                      have p565 : 0 ≤ (x98_4 : Int) := of_decide_eq_true (by first | (with_reducible assumption) | assumption)
                                      have q565 : x98_4 < (t547.length : Int) := of_decide_eq_true (by first | (with_reducible assumption) | assumption)
                                      obtain ⟨ad565, e565, hx565_0, hx565_1⟩ := at_T29 (Kd.R_reads' HO_96.out).2.2 x98_4 p565 q565
                                      cases e565
                                      replace p565 := eq_true p565
                                      replace q565 := eq_true q565
                                      go_wp2_with (first | ((with_reducible refine gate_dst (N := 21) rfl ?_); refine box_event ?hg (N := 21) ?hd (cs := #[.int .i64 0, .int .i64 0]) (t := 29) ?hr ?_; (case hd => rfl); (case hg => rfl); (case hr => first | (go_simp; done) | (go_simp; rfl)); intro gb566 hg w69 hbox hb; have n0_ := Aside0.mk (Kd.R_below (by (with_reducible repeat (first | apply Kd.R_alloc | apply Kd.R_drewN | apply Kd.R_drew)); exact HO_0.out) hb); have n1_ := Aside0.mk (Kd.R_below (Kd.R_elderB (by (with_reducible repeat (first | apply Kd.R_alloc | apply Kd.R_drewN | apply Kd.R_drew)); exact HO_10.out) gb566 (Nat.le_of_eq hg.symm)) hb); have n2_ := Aside0.mk (Kd.R_below (Kd.R_elderB (by (with_reducible repeat (first | apply Kd.R_alloc | apply Kd.R_drewN | apply Kd.R_drew)); exact HO_53.out) gb566 (Nat.le_of_eq hg.symm)) hb); have n3_ := Aside0.mk (Kd.R_below (Kd.R_elderB (by (with_reducible repeat (first | apply Kd.R_alloc | apply Kd.R_drewN | apply Kd.R_drew)); exact HO_96.out) gb566 (Nat.le_of_eq hg.symm)) hb); have n4_ := Aside0.mk (blk_below (g := gb552) (o := .cells #[.int .i64 ((rd_T29 t543 x55_2).f0), .int .i64 ((rd_T29 t543 x55_2).f1)] 29 (0, 0)) (by (with_reducible repeat (first | refine blk_drewN ?_ _ | refine blk_drew ?_ | refine blk_alloc ?_ _)); exact BK552.out) hb); have n5_ := Aside0.mk (blk_below (g := gb556) (o := .cells #[.int .i64 t553, .int .i64 t554] 29 (0, 0)) (by (with_reducible repeat (first | refine blk_drewN ?_ _ | refine blk_drew ?_ | refine blk_alloc ?_ _)); exact BK556.out) hb); have n6_ := Aside0.mk (blk_below (g := gb560) (o := .cells #[.int .i64 t557, .int .i64 t558] 29 (0, 0)) (by (with_reducible repeat (first | refine blk_drewN ?_ _ | refine blk_drew ?_ | refine blk_alloc ?_ _)); exact BK560.out) hb); have n7_ := Aside0.mk (blk_below (g := gb564) (o := .cells #[.int .i64 t561, .int .i64 t562] 29 (0, 0)) (by (with_reducible repeat (first | refine blk_drewN ?_ _ | refine blk_drew ?_ | refine blk_alloc ?_ _)); exact BK564.out) hb); have n8_ := Aside0.mk (below_step (by repeat (first | (with_reducible first | exact HB.out | apply below_alloc | apply pw_below_drewN | apply below_drew1 | refine below_set ?_ GE552.out | refine below_set ?_ GE556.out | refine below_set ?_ GE560.out | refine below_set ?_ GE564.out) | exact HB.out)) hb); have n9_ := Aside0.mk (hbox); have n10_ := Aside0.mk ((by rw [hg]; exact (below_size (by repeat (first | (with_reducible first | exact HB.out | apply below_alloc | apply pw_below_drewN | apply below_drew1 | refine below_set ?_ GE552.out | refine below_set ?_ GE556.out | refine below_set ?_ GE560.out | refine below_set ?_ GE564.out) | exact HB.out))) : w.heap.size ≤ gb566)); have n11_ := Aside0.mk ((by rw [hg]; exact (below_size (by repeat (first | (with_reducible first | exact HB.out | apply below_alloc | apply pw_below_drewN | apply below_drew1 | refine below_set ?_ GE552.out | refine below_set ?_ GE556.out | refine below_set ?_ GE560.out | refine below_set ?_ GE564.out) | exact HB.out))) : w.heap.size ≤ gb566)); have n12_ := Aside0.mk ((by rw [hg]; exact Nat.ne_of_lt (blk_lt (g := gb552) (o := .cells #[.int .i64 ((rd_T29 t543 x55_2).f0), .int .i64 ((rd_T29 t543 x55_2).f1)] 29 (0, 0)) (by (with_reducible repeat (first | refine blk_drewN ?_ _ | refine blk_drew ?_ | refine blk_alloc ?_ _)); exact BK552.out)) : gb552 ≠ gb566)); have n13_ := Aside0.mk ((by rw [hg]; exact Nat.ne_of_gt (blk_lt (g := gb552) (o := .cells #[.int .i64 ((rd_T29 t543 x55_2).f0), .int .i64 ((rd_T29 t543 x55_2).f1)] 29 (0, 0)) (by (with_reducible repeat (first | refine blk_drewN ?_ _ | refine blk_drew ?_ | refine blk_alloc ?_ _)); exact BK552.out)) : gb566 ≠ gb552)); have n14_ := Aside0.mk ((by rw [hg]; exact Nat.ne_of_lt (blk_lt (g := gb556) (o := .cells #[.int .i64 t553, .int .i64 t554] 29 (0, 0)) (by (with_reducible repeat (first | refine blk_drewN ?_ _ | refine blk_drew ?_ | refine blk_alloc ?_ _)); exact BK556.out)) : gb556 ≠ gb566)); have n15_ := Aside0.mk ((by rw [hg]; exact Nat.ne_of_gt (blk_lt (g := gb556) (o := .cells #[.int .i64 t553, .int .i64 t554] 29 (0, 0)) (by (with_reducible repeat (first | refine blk_drewN ?_ _ | refine blk_drew ?_ | refine blk_alloc ?_ _)); exact BK556.out)) : gb566 ≠ gb556)); have n16_ := Aside0.mk ((by rw [hg]; exact Nat.ne_of_lt (blk_lt (g := gb560) (o := .cells #[.int .i64 t557, .int .i64 t558] 29 (0, 0)) (by (with_reducible repeat (first | refine blk_drewN ?_ _ | refine blk_drew ?_ | refine blk_alloc ?_ _)); exact BK560.out)) : gb560 ≠ gb566)); have n17_ := Aside0.mk ((by rw [hg]; exact Nat.ne_of_gt (blk_lt (g := gb560) (o := .cells #[.int .i64 t557, .int .i64 t558] 29 (0, 0)) (by (with_reducible repeat (first | refine blk_drewN ?_ _ | refine blk_drew ?_ | refine blk_alloc ?_ _)); exact BK560.out)) : gb566 ≠ gb560)); have n18_ := Aside0.mk ((by rw [hg]; exact Nat.ne_of_lt (blk_lt (g := gb564) (o := .cells #[.int .i64 t561, .int .i64 t562] 29 (0, 0)) (by (with_reducible repeat (first | refine blk_drewN ?_ _ | refine blk_drew ?_ | refine blk_alloc ?_ _)); exact BK564.out)) : gb564 ≠ gb566)); have n19_ := Aside0.mk ((by rw [hg]; exact Nat.ne_of_gt (blk_lt (g := gb564) (o := .cells #[.int .i64 t561, .int .i64 t562] 29 (0, 0)) (by (with_reducible repeat (first | refine blk_drewN ?_ _ | refine blk_drew ?_ | refine blk_alloc ?_ _)); exact BK564.out)) : gb566 ≠ gb564)); clear HO_0; clear HO_10; clear HO_53; clear HO_96; clear BK552; clear BK556; clear BK560; clear BK564; clear HB; have HO_0 := n0_; have HO_10 := n1_; have HO_53 := n2_; have HO_96 := n3_; have BK552 := n4_; have BK556 := n5_; have BK560 := n6_; have BK564 := n7_; have HB := n8_; have BK566 := n9_; have GW566 := n10_; have GE566 := n11_; have NB552_566 := n12_; have NB566_552 := n13_; have NB556_566 := n14_; have NB566_556 := n15_; have NB560_566 := n16_; have NB566_560 := n17_; have NB564_566 := n18_; have NB566_564 := n19_; clear n0_ n1_ n2_ n3_ n4_ n5_ n6_ n7_ n8_ n9_ n10_ n11_ n12_ n13_ n14_ n15_ n16_ n17_ n18_ n19_; clear hb hbox hg; have hnb70 := NB566_552.out; have hnc70 := NB552_566.out; have hnb71 := NB566_556.out; have hnc71 := NB556_566.out; have hnb72 := NB566_560.out; have hnc72 := NB560_566.out; have hnb73 := NB566_564.out; have hnc73 := NB564_566.out; have hcz74_0 : w69.cell? ⟨gb566, 0, none⟩ = some (.int .i64 0) := (blk_cell BK566.out 0).trans rfl; have hcz74_1 : w69.cell? ⟨gb566, 1, none⟩ = some (.int .i64 0) := (blk_cell BK566.out 1).trans rfl; have hfz74_0 := blk_frozen BK566.out 0; have hfz74_1 := blk_frozen BK566.out 1; have hnb75 := NB552_556.out; have hnc75 := NB556_552.out; have hnb76 := NB552_560.out; have hnc76 := NB560_552.out; have hnb77 := NB552_564.out; have hnc77 := NB564_552.out; have hcz78_0 : w69.cell? ⟨gb552, 0, none⟩ = some (.int .i64 ((rd_T29 t543 x55_2).f0)) := (blk_cell BK552.out 0).trans rfl; have hcz78_1 : w69.cell? ⟨gb552, 1, none⟩ = some (.int .i64 ((rd_T29 t543 x55_2).f1)) := (blk_cell BK552.out 1).trans rfl; have hfz78_0 := blk_frozen BK552.out 0; have hfz78_1 := blk_frozen BK552.out 1))
                                      go_roundg k4
                                      case measure => have := HJ10.out; have := HK2.out; have := HJ25.out; have := HK4.out; omega
                                      case rel => exact ⟨(wrap64 (x98_4 + 1)), (by first | rfl | (simp; done) | (simp [*]; done)), H', ⟨by have := HJ10.out; have := HK2.out; have := HJ25.out; have := HK4.out; omega⟩, ⟨by (with_reducible repeat (first | apply Kd.R_alloc | apply Kd.R_drewN | apply Kd.R_drew)); exact Kd.R_mono (Kd.R_far (p := ⟨gb566, 1, none⟩) (Kd.R_far (p := ⟨gb566, 0, none⟩) (Kd.R_types HO_0.out BK566.out (by decide)) (fun _ hk => hk.2) (.int .i64 ((rd_T29 t547 x98_4).f0))) (fun _ hk => hk.2) (.int .i64 ((rd_T29 t547 x98_4).f1))) (fun _ hk => trivial)⟩, ⟨by (with_reducible repeat (first | apply Kd.R_alloc | apply Kd.R_drewN | apply Kd.R_drew)); exact Kd.R_mono (Kd.R_far (p := ⟨gb566, 1, none⟩) (Kd.R_far (p := ⟨gb566, 0, none⟩) (Kd.R_mono HO_10.out (fun k_ hk => (⟨hk, hk.2⟩ : _ ∧ k_ ≠ gb566))) (fun _ hk => hk.2) (.int .i64 ((rd_T29 t547 x98_4).f0))) (fun _ hk => hk.2) (.int .i64 ((rd_T29 t547 x98_4).f1))) (fun _ hk => by first | exact ⟨hk.1.1.1, ⟨hk.1.1.2.1, ⟨hk.1.1.2.2.1, ⟨hk.1.1.2.2.2.1, hk.1.1.2.2.2.2⟩⟩⟩⟩ | (repeat' (first | exact hk | exact hk.1 | exact hk.2 | exact hk.1.1 | exact hk.1.2 | exact hk.2.1 | exact hk.2.2 | exact hk.1.1.1 | exact hk.1.1.2 | exact hk.1.2.1 | exact hk.1.2.2 | exact True.intro | apply And.intro)))⟩, ⟨by (with_reducible repeat (first | apply Kd.R_alloc | apply Kd.R_drewN | apply Kd.R_drew)); exact Kd.R_mono (Kd.R_far (p := ⟨gb566, 1, none⟩) (Kd.R_far (p := ⟨gb566, 0, none⟩) (Kd.R_mono HO_53.out (fun k_ hk => (⟨hk, hk.2⟩ : _ ∧ k_ ≠ gb566))) (fun _ hk => hk.2) (.int .i64 ((rd_T29 t547 x98_4).f0))) (fun _ hk => hk.2) (.int .i64 ((rd_T29 t547 x98_4).f1))) (fun _ hk => by first | exact ⟨hk.1.1.1, ⟨hk.1.1.2.1, ⟨hk.1.1.2.2.1, ⟨hk.1.1.2.2.2.1, ⟨hk.1.1.2.2.2.2.1, hk.1.1.2.2.2.2.2⟩⟩⟩⟩⟩ | (repeat' (first | exact hk | exact hk.1 | exact hk.2 | exact hk.1.1 | exact hk.1.2 | exact hk.2.1 | exact hk.2.2 | exact hk.1.1.1 | exact hk.1.1.2 | exact hk.1.2.1 | exact hk.1.2.2 | exact True.intro | apply And.intro)))⟩, ⟨by (with_reducible repeat (first | apply Kd.R_alloc | apply Kd.R_drewN | apply Kd.R_drew)); exact Kd.R_mono (Kd.R_far (p := ⟨gb566, 1, none⟩) (Kd.R_far (p := ⟨gb566, 0, none⟩) (Kd.R_mono HO_96.out (fun k_ hk => (⟨hk, hk.2⟩ : _ ∧ k_ ≠ gb566))) (fun _ hk => hk.2) (.int .i64 ((rd_T29 t547 x98_4).f0))) (fun _ hk => hk.2) (.int .i64 ((rd_T29 t547 x98_4).f1))) (fun _ hk => by first | exact ⟨hk.1.1.1, ⟨hk.1.1.2.1, ⟨hk.1.1.2.2.1, ⟨hk.1.1.2.2.2.1, hk.1.1.2.2.2.2⟩⟩⟩⟩ | (repeat' (first | exact hk | exact hk.1 | exact hk.2 | exact hk.1.1 | exact hk.1.2 | exact hk.2.1 | exact hk.2.2 | exact hk.1.1.1 | exact hk.1.1.2 | exact hk.1.2.1 | exact hk.1.2.2 | exact True.intro | apply And.intro)))⟩, ⟨by (with_reducible repeat (first | refine blk_drewN ?_ _ | refine blk_drew ?_ | refine blk_alloc ?_ _)); refine blk_far ?_ NB552_566.out _; (with_reducible repeat (first | refine blk_drewN ?_ _ | refine blk_drew ?_ | refine blk_alloc ?_ _)); refine blk_far ?_ NB552_566.out _; (with_reducible repeat (first | refine blk_drewN ?_ _ | refine blk_drew ?_ | refine blk_alloc ?_ _)); exact BK552.out⟩, ⟨by (with_reducible repeat (first | refine blk_drewN ?_ _ | refine blk_drew ?_ | refine blk_alloc ?_ _)); refine blk_far ?_ NB556_566.out _; (with_reducible repeat (first | refine blk_drewN ?_ _ | refine blk_drew ?_ | refine blk_alloc ?_ _)); refine blk_far ?_ NB556_566.out _; (with_reducible repeat (first | refine blk_drewN ?_ _ | refine blk_drew ?_ | refine blk_alloc ?_ _)); exact BK556.out⟩, ⟨by (with_reducible repeat (first | refine blk_drewN ?_ _ | refine blk_drew ?_ | refine blk_alloc ?_ _)); refine blk_far ?_ NB560_566.out _; (with_reducible repeat (first | refine blk_drewN ?_ _ | refine blk_drew ?_ | refine blk_alloc ?_ _)); refine blk_far ?_ NB560_566.out _; (with_reducible repeat (first | refine blk_drewN ?_ _ | refine blk_drew ?_ | refine blk_alloc ?_ _)); exact BK560.out⟩, ⟨by (with_reducible repeat (first | refine blk_drewN ?_ _ | refine blk_drew ?_ | refine blk_alloc ?_ _)); refine blk_far ?_ NB564_566.out _; (with_reducible repeat (first | refine blk_drewN ?_ _ | refine blk_drew ?_ | refine blk_alloc ?_ _)); refine blk_far ?_ NB564_566.out _; (with_reducible repeat (first | refine blk_drewN ?_ _ | refine blk_drew ?_ | refine blk_alloc ?_ _)); exact BK564.out⟩, ⟨by repeat (first | (with_reducible first | exact HB.out | apply below_alloc | apply pw_below_drewN | apply below_drew1 | refine below_set ?_ GE552.out | refine below_set ?_ GE556.out | refine below_set ?_ GE560.out | refine below_set ?_ GE564.out | refine below_set ?_ GE566.out) | exact HB.out)⟩⟩
                                  · rw [if_neg c67] at H
                                    exact absurd H (by simp)
                                · rw [if_neg c66] at H
                                  exact absurd H (by simp)
                              · rw [if_neg c65] at H
                                have c65b0 : decide (x98_4 < (t547.length : Int)) = false := decide_eq_false c65
                                clear c65
                                have H' := Aside0.mk H
                                clear H
                                go_wp2
                                go_roundg k4
                                case measure => have := HJ10.out; have := HK2.out; have := HJ25.out; have := HK4.out; omega
                                case rel => exact ⟨(wrap64 (x55_2 + 1)), (by first | rfl | (simp; done) | (simp [*]; done)), H', ⟨by have := HJ10.out; have := HK2.out; have := HJ25.out; have := HK4.out; omega⟩, ⟨by (with_reducible repeat (first | apply Kd.R_alloc | apply Kd.R_drewN | apply Kd.R_drew)); exact HO_0.out⟩, ⟨by (with_reducible repeat (first | apply Kd.R_alloc | apply Kd.R_drewN | apply Kd.R_drew)); exact Kd.R_mono HO_10.out (fun _ hk => hk.1)⟩, ⟨by (with_reducible repeat (first | apply Kd.R_alloc | apply Kd.R_drewN | apply Kd.R_drew)); exact Kd.R_mono HO_53.out (fun _ hk => hk.1)⟩, ⟨by repeat (first | (with_reducible first | exact HB.out | apply below_alloc | apply pw_below_drewN | apply below_drew1 | refine below_set ?_ GE552.out | refine below_set ?_ GE556.out | refine below_set ?_ GE560.out | refine below_set ?_ GE564.out) | exact HB.out)⟩⟩
                  · rw [if_neg c22] at H
                    exact absurd H (by simp)
                · rw [if_neg c21] at H
                  exact absurd H (by simp)
              · rw [if_neg c20] at H
                have c20b0 : decide (x55_2 < (t543.length : Int)) = false := decide_eq_false c20
                clear c20
                obtain rfl := Option.some.inj H
                go_wp2
                go_ret
                exact ⟨by first | rfl | (simp [errW_none, errW_some] <;> rfl) | (simp [*, errW_none, errW_some] <;> rfl), by repeat (first | (with_reducible first | exact HB.out | apply below_alloc | apply pw_below_drewN | apply below_drew1) | exact HB.out)⟩
  · replace c5 := Bool.eq_false_iff.mpr c5
    subst c5
    have H1 : (none) = some r := by rw [if_neg (show ¬ (false = true) by decide)] at H; exact H
    clear H
    have H := H1
    clear H1
    exact absurd H (by simp)

end Go.Proofs.Ytjcpilmecgcooaa.JD
