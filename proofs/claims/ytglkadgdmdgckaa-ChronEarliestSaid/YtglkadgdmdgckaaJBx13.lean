-- Made by a program of this session (wip/hp.py, over the kit's print) out of the translation. Not trusted: Lean checks it.
import Derived.Test.YtglkadgdmdgckaaJBx0
import Derived.Test.YtglkadgdmdgckaaJBx2
import Derived.Test.YtglkadgdmdgckaaJBx5
import Derived.Test.YtglkadgdmdgckaaJBx6
import Derived.Test.YtglkadgdmdgckaaJBx7
import Derived.Test.YtglkadgdmdgckaaJBx8
import Derived.Test.YtglkadgdmdgckaaJBx11
namespace Go.Proofs.Ytglkadgdmdgckaa.JB
open Go.RowKit Go.Proofs.YtglkadgdmdgckaaW.PrintWords Go.Proofs.YtglkadgdmdgckaaW.PrintLast Go.Proofs.YtglkadgdmdgckaaW.PrintMore
attribute [local go_sem] max2_int min2_int max_two min_two max_three min_three max_four min_four   -- for this text's walks alone
set_option linter.unusedVariables false
set_option linter.unusedSimpArgs false

/-! ### ephemeriskeep2_ChronEarliest: function 5 -/
set_option maxHeartbeats 8000000 in
set_option maxRecDepth 100000 in
theorem ephemeriskeep2_ChronEarliest.calls (k : Nat) (A0 : Option Addr) (c0 : Nat) (l0 : List Int) (A1 : Option Addr) (c1 : Nat) (l1 : List (S44)) (a2 : Int) (r : Bool) (w : World) (hr0 : Kd.C (Kd.int .i64) w A0 l0.length l0) (hc0 : l0.length ≤ c0) (hr1 : Kd.C k44 w A1 l1.length l1) (hc1 : l1.length ≤ c1) (h : ephemeriskeep2_ChronEarliest.f k l0 l1 a2 = some r) :
    Calls Try.prog 5 #[.slice A0 l0.length c0, .slice A1 l1.length c1, .int .i64 a2] w fun e w' => e = .returned (.bool r) ∧ Below w.heap.size w w' := by
  have HR0 := Aside0.mk hr0
  have HC0 := Aside0.mk hc0
  clear hr0 hc0
  have HR1 := Aside0.mk hr1
  have HC1 := Aside0.mk hc1
  clear hr1 hc1
  have HB := Aside0.mk (Below.refl w.heap.size w)
  have H : ((ephemeriskeep2_chronWorks.f k).bind fun t260 => (if t260 = true then ((ephemeriskeep2_events.f k l0 l1).bind fun bt261 => (if bt261.1 = 0 then (some true) else ((ephemeriskeep2_at.f a2 bt261.1).bind fun t265 => ((chron_Early.f k bt261.1 bt261.2 t265 100).bind fun bt266 => (if bt266.2 = 0 then ((chron_Fits.f k bt261.1 bt261.2 bt266.1).bind fun bt270 => ((chron_Tightest.f k bt261.1 bt261.2).bind fun bt272 => (if bt270.2 = 0 then (if bt272.2 = 0 then (if bt270.1 = true then (if (bt266.1.length : Int) = bt261.1 then (if (bt272.1.length : Int) = bt261.1 then (if 0 ≤ t265 then (if t265 < (bt272.1.length : Int) then (ephemeriskeep2_ChronEarliest.j0 k t265 bt261.1 bt266.1 bt272.1 (((rd_L4 bt272.1 t265).length : Int) != bt261.1)) else (none)) else (none)) else (ephemeriskeep2_ChronEarliest.j0 k t265 bt261.1 bt266.1 bt272.1 true)) else (ephemeriskeep2_ChronEarliest.j0 k t265 bt261.1 bt266.1 bt272.1 true)) else (ephemeriskeep2_ChronEarliest.j0 k t265 bt261.1 bt266.1 bt272.1 true)) else (ephemeriskeep2_ChronEarliest.j0 k t265 bt261.1 bt266.1 bt272.1 true)) else (ephemeriskeep2_ChronEarliest.j0 k t265 bt261.1 bt266.1 bt272.1 true)))) else (if bt266.2 = 6 then (some ((bt266.1.length : Int) == 0)) else (none))))))) else (none))) = some r := h
  clear h
  replace H := Option.bind_eq_some_iff.mp H
  obtain ⟨t260, A40, H⟩ := H
  replace H : (if t260 = true then ((ephemeriskeep2_events.f k l0 l1).bind fun bt261 => (if bt261.1 = 0 then (some true) else ((ephemeriskeep2_at.f a2 bt261.1).bind fun t265 => ((chron_Early.f k bt261.1 bt261.2 t265 100).bind fun bt266 => (if bt266.2 = 0 then ((chron_Fits.f k bt261.1 bt261.2 bt266.1).bind fun bt270 => ((chron_Tightest.f k bt261.1 bt261.2).bind fun bt272 => (if bt270.2 = 0 then (if bt272.2 = 0 then (if bt270.1 = true then (if (bt266.1.length : Int) = bt261.1 then (if (bt272.1.length : Int) = bt261.1 then (if 0 ≤ t265 then (if t265 < (bt272.1.length : Int) then (ephemeriskeep2_ChronEarliest.j0 k t265 bt261.1 bt266.1 bt272.1 (((rd_L4 bt272.1 t265).length : Int) != bt261.1)) else (none)) else (none)) else (ephemeriskeep2_ChronEarliest.j0 k t265 bt261.1 bt266.1 bt272.1 true)) else (ephemeriskeep2_ChronEarliest.j0 k t265 bt261.1 bt266.1 bt272.1 true)) else (ephemeriskeep2_ChronEarliest.j0 k t265 bt261.1 bt266.1 bt272.1 true)) else (ephemeriskeep2_ChronEarliest.j0 k t265 bt261.1 bt266.1 bt272.1 true)) else (ephemeriskeep2_ChronEarliest.j0 k t265 bt261.1 bt266.1 bt272.1 true)))) else (if bt266.2 = 6 then (some ((bt266.1.length : Int) == 0)) else (none))))))) else (none)) = some r := H
  have A4 := Aside0.mk A40
  clear A40
  by_cases c5 : t260 = true
  · subst c5
    have H1 : ((ephemeriskeep2_events.f k l0 l1).bind fun bt261 => (if bt261.1 = 0 then (some true) else ((ephemeriskeep2_at.f a2 bt261.1).bind fun t265 => ((chron_Early.f k bt261.1 bt261.2 t265 100).bind fun bt266 => (if bt266.2 = 0 then ((chron_Fits.f k bt261.1 bt261.2 bt266.1).bind fun bt270 => ((chron_Tightest.f k bt261.1 bt261.2).bind fun bt272 => (if bt270.2 = 0 then (if bt272.2 = 0 then (if bt270.1 = true then (if (bt266.1.length : Int) = bt261.1 then (if (bt272.1.length : Int) = bt261.1 then (if 0 ≤ t265 then (if t265 < (bt272.1.length : Int) then (ephemeriskeep2_ChronEarliest.j0 k t265 bt261.1 bt266.1 bt272.1 (((rd_L4 bt272.1 t265).length : Int) != bt261.1)) else (none)) else (none)) else (ephemeriskeep2_ChronEarliest.j0 k t265 bt261.1 bt266.1 bt272.1 true)) else (ephemeriskeep2_ChronEarliest.j0 k t265 bt261.1 bt266.1 bt272.1 true)) else (ephemeriskeep2_ChronEarliest.j0 k t265 bt261.1 bt266.1 bt272.1 true)) else (ephemeriskeep2_ChronEarliest.j0 k t265 bt261.1 bt266.1 bt272.1 true)) else (ephemeriskeep2_ChronEarliest.j0 k t265 bt261.1 bt266.1 bt272.1 true)))) else (if bt266.2 = 6 then (some ((bt266.1.length : Int) == 0)) else (none))))))) = some r := by rw [if_pos rfl] at H; exact H
    clear H
    have H := H1
    clear H1
    replace H := Option.bind_eq_some_iff.mp H
    obtain ⟨⟨t261, t262⟩, A60, H⟩ := H
    replace H : (if t261 = 0 then (some true) else ((ephemeriskeep2_at.f a2 t261).bind fun t265 => ((chron_Early.f k t261 t262 t265 100).bind fun bt266 => (if bt266.2 = 0 then ((chron_Fits.f k t261 t262 bt266.1).bind fun bt270 => ((chron_Tightest.f k t261 t262).bind fun bt272 => (if bt270.2 = 0 then (if bt272.2 = 0 then (if bt270.1 = true then (if (bt266.1.length : Int) = t261 then (if (bt272.1.length : Int) = t261 then (if 0 ≤ t265 then (if t265 < (bt272.1.length : Int) then (ephemeriskeep2_ChronEarliest.j0 k t265 t261 bt266.1 bt272.1 (((rd_L4 bt272.1 t265).length : Int) != t261)) else (none)) else (none)) else (ephemeriskeep2_ChronEarliest.j0 k t265 t261 bt266.1 bt272.1 true)) else (ephemeriskeep2_ChronEarliest.j0 k t265 t261 bt266.1 bt272.1 true)) else (ephemeriskeep2_ChronEarliest.j0 k t265 t261 bt266.1 bt272.1 true)) else (ephemeriskeep2_ChronEarliest.j0 k t265 t261 bt266.1 bt272.1 true)) else (ephemeriskeep2_ChronEarliest.j0 k t265 t261 bt266.1 bt272.1 true)))) else (if bt266.2 = 6 then (some ((bt266.1.length : Int) == 0)) else (none)))))) = some r := H
    have A6 := Aside0.mk A60
    clear A60
    by_cases c7 : t261 = 0
    · rw [if_pos c7] at H
      have c7b0 : (t261 == 0) = true := beq_iff_eq.mpr c7
      have c7b1 : (t261 != 0) = false := bne_eq_false_iff_eq.mpr c7
      clear c7
      obtain rfl := Option.some.inj H
      go_enter Try.func5, Try.ntmps5
      go_wp2_with (first | (go_at_call 12; (with_reducible refine (ephemeriskeep2_chronWorks.calls k  true _ A4.out).mono ?_); rintro e w8 ⟨rfl, hb⟩; have n0_ := Aside0.mk (below_step (by repeat (first | (with_reducible first | exact HB.out | apply below_alloc | apply pw_below_drewN | apply below_drew1) | exact HB.out)) hb); clear HB; have HB := n0_; clear n0_; (try clear hb); (try clear hb2); (try clear hk); (try clear hi)) | (go_at_call 13; (with_reducible refine (ephemeriskeep2_events.calls k _ _ l0 _ _ l1 t261 t262 _ ?side1 ?side2 ?side3 ?side4 A6.out).mono ?_); (case side1 => repeat (first | exact (Kd.C_below HR0.out HB.out) | (with_reducible refine Kd.C_alloc ?_ _) | (with_reducible refine Kd.C_drewN ?_ _) | (with_reducible refine Kd.C_drew ?_))); (case side2 => exact HC0.out); (case side3 => repeat (first | exact (Kd.C_below HR1.out HB.out) | (with_reducible refine Kd.C_alloc ?_ _) | (with_reducible refine Kd.C_drewN ?_ _) | (with_reducible refine Kd.C_drew ?_))); (case side4 => exact HC1.out); rintro e w9 ⟨v263, rfl, ho0, hb⟩; have n0_ := Aside0.mk (Kd.R_lower ho0 (below_size (by repeat (first | (with_reducible first | exact HB.out | apply below_alloc | apply pw_below_drewN | apply below_drew1) | exact HB.out)))); have n1_ := Aside0.mk (below_step (by repeat (first | (with_reducible first | exact HB.out | apply below_alloc | apply pw_below_drewN | apply below_drew1) | exact HB.out)) hb); clear HB; have HO264 := n0_; have HB := n1_; clear n0_ n1_; (try clear hb); (try clear hb2); (try clear hk); (try clear hi); (try clear ho0)))
      repeat (go_quiet (first | (go_at_call 12; (with_reducible refine (ephemeriskeep2_chronWorks.calls k  true _ A4.out).mono ?_); rintro e w8 ⟨rfl, hb⟩; have n0_ := Aside0.mk (below_step (by repeat (first | (with_reducible first | exact HB.out | apply below_alloc | apply pw_below_drewN | apply below_drew1) | exact HB.out)) hb); clear HB; have HB := n0_; clear n0_; (try clear hb); (try clear hb2); (try clear hk); (try clear hi)) | (go_at_call 13; (with_reducible refine (ephemeriskeep2_events.calls k _ _ l0 _ _ l1 t261 t262 _ ?side1 ?side2 ?side3 ?side4 A6.out).mono ?_); (case side1 => repeat (first | exact (Kd.C_below HR0.out HB.out) | (with_reducible refine Kd.C_alloc ?_ _) | (with_reducible refine Kd.C_drewN ?_ _) | (with_reducible refine Kd.C_drew ?_))); (case side2 => exact HC0.out); (case side3 => repeat (first | exact (Kd.C_below HR1.out HB.out) | (with_reducible refine Kd.C_alloc ?_ _) | (with_reducible refine Kd.C_drewN ?_ _) | (with_reducible refine Kd.C_drew ?_))); (case side4 => exact HC1.out); rintro e w9 ⟨v263, rfl, ho0, hb⟩; have n0_ := Aside0.mk (Kd.R_lower ho0 (below_size (by repeat (first | (with_reducible first | exact HB.out | apply below_alloc | apply pw_below_drewN | apply below_drew1) | exact HB.out)))); have n1_ := Aside0.mk (below_step (by repeat (first | (with_reducible first | exact HB.out | apply below_alloc | apply pw_below_drewN | apply below_drew1) | exact HB.out)) hb); clear HB; have HO264 := n0_; have HB := n1_; clear n0_ n1_; (try clear hb); (try clear hb2); (try clear hk); (try clear hi); (try clear ho0))); try go_wp2_with (first | (go_at_call 12; (with_reducible refine (ephemeriskeep2_chronWorks.calls k  true _ A4.out).mono ?_); rintro e w8 ⟨rfl, hb⟩; have n0_ := Aside0.mk (below_step (by repeat (first | (with_reducible first | exact HB.out | apply below_alloc | apply pw_below_drewN | apply below_drew1) | exact HB.out)) hb); clear HB; have HB := n0_; clear n0_; (try clear hb); (try clear hb2); (try clear hk); (try clear hi)) | (go_at_call 13; (with_reducible refine (ephemeriskeep2_events.calls k _ _ l0 _ _ l1 t261 t262 _ ?side1 ?side2 ?side3 ?side4 A6.out).mono ?_); (case side1 => repeat (first | exact (Kd.C_below HR0.out HB.out) | (with_reducible refine Kd.C_alloc ?_ _) | (with_reducible refine Kd.C_drewN ?_ _) | (with_reducible refine Kd.C_drew ?_))); (case side2 => exact HC0.out); (case side3 => repeat (first | exact (Kd.C_below HR1.out HB.out) | (with_reducible refine Kd.C_alloc ?_ _) | (with_reducible refine Kd.C_drewN ?_ _) | (with_reducible refine Kd.C_drew ?_))); (case side4 => exact HC1.out); rintro e w9 ⟨v263, rfl, ho0, hb⟩; have n0_ := Aside0.mk (Kd.R_lower ho0 (below_size (by repeat (first | (with_reducible first | exact HB.out | apply below_alloc | apply pw_below_drewN | apply below_drew1) | exact HB.out)))); have n1_ := Aside0.mk (below_step (by repeat (first | (with_reducible first | exact HB.out | apply below_alloc | apply pw_below_drewN | apply below_drew1) | exact HB.out)) hb); clear HB; have HO264 := n0_; have HB := n1_; clear n0_ n1_; (try clear hb); (try clear hb2); (try clear hk); (try clear hi); (try clear ho0))))
      go_ret
      exact ⟨by first | rfl | (simp [errW_none, errW_some] <;> rfl) | (simp [*, errW_none, errW_some] <;> rfl), by repeat (first | (with_reducible first | exact HB.out | apply below_alloc | apply pw_below_drewN | apply below_drew1) | exact HB.out)⟩
    · rw [if_neg c7] at H
      have c7b0 : (t261 == 0) = false := beq_eq_false_iff_ne.mpr c7
      have c7b1 : (t261 != 0) = true := bne_iff_ne.mpr c7
      replace H := Option.bind_eq_some_iff.mp H
      obtain ⟨t265, A100, H⟩ := H
      replace H : ((chron_Early.f k t261 t262 t265 100).bind fun bt266 => (if bt266.2 = 0 then ((chron_Fits.f k t261 t262 bt266.1).bind fun bt270 => ((chron_Tightest.f k t261 t262).bind fun bt272 => (if bt270.2 = 0 then (if bt272.2 = 0 then (if bt270.1 = true then (if (bt266.1.length : Int) = t261 then (if (bt272.1.length : Int) = t261 then (if 0 ≤ t265 then (if t265 < (bt272.1.length : Int) then (ephemeriskeep2_ChronEarliest.j0 k t265 t261 bt266.1 bt272.1 (((rd_L4 bt272.1 t265).length : Int) != t261)) else (none)) else (none)) else (ephemeriskeep2_ChronEarliest.j0 k t265 t261 bt266.1 bt272.1 true)) else (ephemeriskeep2_ChronEarliest.j0 k t265 t261 bt266.1 bt272.1 true)) else (ephemeriskeep2_ChronEarliest.j0 k t265 t261 bt266.1 bt272.1 true)) else (ephemeriskeep2_ChronEarliest.j0 k t265 t261 bt266.1 bt272.1 true)) else (ephemeriskeep2_ChronEarliest.j0 k t265 t261 bt266.1 bt272.1 true)))) else (if bt266.2 = 6 then (some ((bt266.1.length : Int) == 0)) else (none)))) = some r := H
      have A10 := Aside0.mk A100
      clear A100
      replace H := Option.bind_eq_some_iff.mp H
      obtain ⟨⟨t266, t267⟩, A110, H⟩ := H
      replace H : (if t267 = 0 then ((chron_Fits.f k t261 t262 t266).bind fun bt270 => ((chron_Tightest.f k t261 t262).bind fun bt272 => (if bt270.2 = 0 then (if bt272.2 = 0 then (if bt270.1 = true then (if (t266.length : Int) = t261 then (if (bt272.1.length : Int) = t261 then (if 0 ≤ t265 then (if t265 < (bt272.1.length : Int) then (ephemeriskeep2_ChronEarliest.j0 k t265 t261 t266 bt272.1 (((rd_L4 bt272.1 t265).length : Int) != t261)) else (none)) else (none)) else (ephemeriskeep2_ChronEarliest.j0 k t265 t261 t266 bt272.1 true)) else (ephemeriskeep2_ChronEarliest.j0 k t265 t261 t266 bt272.1 true)) else (ephemeriskeep2_ChronEarliest.j0 k t265 t261 t266 bt272.1 true)) else (ephemeriskeep2_ChronEarliest.j0 k t265 t261 t266 bt272.1 true)) else (ephemeriskeep2_ChronEarliest.j0 k t265 t261 t266 bt272.1 true)))) else (if t267 = 6 then (some ((t266.length : Int) == 0)) else (none))) = some r := H
      have A11 := Aside0.mk A110
      clear A110
      by_cases c12 : t267 = 0
      · rw [if_pos c12] at H
        have c12b0 : (t267 == 0) = true := beq_iff_eq.mpr c12
        have c12b1 : (t267 != 0) = false := bne_eq_false_iff_eq.mpr c12
        clear c12
        replace H := Option.bind_eq_some_iff.mp H
        obtain ⟨⟨t270, t271⟩, A130, H⟩ := H
        replace H : ((chron_Tightest.f k t261 t262).bind fun bt272 => (if t271 = 0 then (if bt272.2 = 0 then (if t270 = true then (if (t266.length : Int) = t261 then (if (bt272.1.length : Int) = t261 then (if 0 ≤ t265 then (if t265 < (bt272.1.length : Int) then (ephemeriskeep2_ChronEarliest.j0 k t265 t261 t266 bt272.1 (((rd_L4 bt272.1 t265).length : Int) != t261)) else (none)) else (none)) else (ephemeriskeep2_ChronEarliest.j0 k t265 t261 t266 bt272.1 true)) else (ephemeriskeep2_ChronEarliest.j0 k t265 t261 t266 bt272.1 true)) else (ephemeriskeep2_ChronEarliest.j0 k t265 t261 t266 bt272.1 true)) else (ephemeriskeep2_ChronEarliest.j0 k t265 t261 t266 bt272.1 true)) else (ephemeriskeep2_ChronEarliest.j0 k t265 t261 t266 bt272.1 true))) = some r := H
        have A13 := Aside0.mk A130
        clear A130
        replace H := Option.bind_eq_some_iff.mp H
        obtain ⟨⟨t272, t273⟩, A140, H⟩ := H
        replace H : (if t271 = 0 then (if t273 = 0 then (if t270 = true then (if (t266.length : Int) = t261 then (if (t272.length : Int) = t261 then (if 0 ≤ t265 then (if t265 < (t272.length : Int) then (ephemeriskeep2_ChronEarliest.j0 k t265 t261 t266 t272 (((rd_L4 t272 t265).length : Int) != t261)) else (none)) else (none)) else (ephemeriskeep2_ChronEarliest.j0 k t265 t261 t266 t272 true)) else (ephemeriskeep2_ChronEarliest.j0 k t265 t261 t266 t272 true)) else (ephemeriskeep2_ChronEarliest.j0 k t265 t261 t266 t272 true)) else (ephemeriskeep2_ChronEarliest.j0 k t265 t261 t266 t272 true)) else (ephemeriskeep2_ChronEarliest.j0 k t265 t261 t266 t272 true)) = some r := H
        have A14 := Aside0.mk A140
        clear A140
        have HC15 := Aside0.mk H
        clear H
        go_enter Try.func5, Try.ntmps5
        go_upto_region 12 with (first | (go_at_call 12; (with_reducible refine (ephemeriskeep2_chronWorks.calls k  true _ A4.out).mono ?_); rintro e w16 ⟨rfl, hb⟩; have n0_ := Aside0.mk (below_step (by repeat (first | (with_reducible first | exact HB.out | apply below_alloc | apply pw_below_drewN | apply below_drew1) | exact HB.out)) hb); clear HB; have HB := n0_; clear n0_; (try clear hb); (try clear hb2); (try clear hk); (try clear hi)) | (go_at_call 13; (with_reducible refine (ephemeriskeep2_events.calls k _ _ l0 _ _ l1 t261 t262 _ ?side1 ?side2 ?side3 ?side4 A6.out).mono ?_); (case side1 => repeat (first | exact (Kd.C_below HR0.out HB.out) | (with_reducible refine Kd.C_alloc ?_ _) | (with_reducible refine Kd.C_drewN ?_ _) | (with_reducible refine Kd.C_drew ?_))); (case side2 => exact HC0.out); (case side3 => repeat (first | exact (Kd.C_below HR1.out HB.out) | (with_reducible refine Kd.C_alloc ?_ _) | (with_reducible refine Kd.C_drewN ?_ _) | (with_reducible refine Kd.C_drew ?_))); (case side4 => exact HC1.out); rintro e w17 ⟨v263, rfl, ho0, hb⟩; have n0_ := Aside0.mk (Kd.R_lower ho0 (below_size (by repeat (first | (with_reducible first | exact HB.out | apply below_alloc | apply pw_below_drewN | apply below_drew1) | exact HB.out)))); have n1_ := Aside0.mk (below_step (by repeat (first | (with_reducible first | exact HB.out | apply below_alloc | apply pw_below_drewN | apply below_drew1) | exact HB.out)) hb); clear HB; have HO264 := n0_; have HB := n1_; clear n0_ n1_; (try clear hb); (try clear hb2); (try clear hk); (try clear hi); (try clear ho0)) | (go_at_call 17; (with_reducible refine (ephemeriskeep2_at.calls a2 t261 t265 _ A10.out).mono ?_); rintro e w' ⟨rfl, ⟨nd, rfl⟩⟩; (try first | exact ⟨rfl, _, World.drewN_drewN _ _ _⟩ | exact ⟨rfl, _, Eq.trans (World.drewN_drewN _ _ _) (congrArg (World.drewN _) (Nat.add_assoc _ _ _))⟩); obtain ⟨Ao18, co18, eo18⟩ := Kd.R_slice HO264.out; subst eo18) | (go_at_call 18; (with_reducible refine (chron_Early.calls k t261 _ _ t262 t265 100 t266 t267 _ ?side1 ?side2 A11.out).mono ?_); (case side1 => repeat (first | exact (Kd.R_reads' HO264.out).2.2 | (with_reducible refine Kd.C_alloc ?_ _) | (with_reducible refine Kd.C_drewN ?_ _) | (with_reducible refine Kd.C_drew ?_))); (case side2 => exact (Kd.R_reads' HO264.out).2.1); rintro e w19 ⟨v268, rfl, ho0, hb⟩; have n0_ := Aside0.mk (Kd.R_below (by (with_reducible repeat (first | apply Kd.R_alloc | apply Kd.R_drewN | apply Kd.R_drew)); exact HO264.out) hb); have n1_ := Aside0.mk (Kd.R_lower ho0 (below_size (by repeat (first | (with_reducible first | exact HB.out | apply below_alloc | apply pw_below_drewN | apply below_drew1) | exact HB.out)))); have n2_ := Aside0.mk (below_step (by repeat (first | (with_reducible first | exact HB.out | apply below_alloc | apply pw_below_drewN | apply below_drew1) | exact HB.out)) hb); clear HO264; clear HB; have HO264 := n0_; have HO269 := n1_; have HB := n2_; clear n0_ n1_ n2_; (try clear hb); (try clear hb2); (try clear hk); (try clear hi); (try clear ho0); obtain ⟨Ao20, co20, eo20⟩ := Kd.R_slice HO269.out; subst eo20) | (go_at_call 16; (with_reducible refine (chron_Fits.calls k t261 _ _ t262 _ _ t266 t270 t271 _ ?side1 ?side2 ?side3 ?side4 A13.out).mono ?_); (case side1 => repeat (first | exact (Kd.R_reads' HO264.out).2.2 | (with_reducible refine Kd.C_alloc ?_ _) | (with_reducible refine Kd.C_drewN ?_ _) | (with_reducible refine Kd.C_drew ?_))); (case side2 => exact (Kd.R_reads' HO264.out).2.1); (case side3 => repeat (first | exact (Kd.R_reads' HO269.out).2.2 | (with_reducible refine Kd.C_alloc ?_ _) | (with_reducible refine Kd.C_drewN ?_ _) | (with_reducible refine Kd.C_drew ?_))); (case side4 => exact (Kd.R_reads' HO269.out).2.1); rintro e w21 ⟨rfl, hb⟩; have n0_ := Aside0.mk (Kd.R_below (by (with_reducible repeat (first | apply Kd.R_alloc | apply Kd.R_drewN | apply Kd.R_drew)); exact HO264.out) hb); have n1_ := Aside0.mk (Kd.R_below (by (with_reducible repeat (first | apply Kd.R_alloc | apply Kd.R_drewN | apply Kd.R_drew)); exact HO269.out) hb); have n2_ := Aside0.mk (below_step (by repeat (first | (with_reducible first | exact HB.out | apply below_alloc | apply pw_below_drewN | apply below_drew1) | exact HB.out)) hb); clear HO264; clear HO269; clear HB; have HO264 := n0_; have HO269 := n1_; have HB := n2_; clear n0_ n1_ n2_; (try clear hb); (try clear hb2); (try clear hk); (try clear hi)) | (go_at_call 14; (with_reducible refine (chron_Tightest.calls k t261 _ _ t262 t272 t273 _ ?side1 ?side2 A14.out).mono ?_); (case side1 => repeat (first | exact (Kd.R_reads' HO264.out).2.2 | (with_reducible refine Kd.C_alloc ?_ _) | (with_reducible refine Kd.C_drewN ?_ _) | (with_reducible refine Kd.C_drew ?_))); (case side2 => exact (Kd.R_reads' HO264.out).2.1); rintro e w22 ⟨v274, rfl, ho0, hb⟩; have n0_ := Aside0.mk (Kd.R_below (by (with_reducible repeat (first | apply Kd.R_alloc | apply Kd.R_drewN | apply Kd.R_drew)); exact HO264.out) hb); have n1_ := Aside0.mk (Kd.R_below (by (with_reducible repeat (first | apply Kd.R_alloc | apply Kd.R_drewN | apply Kd.R_drew)); exact HO269.out) hb); have n2_ := Aside0.mk (Kd.S_lower ho0 (below_size (by repeat (first | (with_reducible first | exact HB.out | apply below_alloc | apply pw_below_drewN | apply below_drew1) | exact HB.out)))); have n3_ := Aside0.mk (below_step (by repeat (first | (with_reducible first | exact HB.out | apply below_alloc | apply pw_below_drewN | apply below_drew1) | exact HB.out)) hb); clear HO264; clear HO269; clear HB; have HO264 := n0_; have HO269 := n1_; have HO275 := n2_; have HB := n3_; clear n0_ n1_ n2_ n3_; (try clear hb); (try clear hb2); (try clear hk); (try clear hi); (try clear ho0)))
        repeat (go_quiet (first | (go_at_call 12; (with_reducible refine (ephemeriskeep2_chronWorks.calls k  true _ A4.out).mono ?_); rintro e w16 ⟨rfl, hb⟩; have n0_ := Aside0.mk (below_step (by repeat (first | (with_reducible first | exact HB.out | apply below_alloc | apply pw_below_drewN | apply below_drew1) | exact HB.out)) hb); clear HB; have HB := n0_; clear n0_; (try clear hb); (try clear hb2); (try clear hk); (try clear hi)) | (go_at_call 13; (with_reducible refine (ephemeriskeep2_events.calls k _ _ l0 _ _ l1 t261 t262 _ ?side1 ?side2 ?side3 ?side4 A6.out).mono ?_); (case side1 => repeat (first | exact (Kd.C_below HR0.out HB.out) | (with_reducible refine Kd.C_alloc ?_ _) | (with_reducible refine Kd.C_drewN ?_ _) | (with_reducible refine Kd.C_drew ?_))); (case side2 => exact HC0.out); (case side3 => repeat (first | exact (Kd.C_below HR1.out HB.out) | (with_reducible refine Kd.C_alloc ?_ _) | (with_reducible refine Kd.C_drewN ?_ _) | (with_reducible refine Kd.C_drew ?_))); (case side4 => exact HC1.out); rintro e w17 ⟨v263, rfl, ho0, hb⟩; have n0_ := Aside0.mk (Kd.R_lower ho0 (below_size (by repeat (first | (with_reducible first | exact HB.out | apply below_alloc | apply pw_below_drewN | apply below_drew1) | exact HB.out)))); have n1_ := Aside0.mk (below_step (by repeat (first | (with_reducible first | exact HB.out | apply below_alloc | apply pw_below_drewN | apply below_drew1) | exact HB.out)) hb); clear HB; have HO264 := n0_; have HB := n1_; clear n0_ n1_; (try clear hb); (try clear hb2); (try clear hk); (try clear hi); (try clear ho0)) | (go_at_call 17; (with_reducible refine (ephemeriskeep2_at.calls a2 t261 t265 _ A10.out).mono ?_); rintro e w' ⟨rfl, ⟨nd, rfl⟩⟩; (try first | exact ⟨rfl, _, World.drewN_drewN _ _ _⟩ | exact ⟨rfl, _, Eq.trans (World.drewN_drewN _ _ _) (congrArg (World.drewN _) (Nat.add_assoc _ _ _))⟩); obtain ⟨Ao18, co18, eo18⟩ := Kd.R_slice HO264.out; subst eo18) | (go_at_call 18; (with_reducible refine (chron_Early.calls k t261 _ _ t262 t265 100 t266 t267 _ ?side1 ?side2 A11.out).mono ?_); (case side1 => repeat (first | exact (Kd.R_reads' HO264.out).2.2 | (with_reducible refine Kd.C_alloc ?_ _) | (with_reducible refine Kd.C_drewN ?_ _) | (with_reducible refine Kd.C_drew ?_))); (case side2 => exact (Kd.R_reads' HO264.out).2.1); rintro e w19 ⟨v268, rfl, ho0, hb⟩; have n0_ := Aside0.mk (Kd.R_below (by (with_reducible repeat (first | apply Kd.R_alloc | apply Kd.R_drewN | apply Kd.R_drew)); exact HO264.out) hb); have n1_ := Aside0.mk (Kd.R_lower ho0 (below_size (by repeat (first | (with_reducible first | exact HB.out | apply below_alloc | apply pw_below_drewN | apply below_drew1) | exact HB.out)))); have n2_ := Aside0.mk (below_step (by repeat (first | (with_reducible first | exact HB.out | apply below_alloc | apply pw_below_drewN | apply below_drew1) | exact HB.out)) hb); clear HO264; clear HB; have HO264 := n0_; have HO269 := n1_; have HB := n2_; clear n0_ n1_ n2_; (try clear hb); (try clear hb2); (try clear hk); (try clear hi); (try clear ho0); obtain ⟨Ao20, co20, eo20⟩ := Kd.R_slice HO269.out; subst eo20) | (go_at_call 16; (with_reducible refine (chron_Fits.calls k t261 _ _ t262 _ _ t266 t270 t271 _ ?side1 ?side2 ?side3 ?side4 A13.out).mono ?_); (case side1 => repeat (first | exact (Kd.R_reads' HO264.out).2.2 | (with_reducible refine Kd.C_alloc ?_ _) | (with_reducible refine Kd.C_drewN ?_ _) | (with_reducible refine Kd.C_drew ?_))); (case side2 => exact (Kd.R_reads' HO264.out).2.1); (case side3 => repeat (first | exact (Kd.R_reads' HO269.out).2.2 | (with_reducible refine Kd.C_alloc ?_ _) | (with_reducible refine Kd.C_drewN ?_ _) | (with_reducible refine Kd.C_drew ?_))); (case side4 => exact (Kd.R_reads' HO269.out).2.1); rintro e w21 ⟨rfl, hb⟩; have n0_ := Aside0.mk (Kd.R_below (by (with_reducible repeat (first | apply Kd.R_alloc | apply Kd.R_drewN | apply Kd.R_drew)); exact HO264.out) hb); have n1_ := Aside0.mk (Kd.R_below (by (with_reducible repeat (first | apply Kd.R_alloc | apply Kd.R_drewN | apply Kd.R_drew)); exact HO269.out) hb); have n2_ := Aside0.mk (below_step (by repeat (first | (with_reducible first | exact HB.out | apply below_alloc | apply pw_below_drewN | apply below_drew1) | exact HB.out)) hb); clear HO264; clear HO269; clear HB; have HO264 := n0_; have HO269 := n1_; have HB := n2_; clear n0_ n1_ n2_; (try clear hb); (try clear hb2); (try clear hk); (try clear hi)) | (go_at_call 14; (with_reducible refine (chron_Tightest.calls k t261 _ _ t262 t272 t273 _ ?side1 ?side2 A14.out).mono ?_); (case side1 => repeat (first | exact (Kd.R_reads' HO264.out).2.2 | (with_reducible refine Kd.C_alloc ?_ _) | (with_reducible refine Kd.C_drewN ?_ _) | (with_reducible refine Kd.C_drew ?_))); (case side2 => exact (Kd.R_reads' HO264.out).2.1); rintro e w22 ⟨v274, rfl, ho0, hb⟩; have n0_ := Aside0.mk (Kd.R_below (by (with_reducible repeat (first | apply Kd.R_alloc | apply Kd.R_drewN | apply Kd.R_drew)); exact HO264.out) hb); have n1_ := Aside0.mk (Kd.R_below (by (with_reducible repeat (first | apply Kd.R_alloc | apply Kd.R_drewN | apply Kd.R_drew)); exact HO269.out) hb); have n2_ := Aside0.mk (Kd.S_lower ho0 (below_size (by repeat (first | (with_reducible first | exact HB.out | apply below_alloc | apply pw_below_drewN | apply below_drew1) | exact HB.out)))); have n3_ := Aside0.mk (below_step (by repeat (first | (with_reducible first | exact HB.out | apply below_alloc | apply pw_below_drewN | apply below_drew1) | exact HB.out)) hb); clear HO264; clear HO269; clear HB; have HO264 := n0_; have HO269 := n1_; have HO275 := n2_; have HB := n3_; clear n0_ n1_ n2_ n3_; (try clear hb); (try clear hb2); (try clear hk); (try clear hi); (try clear ho0))); go_upto_region 12 with (first | (go_at_call 12; (with_reducible refine (ephemeriskeep2_chronWorks.calls k  true _ A4.out).mono ?_); rintro e w16 ⟨rfl, hb⟩; have n0_ := Aside0.mk (below_step (by repeat (first | (with_reducible first | exact HB.out | apply below_alloc | apply pw_below_drewN | apply below_drew1) | exact HB.out)) hb); clear HB; have HB := n0_; clear n0_; (try clear hb); (try clear hb2); (try clear hk); (try clear hi)) | (go_at_call 13; (with_reducible refine (ephemeriskeep2_events.calls k _ _ l0 _ _ l1 t261 t262 _ ?side1 ?side2 ?side3 ?side4 A6.out).mono ?_); (case side1 => repeat (first | exact (Kd.C_below HR0.out HB.out) | (with_reducible refine Kd.C_alloc ?_ _) | (with_reducible refine Kd.C_drewN ?_ _) | (with_reducible refine Kd.C_drew ?_))); (case side2 => exact HC0.out); (case side3 => repeat (first | exact (Kd.C_below HR1.out HB.out) | (with_reducible refine Kd.C_alloc ?_ _) | (with_reducible refine Kd.C_drewN ?_ _) | (with_reducible refine Kd.C_drew ?_))); (case side4 => exact HC1.out); rintro e w17 ⟨v263, rfl, ho0, hb⟩; have n0_ := Aside0.mk (Kd.R_lower ho0 (below_size (by repeat (first | (with_reducible first | exact HB.out | apply below_alloc | apply pw_below_drewN | apply below_drew1) | exact HB.out)))); have n1_ := Aside0.mk (below_step (by repeat (first | (with_reducible first | exact HB.out | apply below_alloc | apply pw_below_drewN | apply below_drew1) | exact HB.out)) hb); clear HB; have HO264 := n0_; have HB := n1_; clear n0_ n1_; (try clear hb); (try clear hb2); (try clear hk); (try clear hi); (try clear ho0)) | (go_at_call 17; (with_reducible refine (ephemeriskeep2_at.calls a2 t261 t265 _ A10.out).mono ?_); rintro e w' ⟨rfl, ⟨nd, rfl⟩⟩; (try first | exact ⟨rfl, _, World.drewN_drewN _ _ _⟩ | exact ⟨rfl, _, Eq.trans (World.drewN_drewN _ _ _) (congrArg (World.drewN _) (Nat.add_assoc _ _ _))⟩); obtain ⟨Ao18, co18, eo18⟩ := Kd.R_slice HO264.out; subst eo18) | (go_at_call 18; (with_reducible refine (chron_Early.calls k t261 _ _ t262 t265 100 t266 t267 _ ?side1 ?side2 A11.out).mono ?_); (case side1 => repeat (first | exact (Kd.R_reads' HO264.out).2.2 | (with_reducible refine Kd.C_alloc ?_ _) | (with_reducible refine Kd.C_drewN ?_ _) | (with_reducible refine Kd.C_drew ?_))); (case side2 => exact (Kd.R_reads' HO264.out).2.1); rintro e w19 ⟨v268, rfl, ho0, hb⟩; have n0_ := Aside0.mk (Kd.R_below (by (with_reducible repeat (first | apply Kd.R_alloc | apply Kd.R_drewN | apply Kd.R_drew)); exact HO264.out) hb); have n1_ := Aside0.mk (Kd.R_lower ho0 (below_size (by repeat (first | (with_reducible first | exact HB.out | apply below_alloc | apply pw_below_drewN | apply below_drew1) | exact HB.out)))); have n2_ := Aside0.mk (below_step (by repeat (first | (with_reducible first | exact HB.out | apply below_alloc | apply pw_below_drewN | apply below_drew1) | exact HB.out)) hb); clear HO264; clear HB; have HO264 := n0_; have HO269 := n1_; have HB := n2_; clear n0_ n1_ n2_; (try clear hb); (try clear hb2); (try clear hk); (try clear hi); (try clear ho0); obtain ⟨Ao20, co20, eo20⟩ := Kd.R_slice HO269.out; subst eo20) | (go_at_call 16; (with_reducible refine (chron_Fits.calls k t261 _ _ t262 _ _ t266 t270 t271 _ ?side1 ?side2 ?side3 ?side4 A13.out).mono ?_); (case side1 => repeat (first | exact (Kd.R_reads' HO264.out).2.2 | (with_reducible refine Kd.C_alloc ?_ _) | (with_reducible refine Kd.C_drewN ?_ _) | (with_reducible refine Kd.C_drew ?_))); (case side2 => exact (Kd.R_reads' HO264.out).2.1); (case side3 => repeat (first | exact (Kd.R_reads' HO269.out).2.2 | (with_reducible refine Kd.C_alloc ?_ _) | (with_reducible refine Kd.C_drewN ?_ _) | (with_reducible refine Kd.C_drew ?_))); (case side4 => exact (Kd.R_reads' HO269.out).2.1); rintro e w21 ⟨rfl, hb⟩; have n0_ := Aside0.mk (Kd.R_below (by (with_reducible repeat (first | apply Kd.R_alloc | apply Kd.R_drewN | apply Kd.R_drew)); exact HO264.out) hb); have n1_ := Aside0.mk (Kd.R_below (by (with_reducible repeat (first | apply Kd.R_alloc | apply Kd.R_drewN | apply Kd.R_drew)); exact HO269.out) hb); have n2_ := Aside0.mk (below_step (by repeat (first | (with_reducible first | exact HB.out | apply below_alloc | apply pw_below_drewN | apply below_drew1) | exact HB.out)) hb); clear HO264; clear HO269; clear HB; have HO264 := n0_; have HO269 := n1_; have HB := n2_; clear n0_ n1_ n2_; (try clear hb); (try clear hb2); (try clear hk); (try clear hi)) | (go_at_call 14; (with_reducible refine (chron_Tightest.calls k t261 _ _ t262 t272 t273 _ ?side1 ?side2 A14.out).mono ?_); (case side1 => repeat (first | exact (Kd.R_reads' HO264.out).2.2 | (with_reducible refine Kd.C_alloc ?_ _) | (with_reducible refine Kd.C_drewN ?_ _) | (with_reducible refine Kd.C_drew ?_))); (case side2 => exact (Kd.R_reads' HO264.out).2.1); rintro e w22 ⟨v274, rfl, ho0, hb⟩; have n0_ := Aside0.mk (Kd.R_below (by (with_reducible repeat (first | apply Kd.R_alloc | apply Kd.R_drewN | apply Kd.R_drew)); exact HO264.out) hb); have n1_ := Aside0.mk (Kd.R_below (by (with_reducible repeat (first | apply Kd.R_alloc | apply Kd.R_drewN | apply Kd.R_drew)); exact HO269.out) hb); have n2_ := Aside0.mk (Kd.S_lower ho0 (below_size (by repeat (first | (with_reducible first | exact HB.out | apply below_alloc | apply pw_below_drewN | apply below_drew1) | exact HB.out)))); have n3_ := Aside0.mk (below_step (by repeat (first | (with_reducible first | exact HB.out | apply below_alloc | apply pw_below_drewN | apply below_drew1) | exact HB.out)) hb); clear HO264; clear HO269; clear HB; have HO264 := n0_; have HO269 := n1_; have HO275 := n2_; have HB := n3_; clear n0_ n1_ n2_ n3_; (try clear hb); (try clear hb2); (try clear hk); (try clear hi); (try clear ho0))))
        (try simp only [Act.put, List.setIfInBounds_toArray, List.set_cons_zero, List.set_cons_succ])
        go_cut [87] (fun v87 wc => ∃ (kq : Nat) (x87_14 : Bool), v87 = .bool x87_14 ∧ Aside0 (ephemeriskeep2_ChronEarliest.j0 kq t265 t261 t266 t272 x87_14 = some r) ∧ Aside0 (kq ≤ k) ∧ Aside0 (Kd.R (Kd.int .i64) 3 wc w.heap.size (fun _ => True) (.slice Ao20 t266.length co20) t266) ∧ Aside0 (Kd.S (Kd.slice 34 k34) 31 wc w.heap.size (fun _ => True) v274 t272) ∧ Aside0 (Below w.heap.size w wc))
        case first =>
          have H := HC15.out
          clear HC15
          by_cases c23 : t271 = 0
          · rw [if_pos c23] at H
            have c23b0 : (t271 == 0) = true := beq_iff_eq.mpr c23
            have c23b1 : (t271 != 0) = false := bne_eq_false_iff_eq.mpr c23
            clear c23
            (first | rw [c23b0] | (simp only [i64_w, i32_w]; rw [c23b0]) | skip)
            by_cases c24 : t273 = 0
            · rw [if_pos c24] at H
              have c24b0 : (t273 == 0) = true := beq_iff_eq.mpr c24
              have c24b1 : (t273 != 0) = false := bne_eq_false_iff_eq.mpr c24
              clear c24
              by_cases c25 : t270 = true
              · subst c25
                have H1 : (if (t266.length : Int) = t261 then (if (t272.length : Int) = t261 then (if 0 ≤ t265 then (if t265 < (t272.length : Int) then (ephemeriskeep2_ChronEarliest.j0 k t265 t261 t266 t272 (((rd_L4 t272 t265).length : Int) != t261)) else (none)) else (none)) else (ephemeriskeep2_ChronEarliest.j0 k t265 t261 t266 t272 true)) else (ephemeriskeep2_ChronEarliest.j0 k t265 t261 t266 t272 true)) = some r := by rw [if_pos rfl] at H; exact H
                clear H
                have H := H1
                clear H1
                by_cases c26 : (t266.length : Int) = t261
                · rw [if_pos c26] at H
                  have c26b0 : ((t266.length : Int) == t261) = true := beq_iff_eq.mpr c26
                  have c26b1 : ((t266.length : Int) != t261) = false := bne_eq_false_iff_eq.mpr c26
                  clear c26
                  by_cases c27 : (t272.length : Int) = t261
                  · rw [if_pos c27] at H
                    have c27b0 : ((t272.length : Int) == t261) = true := beq_iff_eq.mpr c27
                    have c27b1 : ((t272.length : Int) != t261) = false := bne_eq_false_iff_eq.mpr c27
                    clear c27
                    by_cases c28 : 0 ≤ t265
                    · rw [if_pos c28] at H
                      have c28b0 : decide (0 ≤ t265) = true := decide_eq_true c28
                      clear c28
                      by_cases c29 : t265 < (t272.length : Int)
                      · rw [if_pos c29] at H
                        have c29b0 : decide (t265 < (t272.length : Int)) = true := decide_eq_true c29
                        clear c29
                        have H' := Aside0.mk H
                        clear H
                        obtain ⟨Ao30, co30, eo30⟩ := Kd.S_slice HO275.out
                        subst eo30
                        have p276 : 0 ≤ (t265 : Int) := of_decide_eq_true (by first | (with_reducible assumption) | assumption)
                        have q276 : t265 < (t272.length : Int) := of_decide_eq_true (by first | (with_reducible assumption) | assumption)
                        obtain ⟨ad276, A276_0, c276_0, e276, hx276_0, hl276_0, hi276_0⟩ := at_L4 (Kd.S_reads' HO275.out).2.2 t265 p276 q276
                        cases e276
                        obtain ⟨ce276, hce276, hMe276, hcc276⟩ := Kd.S_get HO275.out [] t265 p276 (by first | exact q276 | exact of_decide_eq_true (by first | (with_reducible assumption) | assumption) | (have e_ := (Kd.S_reads' HO275.out).1; omega))
                        obtain ⟨ve276_0, rfl, ge276_0⟩ := hMe276
                        have hv276_0 := hcc276 0 _ rfl
                        rw [Nat.add_zero, show ((Kd.slice 34 k34)).sz = 1 from rfl, Nat.mul_one] at hv276_0
                        replace hv276_0 := Option.some.inj (hv276_0.symm.trans hx276_0)
                        rw [hv276_0] at ge276_0
                        have HL276_0 := Aside0.mk (show Kd.R k34 34 _ _ _ _ (rd_L4 t272 t265) from ge276_0)
                        clear hv276_0 ge276_0
                        clear hcc276 hce276
                        have HR276_0 := Aside0.mk hi276_0
                        have HC276_0 := Aside0.mk hl276_0
                        clear hi276_0 hl276_0
                        replace p276 := eq_true p276
                        replace q276 := eq_true q276
                        go_wp2
                        repeat (go_quiet (fail); try go_wp2)
                        go_meet
                        case rel => exact ⟨_, ((((rd_L4 t272 t265).length : Int) != t261)), (by first | rfl | (simp; done) | (simp [*]; done)), H', ⟨by first | omega | exact Nat.le_refl _⟩, ⟨by (with_reducible repeat (first | apply Kd.R_alloc | apply Kd.R_drewN | apply Kd.R_drew)); exact HO269.out⟩, ⟨by (with_reducible repeat (first | apply Kd.S_alloc | apply Kd.S_drewN | apply Kd.S_drew)); exact HO275.out⟩, ⟨by repeat (first | (with_reducible first | exact HB.out | apply below_alloc | apply pw_below_drewN | apply below_drew1) | exact HB.out)⟩⟩
                      · rw [if_neg c29] at H
                        exact absurd H (by simp)
                    · rw [if_neg c28] at H
                      exact absurd H (by simp)
                  · rw [if_neg c27] at H
                    have c27b0 : ((t272.length : Int) == t261) = false := beq_eq_false_iff_ne.mpr c27
                    have c27b1 : ((t272.length : Int) != t261) = true := bne_iff_ne.mpr c27
                    have H' := Aside0.mk H
                    clear H
                    obtain ⟨Ao31, co31, eo31⟩ := Kd.S_slice HO275.out
                    subst eo31
                    go_wp2
                    repeat (go_quiet (fail); try go_wp2)
                    go_meet
                    case rel => exact ⟨_, (true), (by first | rfl | (simp; done) | (simp [*]; done)), H', ⟨by first | omega | exact Nat.le_refl _⟩, ⟨by (with_reducible repeat (first | apply Kd.R_alloc | apply Kd.R_drewN | apply Kd.R_drew)); exact HO269.out⟩, ⟨by (with_reducible repeat (first | apply Kd.S_alloc | apply Kd.S_drewN | apply Kd.S_drew)); exact HO275.out⟩, ⟨by repeat (first | (with_reducible first | exact HB.out | apply below_alloc | apply pw_below_drewN | apply below_drew1) | exact HB.out)⟩⟩
                · rw [if_neg c26] at H
                  have c26b0 : ((t266.length : Int) == t261) = false := beq_eq_false_iff_ne.mpr c26
                  have c26b1 : ((t266.length : Int) != t261) = true := bne_iff_ne.mpr c26
                  have H' := Aside0.mk H
                  clear H
                  go_wp2
                  repeat (go_quiet (fail); try go_wp2)
                  go_meet
                  case rel => exact ⟨_, (true), (by first | rfl | (simp; done) | (simp [*]; done)), H', ⟨by first | omega | exact Nat.le_refl _⟩, ⟨by (with_reducible repeat (first | apply Kd.R_alloc | apply Kd.R_drewN | apply Kd.R_drew)); exact HO269.out⟩, ⟨by (with_reducible repeat (first | apply Kd.S_alloc | apply Kd.S_drewN | apply Kd.S_drew)); exact HO275.out⟩, ⟨by repeat (first | (with_reducible first | exact HB.out | apply below_alloc | apply pw_below_drewN | apply below_drew1) | exact HB.out)⟩⟩
              · replace c25 := Bool.eq_false_iff.mpr c25
                subst c25
                have H1 : (ephemeriskeep2_ChronEarliest.j0 k t265 t261 t266 t272 true) = some r := by rw [if_neg (show ¬ (false = true) by decide)] at H; exact H
                clear H
                have H := H1
                clear H1
                have H' := Aside0.mk H
                clear H
                go_wp2
                repeat (go_quiet (fail); try go_wp2)
                go_meet
                case rel => exact ⟨_, (true), (by first | rfl | (simp; done) | (simp [*]; done)), H', ⟨by first | omega | exact Nat.le_refl _⟩, ⟨by (with_reducible repeat (first | apply Kd.R_alloc | apply Kd.R_drewN | apply Kd.R_drew)); exact HO269.out⟩, ⟨by (with_reducible repeat (first | apply Kd.S_alloc | apply Kd.S_drewN | apply Kd.S_drew)); exact HO275.out⟩, ⟨by repeat (first | (with_reducible first | exact HB.out | apply below_alloc | apply pw_below_drewN | apply below_drew1) | exact HB.out)⟩⟩
            · rw [if_neg c24] at H
              have c24b0 : (t273 == 0) = false := beq_eq_false_iff_ne.mpr c24
              have c24b1 : (t273 != 0) = true := bne_iff_ne.mpr c24
              have H' := Aside0.mk H
              clear H
              go_wp2
              repeat (go_quiet (fail); try go_wp2)
              go_meet
              case rel => exact ⟨_, (true), (by first | rfl | (simp; done) | (simp [*]; done)), H', ⟨by first | omega | exact Nat.le_refl _⟩, ⟨by (with_reducible repeat (first | apply Kd.R_alloc | apply Kd.R_drewN | apply Kd.R_drew)); exact HO269.out⟩, ⟨by (with_reducible repeat (first | apply Kd.S_alloc | apply Kd.S_drewN | apply Kd.S_drew)); exact HO275.out⟩, ⟨by repeat (first | (with_reducible first | exact HB.out | apply below_alloc | apply pw_below_drewN | apply below_drew1) | exact HB.out)⟩⟩
          · rw [if_neg c23] at H
            have c23b0 : (t271 == 0) = false := beq_eq_false_iff_ne.mpr c23
            have c23b1 : (t271 != 0) = true := bne_iff_ne.mpr c23
            (first | rw [c23b0] | (simp only [i64_w, i32_w]; rw [c23b0]) | skip)
            have H' := Aside0.mk H
            clear H
            go_wp2
            repeat (go_quiet (fail); try go_wp2)
            go_meet
            case rel => exact ⟨_, (true), (by first | rfl | (simp; done) | (simp [*]; done)), H', ⟨by first | omega | exact Nat.le_refl _⟩, ⟨by (with_reducible repeat (first | apply Kd.R_alloc | apply Kd.R_drewN | apply Kd.R_drew)); exact HO269.out⟩, ⟨by (with_reducible repeat (first | apply Kd.S_alloc | apply Kd.S_drewN | apply Kd.S_drew)); exact HO275.out⟩, ⟨by repeat (first | (with_reducible first | exact HB.out | apply below_alloc | apply pw_below_drewN | apply below_drew1) | exact HB.out)⟩⟩
        case rest =>
          clear HC15
          try clear c1
          try clear c2
          try clear p2
          try clear q2
          try clear hx2
          try clear c5
          try clear c7
          try clear c7b0
          try clear c7b1
          try clear c12
          try clear c12b0
          try clear c12b1
          try clear c23
          try clear c23b0
          try clear c23b1
          try clear c24
          try clear c24b0
          try clear c24b1
          try clear c25
          try clear c26
          try clear c26b0
          try clear c26b1
          try clear c27
          try clear c27b0
          try clear c27b1
          try clear p27
          try clear q27
          try clear hx27
          try clear c28
          try clear c28b0
          try clear c29
          try clear c29b0
          try clear hx276_0
          try clear p276
          try clear q276
          obtain ⟨kq, x87_14, rfl, HA, HJ14, HO_8, HO_12, HB⟩ := hcut
          cases kq with
          | zero => exact absurd HA.out (by simp [ephemeriskeep2_ChronEarliest.j0])
          | succ kj14 =>
            have H := HA.out
            clear HA
            simp only [ephemeriskeep2_ChronEarliest.j0] at H
            by_cases c32 : x87_14 = true
            · subst c32
              have H1 : (none) = some r := by rw [if_pos rfl] at H; exact H
              clear H
              have H := H1
              clear H1
              exact absurd H (by simp)
            · replace c32 := Bool.eq_false_iff.mpr c32
              subst c32
              have H1 : (ephemeriskeep2_ChronEarliest.l0 kj14 t265 t266 t272 t261 0) = some r := by rw [if_neg (show ¬ (false = true) by decide)] at H; exact H
              clear H
              have H := H1
              clear H1
              have H' := Aside0.mk H
              clear H
              go_wp2
              repeat (go_quiet (fail); try go_wp2)
              go_loopg [89] kj14 (fun kq v89 w' => ∃ (x89_2 : Int), v89 = .int .i64 x89_2 ∧ Aside0 (ephemeriskeep2_ChronEarliest.l0 kq t265 t266 t272 t261 x89_2 = some r) ∧ Aside0 (kq ≤ kj14) ∧ Aside0 (Kd.R (Kd.int .i64) 3 w' w.heap.size (fun _ => True) (.slice Ao20 t266.length co20) t266) ∧ Aside0 (Kd.S (Kd.slice 34 k34) 31 w' w.heap.size (fun _ => True) v274 t272) ∧ Aside0 (Below w.heap.size w w'))
              case atStart => exact ⟨(0), (by first | rfl | (simp; done) | (simp [*]; done)), H', ⟨Nat.le_refl _⟩, ⟨by (with_reducible repeat (first | apply Kd.R_alloc | apply Kd.R_drewN | apply Kd.R_drew)); exact HO_8.out⟩, ⟨by (with_reducible repeat (first | apply Kd.S_alloc | apply Kd.S_drewN | apply Kd.S_drew)); exact HO_12.out⟩, ⟨by repeat (first | (with_reducible first | exact HB.out | apply below_alloc | apply pw_below_drewN | apply below_drew1) | exact HB.out)⟩⟩
              case round =>
                clear H'
                try clear c1
                try clear c2
                try clear p2
                try clear q2
                try clear hx2
                try clear c3
                try clear c5
                try clear c7
                try clear c7b0
                try clear c7b1
                try clear c12
                try clear c12b0
                try clear c12b1
                try clear c23
                try clear c23b0
                try clear c23b1
                try clear c24
                try clear c24b0
                try clear c24b1
                try clear c25
                try clear c26
                try clear c26b0
                try clear c26b1
                try clear c27
                try clear c27b0
                try clear c27b1
                try clear p27
                try clear q27
                try clear hx27
                try clear c28
                try clear c28b0
                try clear c29
                try clear c29b0
                try clear c32
                try clear hx276_0
                try clear p2
                try clear p27
                try clear p276
                try clear q2
                try clear q27
                try clear q276
                obtain ⟨x89_2, rfl, HA, HK2, HO_8, HO_12, HB⟩ := hrel
                cases gk with
                | zero => exact absurd HA.out (by simp [ephemeriskeep2_ChronEarliest.l0])
                | succ k2 =>
                  have H := HA.out
                  clear HA
                  simp only [ephemeriskeep2_ChronEarliest.l0] at H
                  by_cases c33 : x89_2 < t261
                  · rw [if_pos c33] at H
                    have c33b0 : decide (x89_2 < t261) = true := decide_eq_true c33
                    clear c33
                    by_cases c34 : 0 ≤ x89_2
                    · rw [if_pos c34] at H
                      have c34b0 : decide (0 ≤ x89_2) = true := decide_eq_true c34
                      clear c34
                      by_cases c35 : x89_2 < (t266.length : Int)
                      · rw [if_pos c35] at H
                        have c35b0 : decide (x89_2 < (t266.length : Int)) = true := decide_eq_true c35
                        clear c35
                        by_cases c36 : 0 ≤ t265
                        · rw [if_pos c36] at H
                          have c36b0 : decide (0 ≤ t265) = true := decide_eq_true c36
                          clear c36
                          by_cases c37 : t265 < (t272.length : Int)
                          · rw [if_pos c37] at H
                            have c37b0 : decide (t265 < (t272.length : Int)) = true := decide_eq_true c37
                            clear c37
                            by_cases c38 : x89_2 < ((rd_L4 t272 t265).length : Int)
                            · rw [if_pos c38] at H
                              have c38b0 : decide (x89_2 < ((rd_L4 t272 t265).length : Int)) = true := decide_eq_true c38
                              clear c38
                              by_cases c39 : (wrap64 ((rd t266 x89_2) - 100)) = ((rd_T34 (rd_L4 t272 t265) x89_2).f0)
                              · rw [if_pos c39] at H
                                have c39b0 : ((wrap64 ((rd t266 x89_2) - 100)) == ((rd_T34 (rd_L4 t272 t265) x89_2).f0)) = true := beq_iff_eq.mpr c39
                                have c39b1 : ((wrap64 ((rd t266 x89_2) - 100)) != ((rd_T34 (rd_L4 t272 t265) x89_2).f0)) = false := bne_eq_false_iff_eq.mpr c39
                                clear c39
                                have H' := Aside0.mk H
                                clear H
                                have p277 : 0 ≤ (x89_2 : Int) := of_decide_eq_true (by first | (with_reducible assumption) | assumption)
                                have q277 : x89_2 < (t266.length : Int) := of_decide_eq_true (by first | (with_reducible assumption) | assumption)
                                obtain ⟨ad277, e277, hx277_0⟩ := Kd.at_int (Kd.R_reads' HO_8.out).2.2 x89_2 p277 q277
                                cases e277
                                replace p277 := eq_true p277
                                replace q277 := eq_true q277
                                obtain ⟨Ao40, co40, eo40⟩ := Kd.S_slice HO_12.out
                                subst eo40
                                have p278 : 0 ≤ (t265 : Int) := of_decide_eq_true (by first | (with_reducible assumption) | assumption)
                                have q278 : t265 < (t272.length : Int) := of_decide_eq_true (by first | (with_reducible assumption) | assumption)
                                obtain ⟨ad278, A278_0, c278_0, e278, hx278_0, hl278_0, hi278_0⟩ := at_L4 (Kd.S_reads' HO_12.out).2.2 t265 p278 q278
                                cases e278
                                obtain ⟨ce278, hce278, hMe278, hcc278⟩ := Kd.S_get HO_12.out [] t265 p278 (by first | exact q278 | exact of_decide_eq_true (by first | (with_reducible assumption) | assumption) | (have e_ := (Kd.S_reads' HO_12.out).1; omega))
                                obtain ⟨ve278_0, rfl, ge278_0⟩ := hMe278
                                have hv278_0 := hcc278 0 _ rfl
                                rw [Nat.add_zero, show ((Kd.slice 34 k34)).sz = 1 from rfl, Nat.mul_one] at hv278_0
                                replace hv278_0 := Option.some.inj (hv278_0.symm.trans hx278_0)
                                rw [hv278_0] at ge278_0
                                have HL278_0 := Aside0.mk (show Kd.R k34 34 _ _ _ _ (rd_L4 t272 t265) from ge278_0)
                                clear hv278_0 ge278_0
                                clear hcc278 hce278
                                have HR278_0 := Aside0.mk hi278_0
                                have HC278_0 := Aside0.mk hl278_0
                                clear hi278_0 hl278_0
                                replace p278 := eq_true p278
                                replace q278 := eq_true q278
                                have p279 : 0 ≤ (x89_2 : Int) := of_decide_eq_true (by first | (with_reducible assumption) | assumption)
                                have q279 : x89_2 < ((rd_L4 t272 t265).length : Int) := of_decide_eq_true (by first | (with_reducible assumption) | assumption)
                                obtain ⟨ad279, e279, hx279_0, hx279_1⟩ := at_T34 (by repeat (first | (with_reducible exact HR278_0.out) | (with_reducible refine Kd.C_alloc ?_ _) | (with_reducible refine Kd.C_drewN ?_ _) | (with_reducible refine Kd.C_drew ?_) | exact HR278_0.out)) x89_2 p279 q279
                                cases e279
                                replace p279 := eq_true p279
                                replace q279 := eq_true q279
                                go_wp2
                                repeat (go_quiet (fail); try go_wp2)
                                go_roundg k2
                                case measure => have := HJ14.out; have := HK2.out; omega
                                case rel => exact ⟨(wrap64 (x89_2 + 1)), (by first | rfl | (simp; done) | (simp [*]; done)), H', ⟨by have := HJ14.out; have := HK2.out; omega⟩, ⟨by (with_reducible repeat (first | apply Kd.R_alloc | apply Kd.R_drewN | apply Kd.R_drew)); exact HO_8.out⟩, ⟨by (with_reducible repeat (first | apply Kd.S_alloc | apply Kd.S_drewN | apply Kd.S_drew)); exact HO_12.out⟩, ⟨by repeat (first | (with_reducible first | exact HB.out | apply below_alloc | apply pw_below_drewN | apply below_drew1) | exact HB.out)⟩⟩
                              · rw [if_neg c39] at H
                                exact absurd H (by simp)
                            · rw [if_neg c38] at H
                              exact absurd H (by simp)
                          · rw [if_neg c37] at H
                            exact absurd H (by simp)
                        · rw [if_neg c36] at H
                          exact absurd H (by simp)
                      · rw [if_neg c35] at H
                        exact absurd H (by simp)
                    · rw [if_neg c34] at H
                      exact absurd H (by simp)
                  · rw [if_neg c33] at H
                    have c33b0 : decide (x89_2 < t261) = false := decide_eq_false c33
                    clear c33
                    obtain rfl := Option.some.inj H
                    go_wp2
                    repeat (go_quiet (fail); try go_wp2)
                    go_ret
                    exact ⟨by first | rfl | (simp [errW_none, errW_some] <;> rfl) | (simp [*, errW_none, errW_some] <;> rfl), by repeat (first | (with_reducible first | exact HB.out | apply below_alloc | apply pw_below_drewN | apply below_drew1) | exact HB.out)⟩
      · rw [if_neg c12] at H
        have c12b0 : (t267 == 0) = false := beq_eq_false_iff_ne.mpr c12
        have c12b1 : (t267 != 0) = true := bne_iff_ne.mpr c12
        by_cases c41 : t267 = 6
        · rw [if_pos c41] at H
          have c41b0 : (t267 == 6) = true := beq_iff_eq.mpr c41
          have c41b1 : (t267 != 6) = false := bne_eq_false_iff_eq.mpr c41
          clear c41
          obtain rfl := Option.some.inj H
          go_enter Try.func5, Try.ntmps5
          go_wp2_with (first | (go_at_call 12; (with_reducible refine (ephemeriskeep2_chronWorks.calls k  true _ A4.out).mono ?_); rintro e w42 ⟨rfl, hb⟩; have n0_ := Aside0.mk (below_step (by repeat (first | (with_reducible first | exact HB.out | apply below_alloc | apply pw_below_drewN | apply below_drew1) | exact HB.out)) hb); clear HB; have HB := n0_; clear n0_; (try clear hb); (try clear hb2); (try clear hk); (try clear hi)) | (go_at_call 13; (with_reducible refine (ephemeriskeep2_events.calls k _ _ l0 _ _ l1 t261 t262 _ ?side1 ?side2 ?side3 ?side4 A6.out).mono ?_); (case side1 => repeat (first | exact (Kd.C_below HR0.out HB.out) | (with_reducible refine Kd.C_alloc ?_ _) | (with_reducible refine Kd.C_drewN ?_ _) | (with_reducible refine Kd.C_drew ?_))); (case side2 => exact HC0.out); (case side3 => repeat (first | exact (Kd.C_below HR1.out HB.out) | (with_reducible refine Kd.C_alloc ?_ _) | (with_reducible refine Kd.C_drewN ?_ _) | (with_reducible refine Kd.C_drew ?_))); (case side4 => exact HC1.out); rintro e w43 ⟨v263, rfl, ho0, hb⟩; have n0_ := Aside0.mk (Kd.R_lower ho0 (below_size (by repeat (first | (with_reducible first | exact HB.out | apply below_alloc | apply pw_below_drewN | apply below_drew1) | exact HB.out)))); have n1_ := Aside0.mk (below_step (by repeat (first | (with_reducible first | exact HB.out | apply below_alloc | apply pw_below_drewN | apply below_drew1) | exact HB.out)) hb); clear HB; have HO264 := n0_; have HB := n1_; clear n0_ n1_; (try clear hb); (try clear hb2); (try clear hk); (try clear hi); (try clear ho0)) | (go_at_call 17; (with_reducible refine (ephemeriskeep2_at.calls a2 t261 t265 _ A10.out).mono ?_); rintro e w' ⟨rfl, ⟨nd, rfl⟩⟩; (try first | exact ⟨rfl, _, World.drewN_drewN _ _ _⟩ | exact ⟨rfl, _, Eq.trans (World.drewN_drewN _ _ _) (congrArg (World.drewN _) (Nat.add_assoc _ _ _))⟩); obtain ⟨Ao44, co44, eo44⟩ := Kd.R_slice HO264.out; subst eo44) | (go_at_call 18; (with_reducible refine (chron_Early.calls k t261 _ _ t262 t265 100 t266 t267 _ ?side1 ?side2 A11.out).mono ?_); (case side1 => repeat (first | exact (Kd.R_reads' HO264.out).2.2 | (with_reducible refine Kd.C_alloc ?_ _) | (with_reducible refine Kd.C_drewN ?_ _) | (with_reducible refine Kd.C_drew ?_))); (case side2 => exact (Kd.R_reads' HO264.out).2.1); rintro e w45 ⟨v268, rfl, ho0, hb⟩; have n0_ := Aside0.mk (Kd.R_below (by (with_reducible repeat (first | apply Kd.R_alloc | apply Kd.R_drewN | apply Kd.R_drew)); exact HO264.out) hb); have n1_ := Aside0.mk (Kd.R_lower ho0 (below_size (by repeat (first | (with_reducible first | exact HB.out | apply below_alloc | apply pw_below_drewN | apply below_drew1) | exact HB.out)))); have n2_ := Aside0.mk (below_step (by repeat (first | (with_reducible first | exact HB.out | apply below_alloc | apply pw_below_drewN | apply below_drew1) | exact HB.out)) hb); clear HO264; clear HB; have HO264 := n0_; have HO269 := n1_; have HB := n2_; clear n0_ n1_ n2_; (try clear hb); (try clear hb2); (try clear hk); (try clear hi); (try clear ho0); obtain ⟨Ao46, co46, eo46⟩ := Kd.R_slice HO269.out; subst eo46))
          repeat (go_quiet (first | (go_at_call 12; (with_reducible refine (ephemeriskeep2_chronWorks.calls k  true _ A4.out).mono ?_); rintro e w42 ⟨rfl, hb⟩; have n0_ := Aside0.mk (below_step (by repeat (first | (with_reducible first | exact HB.out | apply below_alloc | apply pw_below_drewN | apply below_drew1) | exact HB.out)) hb); clear HB; have HB := n0_; clear n0_; (try clear hb); (try clear hb2); (try clear hk); (try clear hi)) | (go_at_call 13; (with_reducible refine (ephemeriskeep2_events.calls k _ _ l0 _ _ l1 t261 t262 _ ?side1 ?side2 ?side3 ?side4 A6.out).mono ?_); (case side1 => repeat (first | exact (Kd.C_below HR0.out HB.out) | (with_reducible refine Kd.C_alloc ?_ _) | (with_reducible refine Kd.C_drewN ?_ _) | (with_reducible refine Kd.C_drew ?_))); (case side2 => exact HC0.out); (case side3 => repeat (first | exact (Kd.C_below HR1.out HB.out) | (with_reducible refine Kd.C_alloc ?_ _) | (with_reducible refine Kd.C_drewN ?_ _) | (with_reducible refine Kd.C_drew ?_))); (case side4 => exact HC1.out); rintro e w43 ⟨v263, rfl, ho0, hb⟩; have n0_ := Aside0.mk (Kd.R_lower ho0 (below_size (by repeat (first | (with_reducible first | exact HB.out | apply below_alloc | apply pw_below_drewN | apply below_drew1) | exact HB.out)))); have n1_ := Aside0.mk (below_step (by repeat (first | (with_reducible first | exact HB.out | apply below_alloc | apply pw_below_drewN | apply below_drew1) | exact HB.out)) hb); clear HB; have HO264 := n0_; have HB := n1_; clear n0_ n1_; (try clear hb); (try clear hb2); (try clear hk); (try clear hi); (try clear ho0)) | (go_at_call 17; (with_reducible refine (ephemeriskeep2_at.calls a2 t261 t265 _ A10.out).mono ?_); rintro e w' ⟨rfl, ⟨nd, rfl⟩⟩; (try first | exact ⟨rfl, _, World.drewN_drewN _ _ _⟩ | exact ⟨rfl, _, Eq.trans (World.drewN_drewN _ _ _) (congrArg (World.drewN _) (Nat.add_assoc _ _ _))⟩); obtain ⟨Ao44, co44, eo44⟩ := Kd.R_slice HO264.out; subst eo44) | (go_at_call 18; (with_reducible refine (chron_Early.calls k t261 _ _ t262 t265 100 t266 t267 _ ?side1 ?side2 A11.out).mono ?_); (case side1 => repeat (first | exact (Kd.R_reads' HO264.out).2.2 | (with_reducible refine Kd.C_alloc ?_ _) | (with_reducible refine Kd.C_drewN ?_ _) | (with_reducible refine Kd.C_drew ?_))); (case side2 => exact (Kd.R_reads' HO264.out).2.1); rintro e w45 ⟨v268, rfl, ho0, hb⟩; have n0_ := Aside0.mk (Kd.R_below (by (with_reducible repeat (first | apply Kd.R_alloc | apply Kd.R_drewN | apply Kd.R_drew)); exact HO264.out) hb); have n1_ := Aside0.mk (Kd.R_lower ho0 (below_size (by repeat (first | (with_reducible first | exact HB.out | apply below_alloc | apply pw_below_drewN | apply below_drew1) | exact HB.out)))); have n2_ := Aside0.mk (below_step (by repeat (first | (with_reducible first | exact HB.out | apply below_alloc | apply pw_below_drewN | apply below_drew1) | exact HB.out)) hb); clear HO264; clear HB; have HO264 := n0_; have HO269 := n1_; have HB := n2_; clear n0_ n1_ n2_; (try clear hb); (try clear hb2); (try clear hk); (try clear hi); (try clear ho0); obtain ⟨Ao46, co46, eo46⟩ := Kd.R_slice HO269.out; subst eo46)); try go_wp2_with (first | (go_at_call 12; (with_reducible refine (ephemeriskeep2_chronWorks.calls k  true _ A4.out).mono ?_); rintro e w42 ⟨rfl, hb⟩; have n0_ := Aside0.mk (below_step (by repeat (first | (with_reducible first | exact HB.out | apply below_alloc | apply pw_below_drewN | apply below_drew1) | exact HB.out)) hb); clear HB; have HB := n0_; clear n0_; (try clear hb); (try clear hb2); (try clear hk); (try clear hi)) | (go_at_call 13; (with_reducible refine (ephemeriskeep2_events.calls k _ _ l0 _ _ l1 t261 t262 _ ?side1 ?side2 ?side3 ?side4 A6.out).mono ?_); (case side1 => repeat (first | exact (Kd.C_below HR0.out HB.out) | (with_reducible refine Kd.C_alloc ?_ _) | (with_reducible refine Kd.C_drewN ?_ _) | (with_reducible refine Kd.C_drew ?_))); (case side2 => exact HC0.out); (case side3 => repeat (first | exact (Kd.C_below HR1.out HB.out) | (with_reducible refine Kd.C_alloc ?_ _) | (with_reducible refine Kd.C_drewN ?_ _) | (with_reducible refine Kd.C_drew ?_))); (case side4 => exact HC1.out); rintro e w43 ⟨v263, rfl, ho0, hb⟩; have n0_ := Aside0.mk (Kd.R_lower ho0 (below_size (by repeat (first | (with_reducible first | exact HB.out | apply below_alloc | apply pw_below_drewN | apply below_drew1) | exact HB.out)))); have n1_ := Aside0.mk (below_step (by repeat (first | (with_reducible first | exact HB.out | apply below_alloc | apply pw_below_drewN | apply below_drew1) | exact HB.out)) hb); clear HB; have HO264 := n0_; have HB := n1_; clear n0_ n1_; (try clear hb); (try clear hb2); (try clear hk); (try clear hi); (try clear ho0)) | (go_at_call 17; (with_reducible refine (ephemeriskeep2_at.calls a2 t261 t265 _ A10.out).mono ?_); rintro e w' ⟨rfl, ⟨nd, rfl⟩⟩; (try first | exact ⟨rfl, _, World.drewN_drewN _ _ _⟩ | exact ⟨rfl, _, Eq.trans (World.drewN_drewN _ _ _) (congrArg (World.drewN _) (Nat.add_assoc _ _ _))⟩); obtain ⟨Ao44, co44, eo44⟩ := Kd.R_slice HO264.out; subst eo44) | (go_at_call 18; (with_reducible refine (chron_Early.calls k t261 _ _ t262 t265 100 t266 t267 _ ?side1 ?side2 A11.out).mono ?_); (case side1 => repeat (first | exact (Kd.R_reads' HO264.out).2.2 | (with_reducible refine Kd.C_alloc ?_ _) | (with_reducible refine Kd.C_drewN ?_ _) | (with_reducible refine Kd.C_drew ?_))); (case side2 => exact (Kd.R_reads' HO264.out).2.1); rintro e w45 ⟨v268, rfl, ho0, hb⟩; have n0_ := Aside0.mk (Kd.R_below (by (with_reducible repeat (first | apply Kd.R_alloc | apply Kd.R_drewN | apply Kd.R_drew)); exact HO264.out) hb); have n1_ := Aside0.mk (Kd.R_lower ho0 (below_size (by repeat (first | (with_reducible first | exact HB.out | apply below_alloc | apply pw_below_drewN | apply below_drew1) | exact HB.out)))); have n2_ := Aside0.mk (below_step (by repeat (first | (with_reducible first | exact HB.out | apply below_alloc | apply pw_below_drewN | apply below_drew1) | exact HB.out)) hb); clear HO264; clear HB; have HO264 := n0_; have HO269 := n1_; have HB := n2_; clear n0_ n1_ n2_; (try clear hb); (try clear hb2); (try clear hk); (try clear hi); (try clear ho0); obtain ⟨Ao46, co46, eo46⟩ := Kd.R_slice HO269.out; subst eo46)))
          go_ret
          exact ⟨by first | rfl | (simp [errW_none, errW_some] <;> rfl) | (simp [*, errW_none, errW_some] <;> rfl), by repeat (first | (with_reducible first | exact HB.out | apply below_alloc | apply pw_below_drewN | apply below_drew1) | exact HB.out)⟩
        · rw [if_neg c41] at H
          exact absurd H (by simp)
  · replace c5 := Bool.eq_false_iff.mpr c5
    subst c5
    have H1 : (none) = some r := by rw [if_neg (show ¬ (false = true) by decide)] at H; exact H
    clear H
    have H := H1
    clear H1
    exact absurd H (by simp)

end Go.Proofs.Ytglkadgdmdgckaa.JB
