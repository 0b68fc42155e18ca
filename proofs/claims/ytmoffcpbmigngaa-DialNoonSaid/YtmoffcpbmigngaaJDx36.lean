-- Made by a program of this session (wip/hp.py, over the kit's print) out of the translation. Not trusted: Lean checks it.
import Derived.Test.YtmoffcpbmigngaaJDx0
import Derived.Test.YtmoffcpbmigngaaJDx2
import Derived.Test.YtmoffcpbmigngaaJDx23
import Derived.Test.YtmoffcpbmigngaaJDx33
import Derived.Test.YtmoffcpbmigngaaJDx35
namespace Go.Proofs.Ytmoffcpbmigngaa.JD
open Go.RowKit Go.Proofs.YtmoffcpbmigngaaW.PrintWords Go.Proofs.YtmoffcpbmigngaaW.PrintLast Go.Proofs.YtmoffcpbmigngaaW.PrintMore
attribute [local go_sem] max2_int min2_int max_two min_two max_three min_three max_four min_four   -- for this text's walks alone
set_option linter.unusedVariables false
set_option linter.unusedSimpArgs false

/-! ### ephemeriskeep2_DialNoon: function 5 -/
set_option maxHeartbeats 8000000 in
set_option maxRecDepth 100000 in
theorem ephemeriskeep2_DialNoon.calls (k : Nat) (a0 : Int) (r : Bool) (w : World) (h : ephemeriskeep2_DialNoon.f k a0 = some r) :
    Calls Try.prog 5 #[.int .i64 a0] w fun e w' => e = .returned (.bool r) ∧ Below w.heap.size w w' := by
  have hu23 := Try.underlying23
  have HB := Aside0.mk (Below.refl w.heap.size w)
  have H : ((ephemeriskeep2_dialWorks.f k).bind fun t313 => (if t313 = true then ((ephemeriskeep2_at.f a0 210000001).bind fun t314 => ((dial_Lines.f k (wrap64 (10000000 + t314))).bind fun bt315 => (if bt315.2 = 0 then (if (bt315.1.length : Int) = 13 then (if 6 < (bt315.1.length : Int) then (if ((rd_T23 bt315.1 6).f0) ≤ 0 then (if ((rd_T23 bt315.1 6).f1) ≥ 0 then (if 0 < (bt315.1.length : Int) then ((ephemeriskeep2_meets.f ((rd_T23 bt315.1 0).f0) ((rd_T23 bt315.1 0).f1) (-250000100) (-249999900)).bind fun t322 => (if t322 = true then (if 12 < (bt315.1.length : Int) then ((ephemeriskeep2_meets.f ((rd_T23 bt315.1 12).f0) ((rd_T23 bt315.1 12).f1) 249999900 250000100).bind fun t324 => (some t324)) else (none)) else (none))) else (none)) else (none)) else (none)) else (none)) else (none)) else (none)))) else (none))) = some r := h
  clear h
  replace H := Option.bind_eq_some_iff.mp H
  obtain ⟨t313, A20, H⟩ := H
  replace H : (if t313 = true then ((ephemeriskeep2_at.f a0 210000001).bind fun t314 => ((dial_Lines.f k (wrap64 (10000000 + t314))).bind fun bt315 => (if bt315.2 = 0 then (if (bt315.1.length : Int) = 13 then (if 6 < (bt315.1.length : Int) then (if ((rd_T23 bt315.1 6).f0) ≤ 0 then (if ((rd_T23 bt315.1 6).f1) ≥ 0 then (if 0 < (bt315.1.length : Int) then ((ephemeriskeep2_meets.f ((rd_T23 bt315.1 0).f0) ((rd_T23 bt315.1 0).f1) (-250000100) (-249999900)).bind fun t322 => (if t322 = true then (if 12 < (bt315.1.length : Int) then ((ephemeriskeep2_meets.f ((rd_T23 bt315.1 12).f0) ((rd_T23 bt315.1 12).f1) 249999900 250000100).bind fun t324 => (some t324)) else (none)) else (none))) else (none)) else (none)) else (none)) else (none)) else (none)) else (none)))) else (none)) = some r := H
  have A2 := Aside0.mk A20
  clear A20
  by_cases c3 : t313 = true
  · subst c3
    have H1 : ((ephemeriskeep2_at.f a0 210000001).bind fun t314 => ((dial_Lines.f k (wrap64 (10000000 + t314))).bind fun bt315 => (if bt315.2 = 0 then (if (bt315.1.length : Int) = 13 then (if 6 < (bt315.1.length : Int) then (if ((rd_T23 bt315.1 6).f0) ≤ 0 then (if ((rd_T23 bt315.1 6).f1) ≥ 0 then (if 0 < (bt315.1.length : Int) then ((ephemeriskeep2_meets.f ((rd_T23 bt315.1 0).f0) ((rd_T23 bt315.1 0).f1) (-250000100) (-249999900)).bind fun t322 => (if t322 = true then (if 12 < (bt315.1.length : Int) then ((ephemeriskeep2_meets.f ((rd_T23 bt315.1 12).f0) ((rd_T23 bt315.1 12).f1) 249999900 250000100).bind fun t324 => (some t324)) else (none)) else (none))) else (none)) else (none)) else (none)) else (none)) else (none)) else (none)))) = some r := by rw [if_pos rfl] at H; exact H
    clear H
    have H := H1
    clear H1
    replace H := Option.bind_eq_some_iff.mp H
    obtain ⟨t314, A40, H⟩ := H
    replace H : ((dial_Lines.f k (wrap64 (10000000 + t314))).bind fun bt315 => (if bt315.2 = 0 then (if (bt315.1.length : Int) = 13 then (if 6 < (bt315.1.length : Int) then (if ((rd_T23 bt315.1 6).f0) ≤ 0 then (if ((rd_T23 bt315.1 6).f1) ≥ 0 then (if 0 < (bt315.1.length : Int) then ((ephemeriskeep2_meets.f ((rd_T23 bt315.1 0).f0) ((rd_T23 bt315.1 0).f1) (-250000100) (-249999900)).bind fun t322 => (if t322 = true then (if 12 < (bt315.1.length : Int) then ((ephemeriskeep2_meets.f ((rd_T23 bt315.1 12).f0) ((rd_T23 bt315.1 12).f1) 249999900 250000100).bind fun t324 => (some t324)) else (none)) else (none))) else (none)) else (none)) else (none)) else (none)) else (none)) else (none))) = some r := H
    have A4 := Aside0.mk A40
    clear A40
    replace H := Option.bind_eq_some_iff.mp H
    obtain ⟨⟨t315, t316⟩, A50, H⟩ := H
    replace H : (if t316 = 0 then (if (t315.length : Int) = 13 then (if 6 < (t315.length : Int) then (if ((rd_T23 t315 6).f0) ≤ 0 then (if ((rd_T23 t315 6).f1) ≥ 0 then (if 0 < (t315.length : Int) then ((ephemeriskeep2_meets.f ((rd_T23 t315 0).f0) ((rd_T23 t315 0).f1) (-250000100) (-249999900)).bind fun t322 => (if t322 = true then (if 12 < (t315.length : Int) then ((ephemeriskeep2_meets.f ((rd_T23 t315 12).f0) ((rd_T23 t315 12).f1) 249999900 250000100).bind fun t324 => (some t324)) else (none)) else (none))) else (none)) else (none)) else (none)) else (none)) else (none)) else (none)) = some r := H
    have A5 := Aside0.mk A50
    clear A50
    by_cases c6 : t316 = 0
    · rw [if_pos c6] at H
      have c6b0 : (t316 == 0) = true := beq_iff_eq.mpr c6
      have c6b1 : (t316 != 0) = false := bne_eq_false_iff_eq.mpr c6
      clear c6
      by_cases c7 : (t315.length : Int) = 13
      · rw [if_pos c7] at H
        have c7b0 : ((t315.length : Int) == 13) = true := beq_iff_eq.mpr c7
        have c7b1 : ((t315.length : Int) != 13) = false := bne_eq_false_iff_eq.mpr c7
        clear c7
        by_cases c8 : 6 < (t315.length : Int)
        · rw [if_pos c8] at H
          have c8b0 : decide (6 < (t315.length : Int)) = true := decide_eq_true c8
          have c8b1 : decide (6 < t315.length) = true := decide_eq_true (by omega)
          clear c8
          by_cases c9 : ((rd_T23 t315 6).f0) ≤ 0
          · rw [if_pos c9] at H
            have c9b0 : decide (((rd_T23 t315 6).f0) ≤ 0) = true := decide_eq_true c9
            clear c9
            by_cases c10 : ((rd_T23 t315 6).f1) ≥ 0
            · rw [if_pos c10] at H
              have c10b0 : decide (0 ≤ ((rd_T23 t315 6).f1)) = true := decide_eq_true c10
              clear c10
              by_cases c11 : 0 < (t315.length : Int)
              · rw [if_pos c11] at H
                have c11b0 : decide (0 < (t315.length : Int)) = true := decide_eq_true c11
                have c11b1 : decide (0 < t315.length) = true := decide_eq_true (by omega)
                clear c11
                replace H := Option.bind_eq_some_iff.mp H
                obtain ⟨t322, A120, H⟩ := H
                replace H : (if t322 = true then (if 12 < (t315.length : Int) then ((ephemeriskeep2_meets.f ((rd_T23 t315 12).f0) ((rd_T23 t315 12).f1) 249999900 250000100).bind fun t324 => (some t324)) else (none)) else (none)) = some r := H
                have A12 := Aside0.mk A120
                clear A120
                by_cases c13 : t322 = true
                · subst c13
                  have H1 : (if 12 < (t315.length : Int) then ((ephemeriskeep2_meets.f ((rd_T23 t315 12).f0) ((rd_T23 t315 12).f1) 249999900 250000100).bind fun t324 => (some t324)) else (none)) = some r := by rw [if_pos rfl] at H; exact H
                  clear H
                  have H := H1
                  clear H1
                  by_cases c14 : 12 < (t315.length : Int)
                  · rw [if_pos c14] at H
                    have c14b0 : decide (12 < (t315.length : Int)) = true := decide_eq_true c14
                    have c14b1 : decide (12 < t315.length) = true := decide_eq_true (by omega)
                    clear c14
                    replace H := Option.bind_eq_some_iff.mp H
                    obtain ⟨t324, A150, H⟩ := H
                    replace H : (some t324) = some r := H
                    have A15 := Aside0.mk A150
                    clear A150
                    obtain rfl := Option.some.inj H
                    go_enter Try.func5, Try.ntmps5
                    go_wp2_with (first | ((with_reducible refine gate_callee (f := 23) rfl ?_); refine goesL_ (some 5) rfl rfl Try.func23 (by kernel_rfl) rfl #[] rfl (by (try simp only [List.map_toArray, List.map_cons, List.map_nil]); first | done | rfl | (simp only [List.length_drop, List.length_take]; rfl)) ?_; (with_reducible refine (ephemeriskeep2_dialWorks.calls k  true _ A2.out).mono ?_); rintro e w16 ⟨rfl, hb⟩; refine ⟨_, rfl, ?_⟩; have n0_ := Aside0.mk (below_step (by repeat (first | (with_reducible first | exact HB.out | apply below_alloc | apply pw_below_drewN | apply below_drew1) | exact HB.out)) hb); clear HB; have HB := n0_; clear n0_; (try clear hb); (try clear hb2); (try clear hk); (try clear hi)) | ((with_reducible refine gate_callee (f := 24) rfl ?_); refine goesL_ (some 9) rfl rfl Try.func24 (by kernel_rfl) rfl #[.int .i64 a0, .int .i64 210000001] rfl (by (try simp only [List.map_toArray, List.map_cons, List.map_nil]); first | done | rfl | (simp only [List.length_drop, List.length_take]; rfl)) ?_; (with_reducible refine (ephemeriskeep2_at.calls a0 210000001 t314 _ A4.out).mono ?_); rintro e w' ⟨rfl, ⟨nd, rfl⟩⟩; refine ⟨_, rfl, ?_⟩) | ((with_reducible refine gate_callee (f := 27) rfl ?_); refine goesL_ (some 11) rfl rfl Try.func27 (by kernel_rfl) rfl #[.int .i64 (wrap64 (10000000 + t314))] rfl (by (try simp only [List.map_toArray, List.map_cons, List.map_nil]); first | done | rfl | (simp only [List.length_drop, List.length_take]; rfl) | (rw [wrap_in_ (n := 10000000 + t314) (by omega) (by omega)]; rfl)) ?_; (with_reducible refine (dial_Lines.calls k (wrap64 (10000000 + t314)) t315 t316 _ A5.out).mono ?_); rintro e w17 ⟨v317, rfl, ho0, hb⟩; refine ⟨_, rfl, ?_⟩; have n0_ := Aside0.mk (Kd.R_lower ho0 (below_size (by repeat (first | (with_reducible first | exact HB.out | apply below_alloc | apply pw_below_drewN | apply below_drew1) | exact HB.out)))); have n1_ := Aside0.mk (below_step (by repeat (first | (with_reducible first | exact HB.out | apply below_alloc | apply pw_below_drewN | apply below_drew1) | exact HB.out)) hb); clear HB; have HO318 := n0_; have HB := n1_; clear n0_ n1_; (try clear hb); (try clear hb2); (try clear hk); (try clear hi); (try clear ho0); obtain ⟨Ao18, co18, eo18⟩ := Kd.R_slice HO318.out; subst eo18; have p319 : 0 ≤ (6 : Int) := (by omega); have q319 : 6 < (t315.length : Int) := of_decide_eq_true (by first | (with_reducible assumption) | assumption); obtain ⟨ad319, e319, hx319_0, hx319_1⟩ := at_T23 (Kd.R_reads' HO318.out).2.2 6 p319 q319; cases e319; (try simp only [show (6 : Int).toNat = 6 from rfl, Nat.reduceMul, Nat.reduceEqDiff, Go.Addr.add, ↓reduceIte] at hx319_0); (try simp only [show (6 : Int).toNat = 6 from rfl, Nat.reduceMul, Nat.reduceEqDiff, Go.Addr.add, ↓reduceIte] at hx319_1); have qi319 : (6 < t315.length) = True := eq_true (by omega); (try rw [show ((6 : Int)).toNat = 6 from rfl] at hx319_0); (try rw [show 6 * 2 = 12 from rfl] at hx319_0); (try rw [show ((6 : Int)).toNat = 6 from rfl] at hx319_1); (try rw [show 6 * 2 = 12 from rfl] at hx319_1); replace p319 := eq_true p319; replace q319 := eq_true q319; have p320 : 0 ≤ (6 : Int) := (by omega); have q320 : 6 < (t315.length : Int) := of_decide_eq_true (by first | (with_reducible assumption) | assumption); obtain ⟨ad320, e320, hx320_0, hx320_1⟩ := at_T23 (Kd.R_reads' HO318.out).2.2 6 p320 q320; obtain rfl : ad319 = ad320 := (by injection e320); (try simp only [show (6 : Int).toNat = 6 from rfl, Nat.reduceMul, Nat.reduceEqDiff, Go.Addr.add, ↓reduceIte] at hx320_0); (try simp only [show (6 : Int).toNat = 6 from rfl, Nat.reduceMul, Nat.reduceEqDiff, Go.Addr.add, ↓reduceIte] at hx320_1); have qi320 : (6 < t315.length) = True := eq_true (by omega); (try rw [show ((6 : Int)).toNat = 6 from rfl] at hx320_0); (try rw [show 6 * 2 = 12 from rfl] at hx320_0); (try rw [show ((6 : Int)).toNat = 6 from rfl] at hx320_1); (try rw [show 6 * 2 = 12 from rfl] at hx320_1); replace p320 := eq_true p320; replace q320 := eq_true q320; have p321 : 0 ≤ (0 : Int) := (by omega); have q321 : 0 < (t315.length : Int) := of_decide_eq_true (by first | (with_reducible assumption) | assumption); obtain ⟨ad321, e321, hx321_0, hx321_1⟩ := at_T23 (Kd.R_reads' HO318.out).2.2 0 p321 q321; obtain rfl : ad319 = ad321 := (by injection e321); have qi321 : (0 < t315.length) = True := eq_true (by omega); (try rw [show ((0 : Int)).toNat = 0 from rfl] at hx321_0); (try rw [show 0 * 2 = 0 from rfl] at hx321_0); (try rw [Addr.add_zero'] at hx321_0); (try rw [show ((0 : Int)).toNat = 0 from rfl] at hx321_1); (try rw [show 0 * 2 = 0 from rfl] at hx321_1); (try rw [Addr.add_zero'] at hx321_1); replace p321 := eq_true p321; replace q321 := eq_true q321) | (go_at_call 26; (with_reducible refine (ephemeriskeep2_meets.calls ((rd_T23 t315 0).f0) ((rd_T23 t315 0).f1) (-250000100) (-249999900) true _ A12.out).mono ?_); rintro e w19 ⟨rfl, hb⟩; have n0_ := Aside0.mk (Kd.R_below (by (with_reducible repeat (first | apply Kd.R_alloc | apply Kd.R_drewN | apply Kd.R_drew)); exact HO318.out) hb); have n1_ := Aside0.mk (below_step (by repeat (first | (with_reducible first | exact HB.out | apply below_alloc | apply pw_below_drewN | apply below_drew1) | exact HB.out)) hb); clear HO318; clear HB; have HO318 := n0_; have HB := n1_; clear n0_ n1_; (try clear hb); (try clear hb2); (try clear hk); (try clear hi); have p323 : 0 ≤ (12 : Int) := (by omega); have q323 : 12 < (t315.length : Int) := of_decide_eq_true (by first | (with_reducible assumption) | assumption); obtain ⟨ad323, e323, hx323_0, hx323_1⟩ := at_T23 (Kd.R_reads' HO318.out).2.2 12 p323 q323; obtain rfl : ad319 = ad323 := (by injection e323); (try simp only [show (12 : Int).toNat = 12 from rfl, Nat.reduceMul, Nat.reduceEqDiff, Go.Addr.add, ↓reduceIte] at hx323_0); (try simp only [show (12 : Int).toNat = 12 from rfl, Nat.reduceMul, Nat.reduceEqDiff, Go.Addr.add, ↓reduceIte] at hx323_1); have qi323 : (12 < t315.length) = True := eq_true (by omega); (try rw [show ((12 : Int)).toNat = 12 from rfl] at hx323_0); (try rw [show 12 * 2 = 24 from rfl] at hx323_0); (try rw [show ((12 : Int)).toNat = 12 from rfl] at hx323_1); (try rw [show 12 * 2 = 24 from rfl] at hx323_1); replace p323 := eq_true p323; replace q323 := eq_true q323) | (go_at_call 26; (with_reducible refine (ephemeriskeep2_meets.calls ((rd_T23 t315 12).f0) ((rd_T23 t315 12).f1) 249999900 250000100 t324 _ A15.out).mono ?_); rintro e w20 ⟨rfl, hb⟩; have n0_ := Aside0.mk (Kd.R_below (by (with_reducible repeat (first | apply Kd.R_alloc | apply Kd.R_drewN | apply Kd.R_drew)); exact HO318.out) hb); have n1_ := Aside0.mk (below_step (by repeat (first | (with_reducible first | exact HB.out | apply below_alloc | apply pw_below_drewN | apply below_drew1) | exact HB.out)) hb); clear HO318; clear HB; have HO318 := n0_; have HB := n1_; clear n0_ n1_; (try clear hb); (try clear hb2); (try clear hk); (try clear hi)))
                    go_ret
                    exact ⟨by first | rfl | (simp [errW_none, errW_some] <;> rfl) | (simp [*, errW_none, errW_some] <;> rfl), by repeat (first | (with_reducible first | exact HB.out | apply below_alloc | apply pw_below_drewN | apply below_drew1) | exact HB.out)⟩
                  · rw [if_neg c14] at H
                    exact absurd H (by simp)
                · replace c13 := Bool.eq_false_iff.mpr c13
                  subst c13
                  have H1 : (none) = some r := by rw [if_neg (show ¬ (false = true) by decide)] at H; exact H
                  clear H
                  have H := H1
                  clear H1
                  exact absurd H (by simp)
              · rw [if_neg c11] at H
                exact absurd H (by simp)
            · rw [if_neg c10] at H
              exact absurd H (by simp)
          · rw [if_neg c9] at H
            exact absurd H (by simp)
        · rw [if_neg c8] at H
          exact absurd H (by simp)
      · rw [if_neg c7] at H
        exact absurd H (by simp)
    · rw [if_neg c6] at H
      exact absurd H (by simp)
  · replace c3 := Bool.eq_false_iff.mpr c3
    subst c3
    have H1 : (none) = some r := by rw [if_neg (show ¬ (false = true) by decide)] at H; exact H
    clear H
    have H := H1
    clear H1
    exact absurd H (by simp)

theorem ephemeriskeep2_DialNoon.walk (P : ephemeriskeep2_DialNoon.Pure) (a0 : Int) (w : World) (w0 : (Lit.int .i64 a0).wf = true) :
    Calls Try.prog 5 #[.int .i64 a0] w fun e w' => e = .returned (.bool true) ∧ Below w.heap.size w w' := by
  obtain ⟨k, h⟩ := P a0 w0
  refine (ephemeriskeep2_DialNoon.calls k a0 true w h).mono ?_
  rintro e w' ⟨rfl, hd⟩
  exact ⟨rfl, hd⟩

end Go.Proofs.Ytmoffcpbmigngaa.JD
