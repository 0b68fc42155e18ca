-- Made by a program of this session (wip/hp.py, over the kit's print) out of the translation. Not trusted: Lean checks it.
import Derived.Test.YtglpfgkbecgaaaaJCx0
import Derived.Test.YtglpfgkbecgaaaaJCx2
import Derived.Test.YtglpfgkbecgaaaaJCx8
import Derived.Test.YtglpfgkbecgaaaaJCx9
import Derived.Test.YtglpfgkbecgaaaaJCx10
import Derived.Test.YtglpfgkbecgaaaaJCx12
namespace Go.Proofs.Ytglpfgkbecgaaaa.JC
open Go.RowKit Go.Proofs.YtglpfgkbecgaaaaW.PrintWords Go.Proofs.YtglpfgkbecgaaaaW.PrintLast Go.Proofs.YtglpfgkbecgaaaaW.PrintMore
attribute [local go_sem] max2_int min2_int max_two min_two max_three min_three max_four min_four   -- for this text's walks alone
set_option linter.unusedVariables false
set_option linter.unusedSimpArgs false

/-! ### ephemeriskeep2_ContradictSpare: function 7 -/
def ephemeriskeep2_ContradictSpare.T8 : Bool × List (List Nat × List Nat) := (true, [([], []), ([], []), ([], []), ([1, 2], [1, 2]), ([], []), ([], []), ([4, 5], [4, 5]), ([6], [6]), ([0, 3, 7], [0, 3, 7]), ([8], [8]), ([9], [9]), ([9], [9]), ([10, 8, 0, 1, 2, 3, 4, 5, 6, 7, 8, 9, 10], [10]), ([11, 12, 0, 1, 2, 3, 4, 5, 6, 7, 8, 9, 10, 11, 12], [11])])
def ephemeriskeep2_ContradictSpare.B8 : List Nat := [0, 0, 0, 6, 0, 0, 48, 112, 255, 511, 1023, 1023, 2047, 8191]
theorem ephemeriskeep2_ContradictSpare.tab8 : rtab .any (opsOf Try.f7 8) = ephemeriskeep2_ContradictSpare.T8 := by kernel_rfl
theorem ephemeriskeep2_ContradictSpare.bits8 : waitsOk ephemeriskeep2_ContradictSpare.T8.2 ephemeriskeep2_ContradictSpare.B8 = true := by kernel_rfl
set_option maxHeartbeats 8000000 in
set_option maxRecDepth 100000 in
theorem ephemeriskeep2_ContradictSpare.calls (k : Nat) (A0 : Option Addr) (c0 : Nat) (l0 : List Int) (A1 : Option Addr) (c1 : Nat) (l1 : List (S51)) (r : Bool) (w : World) (hr0 : Kd.C (Kd.int .i64) w A0 l0.length l0) (hc0 : l0.length ≤ c0) (hr1 : Kd.C k51 w A1 l1.length l1) (hc1 : l1.length ≤ c1) (h : ephemeriskeep2_ContradictSpare.f k l0 l1 = some r) :
    Calls Try.prog 7 #[.slice A0 l0.length c0, .slice A1 l1.length c1] w fun e w' => e = .returned (.bool r) ∧ Below w.heap.size w w' := by
  have hu51 := Try.underlying51
  have HR0 := Aside0.mk hr0
  have HC0 := Aside0.mk hc0
  clear hr0 hc0
  have HR1 := Aside0.mk hr1
  have HC1 := Aside0.mk hc1
  clear hr1 hc1
  have HB := Aside0.mk (Below.refl w.heap.size w)
  have H : ((ephemeriskeep2_contradictWorks.f k).bind fun t270 => (if t270 = true then ((ephemeriskeep2_events.f k l0 l1).bind fun bt271 => (if (bt271.2.length : Int) = 0 then (some true) else ((contradict_Implied.f k bt271.1 bt271.2 (wrap64 ((bt271.2.length : Int) - 1))).bind fun bt275 => (if 0 ≤ (wrap64 ((bt271.2.length : Int) - 1)) then (if (wrap64 ((bt271.2.length : Int) - 1)) ≤ (bt271.2.length : Int) then (if (wrap64 ((bt271.2.length : Int) - 1)) < (bt271.2.length : Int) then ((contradict_Changed.f k bt271.1 (bt271.2.take ((wrap64 ((bt271.2.length : Int) - 1)) : Int).toNat) ((rd_T51 bt271.2 (wrap64 ((bt271.2.length : Int) - 1))).f0) ((rd_T51 bt271.2 (wrap64 ((bt271.2.length : Int) - 1))).f1) ((rd_T51 bt271.2 (wrap64 ((bt271.2.length : Int) - 1))).f2) ((rd_T51 bt271.2 (wrap64 ((bt271.2.length : Int) - 1))).f3)).bind fun bt282 => (if bt275.2 = 0 then (if bt282.2 = 0 then (some (bt275.1 == ((bt282.1.length : Int) == 0))) else (none)) else (none))) else (none)) else (none)) else (none))))) else (none))) = some r := h
  clear h
  replace H := Option.bind_eq_some_iff.mp H
  obtain ⟨t270, A30, H⟩ := H
  replace H : (if t270 = true then ((ephemeriskeep2_events.f k l0 l1).bind fun bt271 => (if (bt271.2.length : Int) = 0 then (some true) else ((contradict_Implied.f k bt271.1 bt271.2 (wrap64 ((bt271.2.length : Int) - 1))).bind fun bt275 => (if 0 ≤ (wrap64 ((bt271.2.length : Int) - 1)) then (if (wrap64 ((bt271.2.length : Int) - 1)) ≤ (bt271.2.length : Int) then (if (wrap64 ((bt271.2.length : Int) - 1)) < (bt271.2.length : Int) then ((contradict_Changed.f k bt271.1 (bt271.2.take ((wrap64 ((bt271.2.length : Int) - 1)) : Int).toNat) ((rd_T51 bt271.2 (wrap64 ((bt271.2.length : Int) - 1))).f0) ((rd_T51 bt271.2 (wrap64 ((bt271.2.length : Int) - 1))).f1) ((rd_T51 bt271.2 (wrap64 ((bt271.2.length : Int) - 1))).f2) ((rd_T51 bt271.2 (wrap64 ((bt271.2.length : Int) - 1))).f3)).bind fun bt282 => (if bt275.2 = 0 then (if bt282.2 = 0 then (some (bt275.1 == ((bt282.1.length : Int) == 0))) else (none)) else (none))) else (none)) else (none)) else (none))))) else (none)) = some r := H
  have A3 := Aside0.mk A30
  clear A30
  by_cases c4 : t270 = true
  · subst c4
    have H1 : ((ephemeriskeep2_events.f k l0 l1).bind fun bt271 => (if (bt271.2.length : Int) = 0 then (some true) else ((contradict_Implied.f k bt271.1 bt271.2 (wrap64 ((bt271.2.length : Int) - 1))).bind fun bt275 => (if 0 ≤ (wrap64 ((bt271.2.length : Int) - 1)) then (if (wrap64 ((bt271.2.length : Int) - 1)) ≤ (bt271.2.length : Int) then (if (wrap64 ((bt271.2.length : Int) - 1)) < (bt271.2.length : Int) then ((contradict_Changed.f k bt271.1 (bt271.2.take ((wrap64 ((bt271.2.length : Int) - 1)) : Int).toNat) ((rd_T51 bt271.2 (wrap64 ((bt271.2.length : Int) - 1))).f0) ((rd_T51 bt271.2 (wrap64 ((bt271.2.length : Int) - 1))).f1) ((rd_T51 bt271.2 (wrap64 ((bt271.2.length : Int) - 1))).f2) ((rd_T51 bt271.2 (wrap64 ((bt271.2.length : Int) - 1))).f3)).bind fun bt282 => (if bt275.2 = 0 then (if bt282.2 = 0 then (some (bt275.1 == ((bt282.1.length : Int) == 0))) else (none)) else (none))) else (none)) else (none)) else (none))))) = some r := by rw [if_pos rfl] at H; exact H
    clear H
    have H := H1
    clear H1
    replace H := Option.bind_eq_some_iff.mp H
    obtain ⟨⟨t271, t272⟩, A50, H⟩ := H
    replace H : (if (t272.length : Int) = 0 then (some true) else ((contradict_Implied.f k t271 t272 (wrap64 ((t272.length : Int) - 1))).bind fun bt275 => (if 0 ≤ (wrap64 ((t272.length : Int) - 1)) then (if (wrap64 ((t272.length : Int) - 1)) ≤ (t272.length : Int) then (if (wrap64 ((t272.length : Int) - 1)) < (t272.length : Int) then ((contradict_Changed.f k t271 (t272.take ((wrap64 ((t272.length : Int) - 1)) : Int).toNat) ((rd_T51 t272 (wrap64 ((t272.length : Int) - 1))).f0) ((rd_T51 t272 (wrap64 ((t272.length : Int) - 1))).f1) ((rd_T51 t272 (wrap64 ((t272.length : Int) - 1))).f2) ((rd_T51 t272 (wrap64 ((t272.length : Int) - 1))).f3)).bind fun bt282 => (if bt275.2 = 0 then (if bt282.2 = 0 then (some (bt275.1 == ((bt282.1.length : Int) == 0))) else (none)) else (none))) else (none)) else (none)) else (none)))) = some r := H
    have A5 := Aside0.mk A50
    clear A50
    by_cases c6 : (t272.length : Int) = 0
    · rw [if_pos c6] at H
      have c6b0 : ((t272.length : Int) == 0) = true := beq_iff_eq.mpr c6
      have c6b1 : ((t272.length : Int) != 0) = false := bne_eq_false_iff_eq.mpr c6
      clear c6
      obtain rfl := Option.some.inj H
      go_enter Try.func7, Try.ntmps7
      go_wp2_with (first | ((with_reducible refine gate_callee (f := 20) rfl ?_); refine goesL_ (some 11) rfl rfl Try.func20 (by kernel_rfl) rfl #[] rfl (by (try simp only [List.map_toArray, List.map_cons, List.map_nil]); first | done | rfl | (simp only [List.length_drop, List.length_take]; rfl)) ?_; (with_reducible refine (ephemeriskeep2_contradictWorks.calls k  true _ A3.out).mono ?_); rintro e w7 ⟨rfl, hb⟩; refine ⟨_, rfl, ?_⟩; have n0_ := Aside0.mk (below_step (by repeat (first | (with_reducible first | exact HB.out | apply below_alloc | apply pw_below_drewN | apply below_drew1) | exact HB.out)) hb); clear HB; have HB := n0_; clear n0_; (try clear hb); (try clear hb2); (try clear hk); (try clear hi)) | ((with_reducible refine gate_callee (f := 21) rfl ?_); refine goesL_ (some 16) rfl rfl Try.func21 (by kernel_rfl) rfl #[.slice A0 l0.length c0, .slice A1 l1.length c1] rfl (by (try simp only [List.map_toArray, List.map_cons, List.map_nil]); first | done | rfl | (simp only [List.length_drop, List.length_take]; rfl)) ?_; (with_reducible refine (ephemeriskeep2_events.calls k _ _ l0 _ _ l1 t271 t272 _ ?side1 ?side2 ?side3 ?side4 A5.out).mono ?_); (case side1 => repeat (first | exact (Kd.C_below HR0.out HB.out) | (with_reducible refine Kd.C_alloc ?_ _) | (with_reducible refine Kd.C_drewN ?_ _) | (with_reducible refine Kd.C_drew ?_))); (case side2 => exact HC0.out); (case side3 => repeat (first | exact (Kd.C_below HR1.out HB.out) | (with_reducible refine Kd.C_alloc ?_ _) | (with_reducible refine Kd.C_drewN ?_ _) | (with_reducible refine Kd.C_drew ?_))); (case side4 => exact HC1.out); rintro e w8 ⟨v273, rfl, ho0, hb⟩; refine ⟨_, rfl, ?_⟩; have n0_ := Aside0.mk (Kd.R_lower ho0 (below_size (by repeat (first | (with_reducible first | exact HB.out | apply below_alloc | apply pw_below_drewN | apply below_drew1) | exact HB.out)))); have n1_ := Aside0.mk (below_step (by repeat (first | (with_reducible first | exact HB.out | apply below_alloc | apply pw_below_drewN | apply below_drew1) | exact HB.out)) hb); clear HB; have HO274 := n0_; have HB := n1_; clear n0_ n1_; (try clear hb); (try clear hb2); (try clear hk); (try clear hi); (try clear ho0); obtain ⟨Ao9, co9, eo9⟩ := Kd.R_slice HO274.out; subst eo9))
      go_ret
      exact ⟨by first | rfl | (simp [errW_none, errW_some] <;> rfl) | (simp [*, errW_none, errW_some] <;> rfl), by repeat (first | (with_reducible first | exact HB.out | apply below_alloc | apply pw_below_drewN | apply below_drew1) | exact HB.out)⟩
    · rw [if_neg c6] at H
      have c6b0 : ((t272.length : Int) == 0) = false := beq_eq_false_iff_ne.mpr c6
      have c6b1 : ((t272.length : Int) != 0) = true := bne_iff_ne.mpr c6
      have c6b2 : ¬ (t272 = []) := fun h_ => c6 (by rw [h_]; rfl)
      replace H := Option.bind_eq_some_iff.mp H
      obtain ⟨⟨t275, t276⟩, A100, H⟩ := H
      replace H : (if 0 ≤ (wrap64 ((t272.length : Int) - 1)) then (if (wrap64 ((t272.length : Int) - 1)) ≤ (t272.length : Int) then (if (wrap64 ((t272.length : Int) - 1)) < (t272.length : Int) then ((contradict_Changed.f k t271 (t272.take ((wrap64 ((t272.length : Int) - 1)) : Int).toNat) ((rd_T51 t272 (wrap64 ((t272.length : Int) - 1))).f0) ((rd_T51 t272 (wrap64 ((t272.length : Int) - 1))).f1) ((rd_T51 t272 (wrap64 ((t272.length : Int) - 1))).f2) ((rd_T51 t272 (wrap64 ((t272.length : Int) - 1))).f3)).bind fun bt282 => (if t276 = 0 then (if bt282.2 = 0 then (some (t275 == ((bt282.1.length : Int) == 0))) else (none)) else (none))) else (none)) else (none)) else (none)) = some r := H
      have A10 := Aside0.mk A100
      clear A100
      obtain ⟨ji11, hji11⟩ : ∃ j_ : Int, (wrap64 ((t272.length : Int) - 1)) = j_ := ⟨_, rfl⟩
      replace H : (if 0 ≤ (ji11) then (if (ji11) ≤ (t272.length : Int) then (if (ji11) < (t272.length : Int) then ((contradict_Changed.f k t271 (t272.take ((ji11) : Int).toNat) ((rd_T51 t272 (ji11)).f0) ((rd_T51 t272 (ji11)).f1) ((rd_T51 t272 (ji11)).f2) ((rd_T51 t272 (ji11)).f3)).bind fun bt282 => (if t276 = 0 then (if bt282.2 = 0 then (some (t275 == ((bt282.1.length : Int) == 0))) else (none)) else (none))) else (none)) else (none)) else (none)) = some r := by first | (rw [hji11] at H; exact H) | (simp only [hji11] at H ⊢; exact H)
      (try rw [hji11] at A3)
      (try rw [hji11] at A5)
      (try rw [hji11] at A10)
      have hji11w : (IntKind.i64.wrap ((t272.length : Int) - 1)) = ji11 := (i64_w _).trans hji11
      by_cases c12 : 0 ≤ (ji11)
      · rw [if_pos c12] at H
        have c12b0 := eq_true c12
        have c12b1 : decide (0 ≤ (ji11)) = true := decide_eq_true c12
        clear c12
        by_cases c13 : (ji11) ≤ (t272.length : Int)
        · rw [if_pos c13] at H
          have c13b0 := eq_true c13
          have c13b1 : decide ((ji11) ≤ (t272.length : Int)) = true := decide_eq_true c13
          clear c13
          obtain ⟨y277, hy277⟩ : ∃ y_ : List (S51), y_ = (t272.take ((ji11) : Int).toNat) := ⟨_, rfl⟩
          replace H : (if (ji11) < (t272.length : Int) then ((contradict_Changed.f k t271 y277 ((rd_T51 t272 (ji11)).f0) ((rd_T51 t272 (ji11)).f1) ((rd_T51 t272 (ji11)).f2) ((rd_T51 t272 (ji11)).f3)).bind fun bt282 => (if t276 = 0 then (if bt282.2 = 0 then (some (t275 == ((bt282.1.length : Int) == 0))) else (none)) else (none))) else (none)) = some r := by first | (rw [hy277]; with_reducible exact H) | (have H2_ := (Option.bind_some _ _).symm.trans H; rw [hy277]; with_reducible exact H2_) | (have H2_ := (Option.bind_some _ _).symm.trans H; with_reducible exact H2_) | with_reducible exact H | (rw [hy277]; exact H) | exact H
          have Ny277 := Aside0.mk hy277
          clear hy277
          by_cases c14 : (ji11) < (t272.length : Int)
          · rw [if_pos c14] at H
            have c14b0 : decide ((ji11) < (t272.length : Int)) = true := decide_eq_true c14
            clear c14
            replace H := Option.bind_eq_some_iff.mp H
            obtain ⟨⟨t282, t285⟩, A150, H⟩ := H
            replace H : (if t276 = 0 then (if t285 = 0 then (some (t275 == ((t282.length : Int) == 0))) else (none)) else (none)) = some r := H
            have A15 := Aside0.mk A150
            clear A150
            by_cases c16 : t276 = 0
            · rw [if_pos c16] at H
              have c16b0 : (t276 == 0) = true := beq_iff_eq.mpr c16
              have c16b1 : (t276 != 0) = false := bne_eq_false_iff_eq.mpr c16
              clear c16
              by_cases c17 : t285 = 0
              · rw [if_pos c17] at H
                have c17b0 : (t285 == 0) = true := beq_iff_eq.mpr c17
                have c17b1 : (t285 != 0) = false := bne_eq_false_iff_eq.mpr c17
                clear c17
                obtain rfl := Option.some.inj H
                go_enter Try.func7, Try.ntmps7
                try go_wp2_with (first | ((with_reducible refine gate_callee (f := 20) rfl ?_); refine goesL_ (some 11) rfl rfl Try.func20 (by kernel_rfl) rfl #[] rfl (by (try simp only [List.map_toArray, List.map_cons, List.map_nil]); first | done | rfl | (simp only [List.length_drop, List.length_take]; rfl)) ?_; (with_reducible refine (ephemeriskeep2_contradictWorks.calls k  true _ A3.out).mono ?_); rintro e w18 ⟨rfl, hb⟩; refine ⟨_, rfl, ?_⟩; have n0_ := Aside0.mk (below_step (by repeat (first | (with_reducible first | exact HB.out | apply below_alloc | apply pw_below_drewN | apply below_drew1) | exact HB.out)) hb); clear HB; have HB := n0_; clear n0_; (try clear hb); (try clear hb2); (try clear hk); (try clear hi)) | ((with_reducible refine gate_callee (f := 21) rfl ?_); refine goesL_ (some 16) rfl rfl Try.func21 (by kernel_rfl) rfl #[.slice A0 l0.length c0, .slice A1 l1.length c1] rfl (by (try simp only [List.map_toArray, List.map_cons, List.map_nil]); first | done | rfl | (simp only [List.length_drop, List.length_take]; rfl)) ?_; (with_reducible refine (ephemeriskeep2_events.calls k _ _ l0 _ _ l1 t271 t272 _ ?side1 ?side2 ?side3 ?side4 A5.out).mono ?_); (case side1 => repeat (first | exact (Kd.C_below HR0.out HB.out) | (with_reducible refine Kd.C_alloc ?_ _) | (with_reducible refine Kd.C_drewN ?_ _) | (with_reducible refine Kd.C_drew ?_))); (case side2 => exact HC0.out); (case side3 => repeat (first | exact (Kd.C_below HR1.out HB.out) | (with_reducible refine Kd.C_alloc ?_ _) | (with_reducible refine Kd.C_drewN ?_ _) | (with_reducible refine Kd.C_drew ?_))); (case side4 => exact HC1.out); rintro e w19 ⟨v273, rfl, ho0, hb⟩; refine ⟨_, rfl, ?_⟩; have n0_ := Aside0.mk (Kd.R_lower ho0 (below_size (by repeat (first | (with_reducible first | exact HB.out | apply below_alloc | apply pw_below_drewN | apply below_drew1) | exact HB.out)))); have n1_ := Aside0.mk (below_step (by repeat (first | (with_reducible first | exact HB.out | apply below_alloc | apply pw_below_drewN | apply below_drew1) | exact HB.out)) hb); clear HB; have HO274 := n0_; have HB := n1_; clear n0_ n1_; (try clear hb); (try clear hb2); (try clear hk); (try clear hi); (try clear ho0); obtain ⟨Ao20, co20, eo20⟩ := Kd.R_slice HO274.out; subst eo20) | ((with_reducible refine gate_callee (f := 24) rfl ?_); refine goesL_ (some 29) rfl rfl Try.func24 (by kernel_rfl) rfl #[.int .i64 t271, .slice Ao20 t272.length co20, .int .i64 ji11] rfl (by (try simp only [List.map_toArray, List.map_cons, List.map_nil]); first | done | (simp only [hji11]; rfl) | rfl | (simp only [List.length_drop, List.length_take]; rfl)) ?_; (with_reducible refine (contradict_Implied.calls k t271 _ _ t272 ji11 t275 t276 _ ?side1 ?side2 A10.out).mono ?_); (case side1 => repeat (first | exact (Kd.R_reads' HO274.out).2.2 | (with_reducible refine Kd.C_alloc ?_ _) | (with_reducible refine Kd.C_drewN ?_ _) | (with_reducible refine Kd.C_drew ?_))); (case side2 => exact (Kd.R_reads' HO274.out).2.1); rintro e w21 ⟨rfl, hb⟩; refine ⟨_, rfl, ?_⟩; have n0_ := Aside0.mk (Kd.R_below (by (with_reducible repeat (first | apply Kd.R_alloc | apply Kd.R_drewN | apply Kd.R_drew)); exact HO274.out) hb); have n1_ := Aside0.mk (below_step (by repeat (first | (with_reducible first | exact HB.out | apply below_alloc | apply pw_below_drewN | apply below_drew1) | exact HB.out)) hb); clear HO274; clear HB; have HO274 := n0_; have HB := n1_; clear n0_ n1_; (try clear hb); (try clear hb2); (try clear hk); (try clear hi)))
                have n0_ := Aside0.mk (Kd.R_drew HO274.out)
                have n1_ := Aside0.mk (below_drew1 HB.out)
                clear HO274
                clear HB
                have HO274 := n0_
                have HB := n1_
                clear n0_ n1_
                have q23 : ((ji11) : Int) ≤ ((t272.length : Int) : Int) := of_decide_eq_true (by first | (with_reducible assumption) | assumption)
                obtain ⟨i023, hi023, _, hsz23, _⟩ := info_parts info51
                have hroom23 : t272.length ≤ co20 := (Kd.R_reads' HO274.out).2.1
                have hC23 : Kd.C k51 _ Ao20 t272.length t272 := (Kd.R_reads' HO274.out).2.2
                have hcut23 := cut_to (P := Try.prog) 44 51 .i64 Try.underlying44 hi023 Ao20 t272.length co20 (ji11) (of_decide_eq_true (by first | (with_reducible assumption) | assumption)) q23 hroom23
                have hr23 := Kd.C_take (m := ((ji11) : Int).toNat) hC23 (by omega)
                have hy23 : y277.length = ((ji11) : Int).toNat := (by rw [Ny277.out, List.length_take]; omega)
                rw [← Ny277.out] at hr23
                rw [← hy23] at hcut23
                have HR280 := Aside0.mk hr23
                have HC280 := Aside0.mk (show y277.length ≤ co20 from by omega)
                clear hr23 hC23 hroom23 hi023 hsz23
                have KY23 := Aside0.mk hy23
                clear hy23
                have KL23 := Aside0.mk (show ((ji11) : Int).toNat ≤ t272.length from by omega)
                replace q23 := eq_true q23
                have p281 : 0 ≤ ((ji11) : Int) := of_decide_eq_true (by first | (with_reducible assumption) | assumption)
                have q281 : (ji11) < (t272.length : Int) := of_decide_eq_true (by first | (with_reducible assumption) | assumption)
                obtain ⟨ad281, e281, hx281_0, hx281_1, hx281_2, hx281_3⟩ := at_T51 (Kd.R_reads' HO274.out).2.2 (ji11) p281 q281
                cases e281
                replace p281 := eq_true p281
                replace q281 := eq_true q281
                refine start_ (n := 14) (S := fun w' => w'.cell? (ad281.add (((ji11)).toNat * 4)) = some (.int .i64 ((rd_T51 t272 (ji11)).f0)) ∧ w'.cell? ⟨(ad281.add (((ji11)).toNat * 4)).block, (ad281.add (((ji11)).toNat * 4)).off + 1, none⟩ = some (.int .i64 ((rd_T51 t272 (ji11)).f1)) ∧ w'.cell? ⟨(ad281.add (((ji11)).toNat * 4)).block, (ad281.add (((ji11)).toNat * 4)).off + 2, none⟩ = some (.int .i64 ((rd_T51 t272 (ji11)).f2)) ∧ w'.cell? ⟨(ad281.add (((ji11)).toNat * 4)).block, (ad281.add (((ji11)).toNat * 4)).off + 3, none⟩ = some (.int .i64 ((rd_T51 t272 (ji11)).f3))) (ds := []) #[false, false, false, false, false, false, false, false, false, false, false, false, false, false] (by kernel_rfl) rfl rfl ⟨hx281_0, hx281_1, hx281_2, hx281_3⟩ (fun hHeld => ?_); refine with_tabW ephemeriskeep2_ContradictSpare.tab8 ephemeriskeep2_ContradictSpare.bits8 (fun HT_ HW_ => ?_)
                generalize w21.drew = w22 at HO274 HB HR280 hx281_0 hx281_1 hx281_2 hx281_3 hHeld ⊢
                refine pure_ (i := 0) (N := some 33) (v := ?_) (a' := ?_) #[true, false, false, false, false, false, false, false, false, false, false, false, false, false] rfl rfl (any_of HT_.out (by kernel_rfl)) (fun _ _ _ h => h) (Or.inl ⟨by rfl, ?_⟩) ?_ ?_
                rotate_left
                · intro w'
                  go_simp
                  with_reducible rfl
                rotate_left
                · simp only [Act.put, List.setIfInBounds_toArray, List.set_cons_zero, List.set_cons_succ, i64_w, i32_w]
                  rfl
                refine pure_ (i := 1) (N := some 34) (v := ?_) (a' := ?_) #[true, true, false, false, false, false, false, false, false, false, false, false, false, false] rfl rfl (any_of HT_.out (by kernel_rfl)) (fun _ _ _ h => h) (Or.inl ⟨by rfl, ?_⟩) ?_ ?_
                rotate_left
                · intro w'
                  go_simp
                  with_reducible rfl
                rotate_left
                · simp only [Act.put, List.setIfInBounds_toArray, List.set_cons_zero, List.set_cons_succ, i64_w, i32_w]
                  rfl
                refine pure_ (i := 2) (N := some 35) (v := ?_) (a' := ?_) #[true, true, true, false, false, false, false, false, false, false, false, false, false, false] rfl rfl (any_of HT_.out (by kernel_rfl)) (fun _ _ _ h => h) (Or.inl ⟨by rfl, ?_⟩) ?_ ?_
                rotate_left
                · intro w'
                  go_simp
                  with_reducible rfl
                rotate_left
                · simp only [Act.put, List.setIfInBounds_toArray, List.set_cons_zero, List.set_cons_succ, i64_w, i32_w]
                  rfl
                refine pure_ (i := 3) (N := some 36) (v := ?_) (a' := ?_) #[true, true, true, true, false, false, false, false, false, false, false, false, false, false] rfl rfl (any_of HT_.out (by kernel_rfl)) (fun _ _ _ h => h) (Or.inl ⟨by rfl, ?_⟩) ?_ ?_
                rotate_left
                · intro w'
                  go_simp
                  with_reducible rfl
                rotate_left
                · simp only [Act.put, List.setIfInBounds_toArray, List.set_cons_zero, List.set_cons_succ, i64_w, i32_w]
                  rfl
                refine pure_ (i := 4) (N := some 37) (v := ?_) (a' := ?_) #[true, true, true, true, true, false, false, false, false, false, false, false, false, false] rfl rfl (any_of HT_.out (by kernel_rfl)) (fun _ _ _ h => h) (Or.inl ⟨by rfl, ?_⟩) ?_ ?_
                rotate_left
                · intro w'
                  go_simp
                  with_reducible rfl
                rotate_left
                · simp only [Act.put, List.setIfInBounds_toArray, List.set_cons_zero, List.set_cons_succ, i64_w, i32_w]
                  rfl
                refine pure_ (i := 5) (N := some 38) (v := ?_) (a' := ?_) #[true, true, true, true, true, true, false, false, false, false, false, false, false, false] rfl rfl (any_of HT_.out (by kernel_rfl)) (fun _ _ _ h => h) (Or.inl ⟨by rfl, ?_⟩) ?_ ?_
                rotate_left
                · intro w'
                  go_simp
                  with_reducible rfl
                rotate_left
                · simp only [Act.put, List.setIfInBounds_toArray, List.set_cons_zero, List.set_cons_succ, i64_w, i32_w]
                  rfl
                refine pure_ (i := 6) (N := some 39) (v := ?_) (a' := ?_) #[true, true, true, true, true, true, true, false, false, false, false, false, false, false] rfl rfl (any_of HT_.out (by kernel_rfl)) (fun _ _ _ h => h) (Or.inl ⟨by rfl, ?_⟩) ?_ ?_
                rotate_left
                · intro w'
                  go_simp
                  with_reducible rfl
                rotate_left
                · simp only [Act.put, List.setIfInBounds_toArray, List.set_cons_zero, List.set_cons_succ, i64_w, i32_w]
                  rfl
                refine take_ (i := 7) (N := some 40) (v := ?_) (a' := ?_) #[true, true, true, true, true, true, true, true, false, false, false, false, false, false] rfl rfl (take_ofW HT_.out HW_.out (by kernel_rfl)) (fun _ _ _ h => h) (Or.inl ⟨by rfl, ?_⟩) hHeld ?_ ?_
                rotate_left
                · rintro w' ⟨s0, s1, s2, s3⟩
                  go_simp
                  with_reducible rfl
                rotate_left
                · simp only [Act.put, List.setIfInBounds_toArray, List.set_cons_zero, List.set_cons_succ, i64_w, i32_w]
                  rfl
                refine one_ (i := 8) (N := some 41) #[true, true, true, true, true, true, true, true, true, false, false, false, false, false] rfl rfl (one_of HT_.out (by kernel_rfl)) (by decide) (fun K hK => ?_)
                refine goes_ Try.func25 (by kernel_rfl) rfl #[.int .i64 t271, .slice (some ad281) y277.length co20, .agg #[.int .i64 ((rd_T51 t272 (ji11)).f0), .int .i64 ((rd_T51 t272 (ji11)).f1), .int .i64 ((rd_T51 t272 (ji11)).f2), .int .i64 ((rd_T51 t272 (ji11)).f3)]] (by rfl) rfl rfl (by (try simp only [List.map_toArray, List.map_cons, List.map_nil]); first | done | (simp only [hji11]; rfl) | rfl | (simp only [List.length_drop, List.length_take]; rfl)) ?_
                with_reducible refine (contradict_Changed.calls k t271 _ _ y277 ((rd_T51 t272 (ji11)).f0) ((rd_T51 t272 (ji11)).f1) ((rd_T51 t272 (ji11)).f2) ((rd_T51 t272 (ji11)).f3) t282 t285 _ ?side1 ?side2 A15.out).mono ?_
                (case side1 => repeat (first | exact (by repeat (first | (with_reducible exact HR280.out) | (with_reducible refine Kd.C_alloc ?_ _) | (with_reducible refine Kd.C_drewN ?_ _) | (with_reducible refine Kd.C_drew ?_) | exact HR280.out)) | (with_reducible refine Kd.C_alloc ?_ _) | (with_reducible refine Kd.C_drewN ?_ _) | (with_reducible refine Kd.C_drew ?_)))
                (case side2 => exact HC280.out)
                rintro e w24 ⟨v283, rfl, ho0, hb⟩
                have HS0_ := (hb.cell (World.block_lt_of_cell? _ _ (hHeld.1))).trans (hHeld.1)
                have HS1_ := (hb.cell (World.block_lt_of_cell? _ _ (hHeld.2.1))).trans (hHeld.2.1)
                have HS2_ := (hb.cell (World.block_lt_of_cell? _ _ (hHeld.2.2.1))).trans (hHeld.2.2.1)
                have HS3_ := (hb.cell (World.block_lt_of_cell? _ _ (hHeld.2.2.2))).trans (hHeld.2.2.2)
                refine ⟨_, rfl, ?_⟩
                have n0_ := Aside0.mk (Kd.R_below (by (with_reducible repeat (first | apply Kd.R_alloc | apply Kd.R_drewN | apply Kd.R_drew)); exact HO274.out) hb)
                have n1_ := Aside0.mk (Kd.R_lower ho0 (below_size (by repeat (first | (with_reducible first | exact HB.out | apply below_alloc | apply pw_below_drewN | apply below_drew1) | exact HB.out))))
                have n2_ := Aside0.mk (Kd.C_below (by repeat (first | (with_reducible exact HR280.out) | (with_reducible refine Kd.C_alloc ?_ _) | (with_reducible refine Kd.C_drewN ?_ _) | (with_reducible refine Kd.C_drew ?_) | exact HR280.out)) hb)
                have n3_ := Aside0.mk (below_step (by repeat (first | (with_reducible first | exact HB.out | apply below_alloc | apply pw_below_drewN | apply below_drew1) | exact HB.out)) hb)
                clear HO274
                clear HR280
                clear HB
                have HO274 := n0_
                have HO284 := n1_
                have HR280 := n2_
                have HB := n3_
                clear n0_ n1_ n2_ n3_
                (try clear hb)
                (try clear hb2)
                (try clear hk)
                (try clear hi)
                (try clear ho0)
                refine hK.out _ _ ⟨HS0_, HS1_, HS2_, HS3_⟩ (fun hHeld => ?_)
                clear hK K
                refine norm_ (a' := ?_) ?_ ?_
                rotate_left
                · show Act.put _ (some 41) _ = _
                  simp only [Act.put, List.setIfInBounds_toArray, List.set_cons_zero, List.set_cons_succ, i64_w, i32_w]
                  rfl
                refine pure_ (i := 9) (N := some 32) (v := ?_) (a' := ?_) #[true, true, true, true, true, true, true, true, true, true, false, false, false, false] rfl rfl (any_of HT_.out (by kernel_rfl)) (fun _ _ _ h => h) (Or.inl ⟨by rfl, ?_⟩) ?_ ?_
                rotate_left
                · intro w'
                  go_simp
                  with_reducible rfl
                rotate_left
                · simp only [Act.put, List.setIfInBounds_toArray, List.set_cons_zero, List.set_cons_succ, i64_w, i32_w]
                  rfl
                refine pure_ (i := 10) (N := some 42) (v := ?_) (a' := ?_) #[true, true, true, true, true, true, true, true, true, true, true, false, false, false] rfl rfl (any_of HT_.out (by kernel_rfl)) (fun _ _ _ h => h) (Or.inl ⟨by rfl, ?_⟩) ?_ ?_
                rotate_left
                · intro w'
                  go_simp
                  with_reducible rfl
                rotate_left
                · simp only [Act.put, List.setIfInBounds_toArray, List.set_cons_zero, List.set_cons_succ, i64_w, i32_w]
                  rfl
                refine pure_ (i := 11) (N := some 43) (v := ?_) (a' := ?_) #[true, true, true, true, true, true, true, true, true, true, true, true, false, false] rfl rfl (any_of HT_.out (by kernel_rfl)) (fun _ _ _ h => h) (Or.inl ⟨by rfl, ?_⟩) ?_ ?_
                rotate_left
                · intro w'
                  go_simp
                  with_reducible rfl
                rotate_left
                · simp only [Act.put, List.setIfInBounds_toArray, List.set_cons_zero, List.set_cons_succ, i64_w, i32_w]
                  rfl
                refine pure_ (i := 12) (N := some 9) (v := ?_) (a' := ?_) #[true, true, true, true, true, true, true, true, true, true, true, true, true, false] rfl rfl (any_of HT_.out (by kernel_rfl)) (fun _ _ _ h => h) (Or.inl ⟨by rfl, ?_⟩) ?_ ?_
                rotate_left
                · intro w'
                  go_simp
                  with_reducible rfl
                rotate_left
                · simp only [Act.put, List.setIfInBounds_toArray, List.set_cons_zero, List.set_cons_succ, i64_w, i32_w]
                  rfl
                refine pure_ (i := 13) (N := some 10) (v := ?_) (a' := ?_) #[true, true, true, true, true, true, true, true, true, true, true, true, true, true] rfl rfl (any_of HT_.out (by kernel_rfl)) (fun _ _ _ h => h) (Or.inl ⟨by rfl, ?_⟩) ?_ ?_
                rotate_left
                · intro w'
                  go_simp
                  with_reducible rfl
                rotate_left
                · simp only [Act.put, List.setIfInBounds_toArray, List.set_cons_zero, List.set_cons_succ, i64_w, i32_w]
                  rfl
                refine done_ (done_of HT_.out (by kernel_rfl)) ?_
                obtain ⟨Ao25, co25, eo25⟩ := Kd.R_slice HO284.out
                subst eo25
                try go_wp2
                go_ret
                exact ⟨by first | rfl | (simp [errW_none, errW_some] <;> rfl) | (simp only [← hji11]; first | rfl | (simp [errW_none, errW_some] <;> rfl)) | (simp [*, errW_none, errW_some] <;> rfl), by repeat (first | (with_reducible first | exact HB.out | apply below_alloc | apply pw_below_drewN | apply below_drew1) | exact HB.out)⟩
              · rw [if_neg c17] at H
                exact absurd H (by simp)
            · rw [if_neg c16] at H
              exact absurd H (by simp)
          · rw [if_neg c14] at H
            exact absurd H (by simp)
        · rw [if_neg c13] at H
          exact absurd H (by simp)
      · rw [if_neg c12] at H
        exact absurd H (by simp)
  · replace c4 := Bool.eq_false_iff.mpr c4
    subst c4
    have H1 : (none) = some r := by rw [if_neg (show ¬ (false = true) by decide)] at H; exact H
    clear H
    have H := H1
    clear H1
    exact absurd H (by simp)

end Go.Proofs.Ytglpfgkbecgaaaa.JC
