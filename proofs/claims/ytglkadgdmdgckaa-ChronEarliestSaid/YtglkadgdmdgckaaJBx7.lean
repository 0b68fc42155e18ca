-- Made by a program of this session (wip/hp.py, over the kit's print) out of the translation. Not trusted: Lean checks it.
import Derived.Test.YtglkadgdmdgckaaJBx0
import Derived.Test.YtglkadgdmdgckaaJBx1
import Derived.Test.YtglkadgdmdgckaaJBx2
import Derived.Test.YtglkadgdmdgckaaJBx5
import Derived.Test.YtglkadgdmdgckaaJBx6
namespace Go.Proofs.Ytglkadgdmdgckaa.JB
open Go.RowKit Go.Proofs.YtglkadgdmdgckaaW.PrintWords Go.Proofs.YtglkadgdmdgckaaW.PrintLast Go.Proofs.YtglkadgdmdgckaaW.PrintMore
attribute [local go_sem] max2_int min2_int max_two min_two max_three min_three max_four min_four   -- for this text's walks alone
set_option linter.unusedVariables false
set_option linter.unusedSimpArgs false

attribute [local go_sem high] eqA34
/-! ### ephemeriskeep2_chronWorks: function 12 -/
set_option maxHeartbeats 8000000 in
set_option maxRecDepth 100000 in
theorem ephemeriskeep2_chronWorks.calls (k : Nat)  (r : Bool) (w : World) (h : ephemeriskeep2_chronWorks.f k  = some r) :
    Calls Try.prog 12 #[] w fun e w' => e = .returned (.bool r) ∧ Below w.heap.size w w' := by
  have hu34 := Try.underlying34
  have HB := Aside0.mk (Below.refl w.heap.size w)
  have H : ((ephemeriskeep2_three.f).bind fun t176 => ((chron_Tightest.f k 3 t176).bind fun bt179 => ((ephemeriskeep2_three.f).bind fun t183 => ((chron_Early.f k 3 t183 0 100).bind fun bt186 => (if bt179.2 = 0 then (if (bt179.1.length : Int) = 3 then (if 0 < (bt179.1.length : Int) then (if ((rd_L4 bt179.1 0).length : Int) = 3 then (if 2 < ((rd_L4 bt179.1 0).length : Int) then (if (((rd_T34 (rd_L4 bt179.1 0) 2).f0) == 15 && (((rd_T34 (rd_L4 bt179.1 0) 2).f1) == 25)) = true then (if bt186.2 = 0 then (if (bt186.1.length : Int) = 3 then (if 2 < (bt186.1.length : Int) then (some ((rd bt186.1 2) == 115)) else (none)) else (none)) else (none)) else (none)) else (none)) else (none)) else (none)) else (none)) else (none)))))) = some r := h
  clear h
  replace H := Option.bind_eq_some_iff.mp H
  obtain ⟨t176, A10, H⟩ := H
  replace H : ((chron_Tightest.f k 3 t176).bind fun bt179 => ((ephemeriskeep2_three.f).bind fun t183 => ((chron_Early.f k 3 t183 0 100).bind fun bt186 => (if bt179.2 = 0 then (if (bt179.1.length : Int) = 3 then (if 0 < (bt179.1.length : Int) then (if ((rd_L4 bt179.1 0).length : Int) = 3 then (if 2 < ((rd_L4 bt179.1 0).length : Int) then (if (((rd_T34 (rd_L4 bt179.1 0) 2).f0) == 15 && (((rd_T34 (rd_L4 bt179.1 0) 2).f1) == 25)) = true then (if bt186.2 = 0 then (if (bt186.1.length : Int) = 3 then (if 2 < (bt186.1.length : Int) then (some ((rd bt186.1 2) == 115)) else (none)) else (none)) else (none)) else (none)) else (none)) else (none)) else (none)) else (none)) else (none))))) = some r := H
  have A1 := Aside0.mk A10
  clear A10
  replace H := Option.bind_eq_some_iff.mp H
  obtain ⟨⟨t179, t180⟩, A20, H⟩ := H
  replace H : ((ephemeriskeep2_three.f).bind fun t183 => ((chron_Early.f k 3 t183 0 100).bind fun bt186 => (if t180 = 0 then (if (t179.length : Int) = 3 then (if 0 < (t179.length : Int) then (if ((rd_L4 t179 0).length : Int) = 3 then (if 2 < ((rd_L4 t179 0).length : Int) then (if (((rd_T34 (rd_L4 t179 0) 2).f0) == 15 && (((rd_T34 (rd_L4 t179 0) 2).f1) == 25)) = true then (if bt186.2 = 0 then (if (bt186.1.length : Int) = 3 then (if 2 < (bt186.1.length : Int) then (some ((rd bt186.1 2) == 115)) else (none)) else (none)) else (none)) else (none)) else (none)) else (none)) else (none)) else (none)) else (none)))) = some r := H
  have A2 := Aside0.mk A20
  clear A20
  replace H := Option.bind_eq_some_iff.mp H
  obtain ⟨t183, A30, H⟩ := H
  replace H : ((chron_Early.f k 3 t183 0 100).bind fun bt186 => (if t180 = 0 then (if (t179.length : Int) = 3 then (if 0 < (t179.length : Int) then (if ((rd_L4 t179 0).length : Int) = 3 then (if 2 < ((rd_L4 t179 0).length : Int) then (if (((rd_T34 (rd_L4 t179 0) 2).f0) == 15 && (((rd_T34 (rd_L4 t179 0) 2).f1) == 25)) = true then (if bt186.2 = 0 then (if (bt186.1.length : Int) = 3 then (if 2 < (bt186.1.length : Int) then (some ((rd bt186.1 2) == 115)) else (none)) else (none)) else (none)) else (none)) else (none)) else (none)) else (none)) else (none)) else (none))) = some r := H
  have A3 := Aside0.mk A30
  clear A30
  replace H := Option.bind_eq_some_iff.mp H
  obtain ⟨⟨t186, t187⟩, A40, H⟩ := H
  replace H : (if t180 = 0 then (if (t179.length : Int) = 3 then (if 0 < (t179.length : Int) then (if ((rd_L4 t179 0).length : Int) = 3 then (if 2 < ((rd_L4 t179 0).length : Int) then (if (((rd_T34 (rd_L4 t179 0) 2).f0) == 15 && (((rd_T34 (rd_L4 t179 0) 2).f1) == 25)) = true then (if t187 = 0 then (if (t186.length : Int) = 3 then (if 2 < (t186.length : Int) then (some ((rd t186 2) == 115)) else (none)) else (none)) else (none)) else (none)) else (none)) else (none)) else (none)) else (none)) else (none)) = some r := H
  have A4 := Aside0.mk A40
  clear A40
  by_cases c5 : t180 = 0
  · rw [if_pos c5] at H
    have c5b0 : (t180 == 0) = true := beq_iff_eq.mpr c5
    have c5b1 : (t180 != 0) = false := bne_eq_false_iff_eq.mpr c5
    clear c5
    by_cases c6 : (t179.length : Int) = 3
    · rw [if_pos c6] at H
      have c6b0 : ((t179.length : Int) == 3) = true := beq_iff_eq.mpr c6
      have c6b1 : ((t179.length : Int) != 3) = false := bne_eq_false_iff_eq.mpr c6
      clear c6
      by_cases c7 : 0 < (t179.length : Int)
      · rw [if_pos c7] at H
        have c7b0 : decide (0 < (t179.length : Int)) = true := decide_eq_true c7
        have c7b1 : decide (0 < t179.length) = true := decide_eq_true (by omega)
        clear c7
        by_cases c8 : ((rd_L4 t179 0).length : Int) = 3
        · rw [if_pos c8] at H
          have c8b0 : (((rd_L4 t179 0).length : Int) == 3) = true := beq_iff_eq.mpr c8
          have c8b1 : (((rd_L4 t179 0).length : Int) != 3) = false := bne_eq_false_iff_eq.mpr c8
          clear c8
          by_cases c9 : 2 < ((rd_L4 t179 0).length : Int)
          · rw [if_pos c9] at H
            have c9b0 : decide (2 < ((rd_L4 t179 0).length : Int)) = true := decide_eq_true c9
            have c9b1 : decide (2 < (rd_L4 t179 0).length) = true := decide_eq_true (by omega)
            clear c9
            by_cases c10 : (((rd_T34 (rd_L4 t179 0) 2).f0) == 15 && (((rd_T34 (rd_L4 t179 0) 2).f1) == 25)) = true
            · rw [if_pos c10] at H
              have c10b0 : (((rd_T34 (rd_L4 t179 0) 2).f0) == 15 && (((rd_T34 (rd_L4 t179 0) 2).f1) == 25)) = true := c10
              (try (have c10b1 : decide (((rd_T34 (rd_L4 t179 0) 2).f0) = 15 && (((rd_T34 (rd_L4 t179 0) 2).f1) == 25)) = true := by simpa using c10))
              (try (have c10b2 : (((rd_T34 (rd_L4 t179 0) 2).f0) == 15 && (((rd_T34 (rd_L4 t179 0) 2).f1) == 25)) = true := by simpa using c10))
              clear c10
              by_cases c11 : t187 = 0
              · rw [if_pos c11] at H
                have c11b0 : (t187 == 0) = true := beq_iff_eq.mpr c11
                have c11b1 : (t187 != 0) = false := bne_eq_false_iff_eq.mpr c11
                clear c11
                by_cases c12 : (t186.length : Int) = 3
                · rw [if_pos c12] at H
                  have c12b0 : ((t186.length : Int) == 3) = true := beq_iff_eq.mpr c12
                  have c12b1 : ((t186.length : Int) != 3) = false := bne_eq_false_iff_eq.mpr c12
                  clear c12
                  by_cases c13 : 2 < (t186.length : Int)
                  · rw [if_pos c13] at H
                    have c13b0 : decide (2 < (t186.length : Int)) = true := decide_eq_true c13
                    have c13b1 : decide (2 < t186.length) = true := decide_eq_true (by omega)
                    clear c13
                    obtain rfl := Option.some.inj H
                    go_enter Try.func12, Try.ntmps12
                    go_wp2_with (first | ((with_reducible refine gate_callee (f := 27) rfl ?_); refine goesL_ (some 6) rfl rfl Try.func27 (by kernel_rfl) rfl #[] rfl (by (try simp only [List.map_toArray, List.map_cons, List.map_nil]); first | done | rfl | (simp only [List.length_drop, List.length_take]; rfl)) ?_; (with_reducible refine (ephemeriskeep2_three.calls  t176 _ A1.out).mono ?_); rintro e w14 ⟨v177, rfl, ho0, hb⟩; refine ⟨_, rfl, ?_⟩; have n0_ := Aside0.mk (Kd.R_lower ho0 (below_size (by repeat (first | (with_reducible first | exact HB.out | apply below_alloc | apply pw_below_drewN | apply below_drew1) | exact HB.out)))); have n1_ := Aside0.mk (below_step (by repeat (first | (with_reducible first | exact HB.out | apply below_alloc | apply pw_below_drewN | apply below_drew1) | exact HB.out)) hb); clear HB; have HO178 := n0_; have HB := n1_; clear n0_ n1_; (try clear hb); (try clear hb2); (try clear hk); (try clear hi); (try clear ho0); obtain ⟨Ao15, co15, eo15⟩ := Kd.R_slice HO178.out; subst eo15) | ((with_reducible refine gate_callee (f := 14) rfl ?_); refine goesL_ (some 7) rfl rfl Try.func14 (by kernel_rfl) rfl #[.int .i64 3, .slice Ao15 t176.length co15] rfl (by (try simp only [List.map_toArray, List.map_cons, List.map_nil]); first | done | rfl | (simp only [List.length_drop, List.length_take]; rfl)) ?_; (with_reducible refine (chron_Tightest.calls k 3 _ _ t176 t179 t180 _ ?side1 ?side2 A2.out).mono ?_); (case side1 => repeat (first | exact (Kd.R_reads' HO178.out).2.2 | (with_reducible refine Kd.C_alloc ?_ _) | (with_reducible refine Kd.C_drewN ?_ _) | (with_reducible refine Kd.C_drew ?_))); (case side2 => exact (Kd.R_reads' HO178.out).2.1); rintro e w16 ⟨v181, rfl, ho0, hb⟩; refine ⟨_, rfl, ?_⟩; have n0_ := Aside0.mk (Kd.R_below (by (with_reducible repeat (first | apply Kd.R_alloc | apply Kd.R_drewN | apply Kd.R_drew)); exact HO178.out) hb); have n1_ := Aside0.mk (Kd.S_lower ho0 (below_size (by repeat (first | (with_reducible first | exact HB.out | apply below_alloc | apply pw_below_drewN | apply below_drew1) | exact HB.out)))); have n2_ := Aside0.mk (below_step (by repeat (first | (with_reducible first | exact HB.out | apply below_alloc | apply pw_below_drewN | apply below_drew1) | exact HB.out)) hb); clear HO178; clear HB; have HO178 := n0_; have HO182 := n1_; have HB := n2_; clear n0_ n1_ n2_; (try clear hb); (try clear hb2); (try clear hk); (try clear hi); (try clear ho0)) | ((with_reducible refine gate_callee (f := 27) rfl ?_); refine goesL_ (some 11) rfl rfl Try.func27 (by kernel_rfl) rfl #[] rfl (by (try simp only [List.map_toArray, List.map_cons, List.map_nil]); first | done | rfl | (simp only [List.length_drop, List.length_take]; rfl)) ?_; (with_reducible refine (ephemeriskeep2_three.calls  t183 _ A3.out).mono ?_); rintro e w17 ⟨v184, rfl, ho0, hb⟩; refine ⟨_, rfl, ?_⟩; have n0_ := Aside0.mk (Kd.R_elder' (by (with_reducible repeat (first | apply Kd.R_alloc | apply Kd.R_drewN | apply Kd.R_drew)); exact HO178.out) (Kd.R_base ho0) hb); have n1_ := Aside0.mk (Kd.S_below (by (with_reducible repeat (first | apply Kd.S_alloc | apply Kd.S_drewN | apply Kd.S_drew)); exact HO182.out) hb); have n2_ := Aside0.mk (Kd.R_lower (Kd.R_new' ho0 (Kd.R_lt (by (with_reducible repeat (first | apply Kd.R_alloc | apply Kd.R_drewN | apply Kd.R_drew)); exact HO178.out))) (below_size (by repeat (first | (with_reducible first | exact HB.out | apply below_alloc | apply pw_below_drewN | apply below_drew1) | exact HB.out)))); have n3_ := Aside0.mk (below_step (by repeat (first | (with_reducible first | exact HB.out | apply below_alloc | apply pw_below_drewN | apply below_drew1) | exact HB.out)) hb); clear HO178; clear HO182; clear HB; have HO178 := n0_; have HO182 := n1_; have HO185 := n2_; have HB := n3_; clear n0_ n1_ n2_ n3_; (try clear hb); (try clear hb2); (try clear hk); (try clear hi); (try clear ho0); obtain ⟨Ao18, co18, eo18⟩ := Kd.R_slice HO185.out; subst eo18) | ((with_reducible refine gate_callee (f := 18) rfl ?_); refine goesL_ (some 12) rfl rfl Try.func18 (by kernel_rfl) rfl #[.int .i64 3, .slice Ao18 t183.length co18, .int .i64 0, .int .i64 100] rfl (by (try simp only [List.map_toArray, List.map_cons, List.map_nil]); first | done | rfl | (simp only [List.length_drop, List.length_take]; rfl)) ?_; (with_reducible refine (chron_Early.calls k 3 _ _ t183 0 100 t186 t187 _ ?side1 ?side2 A4.out).mono ?_); (case side1 => repeat (first | exact (Kd.R_reads' HO185.out).2.2 | (with_reducible refine Kd.C_alloc ?_ _) | (with_reducible refine Kd.C_drewN ?_ _) | (with_reducible refine Kd.C_drew ?_))); (case side2 => exact (Kd.R_reads' HO185.out).2.1); rintro e w19 ⟨v188, rfl, ho0, hb⟩; refine ⟨_, rfl, ?_⟩; have n0_ := Aside0.mk (Kd.R_below (by (with_reducible repeat (first | apply Kd.R_alloc | apply Kd.R_drewN | apply Kd.R_drew)); exact HO178.out) hb); have n1_ := Aside0.mk (Kd.S_below (by (with_reducible repeat (first | apply Kd.S_alloc | apply Kd.S_drewN | apply Kd.S_drew)); exact HO182.out) hb); have n2_ := Aside0.mk (Kd.R_below (by (with_reducible repeat (first | apply Kd.R_alloc | apply Kd.R_drewN | apply Kd.R_drew)); exact HO185.out) hb); have n3_ := Aside0.mk (Kd.R_lower ho0 (below_size (by repeat (first | (with_reducible first | exact HB.out | apply below_alloc | apply pw_below_drewN | apply below_drew1) | exact HB.out)))); have n4_ := Aside0.mk (below_step (by repeat (first | (with_reducible first | exact HB.out | apply below_alloc | apply pw_below_drewN | apply below_drew1) | exact HB.out)) hb); clear HO178; clear HO182; clear HO185; clear HB; have HO178 := n0_; have HO182 := n1_; have HO185 := n2_; have HO189 := n3_; have HB := n4_; clear n0_ n1_ n2_ n3_ n4_; (try clear hb); (try clear hb2); (try clear hk); (try clear hi); (try clear ho0); obtain ⟨Ao20, co20, eo20⟩ := Kd.S_slice HO182.out; subst eo20; have p190 : 0 ≤ (0 : Int) := (by omega); have q190 : 0 < (t179.length : Int) := of_decide_eq_true (by first | (with_reducible assumption) | assumption); obtain ⟨ad190, A190_0, c190_0, e190, hx190_0, hl190_0, hi190_0⟩ := at_L4 (Kd.S_reads' HO182.out).2.2 0 p190 q190; cases e190; obtain ⟨ce190, hce190, hMe190, hcc190⟩ := Kd.S_get HO182.out [] 0 p190 (by first | exact q190 | exact of_decide_eq_true (by first | (with_reducible assumption) | assumption) | (have e_ := (Kd.S_reads' HO182.out).1; omega)); obtain ⟨ve190_0, rfl, ge190_0⟩ := hMe190; have hv190_0 := hcc190 0 _ rfl; rw [Nat.add_zero, show ((Kd.slice 34 k34)).sz = 1 from rfl, Nat.mul_one] at hv190_0; replace hv190_0 := Option.some.inj (hv190_0.symm.trans hx190_0); rw [hv190_0] at ge190_0; have HL190_0 := Aside0.mk (show Kd.R k34 34 _ _ _ _ (rd_L4 t179 0) from ge190_0); clear hv190_0 ge190_0; clear hcc190 hce190; have qi190 : (0 < t179.length) = True := eq_true (by omega); (try rw [show ((0 : Int)).toNat = 0 from rfl] at hx190_0); (try rw [Addr.add_zero'] at hx190_0); have HR190_0 := Aside0.mk hi190_0; have HC190_0 := Aside0.mk hl190_0; clear hi190_0 hl190_0; replace p190 := eq_true p190; replace q190 := eq_true q190; have p191 : 0 ≤ (0 : Int) := (by omega); have q191 : 0 < (t179.length : Int) := of_decide_eq_true (by first | (with_reducible assumption) | assumption); obtain ⟨ad191, A191_0, c191_0, e191, hx191_0, hl191_0, hi191_0⟩ := at_L4 (Kd.S_reads' HO182.out).2.2 0 p191 q191; obtain rfl : ad190 = ad191 := (by injection e191); obtain ⟨ce191, hce191, hMe191, hcc191⟩ := Kd.S_get HO182.out [] 0 p191 (by first | exact q191 | exact of_decide_eq_true (by first | (with_reducible assumption) | assumption) | (have e_ := (Kd.S_reads' HO182.out).1; omega)); obtain ⟨ve191_0, rfl, ge191_0⟩ := hMe191; have hv191_0 := hcc191 0 _ rfl; rw [Nat.add_zero, show ((Kd.slice 34 k34)).sz = 1 from rfl, Nat.mul_one] at hv191_0; replace hv191_0 := Option.some.inj (hv191_0.symm.trans hx191_0); rw [hv191_0] at ge191_0; have HL191_0 := Aside0.mk (show Kd.R k34 34 _ _ _ _ (rd_L4 t179 0) from ge191_0); clear hv191_0 ge191_0; clear hcc191 hce191; have qi191 : (0 < t179.length) = True := eq_true (by omega); (try rw [show ((0 : Int)).toNat = 0 from rfl] at hx191_0); (try rw [Addr.add_zero'] at hx191_0); have HR191_0 := Aside0.mk hi191_0; have HC191_0 := Aside0.mk hl191_0; clear hi191_0 hl191_0; replace p191 := eq_true p191; replace q191 := eq_true q191; have ea_ := Option.some.inj (hx190_0.symm.trans hx191_0); injection ea_ with ea_ en_ ec_; subst ea_; subst ec_; clear en_; have p192 : 0 ≤ (2 : Int) := (by omega); have q192 : 2 < ((rd_L4 t179 0).length : Int) := of_decide_eq_true (by first | (with_reducible assumption) | assumption); obtain ⟨ad192, e192, hx192_0, hx192_1⟩ := at_T34 (by repeat (first | (with_reducible exact HR191_0.out) | (with_reducible refine Kd.C_alloc ?_ _) | (with_reducible refine Kd.C_drewN ?_ _) | (with_reducible refine Kd.C_drew ?_) | exact HR191_0.out)) 2 p192 q192; cases e192; (try simp only [show (2 : Int).toNat = 2 from rfl, Nat.reduceMul, Nat.reduceEqDiff, Go.Addr.add, ↓reduceIte] at hx192_0); (try simp only [show (2 : Int).toNat = 2 from rfl, Nat.reduceMul, Nat.reduceEqDiff, Go.Addr.add, ↓reduceIte] at hx192_1); have qi192 : (2 < (rd_L4 t179 0).length) = True := eq_true (by omega); (try rw [show ((2 : Int)).toNat = 2 from rfl] at hx192_0); (try rw [show 2 * 2 = 4 from rfl] at hx192_0); (try rw [show ((2 : Int)).toNat = 2 from rfl] at hx192_1); (try rw [show 2 * 2 = 4 from rfl] at hx192_1); replace p192 := eq_true p192; replace q192 := eq_true q192; obtain ⟨Ao21, co21, eo21⟩ := Kd.R_slice HO189.out; subst eo21; have p193 : 0 ≤ (2 : Int) := (by omega); have q193 : 2 < (t186.length : Int) := of_decide_eq_true (by first | (with_reducible assumption) | assumption); obtain ⟨ad193, e193, hx193_0⟩ := Kd.at_int (Kd.R_reads' HO189.out).2.2 2 p193 q193; cases e193; (try simp only [show (2 : Int).toNat = 2 from rfl, Nat.reduceMul, Nat.reduceEqDiff, Go.Addr.add, ↓reduceIte] at hx193_0); have qi193 : (2 < t186.length) = True := eq_true (by omega); (try rw [show ((2 : Int)).toNat = 2 from rfl] at hx193_0); replace p193 := eq_true p193; replace q193 := eq_true q193))
                    go_ret
                    exact ⟨by first | rfl | (simp [errW_none, errW_some] <;> rfl) | (simp [*, errW_none, errW_some] <;> rfl), by repeat (first | (with_reducible first | exact HB.out | apply below_alloc | apply pw_below_drewN | apply below_drew1) | exact HB.out)⟩
                  · rw [if_neg c13] at H
                    exact absurd H (by simp)
                · rw [if_neg c12] at H
                  exact absurd H (by simp)
              · rw [if_neg c11] at H
                exact absurd H (by simp)
            · rw [if_neg c10] at H
              exact absurd H (by simp)
          · rw [if_neg c9] at H
            exact absurd H (by simp)
        · rw [if_neg c8] at H
          exact absurd H (by simp)
      · rw [if_neg c7] at H
        exact absurd H (by simp)
    · rw [if_neg c6] at H
      exact absurd H (by simp)
  · rw [if_neg c5] at H
    exact absurd H (by simp)

/-! ### ephemeriskeep2_at: function 17 -/
set_option maxHeartbeats 8000000 in
set_option maxRecDepth 100000 in
theorem ephemeriskeep2_at.calls (a0 : Int) (a1 : Int) (r : Int) (w : World) (h : ephemeriskeep2_at.f a0 a1 = some r) :
    Calls Try.prog 17 #[.int .i64 a0, .int .i64 a1] w fun e w' => e = .returned (.int .i64 r) ∧ Drawn0 w w' := by
  have H : (if a1 = 0 then (none) else (some (Int.tmod (wrap64 ((Int.tmod a0 a1) + a1)) a1))) = some r := h
  clear h
  by_cases c3 : a1 = 0
  · rw [if_pos c3] at H
    exact absurd H (by simp)
  · rw [if_neg c3] at H
    have c3b0 : (a1 == 0) = false := beq_eq_false_iff_ne.mpr c3
    have c3b1 : (a1 != 0) = true := bne_iff_ne.mpr c3
    obtain rfl := Option.some.inj H
    go_enter Try.func17, Try.ntmps17
    go_wp2
    go_ret
    exact ⟨by first | rfl | (simp; done) | (simp [*]; done), by repeat (first | exact Drawn0.refl _ | apply Drawn0.step)⟩

end Go.Proofs.Ytglkadgdmdgckaa.JB
