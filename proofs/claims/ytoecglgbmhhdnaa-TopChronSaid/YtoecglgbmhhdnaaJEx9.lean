-- Made by a program of this session (wip/hp.py, over the kit's print) out of the translation. Not trusted: Lean checks it.
import Derived.Test.YtoecglgbmhhdnaaJEx0
import Derived.Test.YtoecglgbmhhdnaaJEx1
import Derived.Test.YtoecglgbmhhdnaaJEx2
import Derived.Test.YtoecglgbmhhdnaaJEx5
import Derived.Test.YtoecglgbmhhdnaaJEx6
import Derived.Test.YtoecglgbmhhdnaaJEx7
import Derived.Test.YtoecglgbmhhdnaaJEx8
namespace Go.Proofs.Ytoecglgbmhhdnaa.JE
open Go.RowKit Go.Proofs.YtoecglgbmhhdnaaW.PrintWords Go.Proofs.YtoecglgbmhhdnaaW.PrintLast Go.Proofs.YtoecglgbmhhdnaaW.PrintMore
attribute [local go_sem] max2_int min2_int max_two min_two max_three min_three max_four min_four   -- for this text's walks alone
set_option linter.unusedVariables false
set_option linter.unusedSimpArgs false

attribute [local go_sem high] eqA34
/-! ### ephemeristop_TopChron: function 3 -/
def ephemeristop_TopChron.T21 : Bool × List (List Nat × List Nat) := (true, [([], []), ([], []), ([], []), ([1, 2], [1, 2]), ([], []), ([], []), ([], []), ([6], [6]), ([7], [7]), ([], []), ([9], [9]), ([10], [10]), ([4, 5, 8, 11], [4, 5, 8, 11]), ([12], [12]), ([3, 13, 3], [3, 13]), ([0, 14, 14], [0, 14]), ([15], [15]), ([16], [16]), ([16], [16]), ([17, 15, 0, 1, 2, 3, 4, 5, 6, 7, 8, 9, 10, 11, 12, 13, 14, 15, 16, 17], [17]), ([18, 19, 0, 1, 2, 3, 4, 5, 6, 7, 8, 9, 10, 11, 12, 13, 14, 15, 16, 17, 18, 19], [18])])
def ephemeristop_TopChron.B21 : List Nat := [0, 0, 0, 6, 0, 0, 0, 64, 192, 0, 512, 1536, 4080, 8176, 16382, 32767, 65535, 131071, 131071, 262143, 1048575]
theorem ephemeristop_TopChron.tab21 : rtab .any (opsOf Try.f3 21) = ephemeristop_TopChron.T21 := by kernel_rfl
theorem ephemeristop_TopChron.bits21 : waitsOk ephemeristop_TopChron.T21.2 ephemeristop_TopChron.B21 = true := by kernel_rfl
def ephemeristop_TopChron.T22 : Bool × List (List Nat × List Nat) := (true, [([], []), ([], []), ([], []), ([1, 2], [1, 2]), ([], []), ([], []), ([], []), ([6], [6]), ([7], [7]), ([], []), ([9], [9]), ([10], [10]), ([4, 5, 8, 11], [4, 5, 8, 11]), ([12], [12]), ([3, 13, 3], [3, 13]), ([0, 14, 14], [0, 14]), ([15], [15]), ([16], [16]), ([16], [16]), ([17, 15, 0, 1, 2, 3, 4, 5, 6, 7, 8, 9, 10, 11, 12, 13, 14, 15, 16, 17], [17]), ([18, 19, 0, 1, 2, 3, 4, 5, 6, 7, 8, 9, 10, 11, 12, 13, 14, 15, 16, 17, 18, 19], [18])])
def ephemeristop_TopChron.B22 : List Nat := [0, 0, 0, 6, 0, 0, 0, 64, 192, 0, 512, 1536, 4080, 8176, 16382, 32767, 65535, 131071, 131071, 262143, 1048575]
theorem ephemeristop_TopChron.tab22 : rtab .any (opsOf Try.f3 22) = ephemeristop_TopChron.T22 := by kernel_rfl
theorem ephemeristop_TopChron.bits22 : waitsOk ephemeristop_TopChron.T22.2 ephemeristop_TopChron.B22 = true := by kernel_rfl
set_option maxHeartbeats 8000000 in
set_option maxRecDepth 100000 in
theorem ephemeristop_TopChron.calls (k : Nat) (A0 : Option Addr) (c0 : Nat) (l0 : List Int) (A1 : Option Addr) (c1 : Nat) (l1 : List (S37)) (a2 : Int) (a3 : Int) (r : Bool) (w : World) (hr0 : Kd.C (Kd.int .i64) w A0 l0.length l0) (hc0 : l0.length ≤ c0) (hr1 : Kd.C k37 w A1 l1.length l1) (hc1 : l1.length ≤ c1) (h : ephemeristop_TopChron.f k l0 l1 a2 a3 = some r) :
  Calls Try.prog 3 #[.slice A0 l0.length c0, .slice A1 l1.length c1, .int .i64 a2, .int .i64 a3] w fun e w' => e = .returned (.bool r) ∧ Below w.heap.size w w' := by
 have hu34 := Try.underlying34
 have hu37 := Try.underlying37
 have HR0 := Aside0.mk hr0
 have HC0 := Aside0.mk hc0
 clear hr0 hc0
 have HR1 := Aside0.mk hr1
 have HC1 := Aside0.mk hc1
 clear hr1 hc1
 have HB := Aside0.mk (Below.refl w.heap.size w)
 have H : ((ephemeristop_sChron.f k).bind fun t184 => (if t184 = true then ((ephemeristop_sEvents.f k l0 l1).bind fun bt185 => (if bt185.1 < 2 then (some true) else ((ephemeristop_sAt.f a2 bt185.1).bind fun t189 => ((ephemeristop_sAt.f a3 (wrap64 (bt185.1 - 1))).bind fun t190 => (if bt185.1 = 0 then (none) else ((chron_Tightest.f k bt185.1 bt185.2).bind fun bt191 => (if bt191.2 = 0 then (if (bt191.1.length : Int) = bt185.1 then (if 0 ≤ t189 then (if t189 < (bt191.1.length : Int) then (ephemeristop_TopChron.j0 k bt185.2 t189 (Int.tmod (wrap64 ((wrap64 (t189 + 1)) + t190)) bt185.1) bt185.1 bt191.1 (((rd_L4 bt191.1 t189).length : Int) != bt185.1)) else (none)) else (none)) else (ephemeristop_TopChron.j0 k bt185.2 t189 (Int.tmod (wrap64 ((wrap64 (t189 + 1)) + t190)) bt185.1) bt185.1 bt191.1 true)) else (ephemeristop_TopChron.j0 k bt185.2 t189 (Int.tmod (wrap64 ((wrap64 (t189 + 1)) + t190)) bt185.1) bt185.1 bt191.1 true)))))))) else (none))) = some r := h
 clear h
 replace H := Option.bind_eq_some_iff.mp H
 obtain ⟨t184, A50, H⟩ := H
 replace H : (if t184 = true then ((ephemeristop_sEvents.f k l0 l1).bind fun bt185 => (if bt185.1 < 2 then (some true) else ((ephemeristop_sAt.f a2 bt185.1).bind fun t189 => ((ephemeristop_sAt.f a3 (wrap64 (bt185.1 - 1))).bind fun t190 => (if bt185.1 = 0 then (none) else ((chron_Tightest.f k bt185.1 bt185.2).bind fun bt191 => (if bt191.2 = 0 then (if (bt191.1.length : Int) = bt185.1 then (if 0 ≤ t189 then (if t189 < (bt191.1.length : Int) then (ephemeristop_TopChron.j0 k bt185.2 t189 (Int.tmod (wrap64 ((wrap64 (t189 + 1)) + t190)) bt185.1) bt185.1 bt191.1 (((rd_L4 bt191.1 t189).length : Int) != bt185.1)) else (none)) else (none)) else (ephemeristop_TopChron.j0 k bt185.2 t189 (Int.tmod (wrap64 ((wrap64 (t189 + 1)) + t190)) bt185.1) bt185.1 bt191.1 true)) else (ephemeristop_TopChron.j0 k bt185.2 t189 (Int.tmod (wrap64 ((wrap64 (t189 + 1)) + t190)) bt185.1) bt185.1 bt191.1 true)))))))) else (none)) = some r := H
 have A5 := Aside0.mk A50
 clear A50
 by_cases c6 : t184 = true
 ·
  subst c6
  have H1 : ((ephemeristop_sEvents.f k l0 l1).bind fun bt185 => (if bt185.1 < 2 then (some true) else ((ephemeristop_sAt.f a2 bt185.1).bind fun t189 => ((ephemeristop_sAt.f a3 (wrap64 (bt185.1 - 1))).bind fun t190 => (if bt185.1 = 0 then (none) else ((chron_Tightest.f k bt185.1 bt185.2).bind fun bt191 => (if bt191.2 = 0 then (if (bt191.1.length : Int) = bt185.1 then (if 0 ≤ t189 then (if t189 < (bt191.1.length : Int) then (ephemeristop_TopChron.j0 k bt185.2 t189 (Int.tmod (wrap64 ((wrap64 (t189 + 1)) + t190)) bt185.1) bt185.1 bt191.1 (((rd_L4 bt191.1 t189).length : Int) != bt185.1)) else (none)) else (none)) else (ephemeristop_TopChron.j0 k bt185.2 t189 (Int.tmod (wrap64 ((wrap64 (t189 + 1)) + t190)) bt185.1) bt185.1 bt191.1 true)) else (ephemeristop_TopChron.j0 k bt185.2 t189 (Int.tmod (wrap64 ((wrap64 (t189 + 1)) + t190)) bt185.1) bt185.1 bt191.1 true)))))))) = some r := by rw [if_pos rfl] at H; exact H
  clear H
  have H := H1
  clear H1
  replace H := Option.bind_eq_some_iff.mp H
  obtain ⟨⟨t185, t186⟩, A70, H⟩ := H
  replace H : (if t185 < 2 then (some true) else ((ephemeristop_sAt.f a2 t185).bind fun t189 => ((ephemeristop_sAt.f a3 (wrap64 (t185 - 1))).bind fun t190 => (if t185 = 0 then (none) else ((chron_Tightest.f k t185 t186).bind fun bt191 => (if bt191.2 = 0 then (if (bt191.1.length : Int) = t185 then (if 0 ≤ t189 then (if t189 < (bt191.1.length : Int) then (ephemeristop_TopChron.j0 k t186 t189 (Int.tmod (wrap64 ((wrap64 (t189 + 1)) + t190)) t185) t185 bt191.1 (((rd_L4 bt191.1 t189).length : Int) != t185)) else (none)) else (none)) else (ephemeristop_TopChron.j0 k t186 t189 (Int.tmod (wrap64 ((wrap64 (t189 + 1)) + t190)) t185) t185 bt191.1 true)) else (ephemeristop_TopChron.j0 k t186 t189 (Int.tmod (wrap64 ((wrap64 (t189 + 1)) + t190)) t185) t185 bt191.1 true))))))) = some r := H
  have A7 := Aside0.mk A70
  clear A70
  by_cases c8 : t185 < 2
  ·
   rw [if_pos c8] at H
   have c8b0 : decide (t185 < 2) = true := decide_eq_true c8
   clear c8
   obtain rfl := Option.some.inj H
   go_enter Try.func3, Try.ntmps3
   go_wp2_with (first | ((with_reducible refine gate_callee (f := 6) rfl ?_); refine goesL_ (some 21) rfl rfl Try.func6 (by kernel_rfl) rfl #[] rfl (by (try simp only [List.map_toArray, List.map_cons, List.map_nil]); first | done | rfl | (simp only [List.length_drop, List.length_take]; rfl)) ?_; (with_reducible refine (ephemeristop_sChron.calls k  true _ A5.out).mono ?_); rintro e w9 ⟨rfl, hb⟩; refine ⟨_, rfl, ?_⟩; replace HB := hxz_ HB hb; (try clear hb); (try clear hb2); (try clear hk); (try clear hi)) | ((with_reducible refine gate_callee (f := 7) rfl ?_); refine goesL_ (some 26) rfl rfl Try.func7 (by kernel_rfl) rfl #[.slice A0 l0.length c0, .slice A1 l1.length c1] rfl (by (try simp only [List.map_toArray, List.map_cons, List.map_nil]); first | done | rfl | (simp only [List.length_drop, List.length_take]; rfl)) ?_; (with_reducible refine (ephemeristop_sEvents.calls k _ _ l0 _ _ l1 t185 t186 _ ?side1 ?side2 ?side3 ?side4 A7.out).mono ?_); (case side1 => repeat (first | exact (Kd.C_below HR0.out HB.out) | (with_reducible refine Kd.C_alloc ?_ _) | (with_reducible refine Kd.C_drewN ?_ _) | (with_reducible refine Kd.C_drew ?_))); (case side2 => exact HC0.out); (case side3 => repeat (first | exact (Kd.C_below HR1.out HB.out) | (with_reducible refine Kd.C_alloc ?_ _) | (with_reducible refine Kd.C_drewN ?_ _) | (with_reducible refine Kd.C_drew ?_))); (case side4 => exact HC1.out); rintro e w10 ⟨v187, rfl, ho0, hb⟩; refine ⟨_, rfl, ?_⟩; have n0_ := Aside0.mk (Kd.R_lower ho0 (below_size (by repeat (first | (with_reducible first | exact HB.out | apply below_alloc | apply pw_below_drewN | apply below_drew1) | exact HB.out)))); have n1_ := Aside0.mk (below_step (by repeat (first | (with_reducible first | exact HB.out | apply below_alloc | apply pw_below_drewN | apply below_drew1) | exact HB.out)) hb); clear HB; have HO188 := n0_; have HB := n1_; clear n0_ n1_; (try clear hb); (try clear hb2); (try clear hk); (try clear hi); (try clear ho0)))
   go_ret
   exact ⟨by first | rfl | (simp [errW_none, errW_some] <;> rfl) | (simp [*, errW_none, errW_some] <;> rfl), by repeat (first | (with_reducible first | exact HB.out | apply below_alloc | apply pw_below_drewN | apply below_drew1) | exact HB.out)⟩
  ·
   rw [if_neg c8] at H
   have c8b0 : decide (t185 < 2) = false := decide_eq_false c8
   clear c8
   replace H := Option.bind_eq_some_iff.mp H
   obtain ⟨t189, A110, H⟩ := H
   replace H : ((ephemeristop_sAt.f a3 (wrap64 (t185 - 1))).bind fun t190 => (if t185 = 0 then (none) else ((chron_Tightest.f k t185 t186).bind fun bt191 => (if bt191.2 = 0 then (if (bt191.1.length : Int) = t185 then (if 0 ≤ t189 then (if t189 < (bt191.1.length : Int) then (ephemeristop_TopChron.j0 k t186 t189 (Int.tmod (wrap64 ((wrap64 (t189 + 1)) + t190)) t185) t185 bt191.1 (((rd_L4 bt191.1 t189).length : Int) != t185)) else (none)) else (none)) else (ephemeristop_TopChron.j0 k t186 t189 (Int.tmod (wrap64 ((wrap64 (t189 + 1)) + t190)) t185) t185 bt191.1 true)) else (ephemeristop_TopChron.j0 k t186 t189 (Int.tmod (wrap64 ((wrap64 (t189 + 1)) + t190)) t185) t185 bt191.1 true))))) = some r := H
   have A11 := Aside0.mk A110
   clear A110
   replace H := Option.bind_eq_some_iff.mp H
   obtain ⟨t190, A120, H⟩ := H
   replace H : (if t185 = 0 then (none) else ((chron_Tightest.f k t185 t186).bind fun bt191 => (if bt191.2 = 0 then (if (bt191.1.length : Int) = t185 then (if 0 ≤ t189 then (if t189 < (bt191.1.length : Int) then (ephemeristop_TopChron.j0 k t186 t189 (Int.tmod (wrap64 ((wrap64 (t189 + 1)) + t190)) t185) t185 bt191.1 (((rd_L4 bt191.1 t189).length : Int) != t185)) else (none)) else (none)) else (ephemeristop_TopChron.j0 k t186 t189 (Int.tmod (wrap64 ((wrap64 (t189 + 1)) + t190)) t185) t185 bt191.1 true)) else (ephemeristop_TopChron.j0 k t186 t189 (Int.tmod (wrap64 ((wrap64 (t189 + 1)) + t190)) t185) t185 bt191.1 true)))) = some r := H
   have A12 := Aside0.mk A120
   clear A120
   by_cases c13 : t185 = 0
   ·
    rw [if_pos c13] at H
    exact absurd H (by simp)
   ·
    rw [if_neg c13] at H
    have c13b0 : (t185 == 0) = false := beq_eq_false_iff_ne.mpr c13
    have c13b1 : (t185 != 0) = true := bne_iff_ne.mpr c13
    replace H := Option.bind_eq_some_iff.mp H
    obtain ⟨⟨t191, t192⟩, A140, H⟩ := H
    replace H : (if t192 = 0 then (if (t191.length : Int) = t185 then (if 0 ≤ t189 then (if t189 < (t191.length : Int) then (ephemeristop_TopChron.j0 k t186 t189 (Int.tmod (wrap64 ((wrap64 (t189 + 1)) + t190)) t185) t185 t191 (((rd_L4 t191 t189).length : Int) != t185)) else (none)) else (none)) else (ephemeristop_TopChron.j0 k t186 t189 (Int.tmod (wrap64 ((wrap64 (t189 + 1)) + t190)) t185) t185 t191 true)) else (ephemeristop_TopChron.j0 k t186 t189 (Int.tmod (wrap64 ((wrap64 (t189 + 1)) + t190)) t185) t185 t191 true)) = some r := H
    have A14 := Aside0.mk A140
    clear A140
    have HC15 := Aside0.mk H
    clear H
    go_enter Try.func3, Try.ntmps3
    go_upto_region 9 with (first | ((with_reducible refine gate_callee (f := 6) rfl ?_); refine goesL_ (some 21) rfl rfl Try.func6 (by kernel_rfl) rfl #[] rfl (by (try simp only [List.map_toArray, List.map_cons, List.map_nil]); first | done | rfl | (simp only [List.length_drop, List.length_take]; rfl)) ?_; (with_reducible refine (ephemeristop_sChron.calls k  true _ A5.out).mono ?_); rintro e w16 ⟨rfl, hb⟩; refine ⟨_, rfl, ?_⟩; replace HB := hxz_ HB hb; (try clear hb); (try clear hb2); (try clear hk); (try clear hi)) | ((with_reducible refine gate_callee (f := 7) rfl ?_); refine goesL_ (some 26) rfl rfl Try.func7 (by kernel_rfl) rfl #[.slice A0 l0.length c0, .slice A1 l1.length c1] rfl (by (try simp only [List.map_toArray, List.map_cons, List.map_nil]); first | done | rfl | (simp only [List.length_drop, List.length_take]; rfl)) ?_; (with_reducible refine (ephemeristop_sEvents.calls k _ _ l0 _ _ l1 t185 t186 _ ?side1 ?side2 ?side3 ?side4 A7.out).mono ?_); (case side1 => repeat (first | exact (Kd.C_below HR0.out HB.out) | (with_reducible refine Kd.C_alloc ?_ _) | (with_reducible refine Kd.C_drewN ?_ _) | (with_reducible refine Kd.C_drew ?_))); (case side2 => exact HC0.out); (case side3 => repeat (first | exact (Kd.C_below HR1.out HB.out) | (with_reducible refine Kd.C_alloc ?_ _) | (with_reducible refine Kd.C_drewN ?_ _) | (with_reducible refine Kd.C_drew ?_))); (case side4 => exact HC1.out); rintro e w17 ⟨v187, rfl, ho0, hb⟩; refine ⟨_, rfl, ?_⟩; have n0_ := Aside0.mk (Kd.R_lower ho0 (below_size (by repeat (first | (with_reducible first | exact HB.out | apply below_alloc | apply pw_below_drewN | apply below_drew1) | exact HB.out)))); have n1_ := Aside0.mk (below_step (by repeat (first | (with_reducible first | exact HB.out | apply below_alloc | apply pw_below_drewN | apply below_drew1) | exact HB.out)) hb); clear HB; have HO188 := n0_; have HB := n1_; clear n0_ n1_; (try clear hb); (try clear hb2); (try clear hk); (try clear hi); (try clear ho0)) | ((with_reducible refine gate_callee (f := 8) rfl ?_); refine goesL_ (some 33) rfl rfl Try.func8 (by kernel_rfl) rfl #[.int .i64 a2, .int .i64 t185] rfl (by (try simp only [List.map_toArray, List.map_cons, List.map_nil]); first | done | rfl | (simp only [List.length_drop, List.length_take]; rfl)) ?_; (with_reducible refine (ephemeristop_sAt.calls a2 t185 t189 _ A11.out).mono ?_); rintro e w' ⟨rfl, ⟨nd, rfl⟩⟩; refine ⟨_, rfl, ?_⟩) | ((with_reducible refine gate_callee (f := 8) rfl ?_); refine goesL_ (some 39) rfl rfl Try.func8 (by kernel_rfl) rfl #[.int .i64 a3, .int .i64 (wrap64 (t185 - 1))] rfl (by (try simp only [List.map_toArray, List.map_cons, List.map_nil]); first | done | rfl | (simp only [List.length_drop, List.length_take]; rfl) | (rw [wrap_in_ (n := t185 - 1) (by omega) (by omega)]; rfl)) ?_; (with_reducible refine (ephemeristop_sAt.calls a3 (wrap64 (t185 - 1)) t190 _ A12.out).mono ?_); rintro e w' ⟨rfl, ⟨nd, rfl⟩⟩; refine ⟨_, rfl, ?_⟩; obtain ⟨Ao18, co18, eo18⟩ := Kd.R_slice HO188.out; subst eo18) | ((with_reducible refine gate_callee (f := 9) rfl ?_); refine goesL_ (some 46) rfl rfl Try.func9 (by kernel_rfl) rfl #[.int .i64 t185, .slice Ao18 t186.length co18] rfl (by (try simp only [List.map_toArray, List.map_cons, List.map_nil]); first | done | rfl | (simp only [List.length_drop, List.length_take]; rfl)) ?_; (with_reducible refine (chron_Tightest.calls k t185 _ _ t186 t191 t192 _ ?side1 ?side2 A14.out).mono ?_); (case side1 => repeat (first | exact (Kd.R_reads' HO188.out).2.2 | (with_reducible refine Kd.C_alloc ?_ _) | (with_reducible refine Kd.C_drewN ?_ _) | (with_reducible refine Kd.C_drew ?_))); (case side2 => exact (Kd.R_reads' HO188.out).2.1); rintro e w19 ⟨v193, rfl, ho0, hb⟩; refine ⟨_, rfl, ?_⟩; have n0_ := Aside0.mk (Kd.R_below (by (with_reducible repeat (first | apply Kd.R_alloc | apply Kd.R_drewN | apply Kd.R_drew)); exact HO188.out) hb); have n1_ := Aside0.mk (Kd.S_lower ho0 (below_size (by repeat (first | (with_reducible first | exact HB.out | apply below_alloc | apply pw_below_drewN | apply below_drew1) | exact HB.out)))); have n2_ := Aside0.mk (below_step (by repeat (first | (with_reducible first | exact HB.out | apply below_alloc | apply pw_below_drewN | apply below_drew1) | exact HB.out)) hb); clear HO188; clear HB; have HO188 := n0_; have HO194 := n1_; have HB := n2_; clear n0_ n1_ n2_; (try clear hb); (try clear hb2); (try clear hk); (try clear hi); (try clear ho0)))
    (try simp only [Act.put, List.setIfInBounds_toArray, List.set_cons_zero, List.set_cons_succ])
    go_cut [65] (fun v65 wc => ∃ (kq : Nat) (x65_14 : Bool), v65 = .bool x65_14 ∧ Aside0 (ephemeristop_TopChron.j0 kq t186 t189 (Int.tmod (wrap64 ((wrap64 (t189 + 1)) + t190)) t185) t185 t191 x65_14 = some r) ∧ Aside0 (kq ≤ k) ∧ Aside0 (Kd.R k37 37 wc w.heap.size (fun _ => True) (.slice Ao18 t186.length co18) t186) ∧ Aside0 (Kd.S (Kd.slice 34 k34) 32 wc w.heap.size (fun _ => True) v193 t191) ∧ Aside0 (Below w.heap.size w wc))
    case first =>
     have H := HC15.out
     clear HC15
     by_cases c20 : t192 = 0
     ·
      rw [if_pos c20] at H
      have c20b0 : (t192 == 0) = true := beq_iff_eq.mpr c20
      have c20b1 : (t192 != 0) = false := bne_eq_false_iff_eq.mpr c20
      clear c20
      (first | rw [c20b0] | (simp only [i64_w, i32_w]; rw [c20b0]) | rw [c20b1] | skip)
      by_cases c21 : (t191.length : Int) = t185
      ·
       rw [if_pos c21] at H
       have c21b0 : ((t191.length : Int) == t185) = true := beq_iff_eq.mpr c21
       have c21b1 : ((t191.length : Int) != t185) = false := bne_eq_false_iff_eq.mpr c21
       clear c21
       by_cases c22 : 0 ≤ t189
       ·
        rw [if_pos c22] at H
        have c22b0 : decide (0 ≤ t189) = true := decide_eq_true c22
        clear c22
        by_cases c23 : t189 < (t191.length : Int)
        ·
         rw [if_pos c23] at H
         have c23b0 : decide (t189 < (t191.length : Int)) = true := decide_eq_true c23
         clear c23
         have H' := Aside0.mk H
         clear H
         obtain ⟨Ao24, co24, eo24⟩ := Kd.S_slice HO194.out
         subst eo24
         have p195 : 0 ≤ (t189 : Int) := of_decide_eq_true (by first | (with_reducible assumption) | assumption)
         have q195 : t189 < (t191.length : Int) := of_decide_eq_true (by first | (with_reducible assumption) | assumption)
         obtain ⟨ad195, A195_0, c195_0, e195, hx195_0, hl195_0, hi195_0⟩ := at_L4 (Kd.S_reads' HO194.out).2.2 t189 p195 q195
         cases e195
         obtain ⟨ce195, hce195, hMe195, hcc195⟩ := Kd.S_get HO194.out [] t189 p195 (by first | exact q195 | exact of_decide_eq_true (by first | (with_reducible assumption) | assumption) | (have e_ := (Kd.S_reads' HO194.out).1; omega))
         obtain ⟨ve195_0, rfl, ge195_0⟩ := hMe195
         have hv195_0 := hcc195 0 _ rfl
         rw [Nat.add_zero, show ((Kd.slice 34 k34)).sz = 1 from rfl, Nat.mul_one] at hv195_0
         replace hv195_0 := Option.some.inj (hv195_0.symm.trans hx195_0)
         rw [hv195_0] at ge195_0
         have HL195_0 := Aside0.mk (show Kd.R k34 34 _ _ _ _ (rd_L4 t191 t189) from ge195_0)
         clear hv195_0 ge195_0
         clear hcc195 hce195
         have HR195_0 := Aside0.mk hi195_0
         have HC195_0 := Aside0.mk hl195_0
         clear hi195_0 hl195_0
         replace p195 := eq_true p195
         replace q195 := eq_true q195
         go_wp2
         go_meet
         case rel => exact ⟨_, ((((rd_L4 t191 t189).length : Int) != t185)), (by first | rfl | (simp; done) | (simp [*]; done)), H', ⟨by first | omega | exact Nat.le_refl _⟩, ⟨by (with_reducible repeat (first | apply Kd.R_alloc | apply Kd.R_drewN | apply Kd.R_drew)); exact HO188.out⟩, ⟨by (with_reducible repeat (first | apply Kd.S_alloc | apply Kd.S_drewN | apply Kd.S_drew)); exact HO194.out⟩, ⟨by repeat (first | (with_reducible first | exact HB.out | apply below_alloc | apply pw_below_drewN | apply below_drew1) | exact HB.out)⟩⟩
        ·
         rw [if_neg c23] at H
         exact absurd H (by simp)
       ·
        rw [if_neg c22] at H
        exact absurd H (by simp)
      ·
       rw [if_neg c21] at H
       have c21b0 : ((t191.length : Int) == t185) = false := beq_eq_false_iff_ne.mpr c21
       have c21b1 : ((t191.length : Int) != t185) = true := bne_iff_ne.mpr c21
       have H' := Aside0.mk H
       clear H
       obtain ⟨Ao25, co25, eo25⟩ := Kd.S_slice HO194.out
       subst eo25
       go_wp2
       go_meet
       case rel => exact ⟨_, (true), (by first | rfl | (simp; done) | (simp [*]; done)), H', ⟨by first | omega | exact Nat.le_refl _⟩, ⟨by (with_reducible repeat (first | apply Kd.R_alloc | apply Kd.R_drewN | apply Kd.R_drew)); exact HO188.out⟩, ⟨by (with_reducible repeat (first | apply Kd.S_alloc | apply Kd.S_drewN | apply Kd.S_drew)); exact HO194.out⟩, ⟨by repeat (first | (with_reducible first | exact HB.out | apply below_alloc | apply pw_below_drewN | apply below_drew1) | exact HB.out)⟩⟩
     ·
      rw [if_neg c20] at H
      have c20b0 : (t192 == 0) = false := beq_eq_false_iff_ne.mpr c20
      have c20b1 : (t192 != 0) = true := bne_iff_ne.mpr c20
      (first | rw [c20b0] | (simp only [i64_w, i32_w]; rw [c20b0]) | rw [c20b1] | skip)
      have H' := Aside0.mk H
      clear H
      go_wp2
      go_meet
      case rel => exact ⟨_, (true), (by first | rfl | (simp; done) | (simp [*]; done)), H', ⟨by first | omega | exact Nat.le_refl _⟩, ⟨by (with_reducible repeat (first | apply Kd.R_alloc | apply Kd.R_drewN | apply Kd.R_drew)); exact HO188.out⟩, ⟨by (with_reducible repeat (first | apply Kd.S_alloc | apply Kd.S_drewN | apply Kd.S_drew)); exact HO194.out⟩, ⟨by repeat (first | (with_reducible first | exact HB.out | apply below_alloc | apply pw_below_drewN | apply below_drew1) | exact HB.out)⟩⟩
    case rest =>
     clear HC15
     try clear c1
     try clear p1
     try clear q1
     try clear hx1
     try clear c2
     try clear p2
     try clear c3
     try clear c6
     try clear p6
     try clear c7
     try clear c8
     try clear c8b0
     try clear c9
     try clear c13
     try clear c13b0
     try clear c13b1
     try clear c19
     try clear p19
     try clear q19
     try clear hx19
     try clear c20
     try clear c20b0
     try clear c20b1
     try clear c21
     try clear c21b0
     try clear c21b1
     try clear c22
     try clear c22b0
     try clear c23
     try clear c23b0
     try clear hx195_0
     try clear p195
     try clear q195
     obtain ⟨kq, x65_14, rfl, HA, HJ14, HO_1, HO_10, HB⟩ := hcut
     cases kq with
     | zero => exact absurd HA.out (by simp [ephemeristop_TopChron.j0])
     | succ kj14 =>
      have H := HA.out
      clear HA
      simp only [ephemeristop_TopChron.j0] at H
      by_cases c26 : x65_14 = true
      ·
       subst c26
       have H1 : (none) = some r := by rw [if_pos rfl] at H; exact H
       clear H
       have H := H1
       clear H1
       exact absurd H (by simp)
      ·
       replace c26 := Bool.eq_false_iff.mpr c26
       subst c26
       have H1 : (if 0 ≤ t189 then (if t189 < (t191.length : Int) then (if 0 ≤ (Int.tmod (wrap64 ((wrap64 (t189 + 1)) + t190)) t185) then (if (Int.tmod (wrap64 ((wrap64 (t189 + 1)) + t190)) t185) < ((rd_L4 t191 t189).length : Int) then (if ((rd_T34 (rd_L4 t191 t189) (Int.tmod (wrap64 ((wrap64 (t189 + 1)) + t190)) t185)).f1) ≥ 1000000 then (ephemeristop_TopChron.j1 kj14 t186 t189 (Int.tmod (wrap64 ((wrap64 (t189 + 1)) + t190)) t185) t185 true ((rd_T34 (rd_L4 t191 t189) (Int.tmod (wrap64 ((wrap64 (t189 + 1)) + t190)) t185)).f0) ((rd_T34 (rd_L4 t191 t189) (Int.tmod (wrap64 ((wrap64 (t189 + 1)) + t190)) t185)).f1)) else (ephemeristop_TopChron.j1 kj14 t186 t189 (Int.tmod (wrap64 ((wrap64 (t189 + 1)) + t190)) t185) t185 (decide (((rd_T34 (rd_L4 t191 t189) (Int.tmod (wrap64 ((wrap64 (t189 + 1)) + t190)) t185)).f0) ≤ (-1000000))) ((rd_T34 (rd_L4 t191 t189) (Int.tmod (wrap64 ((wrap64 (t189 + 1)) + t190)) t185)).f0) ((rd_T34 (rd_L4 t191 t189) (Int.tmod (wrap64 ((wrap64 (t189 + 1)) + t190)) t185)).f1))) else (none)) else (none)) else (none)) else (none)) = some r := by rw [if_neg (show ¬ (false = true) by decide)] at H; exact H
       clear H
       have H := H1
       clear H1
       by_cases c27 : 0 ≤ t189
       ·
        rw [if_pos c27] at H
        have c27b0 : decide (0 ≤ t189) = true := decide_eq_true c27
        clear c27
        by_cases c28 : t189 < (t191.length : Int)
        ·
         rw [if_pos c28] at H
         have c28b0 : decide (t189 < (t191.length : Int)) = true := decide_eq_true c28
         clear c28
         obtain ⟨ji29, hji29⟩ : ∃ j_ : Int, (Int.tmod (wrap64 ((wrap64 (t189 + 1)) + t190)) t185) = j_ := ⟨_, rfl⟩
         replace H : (if 0 ≤ (ji29) then (if (ji29) < ((rd_L4 t191 t189).length : Int) then (if ((rd_T34 (rd_L4 t191 t189) (ji29)).f1) ≥ 1000000 then (ephemeristop_TopChron.j1 kj14 t186 t189 (ji29) t185 true ((rd_T34 (rd_L4 t191 t189) (ji29)).f0) ((rd_T34 (rd_L4 t191 t189) (ji29)).f1)) else (ephemeristop_TopChron.j1 kj14 t186 t189 (ji29) t185 (decide (((rd_T34 (rd_L4 t191 t189) (ji29)).f0) ≤ (-1000000))) ((rd_T34 (rd_L4 t191 t189) (ji29)).f0) ((rd_T34 (rd_L4 t191 t189) (ji29)).f1))) else (none)) else (none)) = some r := by first | (rw [hji29] at H; exact H) | (simp only [hji29] at H ⊢; exact H)
         by_cases c30 : 0 ≤ (ji29)
         ·
          rw [if_pos c30] at H
          have c30b0 : decide (0 ≤ (ji29)) = true := decide_eq_true c30
          clear c30
          by_cases c31 : (ji29) < ((rd_L4 t191 t189).length : Int)
          ·
           rw [if_pos c31] at H
           have c31b0 : decide ((ji29) < ((rd_L4 t191 t189).length : Int)) = true := decide_eq_true c31
           clear c31
           have HC32 := Aside0.mk H
           clear H
           obtain ⟨Ao33, co33, eo33⟩ := Kd.S_slice HO_10.out
           subst eo33
           have p196 : 0 ≤ (t189 : Int) := of_decide_eq_true (by first | (with_reducible assumption) | assumption)
           have q196 : t189 < (t191.length : Int) := of_decide_eq_true (by first | (with_reducible assumption) | assumption)
           obtain ⟨ad196, A196_0, c196_0, e196, hx196_0, hl196_0, hi196_0⟩ := at_L4 (Kd.S_reads' HO_10.out).2.2 t189 p196 q196
           cases e196
           obtain ⟨ce196, hce196, hMe196, hcc196⟩ := Kd.S_get HO_10.out [] t189 p196 (by first | exact q196 | exact of_decide_eq_true (by first | (with_reducible assumption) | assumption) | (have e_ := (Kd.S_reads' HO_10.out).1; omega))
           obtain ⟨ve196_0, rfl, ge196_0⟩ := hMe196
           have hv196_0 := hcc196 0 _ rfl
           rw [Nat.add_zero, show ((Kd.slice 34 k34)).sz = 1 from rfl, Nat.mul_one] at hv196_0
           replace hv196_0 := Option.some.inj (hv196_0.symm.trans hx196_0)
           rw [hv196_0] at ge196_0
           have HL196_0 := Aside0.mk (show Kd.R k34 34 _ _ _ _ (rd_L4 t191 t189) from ge196_0)
           clear hv196_0 ge196_0
           clear hcc196 hce196
           have HR196_0 := Aside0.mk hi196_0
           have HC196_0 := Aside0.mk hl196_0
           clear hi196_0 hl196_0
           replace p196 := eq_true p196
           replace q196 := eq_true q196
           have p197 : 0 ≤ ((ji29) : Int) := of_decide_eq_true (by first | (with_reducible assumption) | assumption)
           have q197 : (ji29) < ((rd_L4 t191 t189).length : Int) := of_decide_eq_true (by first | (with_reducible assumption) | assumption)
           obtain ⟨ad197, e197, hx197_0, hx197_1⟩ := at_T34 (by repeat (first | (with_reducible exact HR196_0.out) | (with_reducible refine Kd.C_alloc ?_ _) | (with_reducible refine Kd.C_drewN ?_ _) | (with_reducible refine Kd.C_drew ?_) | exact HR196_0.out)) (ji29) p197 q197
           cases e197
           replace p197 := eq_true p197
           replace q197 := eq_true q197
           go_upto_region 12 with (first | ((with_reducible refine gate_dst (N := 12) rfl ?_); (try (refine gate_guard (by rfl) ?_; dsimp only)); refine box_event ?hg (N := 12) ?hd (cs := #[.int .i64 0, .int .i64 0]) (t := 34) ?hr ?_; (case hd => rfl); (case hg => rfl); (case hr => first | (go_simp; done) | (go_simp; rfl)); intro gb198 hg w34 hbox hb; have n0_ := Aside0.mk (Kd.R_below (by (with_reducible repeat (first | apply Kd.R_alloc | apply Kd.R_drewN | apply Kd.R_drew)); exact HO_1.out) hb); have n1_ := Aside0.mk (Kd.S_below (Kd.S_elderB (by (with_reducible repeat (first | apply Kd.S_alloc | apply Kd.S_drewN | apply Kd.S_drew)); exact HO_10.out) gb198 (Nat.le_of_eq hg.symm)) hb); have n2_ := Aside0.mk (Kd.R_below (Kd.R_elderB (by (with_reducible repeat (first | apply Kd.R_alloc | apply Kd.R_drewN | apply Kd.R_drew)); exact HL196_0.out) gb198 (Nat.le_of_eq hg.symm)) hb); have n3_ := Aside0.mk (Kd.C_below (by repeat (first | (with_reducible exact HR196_0.out) | (with_reducible refine Kd.C_alloc ?_ _) | (with_reducible refine Kd.C_drewN ?_ _) | (with_reducible refine Kd.C_drew ?_) | exact HR196_0.out)) hb); have n4_ := Aside0.mk (below_step (by repeat (first | (with_reducible first | exact HB.out | apply below_alloc | apply pw_below_drewN | apply below_drew1) | exact HB.out)) hb); have n5_ := Aside0.mk (hbox); have n6_ := Aside0.mk ((by rw [hg]; exact (below_size (by repeat (first | (with_reducible first | exact HB.out | apply below_alloc | apply pw_below_drewN | apply below_drew1) | exact HB.out))) : w.heap.size ≤ gb198)); have n7_ := Aside0.mk ((by rw [hg]; exact (below_size (by repeat (first | (with_reducible first | exact HB.out | apply below_alloc | apply pw_below_drewN | apply below_drew1) | exact HB.out))) : w.heap.size ≤ gb198)); clear HO_1; clear HO_10; clear HL196_0; clear HR196_0; clear HB; have HO_1 := n0_; have HO_10 := n1_; have HL196_0 := n2_; have HR196_0 := n3_; have HB := n4_; have BK198 := n5_; have GW198 := n6_; have GE198 := n7_; clear n0_ n1_ n2_ n3_ n4_ n5_ n6_ n7_; clear hb hbox hg; have hcz35_0 : w34.cell? ⟨gb198, 0, none⟩ = some (.int .i64 0) := (blk_cell BK198.out 0).trans rfl; have hcz35_1 : w34.cell? ⟨gb198, 1, none⟩ = some (.int .i64 0) := (blk_cell BK198.out 1).trans rfl; have hfz35_0 := blk_frozen BK198.out 0; have hfz35_1 := blk_frozen BK198.out 1))
           (try simp only [Act.put, List.setIfInBounds_toArray, List.set_cons_zero, List.set_cons_succ])
           go_cut [80] (fun v80 wc => ∃ (kq : Nat) (x80_31 : Bool), v80 = .bool x80_31 ∧ Aside0 (ephemeristop_TopChron.j1 kq t186 t189 (ji29) t185 x80_31 ((rd_T34 (rd_L4 t191 t189) (ji29)).f0) ((rd_T34 (rd_L4 t191 t189) (ji29)).f1) = some r) ∧ Aside0 (kq ≤ kj14) ∧ Aside0 (Kd.R k37 37 wc w.heap.size (fun _ => True) (.slice Ao18 t186.length co18) t186) ∧ Aside0 (wc.heap[gb198]? = some (.cells #[.int .i64 ((rd_T34 (rd_L4 t191 t189) (ji29)).f0), .int .i64 ((rd_T34 (rd_L4 t191 t189) (ji29)).f1)] 34 (0, 0))) ∧ Aside0 (Kd.C k34 wc (some ad197) (rd_L4 t191 t189).length (rd_L4 t191 t189)) ∧ Aside0 (Below w.heap.size w wc))
           case first =>
            have H := HC32.out
            clear HC32
            by_cases c36 : ((rd_T34 (rd_L4 t191 t189) (ji29)).f1) ≥ 1000000
            ·
             rw [if_pos c36] at H
             have c36b0 : decide (1000000 ≤ ((rd_T34 (rd_L4 t191 t189) (ji29)).f1)) = true := decide_eq_true c36
             clear c36
             (first | rw [c36b0] | (simp only [i64_w, i32_w]; rw [c36b0]) | rw [c36b1] | skip)
             have H' := Aside0.mk H
             clear H
             have hcz37_0 : w34.cell? ⟨gb198, 0, none⟩ = some (.int .i64 0) := (blk_cell BK198.out 0).trans rfl
             have hcz37_1 : w34.cell? ⟨gb198, 1, none⟩ = some (.int .i64 0) := (blk_cell BK198.out 1).trans rfl
             have hfz37_0 := blk_frozen BK198.out 0
             have hfz37_1 := blk_frozen BK198.out 1
             go_wp2
             go_meet
             case rel => exact ⟨_, (true), (by first | rfl | (simp; done) | (simp [*]; done)), H', ⟨by have := HJ14.out; first | omega | exact Nat.le_refl _⟩, ⟨by (with_reducible repeat (first | apply Kd.R_alloc | apply Kd.R_drewN | apply Kd.R_drew)); exact Kd.R_mono (Kd.R_far (p := ⟨gb198, 1, none⟩) (Kd.R_far (p := ⟨gb198, 0, none⟩) (Kd.R_types HO_1.out BK198.out (by decide)) (fun _ hk => hk.2) (.int .i64 ((rd_T34 (rd_L4 t191 t189) (ji29)).f0))) (fun _ hk => hk.2) (.int .i64 ((rd_T34 (rd_L4 t191 t189) (ji29)).f1))) (fun _ hk => trivial)⟩, ⟨(grz_ (blk_put (cs := #[.int .i64 ((rd_T34 (rd_L4 t191 t189) (ji29)).f0), .int .i64 0]) (grz_ (blk_put (cs := #[.int .i64 0, .int .i64 0]) (grz_ BK198.out) 0 _ rfl)) 1 _ rfl))⟩, ⟨(Kd.R_reads' (by (with_reducible repeat (first | apply Kd.R_alloc | apply Kd.R_drewN | apply Kd.R_drew)); exact (Kd.R_mono (Kd.R_far (p := ⟨gb198, 1, none⟩) (Kd.R_far (p := ⟨gb198, 0, none⟩) (Kd.R_mono HL196_0.out (fun k_ hk => (⟨hk, hk.2⟩ : _ ∧ k_ ≠ gb198))) (fun _ hk => hk.2) (.int .i64 ((rd_T34 (rd_L4 t191 t189) (ji29)).f0))) (fun _ hk => hk.2) (.int .i64 ((rd_T34 (rd_L4 t191 t189) (ji29)).f1))) (fun _ h_ => by first | exact h_.1 | (repeat' (first | exact h_ | exact h_.1 | exact h_.2 | exact h_.1.1 | exact h_.1.2 | exact h_.2.1 | exact h_.2.2 | exact h_.1.1.1 | exact h_.1.1.2 | exact h_.1.2.1 | exact h_.1.2.2 | exact True.intro | apply And.intro)))))).2.2⟩, ⟨by repeat (first | (with_reducible first | exact HB.out | apply below_alloc | apply pw_below_drewN | apply below_drew1 | refine below_set ?_ GE198.out) | exact HB.out)⟩⟩
            ·
             rw [if_neg c36] at H
             have c36b0 : decide (1000000 ≤ ((rd_T34 (rd_L4 t191 t189) (ji29)).f1)) = false := decide_eq_false c36
             clear c36
             (first | rw [c36b0] | (simp only [i64_w, i32_w]; rw [c36b0]) | rw [c36b1] | skip)
             have H' := Aside0.mk H
             clear H
             have hcz38_0 : w34.cell? ⟨gb198, 0, none⟩ = some (.int .i64 0) := (blk_cell BK198.out 0).trans rfl
             have hcz38_1 : w34.cell? ⟨gb198, 1, none⟩ = some (.int .i64 0) := (blk_cell BK198.out 1).trans rfl
             have hfz38_0 := blk_frozen BK198.out 0
             have hfz38_1 := blk_frozen BK198.out 1
             go_wp2
             go_meet
             case rel => exact ⟨_, (decide (((rd_T34 (rd_L4 t191 t189) (ji29)).f0) ≤ (-1000000))), (by first | rfl | (simp; done) | (simp only [← hji29] <;> (first | rfl | simp)) | (simp [*]; done)), H', ⟨by have := HJ14.out; first | omega | exact Nat.le_refl _⟩, ⟨by (with_reducible repeat (first | apply Kd.R_alloc | apply Kd.R_drewN | apply Kd.R_drew)); exact Kd.R_mono (Kd.R_far (p := ⟨gb198, 1, none⟩) (Kd.R_far (p := ⟨gb198, 0, none⟩) (Kd.R_types HO_1.out BK198.out (by decide)) (fun _ hk => hk.2) (.int .i64 ((rd_T34 (rd_L4 t191 t189) (ji29)).f0))) (fun _ hk => hk.2) (.int .i64 ((rd_T34 (rd_L4 t191 t189) (ji29)).f1))) (fun _ hk => trivial)⟩, ⟨(grz_ (blk_put (cs := #[.int .i64 ((rd_T34 (rd_L4 t191 t189) (ji29)).f0), .int .i64 0]) (grz_ (blk_put (cs := #[.int .i64 0, .int .i64 0]) (grz_ BK198.out) 0 _ rfl)) 1 _ rfl))⟩, ⟨(Kd.R_reads' (by (with_reducible repeat (first | apply Kd.R_alloc | apply Kd.R_drewN | apply Kd.R_drew)); exact (Kd.R_mono (Kd.R_far (p := ⟨gb198, 1, none⟩) (Kd.R_far (p := ⟨gb198, 0, none⟩) (Kd.R_mono HL196_0.out (fun k_ hk => (⟨hk, hk.2⟩ : _ ∧ k_ ≠ gb198))) (fun _ hk => hk.2) (.int .i64 ((rd_T34 (rd_L4 t191 t189) (ji29)).f0))) (fun _ hk => hk.2) (.int .i64 ((rd_T34 (rd_L4 t191 t189) (ji29)).f1))) (fun _ h_ => by first | exact h_.1 | (repeat' (first | exact h_ | exact h_.1 | exact h_.2 | exact h_.1.1 | exact h_.1.2 | exact h_.2.1 | exact h_.2.2 | exact h_.1.1.1 | exact h_.1.1.2 | exact h_.1.2.1 | exact h_.1.2.2 | exact True.intro | apply And.intro)))))).2.2⟩, ⟨by repeat (first | (with_reducible first | exact HB.out | apply below_alloc | apply pw_below_drewN | apply below_drew1 | refine below_set ?_ GE198.out) | exact HB.out)⟩⟩
           case rest =>
            clear HC32
            try clear c1
            try clear p1
            try clear q1
            try clear hx1
            try clear c2
            try clear p2
            try clear c3
            try clear c6
            try clear p6
            try clear c7
            try clear c8
            try clear c8b0
            try clear c9
            try clear c13
            try clear c13b0
            try clear c13b1
            try clear c19
            try clear p19
            try clear q19
            try clear hx19
            try clear c20
            try clear c20b0
            try clear c20b1
            try clear c21
            try clear c21b0
            try clear c21b1
            try clear c22
            try clear c22b0
            try clear c23
            try clear c23b0
            try clear c26
            try clear c27
            try clear c27b0
            try clear c28
            try clear c28b0
            try clear c30
            try clear c30b0
            try clear c31
            try clear c31b0
            try clear c36
            try clear c36b0
            try clear hcz35_0
            try clear hcz35_1
            try clear hcz37_0
            try clear hcz37_1
            try clear hcz38_0
            try clear hcz38_1
            try clear hfz35_0
            try clear hfz35_1
            try clear hfz37_0
            try clear hfz37_1
            try clear hfz38_0
            try clear hfz38_1
            try clear hx195_0
            try clear hx196_0
            try clear hx197_0
            try clear hx197_1
            try clear p1
            try clear p19
            try clear p195
            try clear p196
            try clear p197
            try clear p2
            try clear p6
            try clear q1
            try clear q19
            try clear q195
            try clear q196
            try clear q197
            obtain ⟨kq, x80_31, rfl, HA, HJ31, HO_1, BK198, HR196_0, HB⟩ := hcut
            cases kq with
            | zero => exact absurd HA.out (by simp [ephemeristop_TopChron.j1])
            | succ kj31 =>
             have H := HA.out
             clear HA
             simp only [ephemeristop_TopChron.j1] at H
             by_cases c39 : x80_31 = true
             ·
              subst c39
              have H1 : (some (decide (((rd_T34 (rd_L4 t191 t189) (ji29)).f1) ≥ ((rd_T34 (rd_L4 t191 t189) (ji29)).f0)))) = some r := by rw [if_pos rfl] at H; exact H
              clear H
              have H := H1
              clear H1
              obtain rfl := Option.some.inj H
              have hcz40_0 : wc.cell? ⟨gb198, 0, none⟩ = some (.int .i64 ((rd_T34 (rd_L4 t191 t189) (ji29)).f0)) := (blk_cell BK198.out 0).trans rfl
              have hcz40_1 : wc.cell? ⟨gb198, 1, none⟩ = some (.int .i64 ((rd_T34 (rd_L4 t191 t189) (ji29)).f1)) := (blk_cell BK198.out 1).trans rfl
              have hfz40_0 := blk_frozen BK198.out 0
              have hfz40_1 := blk_frozen BK198.out 1
              go_wp2
              go_ret
              exact ⟨by first | rfl | (simp [errW_none, errW_some] <;> rfl) | (simp only [← hji29]; first | rfl | (simp [errW_none, errW_some] <;> rfl)) | (simp [*, errW_none, errW_some] <;> rfl), by repeat (first | (with_reducible first | exact HB.out | apply below_alloc | apply pw_below_drewN | apply below_drew1 | refine below_set ?_ GE198.out) | exact HB.out)⟩
             ·
              replace c39 := Bool.eq_false_iff.mpr c39
              subst c39
              have H1 : ((some (([] : List (S37)) : List (S37))).bind fun y199 => (if y199.length + t186.length < 4398046511104 then ((some (y199 ++ t186 : List (S37))).bind fun y202 => ((some (([(⟨t189, (ji29), ((rd_T34 (rd_L4 t191 t189) (ji29)).f0), ((rd_T34 (rd_L4 t191 t189) (ji29)).f0)⟩ : S37)] : List (S37)) : List (S37))).bind fun y205 => (if y202.length + y205.length < 4398046511104 then ((chron_Tightest.f kj31 t185 (y202 ++ y205)).bind fun bt211 => (if bt211.2 = 0 then (if (bt211.1.length : Int) = t185 then (if 0 ≤ t189 then (if t189 < (bt211.1.length : Int) then (if ((rd_L4 bt211.1 t189).length : Int) = t185 then (if 0 ≤ (ji29) then (if (ji29) < ((rd_L4 bt211.1 t189).length : Int) then (ephemeristop_TopChron.j2 kj31 t186 t189 (ji29) t185 (!(((rd_T34 (rd_L4 bt211.1 t189) (ji29)).f0) == ((rd_T34 (rd_L4 t191 t189) (ji29)).f0)) || (!(((rd_T34 (rd_L4 bt211.1 t189) (ji29)).f1) == ((rd_T34 (rd_L4 t191 t189) (ji29)).f0)))) ((rd_T34 (rd_L4 t191 t189) (ji29)).f0) ((rd_T34 (rd_L4 t191 t189) (ji29)).f1)) else (none)) else (none)) else (ephemeristop_TopChron.j2 kj31 t186 t189 (ji29) t185 true ((rd_T34 (rd_L4 t191 t189) (ji29)).f0) ((rd_T34 (rd_L4 t191 t189) (ji29)).f1))) else (none)) else (none)) else (ephemeristop_TopChron.j2 kj31 t186 t189 (ji29) t185 true ((rd_T34 (rd_L4 t191 t189) (ji29)).f0) ((rd_T34 (rd_L4 t191 t189) (ji29)).f1))) else (ephemeristop_TopChron.j2 kj31 t186 t189 (ji29) t185 true ((rd_T34 (rd_L4 t191 t189) (ji29)).f0) ((rd_T34 (rd_L4 t191 t189) (ji29)).f1)))) else (none)))) else (none))) = some r := by rw [if_neg (show ¬ (false = true) by decide)] at H; exact H
              clear H
              have H := H1
              clear H1
              obtain ⟨y199, hy199⟩ : ∃ y_ : List (S37), y_ = (([] : List (S37))) := ⟨_, rfl⟩
              replace H : (if y199.length + t186.length < 4398046511104 then ((some (y199 ++ t186 : List (S37))).bind fun y202 => ((some (([(⟨t189, (ji29), ((rd_T34 (rd_L4 t191 t189) (ji29)).f0), ((rd_T34 (rd_L4 t191 t189) (ji29)).f0)⟩ : S37)] : List (S37)) : List (S37))).bind fun y205 => (if y202.length + y205.length < 4398046511104 then ((chron_Tightest.f kj31 t185 (y202 ++ y205)).bind fun bt211 => (if bt211.2 = 0 then (if (bt211.1.length : Int) = t185 then (if 0 ≤ t189 then (if t189 < (bt211.1.length : Int) then (if ((rd_L4 bt211.1 t189).length : Int) = t185 then (if 0 ≤ (ji29) then (if (ji29) < ((rd_L4 bt211.1 t189).length : Int) then (ephemeristop_TopChron.j2 kj31 t186 t189 (ji29) t185 (!(((rd_T34 (rd_L4 bt211.1 t189) (ji29)).f0) == ((rd_T34 (rd_L4 t191 t189) (ji29)).f0)) || (!(((rd_T34 (rd_L4 bt211.1 t189) (ji29)).f1) == ((rd_T34 (rd_L4 t191 t189) (ji29)).f0)))) ((rd_T34 (rd_L4 t191 t189) (ji29)).f0) ((rd_T34 (rd_L4 t191 t189) (ji29)).f1)) else (none)) else (none)) else (ephemeristop_TopChron.j2 kj31 t186 t189 (ji29) t185 true ((rd_T34 (rd_L4 t191 t189) (ji29)).f0) ((rd_T34 (rd_L4 t191 t189) (ji29)).f1))) else (none)) else (none)) else (ephemeristop_TopChron.j2 kj31 t186 t189 (ji29) t185 true ((rd_T34 (rd_L4 t191 t189) (ji29)).f0) ((rd_T34 (rd_L4 t191 t189) (ji29)).f1))) else (ephemeristop_TopChron.j2 kj31 t186 t189 (ji29) t185 true ((rd_T34 (rd_L4 t191 t189) (ji29)).f0) ((rd_T34 (rd_L4 t191 t189) (ji29)).f1)))) else (none)))) else (none)) = some r := by first | (rw [hy199]; with_reducible exact H) | (have H2_ := (Option.bind_some _ _).symm.trans H; rw [hy199]; with_reducible exact H2_) | (have H2_ := (Option.bind_some _ _).symm.trans H; with_reducible exact H2_) | with_reducible exact H | (rw [hy199]; exact H) | exact H
              have Ny199 := Aside0.mk hy199
              clear hy199
              by_cases c41 : y199.length + t186.length < 4398046511104
              ·
               rw [if_pos c41] at H
               have LMc41 := Aside0.mk c41
               clear c41
               obtain ⟨y202, hy202⟩ : ∃ y_ : List (S37), y_ = (y199 ++ t186) := ⟨_, rfl⟩
               replace H : ((some (([(⟨t189, (ji29), ((rd_T34 (rd_L4 t191 t189) (ji29)).f0), ((rd_T34 (rd_L4 t191 t189) (ji29)).f0)⟩ : S37)] : List (S37)) : List (S37))).bind fun y205 => (if y202.length + y205.length < 4398046511104 then ((chron_Tightest.f kj31 t185 (y202 ++ y205)).bind fun bt211 => (if bt211.2 = 0 then (if (bt211.1.length : Int) = t185 then (if 0 ≤ t189 then (if t189 < (bt211.1.length : Int) then (if ((rd_L4 bt211.1 t189).length : Int) = t185 then (if 0 ≤ (ji29) then (if (ji29) < ((rd_L4 bt211.1 t189).length : Int) then (ephemeristop_TopChron.j2 kj31 t186 t189 (ji29) t185 (!(((rd_T34 (rd_L4 bt211.1 t189) (ji29)).f0) == ((rd_T34 (rd_L4 t191 t189) (ji29)).f0)) || (!(((rd_T34 (rd_L4 bt211.1 t189) (ji29)).f1) == ((rd_T34 (rd_L4 t191 t189) (ji29)).f0)))) ((rd_T34 (rd_L4 t191 t189) (ji29)).f0) ((rd_T34 (rd_L4 t191 t189) (ji29)).f1)) else (none)) else (none)) else (ephemeristop_TopChron.j2 kj31 t186 t189 (ji29) t185 true ((rd_T34 (rd_L4 t191 t189) (ji29)).f0) ((rd_T34 (rd_L4 t191 t189) (ji29)).f1))) else (none)) else (none)) else (ephemeristop_TopChron.j2 kj31 t186 t189 (ji29) t185 true ((rd_T34 (rd_L4 t191 t189) (ji29)).f0) ((rd_T34 (rd_L4 t191 t189) (ji29)).f1))) else (ephemeristop_TopChron.j2 kj31 t186 t189 (ji29) t185 true ((rd_T34 (rd_L4 t191 t189) (ji29)).f0) ((rd_T34 (rd_L4 t191 t189) (ji29)).f1)))) else (none))) = some r := by first | (rw [hy202]; with_reducible exact H) | (have H2_ := (Option.bind_some _ _).symm.trans H; rw [hy202]; with_reducible exact H2_) | (have H2_ := (Option.bind_some _ _).symm.trans H; with_reducible exact H2_) | with_reducible exact H | (rw [hy202]; exact H) | exact H
               have Ny202 := Aside0.mk hy202
               clear hy202
               obtain ⟨y205, hy205⟩ : ∃ y_ : List (S37), y_ = (([(⟨t189, (ji29), ((rd_T34 (rd_L4 t191 t189) (ji29)).f0), ((rd_T34 (rd_L4 t191 t189) (ji29)).f0)⟩ : S37)] : List (S37))) := ⟨_, rfl⟩
               replace H : (if y202.length + y205.length < 4398046511104 then ((chron_Tightest.f kj31 t185 (y202 ++ y205)).bind fun bt211 => (if bt211.2 = 0 then (if (bt211.1.length : Int) = t185 then (if 0 ≤ t189 then (if t189 < (bt211.1.length : Int) then (if ((rd_L4 bt211.1 t189).length : Int) = t185 then (if 0 ≤ (ji29) then (if (ji29) < ((rd_L4 bt211.1 t189).length : Int) then (ephemeristop_TopChron.j2 kj31 t186 t189 (ji29) t185 (!(((rd_T34 (rd_L4 bt211.1 t189) (ji29)).f0) == ((rd_T34 (rd_L4 t191 t189) (ji29)).f0)) || (!(((rd_T34 (rd_L4 bt211.1 t189) (ji29)).f1) == ((rd_T34 (rd_L4 t191 t189) (ji29)).f0)))) ((rd_T34 (rd_L4 t191 t189) (ji29)).f0) ((rd_T34 (rd_L4 t191 t189) (ji29)).f1)) else (none)) else (none)) else (ephemeristop_TopChron.j2 kj31 t186 t189 (ji29) t185 true ((rd_T34 (rd_L4 t191 t189) (ji29)).f0) ((rd_T34 (rd_L4 t191 t189) (ji29)).f1))) else (none)) else (none)) else (ephemeristop_TopChron.j2 kj31 t186 t189 (ji29) t185 true ((rd_T34 (rd_L4 t191 t189) (ji29)).f0) ((rd_T34 (rd_L4 t191 t189) (ji29)).f1))) else (ephemeristop_TopChron.j2 kj31 t186 t189 (ji29) t185 true ((rd_T34 (rd_L4 t191 t189) (ji29)).f0) ((rd_T34 (rd_L4 t191 t189) (ji29)).f1)))) else (none)) = some r := by first | (rw [hy205]; with_reducible exact H) | (have H2_ := (Option.bind_some _ _).symm.trans H; rw [hy205]; with_reducible exact H2_) | (have H2_ := (Option.bind_some _ _).symm.trans H; with_reducible exact H2_) | with_reducible exact H | (rw [hy205]; exact H) | exact H
               have Ny205 := Aside0.mk hy205
               clear hy205
               by_cases c42 : y202.length + y205.length < 4398046511104
               ·
                rw [if_pos c42] at H
                have LMc42 := Aside0.mk c42
                clear c42
                obtain ⟨y208, hy208⟩ : ∃ y_ : List (S37), y_ = (y202 ++ y205) := ⟨_, rfl⟩
                replace H : ((chron_Tightest.f kj31 t185 y208).bind fun bt211 => (if bt211.2 = 0 then (if (bt211.1.length : Int) = t185 then (if 0 ≤ t189 then (if t189 < (bt211.1.length : Int) then (if ((rd_L4 bt211.1 t189).length : Int) = t185 then (if 0 ≤ (ji29) then (if (ji29) < ((rd_L4 bt211.1 t189).length : Int) then (ephemeristop_TopChron.j2 kj31 t186 t189 (ji29) t185 (!(((rd_T34 (rd_L4 bt211.1 t189) (ji29)).f0) == ((rd_T34 (rd_L4 t191 t189) (ji29)).f0)) || (!(((rd_T34 (rd_L4 bt211.1 t189) (ji29)).f1) == ((rd_T34 (rd_L4 t191 t189) (ji29)).f0)))) ((rd_T34 (rd_L4 t191 t189) (ji29)).f0) ((rd_T34 (rd_L4 t191 t189) (ji29)).f1)) else (none)) else (none)) else (ephemeristop_TopChron.j2 kj31 t186 t189 (ji29) t185 true ((rd_T34 (rd_L4 t191 t189) (ji29)).f0) ((rd_T34 (rd_L4 t191 t189) (ji29)).f1))) else (none)) else (none)) else (ephemeristop_TopChron.j2 kj31 t186 t189 (ji29) t185 true ((rd_T34 (rd_L4 t191 t189) (ji29)).f0) ((rd_T34 (rd_L4 t191 t189) (ji29)).f1))) else (ephemeristop_TopChron.j2 kj31 t186 t189 (ji29) t185 true ((rd_T34 (rd_L4 t191 t189) (ji29)).f0) ((rd_T34 (rd_L4 t191 t189) (ji29)).f1)))) = some r := by first | (rw [hy208]; with_reducible exact H) | (have H2_ := (Option.bind_some _ _).symm.trans H; rw [hy208]; with_reducible exact H2_) | (have H2_ := (Option.bind_some _ _).symm.trans H; with_reducible exact H2_) | with_reducible exact H | (rw [hy208]; exact H) | exact H
                have Ny208 := Aside0.mk hy208
                clear hy208
                replace H := Option.bind_eq_some_iff.mp H
                obtain ⟨⟨t211, t212⟩, A430, H⟩ := H
                replace H : (if t212 = 0 then (if (t211.length : Int) = t185 then (if 0 ≤ t189 then (if t189 < (t211.length : Int) then (if ((rd_L4 t211 t189).length : Int) = t185 then (if 0 ≤ (ji29) then (if (ji29) < ((rd_L4 t211 t189).length : Int) then (ephemeristop_TopChron.j2 kj31 t186 t189 (ji29) t185 (!(((rd_T34 (rd_L4 t211 t189) (ji29)).f0) == ((rd_T34 (rd_L4 t191 t189) (ji29)).f0)) || (!(((rd_T34 (rd_L4 t211 t189) (ji29)).f1) == ((rd_T34 (rd_L4 t191 t189) (ji29)).f0)))) ((rd_T34 (rd_L4 t191 t189) (ji29)).f0) ((rd_T34 (rd_L4 t191 t189) (ji29)).f1)) else (none)) else (none)) else (ephemeristop_TopChron.j2 kj31 t186 t189 (ji29) t185 true ((rd_T34 (rd_L4 t191 t189) (ji29)).f0) ((rd_T34 (rd_L4 t191 t189) (ji29)).f1))) else (none)) else (none)) else (ephemeristop_TopChron.j2 kj31 t186 t189 (ji29) t185 true ((rd_T34 (rd_L4 t191 t189) (ji29)).f0) ((rd_T34 (rd_L4 t191 t189) (ji29)).f1))) else (ephemeristop_TopChron.j2 kj31 t186 t189 (ji29) t185 true ((rd_T34 (rd_L4 t191 t189) (ji29)).f0) ((rd_T34 (rd_L4 t191 t189) (ji29)).f1))) = some r := H
                have A43 := Aside0.mk A430
                clear A430
                have HC44 := Aside0.mk H
                clear H
                have hcz45_0 : wc.cell? ⟨gb198, 0, none⟩ = some (.int .i64 ((rd_T34 (rd_L4 t191 t189) (ji29)).f0)) := (blk_cell BK198.out 0).trans rfl
                have hcz45_1 : wc.cell? ⟨gb198, 1, none⟩ = some (.int .i64 ((rd_T34 (rd_L4 t191 t189) (ji29)).f1)) := (blk_cell BK198.out 1).trans rfl
                have hfz45_0 := blk_frozen BK198.out 0
                have hfz45_1 := blk_frozen BK198.out 1
                have ix0_ : ∀ w : World, (Instr.index 35 (.agg #[.int .i64 ((rd_T34 (rd_L4 t191 t189) (ji29)).f0), .int .i64 ((rd_T34 (rd_L4 t191 t189) (ji29)).f1)]) (.int .i64 0)).run Try.prog w = .ok (.int .i64 ((rd_T34 (rd_L4 t191 t189) (ji29)).f0)) w := fun _ => by kernel_rfl
                have ix1_ : ∀ w : World, (Instr.index 35 (.agg #[.int .i64 ((rd_T34 (rd_L4 t191 t189) (ji29)).f0), .int .i64 ((rd_T34 (rd_L4 t191 t189) (ji29)).f1)]) (.int .i64 1)).run Try.prog w = .ok (.int .i64 ((rd_T34 (rd_L4 t191 t189) (ji29)).f1)) w := fun _ => by kernel_rfl
                go_wp2_with fail
                refine wp_loop_rounds 3 ?_
                rw [rounds_succ]
                go_upto_region 18 with (first | ((with_reducible refine gate_dst (N := 96) rfl ?_); (try (refine gate_guard (by rfl) ?_; dsimp only)); refine Kd.R_lit k37 _ 37 ?hg (N := 96) ?hd (xs := ([] : List (S37))) (inner := []) (ok := fun _ => True) (okp := fun _ => True) ?hr ?hp (fun _ hk => hk) trivial (Below.refl _ _) (Nat.le_refl _) (by simp) ?_; (case hd => rfl); (case hg => rfl); (case hr => first | (go_simp; done) | (go_simp; rfl)); (case hp => exact (Reps.none _ _)); intro v200 w46 ho47 hb hg_ hnew_; clear hg_ hnew_; (first | rw [← Ny199.out] at ho47 | (simp only [Int.reduceToNat] at ho47; rw [← Ny199.out] at ho47)); have n0_ := Aside0.mk (Kd.R_elder' (by (with_reducible repeat (first | apply Kd.R_alloc | apply Kd.R_drewN | apply Kd.R_drew)); exact HO_1.out) (Kd.R_base ho47) hb); have n1_ := Aside0.mk (Kd.R_lower (Kd.R_new' ho47 (Kd.R_lt (by (with_reducible repeat (first | apply Kd.R_alloc | apply Kd.R_drewN | apply Kd.R_drew)); exact HO_1.out))) (below_size (by repeat (first | (with_reducible first | exact HB.out | apply below_alloc | apply pw_below_drewN | apply below_drew1 | refine below_set ?_ GE198.out) | exact HB.out)))); have n2_ := Aside0.mk (blk_below (g := gb198) (o := .cells #[.int .i64 ((rd_T34 (rd_L4 t191 t189) (ji29)).f0), .int .i64 ((rd_T34 (rd_L4 t191 t189) (ji29)).f1)] 34 (0, 0)) (grz_ BK198.out) hb); have n3_ := Aside0.mk (Kd.C_below (by repeat (first | (with_reducible exact HR196_0.out) | (with_reducible refine Kd.C_alloc ?_ _) | (with_reducible refine Kd.C_drewN ?_ _) | (with_reducible refine Kd.C_drew ?_) | exact HR196_0.out)) hb); have n4_ := Aside0.mk (below_step (by repeat (first | (with_reducible first | exact HB.out | apply below_alloc | apply pw_below_drewN | apply below_drew1 | refine below_set ?_ GE198.out) | exact HB.out)) hb); clear HO_1; clear BK198; clear HR196_0; clear HB; have HO_1 := n0_; have HO201 := n1_; have BK198 := n2_; have HR196_0 := n3_; have HB := n4_; clear n0_ n1_ n2_ n3_ n4_; clear hb ho47) | ((with_reducible refine gate_builtin (b := .append) (xs := #[.tmp 96, .tmp 97]) rfl ?_); (try (refine gate_guard (by rfl) ?_; dsimp only)); at_builtin; refine Kd.R_append_rows k37 (w0 := w) w.heap.size rfl (.tmp 96) (.tmp 97) 23 37 (.agg #[(.int .i64 0), (.int .i64 0), (.int .i64 0), (.int .i64 0)]) 32 rfl Try.underlying23 info37 rfl (by decide) (by omega) v200 y199 t186 _ _ _ (fun k_ => some k_ ≠ (.slice Ao18 t186.length co18 : Value).ownBlock) (fun _ => False) rfl rfl ?aO ?aR (fun _ _ h => h) (fun _ h => h.elim) ?aF ?aB ?aS ?aL ?_; (case aR => repeat (first | exact (Kd.R_reads' HO_1.out).2.2 | (with_reducible refine Kd.C_alloc ?_ _) | (with_reducible refine Kd.C_drewN ?_ _) | (with_reducible refine Kd.C_drew ?_))); (case aB => exact (by repeat (first | (with_reducible first | exact HB.out | apply below_alloc | apply pw_below_drewN | apply below_drew1 | refine below_set ?_ GE198.out) | exact HB.out))); (case aF => exact (fun k_ hk => Kd.fresh' (Kd.R_lt (by (with_reducible repeat (first | apply Kd.R_alloc | apply Kd.R_drewN | apply Kd.R_drew)); exact HO_1.out)) k_ hk)); (case aO => exact (by (with_reducible repeat (first | apply Kd.R_alloc | apply Kd.R_drewN | apply Kd.R_drew)); exact Kd.R_mono HO201.out (fun _ hk => hk.2))); (case aS => exact (below_size (by repeat (first | (with_reducible first | exact HB.out | apply below_alloc | apply pw_below_drewN | apply below_drew1 | refine below_set ?_ GE198.out) | exact HB.out)))); (case aL => have := LMc41.out; omega); intro v203 w48 ho hb hg hat; rw [← Ny202.out] at ho; have n0_ := Aside0.mk (Kd.R_after (ok := (fun _ => True)) (by (with_reducible repeat (first | apply Kd.R_alloc | apply Kd.R_drewN | apply Kd.R_drew)); exact HO_1.out) hg hat); have n1_ := Aside0.mk (blk_grown (g := gb198) (o := .cells #[.int .i64 ((rd_T34 (rd_L4 t191 t189) (ji29)).f0), .int .i64 ((rd_T34 (rd_L4 t191 t189) (ji29)).f1)] 34 (0, 0)) (grz_ BK198.out) hg (Kd.R_ne HO201.out BK198.out (by decide))); have n2_ := Aside0.mk (hb); have n3_ := Aside0.mk (ho); clear HO_1; clear BK198; clear HB; clear HO201; have HO_1 := n0_; have BK198 := n1_; have HB := n2_; have HO204 := n3_; clear n0_ n1_ n2_ n3_; clear ho hb hg hat) | ((with_reducible refine gate_dst (N := 104) rfl ?_); (try (refine gate_guard (by rfl) ?_; dsimp only)); refine Kd.R_lit k37 _ 37 ?hg (N := 104) ?hd (xs := ([(⟨t189, (ji29), ((rd_T34 (rd_L4 t191 t189) (ji29)).f0), ((rd_T34 (rd_L4 t191 t189) (ji29)).f0)⟩ : S37)] : List (S37))) (inner := [.int .i64 t189, .int .i64 (ji29), .int .i64 ((rd_T34 (rd_L4 t191 t189) (ji29)).f0), .int .i64 ((rd_T34 (rd_L4 t191 t189) (ji29)).f0)]) (ok := fun _ => True) (okp := fun _ => True) ?hr ?hp (fun _ hk => hk) trivial (Below.refl _ _) (Nat.le_refl _) (by simp) ?_; (case hd => rfl); (case hg => rfl); (case hr => first | (go_simp; done) | (go_simp; rfl)); (case hp => exact (Reps.c4 (show Kd.M k37 _ _ _ (⟨t189, (ji29), ((rd_T34 (rd_L4 t191 t189) (ji29)).f0), ((rd_T34 (rd_L4 t191 t189) (ji29)).f0)⟩ : S37) [.int .i64 t189, .int .i64 (ji29), .int .i64 ((rd_T34 (rd_L4 t191 t189) (ji29)).f0), .int .i64 ((rd_T34 (rd_L4 t191 t189) (ji29)).f0)] from (k37_mkM _ _ _ (⟨t189, (ji29), ((rd_T34 (rd_L4 t191 t189) (ji29)).f0), ((rd_T34 (rd_L4 t191 t189) (ji29)).f0)⟩ : S37) )) (Reps.none _ _))); intro v206 w49 ho50 hb hg_ hnew_; clear hg_ hnew_; (first | rw [← Ny205.out] at ho50 | (simp only [Int.reduceToNat] at ho50; rw [← Ny205.out] at ho50)); have n0_ := Aside0.mk (Kd.R_elder' (by (with_reducible repeat (first | apply Kd.R_alloc | apply Kd.R_drewN | apply Kd.R_drew)); exact HO_1.out) (Kd.R_base ho50) hb); have n1_ := Aside0.mk (Kd.R_elder' (by (with_reducible repeat (first | apply Kd.R_alloc | apply Kd.R_drewN | apply Kd.R_drew)); exact HO204.out) (Kd.R_base ho50) hb); have n2_ := Aside0.mk (Kd.R_lower (Kd.R_new' (Kd.R_new' ho50 (Kd.R_lt (by (with_reducible repeat (first | apply Kd.R_alloc | apply Kd.R_drewN | apply Kd.R_drew)); exact HO_1.out))) (Kd.R_lt (by (with_reducible repeat (first | apply Kd.R_alloc | apply Kd.R_drewN | apply Kd.R_drew)); exact HO204.out))) (below_size (by repeat (first | (with_reducible first | exact HB.out | apply below_alloc | apply pw_below_drewN | apply below_drew1 | refine below_set ?_ GE198.out) | exact HB.out)))); have n3_ := Aside0.mk (blk_below (g := gb198) (o := .cells #[.int .i64 ((rd_T34 (rd_L4 t191 t189) (ji29)).f0), .int .i64 ((rd_T34 (rd_L4 t191 t189) (ji29)).f1)] 34 (0, 0)) (grz_ BK198.out) hb); have n4_ := Aside0.mk (below_step (by repeat (first | (with_reducible first | exact HB.out | apply below_alloc | apply pw_below_drewN | apply below_drew1 | refine below_set ?_ GE198.out) | exact HB.out)) hb); clear HO_1; clear HO204; clear BK198; clear HB; have HO_1 := n0_; have HO204 := n1_; have HO207 := n2_; have BK198 := n3_; have HB := n4_; clear n0_ n1_ n2_ n3_ n4_; clear hb ho50; obtain ⟨Ao52, co52, eo52⟩ := Kd.R_slice HO207.out; subst eo52) | ((with_reducible refine gate_builtin (b := .append) (xs := #[.tmp 98, .tmp 104]) rfl ?_); (try (refine gate_guard (by rfl) ?_; dsimp only)); at_builtin; refine Kd.R_append_rows k37 (w0 := w) w.heap.size rfl (.tmp 98) (.tmp 104) 23 37 (.agg #[(.int .i64 0), (.int .i64 0), (.int .i64 0), (.int .i64 0)]) 32 rfl Try.underlying23 info37 rfl (by decide) (by omega) v203 y202 y205 _ _ _ (fun k_ => some k_ ≠ (.slice Ao18 t186.length co18 : Value).ownBlock ∧ some k_ ≠ (.slice Ao52 y205.length co52 : Value).ownBlock) (fun _ => False) rfl rfl ?aO ?aR (fun _ _ h => h) (fun _ h => h.elim) ?aF ?aB ?aS ?aL ?_; (case aR => repeat (first | exact (Kd.R_reads' HO207.out).2.2 | (with_reducible refine Kd.C_alloc ?_ _) | (with_reducible refine Kd.C_drewN ?_ _) | (with_reducible refine Kd.C_drew ?_))); (case aB => exact (by repeat (first | (with_reducible first | exact HB.out | apply below_alloc | apply pw_below_drewN | apply below_drew1 | refine below_set ?_ GE198.out) | exact HB.out))); (case aF => exact (fun k_ hk => ⟨Kd.fresh' (Kd.R_lt (by (with_reducible repeat (first | apply Kd.R_alloc | apply Kd.R_drewN | apply Kd.R_drew)); exact HO_1.out)) k_ hk, Kd.fresh' (Kd.R_lt (by (with_reducible repeat (first | apply Kd.R_alloc | apply Kd.R_drewN | apply Kd.R_drew)); exact HO207.out)) k_ hk⟩)); (case aO => exact (by (with_reducible repeat (first | apply Kd.R_alloc | apply Kd.R_drewN | apply Kd.R_drew)); exact HO204.out)); (case aS => exact (below_size (by repeat (first | (with_reducible first | exact HB.out | apply below_alloc | apply pw_below_drewN | apply below_drew1 | refine below_set ?_ GE198.out) | exact HB.out)))); (case aL => have := LMc42.out; omega); intro v209 w51 ho hb hg hat; rw [← Ny208.out] at ho; have n0_ := Aside0.mk (Kd.R_after (ok := (fun k_ => some k_ ≠ (.slice Ao52 y205.length co52 : Value).ownBlock)) (by (with_reducible repeat (first | apply Kd.R_alloc | apply Kd.R_drewN | apply Kd.R_drew)); exact Kd.R_mono HO_1.out (fun _ hk => by first | exact ⟨hk.2, hk.1.2⟩ | (repeat' (first | exact hk | exact hk.1 | exact hk.2 | exact hk.1.1 | exact hk.1.2 | exact hk.2.1 | exact hk.2.2 | exact hk.1.1.1 | exact hk.1.1.2 | exact hk.1.2.1 | exact hk.1.2.2 | exact True.intro | apply And.intro)))) hg hat); have n1_ := Aside0.mk (blk_grown (g := gb198) (o := .cells #[.int .i64 ((rd_T34 (rd_L4 t191 t189) (ji29)).f0), .int .i64 ((rd_T34 (rd_L4 t191 t189) (ji29)).f1)] 34 (0, 0)) (grz_ BK198.out) hg (Kd.R_ne HO204.out BK198.out (by decide))); have n2_ := Aside0.mk (Kd.R_after (ok := (fun k_ => some k_ ≠ (.slice Ao18 t186.length co18 : Value).ownBlock)) (by (with_reducible repeat (first | apply Kd.R_alloc | apply Kd.R_drewN | apply Kd.R_drew)); exact Kd.R_mono HO207.out (fun _ hk => by first | exact ⟨hk.1.2, hk.2⟩ | (repeat' (first | exact hk | exact hk.1 | exact hk.2 | exact hk.1.1 | exact hk.1.2 | exact hk.2.1 | exact hk.2.2 | exact hk.1.1.1 | exact hk.1.1.2 | exact hk.1.2.1 | exact hk.1.2.2 | exact True.intro | apply And.intro)))) hg hat); have n3_ := Aside0.mk (hb); have n4_ := Aside0.mk (ho); clear HO_1; clear BK198; clear HO207; clear HB; clear HO204; have HO_1 := n0_; have BK198 := n1_; have HO207 := n2_; have HB := n3_; have HO210 := n4_; clear n0_ n1_ n2_ n3_ n4_; clear ho hb hg hat; obtain ⟨Ao53, co53, eo53⟩ := Kd.R_slice HO210.out; subst eo53) | ((with_reducible refine gate_callee (f := 9) rfl ?_); refine goesL_ (some 106) rfl rfl Try.func9 (by kernel_rfl) rfl #[.int .i64 t185, .slice Ao53 y208.length co53] rfl (by (try simp only [List.map_toArray, List.map_cons, List.map_nil]); first | done | rfl | (simp only [List.length_drop, List.length_take]; rfl)) ?_; (with_reducible refine (chron_Tightest.calls kj31 t185 _ _ y208 t211 t212 _ ?side1 ?side2 A43.out).mono ?_); (case side1 => repeat (first | exact (Kd.R_reads' HO210.out).2.2 | (with_reducible refine Kd.C_alloc ?_ _) | (with_reducible refine Kd.C_drewN ?_ _) | (with_reducible refine Kd.C_drew ?_))); (case side2 => exact (Kd.R_reads' HO210.out).2.1); rintro e w54 ⟨v213, rfl, ho0, hb⟩; refine ⟨_, rfl, ?_⟩; have n0_ := Aside0.mk (Kd.R_below (by (with_reducible repeat (first | apply Kd.R_alloc | apply Kd.R_drewN | apply Kd.R_drew)); exact HO_1.out) hb); have n1_ := Aside0.mk (Kd.R_below (by (with_reducible repeat (first | apply Kd.R_alloc | apply Kd.R_drewN | apply Kd.R_drew)); exact HO207.out) hb); have n2_ := Aside0.mk (Kd.R_below (by (with_reducible repeat (first | apply Kd.R_alloc | apply Kd.R_drewN | apply Kd.R_drew)); exact HO210.out) hb); have n3_ := Aside0.mk (Kd.S_lower (Kd.S_newB ho0 (g := gb198) (o := .cells #[.int .i64 ((rd_T34 (rd_L4 t191 t189) (ji29)).f0), .int .i64 ((rd_T34 (rd_L4 t191 t189) (ji29)).f1)] 34 (0, 0)) (grz_ BK198.out)) (below_size (by repeat (first | (with_reducible first | exact HB.out | apply below_alloc | apply pw_below_drewN | apply below_drew1 | refine below_set ?_ GE198.out) | exact HB.out)))); have n4_ := Aside0.mk (blk_below (g := gb198) (o := .cells #[.int .i64 ((rd_T34 (rd_L4 t191 t189) (ji29)).f0), .int .i64 ((rd_T34 (rd_L4 t191 t189) (ji29)).f1)] 34 (0, 0)) (grz_ BK198.out) hb); have n5_ := Aside0.mk (below_step (by repeat (first | (with_reducible first | exact HB.out | apply below_alloc | apply pw_below_drewN | apply below_drew1 | refine below_set ?_ GE198.out) | exact HB.out)) hb); clear HO_1; clear HO207; clear HO210; clear BK198; clear HB; have HO_1 := n0_; have HO207 := n1_; have HO210 := n2_; have HO214 := n3_; have BK198 := n4_; have HB := n5_; clear n0_ n1_ n2_ n3_ n4_ n5_; (try clear hb); (try clear hb2); (try clear hk); (try clear hi); (try clear ho0)))
                (try simp only [Act.put, List.setIfInBounds_toArray, List.set_cons_zero, List.set_cons_succ])
                go_cut [138] (fun v138 wc => ∃ (kq : Nat) (x138_43 : Bool), v138 = .bool x138_43 ∧ Aside0 (ephemeristop_TopChron.j2 kq t186 t189 (ji29) t185 x138_43 ((rd_T34 (rd_L4 t191 t189) (ji29)).f0) ((rd_T34 (rd_L4 t191 t189) (ji29)).f1) = some r) ∧ Aside0 (kq ≤ kj31) ∧ Aside0 (Kd.R k37 37 wc w.heap.size (fun _ => True) (.slice Ao18 t186.length co18) t186) ∧ Aside0 (wc.heap[gb198]? = some (.cells #[.int .i64 ((rd_T34 (rd_L4 t191 t189) (ji29)).f0), .int .i64 ((rd_T34 (rd_L4 t191 t189) (ji29)).f1)] 34 (0, 0))) ∧ Aside0 (Below w.heap.size w wc))
                case first =>
                 have H := HC44.out
                 clear HC44
                 by_cases c55 : t212 = 0
                 ·
                  rw [if_pos c55] at H
                  have c55b0 : (t212 == 0) = true := beq_iff_eq.mpr c55
                  have c55b1 : (t212 != 0) = false := bne_eq_false_iff_eq.mpr c55
                  clear c55
                  (first | rw [c55b0] | (simp only [i64_w, i32_w]; rw [c55b0]) | rw [c55b1] | skip)
                  by_cases c56 : (t211.length : Int) = t185
                  ·
                   rw [if_pos c56] at H
                   have c56b0 : ((t211.length : Int) == t185) = true := beq_iff_eq.mpr c56
                   have c56b1 : ((t211.length : Int) != t185) = false := bne_eq_false_iff_eq.mpr c56
                   clear c56
                   by_cases c57 : 0 ≤ t189
                   ·
                    rw [if_pos c57] at H
                    have c57b0 : decide (0 ≤ t189) = true := decide_eq_true c57
                    clear c57
                    by_cases c58 : t189 < (t211.length : Int)
                    ·
                     rw [if_pos c58] at H
                     have c58b0 : decide (t189 < (t211.length : Int)) = true := decide_eq_true c58
                     clear c58
                     by_cases c59 : ((rd_L4 t211 t189).length : Int) = t185
                     ·
                      rw [if_pos c59] at H
                      have c59b0 : (((rd_L4 t211 t189).length : Int) == t185) = true := beq_iff_eq.mpr c59
                      have c59b1 : (((rd_L4 t211 t189).length : Int) != t185) = false := bne_eq_false_iff_eq.mpr c59
                      clear c59
                      by_cases c60 : 0 ≤ (ji29)
                      ·
                       rw [if_pos c60] at H
                       have c60b0 : decide (0 ≤ (ji29)) = true := decide_eq_true c60
                       clear c60
                       by_cases c61 : (ji29) < ((rd_L4 t211 t189).length : Int)
                       ·
                        rw [if_pos c61] at H
                        have c61b0 : decide ((ji29) < ((rd_L4 t211 t189).length : Int)) = true := decide_eq_true c61
                        clear c61
                        have H' := Aside0.mk H
                        clear H
                        obtain ⟨Ao62, co62, eo62⟩ := Kd.S_slice HO214.out
                        subst eo62
                        have p215 : 0 ≤ (t189 : Int) := of_decide_eq_true (by first | (with_reducible assumption) | assumption)
                        have q215 : t189 < (t211.length : Int) := of_decide_eq_true (by first | (with_reducible assumption) | assumption)
                        obtain ⟨ad215, A215_0, c215_0, e215, hx215_0, hl215_0, hi215_0⟩ := at_L4 (Kd.S_reads' HO214.out).2.2 t189 p215 q215
                        cases e215
                        obtain ⟨ce215, hce215, hMe215, hcc215⟩ := Kd.S_get HO214.out [] t189 p215 (by first | exact q215 | exact of_decide_eq_true (by first | (with_reducible assumption) | assumption) | (have e_ := (Kd.S_reads' HO214.out).1; omega))
                        obtain ⟨ve215_0, rfl, ge215_0⟩ := hMe215
                        have hv215_0 := hcc215 0 _ rfl
                        rw [Nat.add_zero, show ((Kd.slice 34 k34)).sz = 1 from rfl, Nat.mul_one] at hv215_0
                        replace hv215_0 := Option.some.inj (hv215_0.symm.trans hx215_0)
                        rw [hv215_0] at ge215_0
                        have HL215_0 := Aside0.mk (show Kd.R k34 34 _ _ _ _ (rd_L4 t211 t189) from ge215_0)
                        clear hv215_0 ge215_0
                        clear hcc215 hce215
                        have HR215_0 := Aside0.mk hi215_0
                        have HC215_0 := Aside0.mk hl215_0
                        clear hi215_0 hl215_0
                        replace p215 := eq_true p215
                        replace q215 := eq_true q215
                        have p216 : 0 ≤ (t189 : Int) := of_decide_eq_true (by first | (with_reducible assumption) | assumption)
                        have q216 : t189 < (t211.length : Int) := of_decide_eq_true (by first | (with_reducible assumption) | assumption)
                        obtain ⟨ad216, A216_0, c216_0, e216, hx216_0, hl216_0, hi216_0⟩ := at_L4 (Kd.S_reads' HO214.out).2.2 t189 p216 q216
                        obtain rfl : ad215 = ad216 := (by injection e216)
                        obtain ⟨ce216, hce216, hMe216, hcc216⟩ := Kd.S_get HO214.out [] t189 p216 (by first | exact q216 | exact of_decide_eq_true (by first | (with_reducible assumption) | assumption) | (have e_ := (Kd.S_reads' HO214.out).1; omega))
                        obtain ⟨ve216_0, rfl, ge216_0⟩ := hMe216
                        have hv216_0 := hcc216 0 _ rfl
                        rw [Nat.add_zero, show ((Kd.slice 34 k34)).sz = 1 from rfl, Nat.mul_one] at hv216_0
                        replace hv216_0 := Option.some.inj (hv216_0.symm.trans hx216_0)
                        rw [hv216_0] at ge216_0
                        have HL216_0 := Aside0.mk (show Kd.R k34 34 _ _ _ _ (rd_L4 t211 t189) from ge216_0)
                        clear hv216_0 ge216_0
                        clear hcc216 hce216
                        have HR216_0 := Aside0.mk hi216_0
                        have HC216_0 := Aside0.mk hl216_0
                        clear hi216_0 hl216_0
                        replace p216 := eq_true p216
                        replace q216 := eq_true q216
                        have ea_ := Option.some.inj (hx215_0.symm.trans hx216_0)
                        injection ea_ with ea_ en_ ec_
                        subst ea_
                        subst ec_
                        clear en_
                        have p217 : 0 ≤ ((ji29) : Int) := of_decide_eq_true (by first | (with_reducible assumption) | assumption)
                        have q217 : (ji29) < ((rd_L4 t211 t189).length : Int) := of_decide_eq_true (by first | (with_reducible assumption) | assumption)
                        obtain ⟨ad217, e217, hx217_0, hx217_1⟩ := at_T34 (by repeat (first | (with_reducible exact HR216_0.out) | (with_reducible refine Kd.C_alloc ?_ _) | (with_reducible refine Kd.C_drewN ?_ _) | (with_reducible refine Kd.C_drew ?_) | exact HR216_0.out)) (ji29) p217 q217
                        cases e217
                        replace p217 := eq_true p217
                        replace q217 := eq_true q217
                        go_wp2
                        go_meet
                        case rel => exact ⟨_, ((!(((rd_T34 (rd_L4 t211 t189) (ji29)).f0) == ((rd_T34 (rd_L4 t191 t189) (ji29)).f0)) || (!(((rd_T34 (rd_L4 t211 t189) (ji29)).f1) == ((rd_T34 (rd_L4 t191 t189) (ji29)).f0))))), (by first | rfl | (simp; done) | (simp only [← hji29] <;> (first | rfl | simp)) | (simp [*]; done)), H', ⟨by have := HJ14.out; have := HJ31.out; first | omega | exact Nat.le_refl _⟩, ⟨by (with_reducible repeat (first | apply Kd.R_alloc | apply Kd.R_drewN | apply Kd.R_drew)); exact Kd.R_mono HO_1.out (fun _ hk => trivial)⟩, ⟨(grz_ BK198.out)⟩, ⟨by repeat (first | (with_reducible first | exact HB.out | apply below_alloc | apply pw_below_drewN | apply below_drew1 | refine below_set ?_ GE198.out) | exact HB.out)⟩⟩
                       ·
                        rw [if_neg c61] at H
                        exact absurd H (by simp)
                      ·
                       rw [if_neg c60] at H
                       exact absurd H (by simp)
                     ·
                      rw [if_neg c59] at H
                      have c59b0 : (((rd_L4 t211 t189).length : Int) == t185) = false := beq_eq_false_iff_ne.mpr c59
                      have c59b1 : (((rd_L4 t211 t189).length : Int) != t185) = true := bne_iff_ne.mpr c59
                      have H' := Aside0.mk H
                      clear H
                      obtain ⟨Ao63, co63, eo63⟩ := Kd.S_slice HO214.out
                      subst eo63
                      have p215 : 0 ≤ (t189 : Int) := of_decide_eq_true (by first | (with_reducible assumption) | assumption)
                      have q215 : t189 < (t211.length : Int) := of_decide_eq_true (by first | (with_reducible assumption) | assumption)
                      obtain ⟨ad215, A215_0, c215_0, e215, hx215_0, hl215_0, hi215_0⟩ := at_L4 (Kd.S_reads' HO214.out).2.2 t189 p215 q215
                      cases e215
                      obtain ⟨ce215, hce215, hMe215, hcc215⟩ := Kd.S_get HO214.out [] t189 p215 (by first | exact q215 | exact of_decide_eq_true (by first | (with_reducible assumption) | assumption) | (have e_ := (Kd.S_reads' HO214.out).1; omega))
                      obtain ⟨ve215_0, rfl, ge215_0⟩ := hMe215
                      have hv215_0 := hcc215 0 _ rfl
                      rw [Nat.add_zero, show ((Kd.slice 34 k34)).sz = 1 from rfl, Nat.mul_one] at hv215_0
                      replace hv215_0 := Option.some.inj (hv215_0.symm.trans hx215_0)
                      rw [hv215_0] at ge215_0
                      have HL215_0 := Aside0.mk (show Kd.R k34 34 _ _ _ _ (rd_L4 t211 t189) from ge215_0)
                      clear hv215_0 ge215_0
                      clear hcc215 hce215
                      have HR215_0 := Aside0.mk hi215_0
                      have HC215_0 := Aside0.mk hl215_0
                      clear hi215_0 hl215_0
                      replace p215 := eq_true p215
                      replace q215 := eq_true q215
                      go_wp2
                      go_meet
                      case rel => exact ⟨_, (true), (by first | rfl | (simp; done) | (simp [*]; done)), H', ⟨by have := HJ14.out; have := HJ31.out; first | omega | exact Nat.le_refl _⟩, ⟨by (with_reducible repeat (first | apply Kd.R_alloc | apply Kd.R_drewN | apply Kd.R_drew)); exact Kd.R_mono HO_1.out (fun _ hk => trivial)⟩, ⟨(grz_ BK198.out)⟩, ⟨by repeat (first | (with_reducible first | exact HB.out | apply below_alloc | apply pw_below_drewN | apply below_drew1 | refine below_set ?_ GE198.out) | exact HB.out)⟩⟩
                    ·
                     rw [if_neg c58] at H
                     exact absurd H (by simp)
                   ·
                    rw [if_neg c57] at H
                    exact absurd H (by simp)
                  ·
                   rw [if_neg c56] at H
                   have c56b0 : ((t211.length : Int) == t185) = false := beq_eq_false_iff_ne.mpr c56
                   have c56b1 : ((t211.length : Int) != t185) = true := bne_iff_ne.mpr c56
                   have H' := Aside0.mk H
                   clear H
                   obtain ⟨Ao64, co64, eo64⟩ := Kd.S_slice HO214.out
                   subst eo64
                   go_wp2
                   go_meet
                   case rel => exact ⟨_, (true), (by first | rfl | (simp; done) | (simp [*]; done)), H', ⟨by have := HJ14.out; have := HJ31.out; first | omega | exact Nat.le_refl _⟩, ⟨by (with_reducible repeat (first | apply Kd.R_alloc | apply Kd.R_drewN | apply Kd.R_drew)); exact Kd.R_mono HO_1.out (fun _ hk => trivial)⟩, ⟨(grz_ BK198.out)⟩, ⟨by repeat (first | (with_reducible first | exact HB.out | apply below_alloc | apply pw_below_drewN | apply below_drew1 | refine below_set ?_ GE198.out) | exact HB.out)⟩⟩
                 ·
                  rw [if_neg c55] at H
                  have c55b0 : (t212 == 0) = false := beq_eq_false_iff_ne.mpr c55
                  have c55b1 : (t212 != 0) = true := bne_iff_ne.mpr c55
                  (first | rw [c55b0] | (simp only [i64_w, i32_w]; rw [c55b0]) | rw [c55b1] | skip)
                  have H' := Aside0.mk H
                  clear H
                  go_wp2
                  go_meet
                  case rel => exact ⟨_, (true), (by first | rfl | (simp; done) | (simp [*]; done)), H', ⟨by have := HJ14.out; have := HJ31.out; first | omega | exact Nat.le_refl _⟩, ⟨by (with_reducible repeat (first | apply Kd.R_alloc | apply Kd.R_drewN | apply Kd.R_drew)); exact Kd.R_mono HO_1.out (fun _ hk => trivial)⟩, ⟨(grz_ BK198.out)⟩, ⟨by repeat (first | (with_reducible first | exact HB.out | apply below_alloc | apply pw_below_drewN | apply below_drew1 | refine below_set ?_ GE198.out) | exact HB.out)⟩⟩
                case rest =>
                 clear HC44
                 try clear c1
                 try clear p1
                 try clear q1
                 try clear hx1
                 try clear c2
                 try clear p2
                 try clear q2
                 try clear hx2
                 try clear c3
                 try clear c4
                 try clear c5
                 try clear c6
                 try clear p6
                 try clear c7
                 try clear c8
                 try clear c8b0
                 try clear c9
                 try clear c13
                 try clear c13b0
                 try clear c13b1
                 try clear c19
                 try clear p19
                 try clear q19
                 try clear hx19
                 try clear c20
                 try clear c20b0
                 try clear c20b1
                 try clear c21
                 try clear c21b0
                 try clear c21b1
                 try clear p21
                 try clear q21
                 try clear hx21
                 try clear c22
                 try clear c22b0
                 try clear c23
                 try clear c23b0
                 try clear c26
                 try clear c27
                 try clear c27b0
                 try clear c28
                 try clear c28b0
                 try clear c30
                 try clear c30b0
                 try clear c31
                 try clear c31b0
                 try clear c36
                 try clear c36b0
                 try clear c39
                 try clear c41
                 try clear c42
                 try clear c55
                 try clear c55b0
                 try clear c55b1
                 try clear c56
                 try clear c56b0
                 try clear c56b1
                 try clear c57
                 try clear c57b0
                 try clear c58
                 try clear c58b0
                 try clear c59
                 try clear c59b0
                 try clear c59b1
                 try clear c60
                 try clear c60b0
                 try clear c61
                 try clear c61b0
                 try clear p64
                 try clear hcz35_0
                 try clear hcz35_1
                 try clear hcz37_0
                 try clear hcz37_1
                 try clear hcz38_0
                 try clear hcz38_1
                 try clear hcz40_0
                 try clear hcz40_1
                 try clear hcz45_0
                 try clear hcz45_1
                 try clear hfz35_0
                 try clear hfz35_1
                 try clear hfz37_0
                 try clear hfz37_1
                 try clear hfz38_0
                 try clear hfz38_1
                 try clear hfz40_0
                 try clear hfz40_1
                 try clear hfz45_0
                 try clear hfz45_1
                 try clear hx195_0
                 try clear hx196_0
                 try clear hx197_0
                 try clear hx197_1
                 try clear hx215_0
                 try clear hx216_0
                 try clear hx217_0
                 try clear hx217_1
                 try clear p1
                 try clear p19
                 try clear p195
                 try clear p196
                 try clear p197
                 try clear p2
                 try clear p215
                 try clear p216
                 try clear p217
                 try clear p6
                 try clear q1
                 try clear q19
                 try clear q195
                 try clear q196
                 try clear q197
                 try clear q215
                 try clear q216
                 try clear q217
                 obtain ⟨kq, x138_43, rfl, HA, HJ43, HO_1, BK198, HB⟩ := hcut
                 cases kq with
                 | zero => exact absurd HA.out (by simp [ephemeristop_TopChron.j2])
                 | succ kj43 =>
                  have H := HA.out
                  clear HA
                  simp only [ephemeristop_TopChron.j2] at H
                  by_cases c65 : x138_43 = true
                  ·
                   subst c65
                   have H1 : (none) = some r := by rw [if_pos rfl] at H; exact H
                   clear H
                   have H := H1
                   clear H1
                   exact absurd H (by simp)
                  ·
                   replace c65 := Bool.eq_false_iff.mpr c65
                   subst c65
                   have H1 : ((some (([] : List (S37)) : List (S37))).bind fun y218 => (if y218.length + t186.length < 4398046511104 then ((some (y218 ++ t186 : List (S37))).bind fun y221 => ((some (([(⟨t189, (ji29), ((rd_T34 (rd_L4 t191 t189) (ji29)).f1), ((rd_T34 (rd_L4 t191 t189) (ji29)).f1)⟩ : S37)] : List (S37)) : List (S37))).bind fun y224 => (if y221.length + y224.length < 4398046511104 then ((chron_Tightest.f kj43 t185 (y221 ++ y224)).bind fun bt230 => (if bt230.2 = 0 then (if (bt230.1.length : Int) = t185 then (if 0 ≤ t189 then (if t189 < (bt230.1.length : Int) then (if ((rd_L4 bt230.1 t189).length : Int) = t185 then (if 0 ≤ (ji29) then (if (ji29) < ((rd_L4 bt230.1 t189).length : Int) then (ephemeristop_TopChron.j3 kj43 t186 t189 (ji29) t185 (!(((rd_T34 (rd_L4 bt230.1 t189) (ji29)).f0) == ((rd_T34 (rd_L4 t191 t189) (ji29)).f1)) || (!(((rd_T34 (rd_L4 bt230.1 t189) (ji29)).f1) == ((rd_T34 (rd_L4 t191 t189) (ji29)).f1)))) ((rd_T34 (rd_L4 t191 t189) (ji29)).f0) ((rd_T34 (rd_L4 t191 t189) (ji29)).f1)) else (none)) else (none)) else (ephemeristop_TopChron.j3 kj43 t186 t189 (ji29) t185 true ((rd_T34 (rd_L4 t191 t189) (ji29)).f0) ((rd_T34 (rd_L4 t191 t189) (ji29)).f1))) else (none)) else (none)) else (ephemeristop_TopChron.j3 kj43 t186 t189 (ji29) t185 true ((rd_T34 (rd_L4 t191 t189) (ji29)).f0) ((rd_T34 (rd_L4 t191 t189) (ji29)).f1))) else (ephemeristop_TopChron.j3 kj43 t186 t189 (ji29) t185 true ((rd_T34 (rd_L4 t191 t189) (ji29)).f0) ((rd_T34 (rd_L4 t191 t189) (ji29)).f1)))) else (none)))) else (none))) = some r := by rw [if_neg (show ¬ (false = true) by decide)] at H; exact H
                   clear H
                   have H := H1
                   clear H1
                   obtain ⟨y218, hy218⟩ : ∃ y_ : List (S37), y_ = (([] : List (S37))) := ⟨_, rfl⟩
                   replace H : (if y218.length + t186.length < 4398046511104 then ((some (y218 ++ t186 : List (S37))).bind fun y221 => ((some (([(⟨t189, (ji29), ((rd_T34 (rd_L4 t191 t189) (ji29)).f1), ((rd_T34 (rd_L4 t191 t189) (ji29)).f1)⟩ : S37)] : List (S37)) : List (S37))).bind fun y224 => (if y221.length + y224.length < 4398046511104 then ((chron_Tightest.f kj43 t185 (y221 ++ y224)).bind fun bt230 => (if bt230.2 = 0 then (if (bt230.1.length : Int) = t185 then (if 0 ≤ t189 then (if t189 < (bt230.1.length : Int) then (if ((rd_L4 bt230.1 t189).length : Int) = t185 then (if 0 ≤ (ji29) then (if (ji29) < ((rd_L4 bt230.1 t189).length : Int) then (ephemeristop_TopChron.j3 kj43 t186 t189 (ji29) t185 (!(((rd_T34 (rd_L4 bt230.1 t189) (ji29)).f0) == ((rd_T34 (rd_L4 t191 t189) (ji29)).f1)) || (!(((rd_T34 (rd_L4 bt230.1 t189) (ji29)).f1) == ((rd_T34 (rd_L4 t191 t189) (ji29)).f1)))) ((rd_T34 (rd_L4 t191 t189) (ji29)).f0) ((rd_T34 (rd_L4 t191 t189) (ji29)).f1)) else (none)) else (none)) else (ephemeristop_TopChron.j3 kj43 t186 t189 (ji29) t185 true ((rd_T34 (rd_L4 t191 t189) (ji29)).f0) ((rd_T34 (rd_L4 t191 t189) (ji29)).f1))) else (none)) else (none)) else (ephemeristop_TopChron.j3 kj43 t186 t189 (ji29) t185 true ((rd_T34 (rd_L4 t191 t189) (ji29)).f0) ((rd_T34 (rd_L4 t191 t189) (ji29)).f1))) else (ephemeristop_TopChron.j3 kj43 t186 t189 (ji29) t185 true ((rd_T34 (rd_L4 t191 t189) (ji29)).f0) ((rd_T34 (rd_L4 t191 t189) (ji29)).f1)))) else (none)))) else (none)) = some r := by first | (rw [hy218]; with_reducible exact H) | (have H2_ := (Option.bind_some _ _).symm.trans H; rw [hy218]; with_reducible exact H2_) | (have H2_ := (Option.bind_some _ _).symm.trans H; with_reducible exact H2_) | with_reducible exact H | (rw [hy218]; exact H) | exact H
                   have Ny218 := Aside0.mk hy218
                   clear hy218
                   by_cases c66 : y218.length + t186.length < 4398046511104
                   ·
                    rw [if_pos c66] at H
                    have LMc66 := Aside0.mk c66
                    clear c66
                    obtain ⟨y221, hy221⟩ : ∃ y_ : List (S37), y_ = (y218 ++ t186) := ⟨_, rfl⟩
                    replace H : ((some (([(⟨t189, (ji29), ((rd_T34 (rd_L4 t191 t189) (ji29)).f1), ((rd_T34 (rd_L4 t191 t189) (ji29)).f1)⟩ : S37)] : List (S37)) : List (S37))).bind fun y224 => (if y221.length + y224.length < 4398046511104 then ((chron_Tightest.f kj43 t185 (y221 ++ y224)).bind fun bt230 => (if bt230.2 = 0 then (if (bt230.1.length : Int) = t185 then (if 0 ≤ t189 then (if t189 < (bt230.1.length : Int) then (if ((rd_L4 bt230.1 t189).length : Int) = t185 then (if 0 ≤ (ji29) then (if (ji29) < ((rd_L4 bt230.1 t189).length : Int) then (ephemeristop_TopChron.j3 kj43 t186 t189 (ji29) t185 (!(((rd_T34 (rd_L4 bt230.1 t189) (ji29)).f0) == ((rd_T34 (rd_L4 t191 t189) (ji29)).f1)) || (!(((rd_T34 (rd_L4 bt230.1 t189) (ji29)).f1) == ((rd_T34 (rd_L4 t191 t189) (ji29)).f1)))) ((rd_T34 (rd_L4 t191 t189) (ji29)).f0) ((rd_T34 (rd_L4 t191 t189) (ji29)).f1)) else (none)) else (none)) else (ephemeristop_TopChron.j3 kj43 t186 t189 (ji29) t185 true ((rd_T34 (rd_L4 t191 t189) (ji29)).f0) ((rd_T34 (rd_L4 t191 t189) (ji29)).f1))) else (none)) else (none)) else (ephemeristop_TopChron.j3 kj43 t186 t189 (ji29) t185 true ((rd_T34 (rd_L4 t191 t189) (ji29)).f0) ((rd_T34 (rd_L4 t191 t189) (ji29)).f1))) else (ephemeristop_TopChron.j3 kj43 t186 t189 (ji29) t185 true ((rd_T34 (rd_L4 t191 t189) (ji29)).f0) ((rd_T34 (rd_L4 t191 t189) (ji29)).f1)))) else (none))) = some r := by first | (rw [hy221]; with_reducible exact H) | (have H2_ := (Option.bind_some _ _).symm.trans H; rw [hy221]; with_reducible exact H2_) | (have H2_ := (Option.bind_some _ _).symm.trans H; with_reducible exact H2_) | with_reducible exact H | (rw [hy221]; exact H) | exact H
                    have Ny221 := Aside0.mk hy221
                    clear hy221
                    obtain ⟨y224, hy224⟩ : ∃ y_ : List (S37), y_ = (([(⟨t189, (ji29), ((rd_T34 (rd_L4 t191 t189) (ji29)).f1), ((rd_T34 (rd_L4 t191 t189) (ji29)).f1)⟩ : S37)] : List (S37))) := ⟨_, rfl⟩
                    replace H : (if y221.length + y224.length < 4398046511104 then ((chron_Tightest.f kj43 t185 (y221 ++ y224)).bind fun bt230 => (if bt230.2 = 0 then (if (bt230.1.length : Int) = t185 then (if 0 ≤ t189 then (if t189 < (bt230.1.length : Int) then (if ((rd_L4 bt230.1 t189).length : Int) = t185 then (if 0 ≤ (ji29) then (if (ji29) < ((rd_L4 bt230.1 t189).length : Int) then (ephemeristop_TopChron.j3 kj43 t186 t189 (ji29) t185 (!(((rd_T34 (rd_L4 bt230.1 t189) (ji29)).f0) == ((rd_T34 (rd_L4 t191 t189) (ji29)).f1)) || (!(((rd_T34 (rd_L4 bt230.1 t189) (ji29)).f1) == ((rd_T34 (rd_L4 t191 t189) (ji29)).f1)))) ((rd_T34 (rd_L4 t191 t189) (ji29)).f0) ((rd_T34 (rd_L4 t191 t189) (ji29)).f1)) else (none)) else (none)) else (ephemeristop_TopChron.j3 kj43 t186 t189 (ji29) t185 true ((rd_T34 (rd_L4 t191 t189) (ji29)).f0) ((rd_T34 (rd_L4 t191 t189) (ji29)).f1))) else (none)) else (none)) else (ephemeristop_TopChron.j3 kj43 t186 t189 (ji29) t185 true ((rd_T34 (rd_L4 t191 t189) (ji29)).f0) ((rd_T34 (rd_L4 t191 t189) (ji29)).f1))) else (ephemeristop_TopChron.j3 kj43 t186 t189 (ji29) t185 true ((rd_T34 (rd_L4 t191 t189) (ji29)).f0) ((rd_T34 (rd_L4 t191 t189) (ji29)).f1)))) else (none)) = some r := by first | (rw [hy224]; with_reducible exact H) | (have H2_ := (Option.bind_some _ _).symm.trans H; rw [hy224]; with_reducible exact H2_) | (have H2_ := (Option.bind_some _ _).symm.trans H; with_reducible exact H2_) | with_reducible exact H | (rw [hy224]; exact H) | exact H
                    have Ny224 := Aside0.mk hy224
                    clear hy224
                    by_cases c67 : y221.length + y224.length < 4398046511104
                    ·
                     rw [if_pos c67] at H
                     have LMc67 := Aside0.mk c67
                     clear c67
                     obtain ⟨y227, hy227⟩ : ∃ y_ : List (S37), y_ = (y221 ++ y224) := ⟨_, rfl⟩
                     replace H : ((chron_Tightest.f kj43 t185 y227).bind fun bt230 => (if bt230.2 = 0 then (if (bt230.1.length : Int) = t185 then (if 0 ≤ t189 then (if t189 < (bt230.1.length : Int) then (if ((rd_L4 bt230.1 t189).length : Int) = t185 then (if 0 ≤ (ji29) then (if (ji29) < ((rd_L4 bt230.1 t189).length : Int) then (ephemeristop_TopChron.j3 kj43 t186 t189 (ji29) t185 (!(((rd_T34 (rd_L4 bt230.1 t189) (ji29)).f0) == ((rd_T34 (rd_L4 t191 t189) (ji29)).f1)) || (!(((rd_T34 (rd_L4 bt230.1 t189) (ji29)).f1) == ((rd_T34 (rd_L4 t191 t189) (ji29)).f1)))) ((rd_T34 (rd_L4 t191 t189) (ji29)).f0) ((rd_T34 (rd_L4 t191 t189) (ji29)).f1)) else (none)) else (none)) else (ephemeristop_TopChron.j3 kj43 t186 t189 (ji29) t185 true ((rd_T34 (rd_L4 t191 t189) (ji29)).f0) ((rd_T34 (rd_L4 t191 t189) (ji29)).f1))) else (none)) else (none)) else (ephemeristop_TopChron.j3 kj43 t186 t189 (ji29) t185 true ((rd_T34 (rd_L4 t191 t189) (ji29)).f0) ((rd_T34 (rd_L4 t191 t189) (ji29)).f1))) else (ephemeristop_TopChron.j3 kj43 t186 t189 (ji29) t185 true ((rd_T34 (rd_L4 t191 t189) (ji29)).f0) ((rd_T34 (rd_L4 t191 t189) (ji29)).f1)))) = some r := by first | (rw [hy227]; with_reducible exact H) | (have H2_ := (Option.bind_some _ _).symm.trans H; rw [hy227]; with_reducible exact H2_) | (have H2_ := (Option.bind_some _ _).symm.trans H; with_reducible exact H2_) | with_reducible exact H | (rw [hy227]; exact H) | exact H
                     have Ny227 := Aside0.mk hy227
                     clear hy227
                     replace H := Option.bind_eq_some_iff.mp H
                     obtain ⟨⟨t230, t231⟩, A680, H⟩ := H
                     replace H : (if t231 = 0 then (if (t230.length : Int) = t185 then (if 0 ≤ t189 then (if t189 < (t230.length : Int) then (if ((rd_L4 t230 t189).length : Int) = t185 then (if 0 ≤ (ji29) then (if (ji29) < ((rd_L4 t230 t189).length : Int) then (ephemeristop_TopChron.j3 kj43 t186 t189 (ji29) t185 (!(((rd_T34 (rd_L4 t230 t189) (ji29)).f0) == ((rd_T34 (rd_L4 t191 t189) (ji29)).f1)) || (!(((rd_T34 (rd_L4 t230 t189) (ji29)).f1) == ((rd_T34 (rd_L4 t191 t189) (ji29)).f1)))) ((rd_T34 (rd_L4 t191 t189) (ji29)).f0) ((rd_T34 (rd_L4 t191 t189) (ji29)).f1)) else (none)) else (none)) else (ephemeristop_TopChron.j3 kj43 t186 t189 (ji29) t185 true ((rd_T34 (rd_L4 t191 t189) (ji29)).f0) ((rd_T34 (rd_L4 t191 t189) (ji29)).f1))) else (none)) else (none)) else (ephemeristop_TopChron.j3 kj43 t186 t189 (ji29) t185 true ((rd_T34 (rd_L4 t191 t189) (ji29)).f0) ((rd_T34 (rd_L4 t191 t189) (ji29)).f1))) else (ephemeristop_TopChron.j3 kj43 t186 t189 (ji29) t185 true ((rd_T34 (rd_L4 t191 t189) (ji29)).f0) ((rd_T34 (rd_L4 t191 t189) (ji29)).f1))) = some r := H
                     have A68 := Aside0.mk A680
                     clear A680
                     have HC69 := Aside0.mk H
                     clear H
                     have hcz70_0 : wc.cell? ⟨gb198, 0, none⟩ = some (.int .i64 ((rd_T34 (rd_L4 t191 t189) (ji29)).f0)) := (blk_cell BK198.out 0).trans rfl
                     have hcz70_1 : wc.cell? ⟨gb198, 1, none⟩ = some (.int .i64 ((rd_T34 (rd_L4 t191 t189) (ji29)).f1)) := (blk_cell BK198.out 1).trans rfl
                     have hfz70_0 := blk_frozen BK198.out 0
                     have hfz70_1 := blk_frozen BK198.out 1
                     go_wp2_with fail
                     rw [rounds_succ]
                     go_upto_region 18 with (first | ((with_reducible refine gate_dst (N := 96) rfl ?_); (try (refine gate_guard (by rfl) ?_; dsimp only)); refine Kd.R_lit k37 _ 37 ?hg (N := 96) ?hd (xs := ([] : List (S37))) (inner := []) (ok := fun _ => True) (okp := fun _ => True) ?hr ?hp (fun _ hk => hk) trivial (Below.refl _ _) (Nat.le_refl _) (by simp) ?_; (case hd => rfl); (case hg => rfl); (case hr => first | (go_simp; done) | (go_simp; rfl)); (case hp => exact (Reps.none _ _)); intro v219 w71 ho72 hb hg_ hnew_; clear hg_ hnew_; (first | rw [← Ny218.out] at ho72 | (simp only [Int.reduceToNat] at ho72; rw [← Ny218.out] at ho72)); have n0_ := Aside0.mk (Kd.R_elder' (by (with_reducible repeat (first | apply Kd.R_alloc | apply Kd.R_drewN | apply Kd.R_drew)); exact HO_1.out) (Kd.R_base ho72) hb); have n1_ := Aside0.mk (Kd.R_lower (Kd.R_new' ho72 (Kd.R_lt (by (with_reducible repeat (first | apply Kd.R_alloc | apply Kd.R_drewN | apply Kd.R_drew)); exact HO_1.out))) (below_size (by repeat (first | (with_reducible first | exact HB.out | apply below_alloc | apply pw_below_drewN | apply below_drew1 | refine below_set ?_ GE198.out) | exact HB.out)))); have n2_ := Aside0.mk (blk_below (g := gb198) (o := .cells #[.int .i64 ((rd_T34 (rd_L4 t191 t189) (ji29)).f0), .int .i64 ((rd_T34 (rd_L4 t191 t189) (ji29)).f1)] 34 (0, 0)) (grz_ BK198.out) hb); have n3_ := Aside0.mk (below_step (by repeat (first | (with_reducible first | exact HB.out | apply below_alloc | apply pw_below_drewN | apply below_drew1 | refine below_set ?_ GE198.out) | exact HB.out)) hb); clear HO_1; clear BK198; clear HB; have HO_1 := n0_; have HO220 := n1_; have BK198 := n2_; have HB := n3_; clear n0_ n1_ n2_ n3_; clear hb ho72) | ((with_reducible refine gate_builtin (b := .append) (xs := #[.tmp 96, .tmp 97]) rfl ?_); (try (refine gate_guard (by rfl) ?_; dsimp only)); at_builtin; refine Kd.R_append_rows k37 (w0 := w) w.heap.size rfl (.tmp 96) (.tmp 97) 23 37 (.agg #[(.int .i64 0), (.int .i64 0), (.int .i64 0), (.int .i64 0)]) 32 rfl Try.underlying23 info37 rfl (by decide) (by omega) v219 y218 t186 _ _ _ (fun k_ => some k_ ≠ (.slice Ao18 t186.length co18 : Value).ownBlock) (fun _ => False) rfl rfl ?aO ?aR (fun _ _ h => h) (fun _ h => h.elim) ?aF ?aB ?aS ?aL ?_; (case aR => repeat (first | exact (Kd.R_reads' HO_1.out).2.2 | (with_reducible refine Kd.C_alloc ?_ _) | (with_reducible refine Kd.C_drewN ?_ _) | (with_reducible refine Kd.C_drew ?_))); (case aB => exact (by repeat (first | (with_reducible first | exact HB.out | apply below_alloc | apply pw_below_drewN | apply below_drew1 | refine below_set ?_ GE198.out) | exact HB.out))); (case aF => exact (fun k_ hk => Kd.fresh' (Kd.R_lt (by (with_reducible repeat (first | apply Kd.R_alloc | apply Kd.R_drewN | apply Kd.R_drew)); exact HO_1.out)) k_ hk)); (case aO => exact (by (with_reducible repeat (first | apply Kd.R_alloc | apply Kd.R_drewN | apply Kd.R_drew)); exact Kd.R_mono HO220.out (fun _ hk => hk.2))); (case aS => exact (below_size (by repeat (first | (with_reducible first | exact HB.out | apply below_alloc | apply pw_below_drewN | apply below_drew1 | refine below_set ?_ GE198.out) | exact HB.out)))); (case aL => have := LMc66.out; omega); intro v222 w73 ho hb hg hat; rw [← Ny221.out] at ho; have n0_ := Aside0.mk (Kd.R_after (ok := (fun _ => True)) (by (with_reducible repeat (first | apply Kd.R_alloc | apply Kd.R_drewN | apply Kd.R_drew)); exact HO_1.out) hg hat); have n1_ := Aside0.mk (blk_grown (g := gb198) (o := .cells #[.int .i64 ((rd_T34 (rd_L4 t191 t189) (ji29)).f0), .int .i64 ((rd_T34 (rd_L4 t191 t189) (ji29)).f1)] 34 (0, 0)) (grz_ BK198.out) hg (Kd.R_ne HO220.out BK198.out (by decide))); have n2_ := Aside0.mk (hb); have n3_ := Aside0.mk (ho); clear HO_1; clear BK198; clear HB; clear HO220; have HO_1 := n0_; have BK198 := n1_; have HB := n2_; have HO223 := n3_; clear n0_ n1_ n2_ n3_; clear ho hb hg hat) | ((with_reducible refine gate_dst (N := 104) rfl ?_); (try (refine gate_guard (by rfl) ?_; dsimp only)); refine Kd.R_lit k37 _ 37 ?hg (N := 104) ?hd (xs := ([(⟨t189, (ji29), ((rd_T34 (rd_L4 t191 t189) (ji29)).f1), ((rd_T34 (rd_L4 t191 t189) (ji29)).f1)⟩ : S37)] : List (S37))) (inner := [.int .i64 t189, .int .i64 (ji29), .int .i64 ((rd_T34 (rd_L4 t191 t189) (ji29)).f1), .int .i64 ((rd_T34 (rd_L4 t191 t189) (ji29)).f1)]) (ok := fun _ => True) (okp := fun _ => True) ?hr ?hp (fun _ hk => hk) trivial (Below.refl _ _) (Nat.le_refl _) (by simp) ?_; (case hd => rfl); (case hg => rfl); (case hr => first | (go_simp; done) | (go_simp; rfl)); (case hp => exact (Reps.c4 (show Kd.M k37 _ _ _ (⟨t189, (ji29), ((rd_T34 (rd_L4 t191 t189) (ji29)).f1), ((rd_T34 (rd_L4 t191 t189) (ji29)).f1)⟩ : S37) [.int .i64 t189, .int .i64 (ji29), .int .i64 ((rd_T34 (rd_L4 t191 t189) (ji29)).f1), .int .i64 ((rd_T34 (rd_L4 t191 t189) (ji29)).f1)] from (k37_mkM _ _ _ (⟨t189, (ji29), ((rd_T34 (rd_L4 t191 t189) (ji29)).f1), ((rd_T34 (rd_L4 t191 t189) (ji29)).f1)⟩ : S37) )) (Reps.none _ _))); intro v225 w74 ho75 hb hg_ hnew_; clear hg_ hnew_; (first | rw [← Ny224.out] at ho75 | (simp only [Int.reduceToNat] at ho75; rw [← Ny224.out] at ho75)); have n0_ := Aside0.mk (Kd.R_elder' (by (with_reducible repeat (first | apply Kd.R_alloc | apply Kd.R_drewN | apply Kd.R_drew)); exact HO_1.out) (Kd.R_base ho75) hb); have n1_ := Aside0.mk (Kd.R_elder' (by (with_reducible repeat (first | apply Kd.R_alloc | apply Kd.R_drewN | apply Kd.R_drew)); exact HO223.out) (Kd.R_base ho75) hb); have n2_ := Aside0.mk (Kd.R_lower (Kd.R_new' (Kd.R_new' ho75 (Kd.R_lt (by (with_reducible repeat (first | apply Kd.R_alloc | apply Kd.R_drewN | apply Kd.R_drew)); exact HO_1.out))) (Kd.R_lt (by (with_reducible repeat (first | apply Kd.R_alloc | apply Kd.R_drewN | apply Kd.R_drew)); exact HO223.out))) (below_size (by repeat (first | (with_reducible first | exact HB.out | apply below_alloc | apply pw_below_drewN | apply below_drew1 | refine below_set ?_ GE198.out) | exact HB.out)))); have n3_ := Aside0.mk (blk_below (g := gb198) (o := .cells #[.int .i64 ((rd_T34 (rd_L4 t191 t189) (ji29)).f0), .int .i64 ((rd_T34 (rd_L4 t191 t189) (ji29)).f1)] 34 (0, 0)) (grz_ BK198.out) hb); have n4_ := Aside0.mk (below_step (by repeat (first | (with_reducible first | exact HB.out | apply below_alloc | apply pw_below_drewN | apply below_drew1 | refine below_set ?_ GE198.out) | exact HB.out)) hb); clear HO_1; clear HO223; clear BK198; clear HB; have HO_1 := n0_; have HO223 := n1_; have HO226 := n2_; have BK198 := n3_; have HB := n4_; clear n0_ n1_ n2_ n3_ n4_; clear hb ho75; obtain ⟨Ao77, co77, eo77⟩ := Kd.R_slice HO226.out; subst eo77) | ((with_reducible refine gate_builtin (b := .append) (xs := #[.tmp 98, .tmp 104]) rfl ?_); (try (refine gate_guard (by rfl) ?_; dsimp only)); at_builtin; refine Kd.R_append_rows k37 (w0 := w) w.heap.size rfl (.tmp 98) (.tmp 104) 23 37 (.agg #[(.int .i64 0), (.int .i64 0), (.int .i64 0), (.int .i64 0)]) 32 rfl Try.underlying23 info37 rfl (by decide) (by omega) v222 y221 y224 _ _ _ (fun k_ => some k_ ≠ (.slice Ao18 t186.length co18 : Value).ownBlock ∧ some k_ ≠ (.slice Ao77 y224.length co77 : Value).ownBlock) (fun _ => False) rfl rfl ?aO ?aR (fun _ _ h => h) (fun _ h => h.elim) ?aF ?aB ?aS ?aL ?_; (case aR => repeat (first | exact (Kd.R_reads' HO226.out).2.2 | (with_reducible refine Kd.C_alloc ?_ _) | (with_reducible refine Kd.C_drewN ?_ _) | (with_reducible refine Kd.C_drew ?_))); (case aB => exact (by repeat (first | (with_reducible first | exact HB.out | apply below_alloc | apply pw_below_drewN | apply below_drew1 | refine below_set ?_ GE198.out) | exact HB.out))); (case aF => exact (fun k_ hk => ⟨Kd.fresh' (Kd.R_lt (by (with_reducible repeat (first | apply Kd.R_alloc | apply Kd.R_drewN | apply Kd.R_drew)); exact HO_1.out)) k_ hk, Kd.fresh' (Kd.R_lt (by (with_reducible repeat (first | apply Kd.R_alloc | apply Kd.R_drewN | apply Kd.R_drew)); exact HO226.out)) k_ hk⟩)); (case aO => exact (by (with_reducible repeat (first | apply Kd.R_alloc | apply Kd.R_drewN | apply Kd.R_drew)); exact HO223.out)); (case aS => exact (below_size (by repeat (first | (with_reducible first | exact HB.out | apply below_alloc | apply pw_below_drewN | apply below_drew1 | refine below_set ?_ GE198.out) | exact HB.out)))); (case aL => have := LMc67.out; omega); intro v228 w76 ho hb hg hat; rw [← Ny227.out] at ho; have n0_ := Aside0.mk (Kd.R_after (ok := (fun k_ => some k_ ≠ (.slice Ao77 y224.length co77 : Value).ownBlock)) (by (with_reducible repeat (first | apply Kd.R_alloc | apply Kd.R_drewN | apply Kd.R_drew)); exact Kd.R_mono HO_1.out (fun _ hk => by first | exact ⟨hk.2, hk.1.2⟩ | (repeat' (first | exact hk | exact hk.1 | exact hk.2 | exact hk.1.1 | exact hk.1.2 | exact hk.2.1 | exact hk.2.2 | exact hk.1.1.1 | exact hk.1.1.2 | exact hk.1.2.1 | exact hk.1.2.2 | exact True.intro | apply And.intro)))) hg hat); have n1_ := Aside0.mk (blk_grown (g := gb198) (o := .cells #[.int .i64 ((rd_T34 (rd_L4 t191 t189) (ji29)).f0), .int .i64 ((rd_T34 (rd_L4 t191 t189) (ji29)).f1)] 34 (0, 0)) (grz_ BK198.out) hg (Kd.R_ne HO223.out BK198.out (by decide))); have n2_ := Aside0.mk (Kd.R_after (ok := (fun k_ => some k_ ≠ (.slice Ao18 t186.length co18 : Value).ownBlock)) (by (with_reducible repeat (first | apply Kd.R_alloc | apply Kd.R_drewN | apply Kd.R_drew)); exact Kd.R_mono HO226.out (fun _ hk => by first | exact ⟨hk.1.2, hk.2⟩ | (repeat' (first | exact hk | exact hk.1 | exact hk.2 | exact hk.1.1 | exact hk.1.2 | exact hk.2.1 | exact hk.2.2 | exact hk.1.1.1 | exact hk.1.1.2 | exact hk.1.2.1 | exact hk.1.2.2 | exact True.intro | apply And.intro)))) hg hat); have n3_ := Aside0.mk (hb); have n4_ := Aside0.mk (ho); clear HO_1; clear BK198; clear HO226; clear HB; clear HO223; have HO_1 := n0_; have BK198 := n1_; have HO226 := n2_; have HB := n3_; have HO229 := n4_; clear n0_ n1_ n2_ n3_ n4_; clear ho hb hg hat; obtain ⟨Ao78, co78, eo78⟩ := Kd.R_slice HO229.out; subst eo78) | ((with_reducible refine gate_callee (f := 9) rfl ?_); refine goesL_ (some 106) rfl rfl Try.func9 (by kernel_rfl) rfl #[.int .i64 t185, .slice Ao78 y227.length co78] rfl (by (try simp only [List.map_toArray, List.map_cons, List.map_nil]); first | done | rfl | (simp only [List.length_drop, List.length_take]; rfl)) ?_; (with_reducible refine (chron_Tightest.calls kj43 t185 _ _ y227 t230 t231 _ ?side1 ?side2 A68.out).mono ?_); (case side1 => repeat (first | exact (Kd.R_reads' HO229.out).2.2 | (with_reducible refine Kd.C_alloc ?_ _) | (with_reducible refine Kd.C_drewN ?_ _) | (with_reducible refine Kd.C_drew ?_))); (case side2 => exact (Kd.R_reads' HO229.out).2.1); rintro e w79 ⟨v232, rfl, ho0, hb⟩; refine ⟨_, rfl, ?_⟩; have n0_ := Aside0.mk (Kd.R_below (by (with_reducible repeat (first | apply Kd.R_alloc | apply Kd.R_drewN | apply Kd.R_drew)); exact HO_1.out) hb); have n1_ := Aside0.mk (Kd.R_below (by (with_reducible repeat (first | apply Kd.R_alloc | apply Kd.R_drewN | apply Kd.R_drew)); exact HO226.out) hb); have n2_ := Aside0.mk (Kd.R_below (by (with_reducible repeat (first | apply Kd.R_alloc | apply Kd.R_drewN | apply Kd.R_drew)); exact HO229.out) hb); have n3_ := Aside0.mk (Kd.S_lower (Kd.S_newB ho0 (g := gb198) (o := .cells #[.int .i64 ((rd_T34 (rd_L4 t191 t189) (ji29)).f0), .int .i64 ((rd_T34 (rd_L4 t191 t189) (ji29)).f1)] 34 (0, 0)) (grz_ BK198.out)) (below_size (by repeat (first | (with_reducible first | exact HB.out | apply below_alloc | apply pw_below_drewN | apply below_drew1 | refine below_set ?_ GE198.out) | exact HB.out)))); have n4_ := Aside0.mk (blk_below (g := gb198) (o := .cells #[.int .i64 ((rd_T34 (rd_L4 t191 t189) (ji29)).f0), .int .i64 ((rd_T34 (rd_L4 t191 t189) (ji29)).f1)] 34 (0, 0)) (grz_ BK198.out) hb); have n5_ := Aside0.mk (below_step (by repeat (first | (with_reducible first | exact HB.out | apply below_alloc | apply pw_below_drewN | apply below_drew1 | refine below_set ?_ GE198.out) | exact HB.out)) hb); clear HO_1; clear HO226; clear HO229; clear BK198; clear HB; have HO_1 := n0_; have HO226 := n1_; have HO229 := n2_; have HO233 := n3_; have BK198 := n4_; have HB := n5_; clear n0_ n1_ n2_ n3_ n4_ n5_; (try clear hb); (try clear hb2); (try clear hk); (try clear hi); (try clear ho0)))
                     (try simp only [Act.put, List.setIfInBounds_toArray, List.set_cons_zero, List.set_cons_succ])
                     go_cut [138] (fun v138 wc => ∃ (kq : Nat) (x138_68 : Bool), v138 = .bool x138_68 ∧ Aside0 (ephemeristop_TopChron.j3 kq t186 t189 (ji29) t185 x138_68 ((rd_T34 (rd_L4 t191 t189) (ji29)).f0) ((rd_T34 (rd_L4 t191 t189) (ji29)).f1) = some r) ∧ Aside0 (kq ≤ kj43) ∧ Aside0 (Kd.R k37 37 wc w.heap.size (fun _ => True) (.slice Ao18 t186.length co18) t186) ∧ Aside0 (wc.heap[gb198]? = some (.cells #[.int .i64 ((rd_T34 (rd_L4 t191 t189) (ji29)).f0), .int .i64 ((rd_T34 (rd_L4 t191 t189) (ji29)).f1)] 34 (0, 0))) ∧ Aside0 (Below w.heap.size w wc))
                     case first =>
                      have H := HC69.out
                      clear HC69
                      by_cases c80 : t231 = 0
                      ·
                       rw [if_pos c80] at H
                       have c80b0 : (t231 == 0) = true := beq_iff_eq.mpr c80
                       have c80b1 : (t231 != 0) = false := bne_eq_false_iff_eq.mpr c80
                       clear c80
                       (first | rw [c80b0] | (simp only [i64_w, i32_w]; rw [c80b0]) | rw [c80b1] | skip)
                       by_cases c81 : (t230.length : Int) = t185
                       ·
                        rw [if_pos c81] at H
                        have c81b0 : ((t230.length : Int) == t185) = true := beq_iff_eq.mpr c81
                        have c81b1 : ((t230.length : Int) != t185) = false := bne_eq_false_iff_eq.mpr c81
                        clear c81
                        by_cases c82 : 0 ≤ t189
                        ·
                         rw [if_pos c82] at H
                         have c82b0 : decide (0 ≤ t189) = true := decide_eq_true c82
                         clear c82
                         by_cases c83 : t189 < (t230.length : Int)
                         ·
                          rw [if_pos c83] at H
                          have c83b0 : decide (t189 < (t230.length : Int)) = true := decide_eq_true c83
                          clear c83
                          by_cases c84 : ((rd_L4 t230 t189).length : Int) = t185
                          ·
                           rw [if_pos c84] at H
                           have c84b0 : (((rd_L4 t230 t189).length : Int) == t185) = true := beq_iff_eq.mpr c84
                           have c84b1 : (((rd_L4 t230 t189).length : Int) != t185) = false := bne_eq_false_iff_eq.mpr c84
                           clear c84
                           by_cases c85 : 0 ≤ (ji29)
                           ·
                            rw [if_pos c85] at H
                            have c85b0 : decide (0 ≤ (ji29)) = true := decide_eq_true c85
                            clear c85
                            by_cases c86 : (ji29) < ((rd_L4 t230 t189).length : Int)
                            ·
                             rw [if_pos c86] at H
                             have c86b0 : decide ((ji29) < ((rd_L4 t230 t189).length : Int)) = true := decide_eq_true c86
                             clear c86
                             have H' := Aside0.mk H
                             clear H
                             obtain ⟨Ao87, co87, eo87⟩ := Kd.S_slice HO233.out
                             subst eo87
                             have p234 : 0 ≤ (t189 : Int) := of_decide_eq_true (by first | (with_reducible assumption) | assumption)
                             have q234 : t189 < (t230.length : Int) := of_decide_eq_true (by first | (with_reducible assumption) | assumption)
                             obtain ⟨ad234, A234_0, c234_0, e234, hx234_0, hl234_0, hi234_0⟩ := at_L4 (Kd.S_reads' HO233.out).2.2 t189 p234 q234
                             cases e234
                             obtain ⟨ce234, hce234, hMe234, hcc234⟩ := Kd.S_get HO233.out [] t189 p234 (by first | exact q234 | exact of_decide_eq_true (by first | (with_reducible assumption) | assumption) | (have e_ := (Kd.S_reads' HO233.out).1; omega))
                             obtain ⟨ve234_0, rfl, ge234_0⟩ := hMe234
                             have hv234_0 := hcc234 0 _ rfl
                             rw [Nat.add_zero, show ((Kd.slice 34 k34)).sz = 1 from rfl, Nat.mul_one] at hv234_0
                             replace hv234_0 := Option.some.inj (hv234_0.symm.trans hx234_0)
                             rw [hv234_0] at ge234_0
                             have HL234_0 := Aside0.mk (show Kd.R k34 34 _ _ _ _ (rd_L4 t230 t189) from ge234_0)
                             clear hv234_0 ge234_0
                             clear hcc234 hce234
                             have HR234_0 := Aside0.mk hi234_0
                             have HC234_0 := Aside0.mk hl234_0
                             clear hi234_0 hl234_0
                             replace p234 := eq_true p234
                             replace q234 := eq_true q234
                             have p235 : 0 ≤ (t189 : Int) := of_decide_eq_true (by first | (with_reducible assumption) | assumption)
                             have q235 : t189 < (t230.length : Int) := of_decide_eq_true (by first | (with_reducible assumption) | assumption)
                             obtain ⟨ad235, A235_0, c235_0, e235, hx235_0, hl235_0, hi235_0⟩ := at_L4 (Kd.S_reads' HO233.out).2.2 t189 p235 q235
                             obtain rfl : ad234 = ad235 := (by injection e235)
                             obtain ⟨ce235, hce235, hMe235, hcc235⟩ := Kd.S_get HO233.out [] t189 p235 (by first | exact q235 | exact of_decide_eq_true (by first | (with_reducible assumption) | assumption) | (have e_ := (Kd.S_reads' HO233.out).1; omega))
                             obtain ⟨ve235_0, rfl, ge235_0⟩ := hMe235
                             have hv235_0 := hcc235 0 _ rfl
                             rw [Nat.add_zero, show ((Kd.slice 34 k34)).sz = 1 from rfl, Nat.mul_one] at hv235_0
                             replace hv235_0 := Option.some.inj (hv235_0.symm.trans hx235_0)
                             rw [hv235_0] at ge235_0
                             have HL235_0 := Aside0.mk (show Kd.R k34 34 _ _ _ _ (rd_L4 t230 t189) from ge235_0)
                             clear hv235_0 ge235_0
                             clear hcc235 hce235
                             have HR235_0 := Aside0.mk hi235_0
                             have HC235_0 := Aside0.mk hl235_0
                             clear hi235_0 hl235_0
                             replace p235 := eq_true p235
                             replace q235 := eq_true q235
                             have ea_ := Option.some.inj (hx234_0.symm.trans hx235_0)
                             injection ea_ with ea_ en_ ec_
                             subst ea_
                             subst ec_
                             clear en_
                             have p236 : 0 ≤ ((ji29) : Int) := of_decide_eq_true (by first | (with_reducible assumption) | assumption)
                             have q236 : (ji29) < ((rd_L4 t230 t189).length : Int) := of_decide_eq_true (by first | (with_reducible assumption) | assumption)
                             obtain ⟨ad236, e236, hx236_0, hx236_1⟩ := at_T34 (by repeat (first | (with_reducible exact HR235_0.out) | (with_reducible refine Kd.C_alloc ?_ _) | (with_reducible refine Kd.C_drewN ?_ _) | (with_reducible refine Kd.C_drew ?_) | exact HR235_0.out)) (ji29) p236 q236
                             cases e236
                             replace p236 := eq_true p236
                             replace q236 := eq_true q236
                             go_wp2
                             go_meet
                             case rel => exact ⟨_, ((!(((rd_T34 (rd_L4 t230 t189) (ji29)).f0) == ((rd_T34 (rd_L4 t191 t189) (ji29)).f1)) || (!(((rd_T34 (rd_L4 t230 t189) (ji29)).f1) == ((rd_T34 (rd_L4 t191 t189) (ji29)).f1))))), (by first | rfl | (simp; done) | (simp only [← hji29] <;> (first | rfl | simp)) | (simp [*]; done)), H', ⟨by have := HJ14.out; have := HJ31.out; have := HJ43.out; first | omega | exact Nat.le_refl _⟩, ⟨by (with_reducible repeat (first | apply Kd.R_alloc | apply Kd.R_drewN | apply Kd.R_drew)); exact Kd.R_mono HO_1.out (fun _ hk => trivial)⟩, ⟨(grz_ BK198.out)⟩, ⟨by repeat (first | (with_reducible first | exact HB.out | apply below_alloc | apply pw_below_drewN | apply below_drew1 | refine below_set ?_ GE198.out) | exact HB.out)⟩⟩
                            ·
                             rw [if_neg c86] at H
                             exact absurd H (by simp)
                           ·
                            rw [if_neg c85] at H
                            exact absurd H (by simp)
                          ·
                           rw [if_neg c84] at H
                           have c84b0 : (((rd_L4 t230 t189).length : Int) == t185) = false := beq_eq_false_iff_ne.mpr c84
                           have c84b1 : (((rd_L4 t230 t189).length : Int) != t185) = true := bne_iff_ne.mpr c84
                           have H' := Aside0.mk H
                           clear H
                           obtain ⟨Ao88, co88, eo88⟩ := Kd.S_slice HO233.out
                           subst eo88
                           have p234 : 0 ≤ (t189 : Int) := of_decide_eq_true (by first | (with_reducible assumption) | assumption)
                           have q234 : t189 < (t230.length : Int) := of_decide_eq_true (by first | (with_reducible assumption) | assumption)
                           obtain ⟨ad234, A234_0, c234_0, e234, hx234_0, hl234_0, hi234_0⟩ := at_L4 (Kd.S_reads' HO233.out).2.2 t189 p234 q234
                           cases e234
                           obtain ⟨ce234, hce234, hMe234, hcc234⟩ := Kd.S_get HO233.out [] t189 p234 (by first | exact q234 | exact of_decide_eq_true (by first | (with_reducible assumption) | assumption) | (have e_ := (Kd.S_reads' HO233.out).1; omega))
                           obtain ⟨ve234_0, rfl, ge234_0⟩ := hMe234
                           have hv234_0 := hcc234 0 _ rfl
                           rw [Nat.add_zero, show ((Kd.slice 34 k34)).sz = 1 from rfl, Nat.mul_one] at hv234_0
                           replace hv234_0 := Option.some.inj (hv234_0.symm.trans hx234_0)
                           rw [hv234_0] at ge234_0
                           have HL234_0 := Aside0.mk (show Kd.R k34 34 _ _ _ _ (rd_L4 t230 t189) from ge234_0)
                           clear hv234_0 ge234_0
                           clear hcc234 hce234
                           have HR234_0 := Aside0.mk hi234_0
                           have HC234_0 := Aside0.mk hl234_0
                           clear hi234_0 hl234_0
                           replace p234 := eq_true p234
                           replace q234 := eq_true q234
                           go_wp2
                           go_meet
                           case rel => exact ⟨_, (true), (by first | rfl | (simp; done) | (simp [*]; done)), H', ⟨by have := HJ14.out; have := HJ31.out; have := HJ43.out; first | omega | exact Nat.le_refl _⟩, ⟨by (with_reducible repeat (first | apply Kd.R_alloc | apply Kd.R_drewN | apply Kd.R_drew)); exact Kd.R_mono HO_1.out (fun _ hk => trivial)⟩, ⟨(grz_ BK198.out)⟩, ⟨by repeat (first | (with_reducible first | exact HB.out | apply below_alloc | apply pw_below_drewN | apply below_drew1 | refine below_set ?_ GE198.out) | exact HB.out)⟩⟩
                         ·
                          rw [if_neg c83] at H
                          exact absurd H (by simp)
                        ·
                         rw [if_neg c82] at H
                         exact absurd H (by simp)
                       ·
                        rw [if_neg c81] at H
                        have c81b0 : ((t230.length : Int) == t185) = false := beq_eq_false_iff_ne.mpr c81
                        have c81b1 : ((t230.length : Int) != t185) = true := bne_iff_ne.mpr c81
                        have H' := Aside0.mk H
                        clear H
                        obtain ⟨Ao89, co89, eo89⟩ := Kd.S_slice HO233.out
                        subst eo89
                        go_wp2
                        go_meet
                        case rel => exact ⟨_, (true), (by first | rfl | (simp; done) | (simp [*]; done)), H', ⟨by have := HJ14.out; have := HJ31.out; have := HJ43.out; first | omega | exact Nat.le_refl _⟩, ⟨by (with_reducible repeat (first | apply Kd.R_alloc | apply Kd.R_drewN | apply Kd.R_drew)); exact Kd.R_mono HO_1.out (fun _ hk => trivial)⟩, ⟨(grz_ BK198.out)⟩, ⟨by repeat (first | (with_reducible first | exact HB.out | apply below_alloc | apply pw_below_drewN | apply below_drew1 | refine below_set ?_ GE198.out) | exact HB.out)⟩⟩
                      ·
                       rw [if_neg c80] at H
                       have c80b0 : (t231 == 0) = false := beq_eq_false_iff_ne.mpr c80
                       have c80b1 : (t231 != 0) = true := bne_iff_ne.mpr c80
                       (first | rw [c80b0] | (simp only [i64_w, i32_w]; rw [c80b0]) | rw [c80b1] | skip)
                       have H' := Aside0.mk H
                       clear H
                       go_wp2
                       go_meet
                       case rel => exact ⟨_, (true), (by first | rfl | (simp; done) | (simp [*]; done)), H', ⟨by have := HJ14.out; have := HJ31.out; have := HJ43.out; first | omega | exact Nat.le_refl _⟩, ⟨by (with_reducible repeat (first | apply Kd.R_alloc | apply Kd.R_drewN | apply Kd.R_drew)); exact Kd.R_mono HO_1.out (fun _ hk => trivial)⟩, ⟨(grz_ BK198.out)⟩, ⟨by repeat (first | (with_reducible first | exact HB.out | apply below_alloc | apply pw_below_drewN | apply below_drew1 | refine below_set ?_ GE198.out) | exact HB.out)⟩⟩
                     case rest =>
                      clear HC69
                      try clear c1
                      try clear p1
                      try clear q1
                      try clear hx1
                      try clear c2
                      try clear p2
                      try clear q2
                      try clear hx2
                      try clear c3
                      try clear c4
                      try clear c5
                      try clear c6
                      try clear p6
                      try clear c7
                      try clear c8
                      try clear c8b0
                      try clear c9
                      try clear c13
                      try clear c13b0
                      try clear c13b1
                      try clear c19
                      try clear p19
                      try clear q19
                      try clear hx19
                      try clear c20
                      try clear c20b0
                      try clear c20b1
                      try clear c21
                      try clear c21b0
                      try clear c21b1
                      try clear p21
                      try clear q21
                      try clear hx21
                      try clear c22
                      try clear c22b0
                      try clear c23
                      try clear c23b0
                      try clear p23
                      try clear q23
                      try clear hx23
                      try clear c26
                      try clear c27
                      try clear c27b0
                      try clear c28
                      try clear c28b0
                      try clear c30
                      try clear c30b0
                      try clear c31
                      try clear c31b0
                      try clear c36
                      try clear c36b0
                      try clear c39
                      try clear c41
                      try clear c42
                      try clear c55
                      try clear c55b0
                      try clear c55b1
                      try clear c56
                      try clear c56b0
                      try clear c56b1
                      try clear c57
                      try clear c57b0
                      try clear c58
                      try clear c58b0
                      try clear c59
                      try clear c59b0
                      try clear c59b1
                      try clear c60
                      try clear c60b0
                      try clear c61
                      try clear c61b0
                      try clear p64
                      try clear c65
                      try clear c66
                      try clear c67
                      try clear c80
                      try clear c80b0
                      try clear c80b1
                      try clear c81
                      try clear c81b0
                      try clear c81b1
                      try clear c82
                      try clear c82b0
                      try clear c83
                      try clear c83b0
                      try clear c84
                      try clear c84b0
                      try clear c84b1
                      try clear c85
                      try clear c85b0
                      try clear c86
                      try clear c86b0
                      try clear hcz35_0
                      try clear hcz35_1
                      try clear hcz37_0
                      try clear hcz37_1
                      try clear hcz38_0
                      try clear hcz38_1
                      try clear hcz40_0
                      try clear hcz40_1
                      try clear hcz45_0
                      try clear hcz45_1
                      try clear hcz70_0
                      try clear hcz70_1
                      try clear hfz35_0
                      try clear hfz35_1
                      try clear hfz37_0
                      try clear hfz37_1
                      try clear hfz38_0
                      try clear hfz38_1
                      try clear hfz40_0
                      try clear hfz40_1
                      try clear hfz45_0
                      try clear hfz45_1
                      try clear hfz70_0
                      try clear hfz70_1
                      try clear hx195_0
                      try clear hx196_0
                      try clear hx197_0
                      try clear hx197_1
                      try clear hx215_0
                      try clear hx216_0
                      try clear hx217_0
                      try clear hx217_1
                      try clear hx234_0
                      try clear hx235_0
                      try clear hx236_0
                      try clear hx236_1
                      try clear p1
                      try clear p19
                      try clear p195
                      try clear p196
                      try clear p197
                      try clear p2
                      try clear p21
                      try clear p215
                      try clear p216
                      try clear p217
                      try clear p234
                      try clear p235
                      try clear p236
                      try clear p6
                      try clear p64
                      try clear q1
                      try clear q19
                      try clear q195
                      try clear q196
                      try clear q197
                      try clear q2
                      try clear q21
                      try clear q215
                      try clear q216
                      try clear q217
                      try clear q234
                      try clear q235
                      try clear q236
                      obtain ⟨kq, x138_68, rfl, HA, HJ68, HO_1, BK198, HB⟩ := hcut
                      cases kq with
                      | zero => exact absurd HA.out (by simp [ephemeristop_TopChron.j3])
                      | succ kj68 =>
                       have H := HA.out
                       clear HA
                       simp only [ephemeristop_TopChron.j3] at H
                       by_cases c90 : x138_68 = true
                       ·
                        subst c90
                        have H1 : (none) = some r := by rw [if_pos rfl] at H; exact H
                        clear H
                        have H := H1
                        clear H1
                        exact absurd H (by simp)
                       ·
                        replace c90 := Bool.eq_false_iff.mpr c90
                        subst c90
                        have H1 : ((some (([] : List (S37)) : List (S37))).bind fun y237 => (if y237.length + t186.length < 4398046511104 then ((some (y237 ++ t186 : List (S37))).bind fun y240 => ((some (([(⟨t189, (ji29), wrap64 (((rd_T34 (rd_L4 t191 t189) (ji29)).f1) + 1), wrap64 (((rd_T34 (rd_L4 t191 t189) (ji29)).f1) + 5)⟩ : S37)] : List (S37)) : List (S37))).bind fun y243 => (if y240.length + y243.length < 4398046511104 then ((chron_Tightest.f kj68 t185 (y240 ++ y243)).bind fun bt249 => ((some (([] : List (S37)) : List (S37))).bind fun y253 => (if y253.length + t186.length < 4398046511104 then ((some (y253 ++ t186 : List (S37))).bind fun y256 => ((some (([(⟨t189, (ji29), wrap64 (((rd_T34 (rd_L4 t191 t189) (ji29)).f0) - 5), wrap64 (((rd_T34 (rd_L4 t191 t189) (ji29)).f0) - 1)⟩ : S37)] : List (S37)) : List (S37))).bind fun y259 => (if y256.length + y259.length < 4398046511104 then ((chron_Tightest.f kj68 t185 (y256 ++ y259)).bind fun bt265 => (if bt249.2 = 10 then (some (bt265.2 == 10)) else (none))) else (none)))) else (none)))) else (none)))) else (none))) = some r := by rw [if_neg (show ¬ (false = true) by decide)] at H; exact H
                        clear H
                        have H := H1
                        clear H1
                        obtain ⟨y237, hy237⟩ : ∃ y_ : List (S37), y_ = (([] : List (S37))) := ⟨_, rfl⟩
                        replace H : (if y237.length + t186.length < 4398046511104 then ((some (y237 ++ t186 : List (S37))).bind fun y240 => ((some (([(⟨t189, (ji29), wrap64 (((rd_T34 (rd_L4 t191 t189) (ji29)).f1) + 1), wrap64 (((rd_T34 (rd_L4 t191 t189) (ji29)).f1) + 5)⟩ : S37)] : List (S37)) : List (S37))).bind fun y243 => (if y240.length + y243.length < 4398046511104 then ((chron_Tightest.f kj68 t185 (y240 ++ y243)).bind fun bt249 => ((some (([] : List (S37)) : List (S37))).bind fun y253 => (if y253.length + t186.length < 4398046511104 then ((some (y253 ++ t186 : List (S37))).bind fun y256 => ((some (([(⟨t189, (ji29), wrap64 (((rd_T34 (rd_L4 t191 t189) (ji29)).f0) - 5), wrap64 (((rd_T34 (rd_L4 t191 t189) (ji29)).f0) - 1)⟩ : S37)] : List (S37)) : List (S37))).bind fun y259 => (if y256.length + y259.length < 4398046511104 then ((chron_Tightest.f kj68 t185 (y256 ++ y259)).bind fun bt265 => (if bt249.2 = 10 then (some (bt265.2 == 10)) else (none))) else (none)))) else (none)))) else (none)))) else (none)) = some r := by first | (rw [hy237]; with_reducible exact H) | (have H2_ := (Option.bind_some _ _).symm.trans H; rw [hy237]; with_reducible exact H2_) | (have H2_ := (Option.bind_some _ _).symm.trans H; with_reducible exact H2_) | with_reducible exact H | (rw [hy237]; exact H) | exact H
                        have Ny237 := Aside0.mk hy237
                        clear hy237
                        by_cases c91 : y237.length + t186.length < 4398046511104
                        ·
                         rw [if_pos c91] at H
                         have LMc91 := Aside0.mk c91
                         clear c91
                         obtain ⟨y240, hy240⟩ : ∃ y_ : List (S37), y_ = (y237 ++ t186) := ⟨_, rfl⟩
                         replace H : ((some (([(⟨t189, (ji29), wrap64 (((rd_T34 (rd_L4 t191 t189) (ji29)).f1) + 1), wrap64 (((rd_T34 (rd_L4 t191 t189) (ji29)).f1) + 5)⟩ : S37)] : List (S37)) : List (S37))).bind fun y243 => (if y240.length + y243.length < 4398046511104 then ((chron_Tightest.f kj68 t185 (y240 ++ y243)).bind fun bt249 => ((some (([] : List (S37)) : List (S37))).bind fun y253 => (if y253.length + t186.length < 4398046511104 then ((some (y253 ++ t186 : List (S37))).bind fun y256 => ((some (([(⟨t189, (ji29), wrap64 (((rd_T34 (rd_L4 t191 t189) (ji29)).f0) - 5), wrap64 (((rd_T34 (rd_L4 t191 t189) (ji29)).f0) - 1)⟩ : S37)] : List (S37)) : List (S37))).bind fun y259 => (if y256.length + y259.length < 4398046511104 then ((chron_Tightest.f kj68 t185 (y256 ++ y259)).bind fun bt265 => (if bt249.2 = 10 then (some (bt265.2 == 10)) else (none))) else (none)))) else (none)))) else (none))) = some r := by first | (rw [hy240]; with_reducible exact H) | (have H2_ := (Option.bind_some _ _).symm.trans H; rw [hy240]; with_reducible exact H2_) | (have H2_ := (Option.bind_some _ _).symm.trans H; with_reducible exact H2_) | with_reducible exact H | (rw [hy240]; exact H) | exact H
                         have Ny240 := Aside0.mk hy240
                         clear hy240
                         obtain ⟨y243, hy243⟩ : ∃ y_ : List (S37), y_ = (([(⟨t189, (ji29), wrap64 (((rd_T34 (rd_L4 t191 t189) (ji29)).f1) + 1), wrap64 (((rd_T34 (rd_L4 t191 t189) (ji29)).f1) + 5)⟩ : S37)] : List (S37))) := ⟨_, rfl⟩
                         replace H : (if y240.length + y243.length < 4398046511104 then ((chron_Tightest.f kj68 t185 (y240 ++ y243)).bind fun bt249 => ((some (([] : List (S37)) : List (S37))).bind fun y253 => (if y253.length + t186.length < 4398046511104 then ((some (y253 ++ t186 : List (S37))).bind fun y256 => ((some (([(⟨t189, (ji29), wrap64 (((rd_T34 (rd_L4 t191 t189) (ji29)).f0) - 5), wrap64 (((rd_T34 (rd_L4 t191 t189) (ji29)).f0) - 1)⟩ : S37)] : List (S37)) : List (S37))).bind fun y259 => (if y256.length + y259.length < 4398046511104 then ((chron_Tightest.f kj68 t185 (y256 ++ y259)).bind fun bt265 => (if bt249.2 = 10 then (some (bt265.2 == 10)) else (none))) else (none)))) else (none)))) else (none)) = some r := by first | (rw [hy243]; with_reducible exact H) | (have H2_ := (Option.bind_some _ _).symm.trans H; rw [hy243]; with_reducible exact H2_) | (have H2_ := (Option.bind_some _ _).symm.trans H; with_reducible exact H2_) | with_reducible exact H | (rw [hy243]; exact H) | exact H
                         have Ny243 := Aside0.mk hy243
                         clear hy243
                         by_cases c92 : y240.length + y243.length < 4398046511104
                         ·
                          rw [if_pos c92] at H
                          have LMc92 := Aside0.mk c92
                          clear c92
                          obtain ⟨y246, hy246⟩ : ∃ y_ : List (S37), y_ = (y240 ++ y243) := ⟨_, rfl⟩
                          replace H : ((chron_Tightest.f kj68 t185 y246).bind fun bt249 => ((some (([] : List (S37)) : List (S37))).bind fun y253 => (if y253.length + t186.length < 4398046511104 then ((some (y253 ++ t186 : List (S37))).bind fun y256 => ((some (([(⟨t189, (ji29), wrap64 (((rd_T34 (rd_L4 t191 t189) (ji29)).f0) - 5), wrap64 (((rd_T34 (rd_L4 t191 t189) (ji29)).f0) - 1)⟩ : S37)] : List (S37)) : List (S37))).bind fun y259 => (if y256.length + y259.length < 4398046511104 then ((chron_Tightest.f kj68 t185 (y256 ++ y259)).bind fun bt265 => (if bt249.2 = 10 then (some (bt265.2 == 10)) else (none))) else (none)))) else (none)))) = some r := by first | (rw [hy246]; with_reducible exact H) | (have H2_ := (Option.bind_some _ _).symm.trans H; rw [hy246]; with_reducible exact H2_) | (have H2_ := (Option.bind_some _ _).symm.trans H; with_reducible exact H2_) | with_reducible exact H | (rw [hy246]; exact H) | exact H
                          have Ny246 := Aside0.mk hy246
                          clear hy246
                          replace H := Option.bind_eq_some_iff.mp H
                          obtain ⟨⟨t249, t250⟩, A930, H⟩ := H
                          replace H : ((some (([] : List (S37)) : List (S37))).bind fun y253 => (if y253.length + t186.length < 4398046511104 then ((some (y253 ++ t186 : List (S37))).bind fun y256 => ((some (([(⟨t189, (ji29), wrap64 (((rd_T34 (rd_L4 t191 t189) (ji29)).f0) - 5), wrap64 (((rd_T34 (rd_L4 t191 t189) (ji29)).f0) - 1)⟩ : S37)] : List (S37)) : List (S37))).bind fun y259 => (if y256.length + y259.length < 4398046511104 then ((chron_Tightest.f kj68 t185 (y256 ++ y259)).bind fun bt265 => (if t250 = 10 then (some (bt265.2 == 10)) else (none))) else (none)))) else (none))) = some r := H
                          have A93 := Aside0.mk A930
                          clear A930
                          obtain ⟨y253, hy253⟩ : ∃ y_ : List (S37), y_ = (([] : List (S37))) := ⟨_, rfl⟩
                          replace H : (if y253.length + t186.length < 4398046511104 then ((some (y253 ++ t186 : List (S37))).bind fun y256 => ((some (([(⟨t189, (ji29), wrap64 (((rd_T34 (rd_L4 t191 t189) (ji29)).f0) - 5), wrap64 (((rd_T34 (rd_L4 t191 t189) (ji29)).f0) - 1)⟩ : S37)] : List (S37)) : List (S37))).bind fun y259 => (if y256.length + y259.length < 4398046511104 then ((chron_Tightest.f kj68 t185 (y256 ++ y259)).bind fun bt265 => (if t250 = 10 then (some (bt265.2 == 10)) else (none))) else (none)))) else (none)) = some r := by first | (rw [hy253]; with_reducible exact H) | (have H2_ := (Option.bind_some _ _).symm.trans H; rw [hy253]; with_reducible exact H2_) | (have H2_ := (Option.bind_some _ _).symm.trans H; with_reducible exact H2_) | with_reducible exact H | (rw [hy253]; exact H) | exact H
                          have Ny253 := Aside0.mk hy253
                          clear hy253
                          by_cases c94 : y253.length + t186.length < 4398046511104
                          ·
                           rw [if_pos c94] at H
                           have LMc94 := Aside0.mk c94
                           clear c94
                           obtain ⟨y256, hy256⟩ : ∃ y_ : List (S37), y_ = (y253 ++ t186) := ⟨_, rfl⟩
                           replace H : ((some (([(⟨t189, (ji29), wrap64 (((rd_T34 (rd_L4 t191 t189) (ji29)).f0) - 5), wrap64 (((rd_T34 (rd_L4 t191 t189) (ji29)).f0) - 1)⟩ : S37)] : List (S37)) : List (S37))).bind fun y259 => (if y256.length + y259.length < 4398046511104 then ((chron_Tightest.f kj68 t185 (y256 ++ y259)).bind fun bt265 => (if t250 = 10 then (some (bt265.2 == 10)) else (none))) else (none))) = some r := by first | (rw [hy256]; with_reducible exact H) | (have H2_ := (Option.bind_some _ _).symm.trans H; rw [hy256]; with_reducible exact H2_) | (have H2_ := (Option.bind_some _ _).symm.trans H; with_reducible exact H2_) | with_reducible exact H | (rw [hy256]; exact H) | exact H
                           have Ny256 := Aside0.mk hy256
                           clear hy256
                           obtain ⟨y259, hy259⟩ : ∃ y_ : List (S37), y_ = (([(⟨t189, (ji29), wrap64 (((rd_T34 (rd_L4 t191 t189) (ji29)).f0) - 5), wrap64 (((rd_T34 (rd_L4 t191 t189) (ji29)).f0) - 1)⟩ : S37)] : List (S37))) := ⟨_, rfl⟩
                           replace H : (if y256.length + y259.length < 4398046511104 then ((chron_Tightest.f kj68 t185 (y256 ++ y259)).bind fun bt265 => (if t250 = 10 then (some (bt265.2 == 10)) else (none))) else (none)) = some r := by first | (rw [hy259]; with_reducible exact H) | (have H2_ := (Option.bind_some _ _).symm.trans H; rw [hy259]; with_reducible exact H2_) | (have H2_ := (Option.bind_some _ _).symm.trans H; with_reducible exact H2_) | with_reducible exact H | (rw [hy259]; exact H) | exact H
                           have Ny259 := Aside0.mk hy259
                           clear hy259
                           by_cases c95 : y256.length + y259.length < 4398046511104
                           ·
                            rw [if_pos c95] at H
                            have LMc95 := Aside0.mk c95
                            clear c95
                            obtain ⟨y262, hy262⟩ : ∃ y_ : List (S37), y_ = (y256 ++ y259) := ⟨_, rfl⟩
                            replace H : ((chron_Tightest.f kj68 t185 y262).bind fun bt265 => (if t250 = 10 then (some (bt265.2 == 10)) else (none))) = some r := by first | (rw [hy262]; with_reducible exact H) | (have H2_ := (Option.bind_some _ _).symm.trans H; rw [hy262]; with_reducible exact H2_) | (have H2_ := (Option.bind_some _ _).symm.trans H; with_reducible exact H2_) | with_reducible exact H | (rw [hy262]; exact H) | exact H
                            have Ny262 := Aside0.mk hy262
                            clear hy262
                            replace H := Option.bind_eq_some_iff.mp H
                            obtain ⟨⟨t265, t266⟩, A960, H⟩ := H
                            replace H : (if t250 = 10 then (some (t266 == 10)) else (none)) = some r := H
                            have A96 := Aside0.mk A960
                            clear A960
                            by_cases c97 : t250 = 10
                            ·
                             rw [if_pos c97] at H
                             have c97b0 : (t250 == 10) = true := beq_iff_eq.mpr c97
                             have c97b1 : (t250 != 10) = false := bne_eq_false_iff_eq.mpr c97
                             clear c97
                             obtain rfl := Option.some.inj H
                             go_wp2_with fail
                             rw [rounds_succ]
                             try go_wp2
                             have n0_ := Aside0.mk (Kd.R_drew HO_1.out)
                             have n1_ := Aside0.mk (blk_drew BK198.out)
                             have n2_ := Aside0.mk (below_drew1 HB.out)
                             clear HO_1
                             clear BK198
                             clear HB
                             have HO_1 := n0_
                             have BK198 := n1_
                             have HB := n2_
                             clear n0_ n1_ n2_
                             refine start_ (n := 21) (S := fun w' => w'.cell? ⟨gb198, 0, none⟩ = some (.int .i64 ((rd_T34 (rd_L4 t191 t189) (ji29)).f0)) ∧ w'.cell? ⟨gb198, 1, none⟩ = some (.int .i64 ((rd_T34 (rd_L4 t191 t189) (ji29)).f1))) (ds := []) #[false, false, false, false, false, false, false, false, false, false, false, false, false, false, false, false, false, false, false, false, false] (by kernel_rfl) rfl rfl ⟨(blk_cell BK198.out 0).trans rfl, (blk_cell BK198.out 1).trans rfl⟩ (fun hHeld => ?_); refine with_tabW ephemeristop_TopChron.tab21 ephemeristop_TopChron.bits21 (fun HT_ HW_ => ?_)
                             generalize wc.drew = w98 at HO_1 BK198 HB hHeld ⊢
                             refine pure_ (i := 0) (N := some 141) (v := ?_) (a' := ?_) #[true, false, false, false, false, false, false, false, false, false, false, false, false, false, false, false, false, false, false, false, false] rfl rfl (any_of HT_.out (by kernel_rfl)) (fun _ _ _ h => h) (Or.inl ⟨by rfl, ?_⟩) ?_ ?_
                             rotate_left
                             ·
                              intro w'
                              go_simp
                              with_reducible rfl
                             rotate_left
                             ·
                              simp only [Act.put, List.setIfInBounds_toArray, List.set_cons_zero, List.set_cons_succ, i64_w, i32_w]
                              rfl
                             refine pure_ (i := 2) (N := some 143) (v := ?_) (a' := ?_) #[true, false, true, false, false, false, false, false, false, false, false, false, false, false, false, false, false, false, false, false, false] rfl rfl (any_of HT_.out (by kernel_rfl)) (fun _ _ _ h => h) (Or.inl ⟨by rfl, ?_⟩) ?_ ?_
                             rotate_left
                             ·
                              intro w'
                              go_simp
                              with_reducible rfl
                             rotate_left
                             ·
                              simp only [Act.put, List.setIfInBounds_toArray, List.set_cons_zero, List.set_cons_succ, i64_w, i32_w]
                              rfl
                             refine pure_ (i := 4) (N := some 145) (v := ?_) (a' := ?_) #[true, false, true, false, true, false, false, false, false, false, false, false, false, false, false, false, false, false, false, false, false] rfl rfl (any_of HT_.out (by kernel_rfl)) (fun _ _ _ h => h) (Or.inl ⟨by rfl, ?_⟩) ?_ ?_
                             rotate_left
                             ·
                              intro w'
                              go_simp
                              with_reducible rfl
                             rotate_left
                             ·
                              simp only [Act.put, List.setIfInBounds_toArray, List.set_cons_zero, List.set_cons_succ, i64_w, i32_w]
                              rfl
                             refine pure_ (i := 5) (N := some 146) (v := ?_) (a' := ?_) #[true, false, true, false, true, true, false, false, false, false, false, false, false, false, false, false, false, false, false, false, false] rfl rfl (any_of HT_.out (by kernel_rfl)) (fun _ _ _ h => h) (Or.inl ⟨by rfl, ?_⟩) ?_ ?_
                             rotate_left
                             ·
                              intro w'
                              go_simp
                              with_reducible rfl
                             rotate_left
                             ·
                              simp only [Act.put, List.setIfInBounds_toArray, List.set_cons_zero, List.set_cons_succ, i64_w, i32_w]
                              rfl
                             refine pure_ (i := 6) (N := some 147) (v := ?_) (a' := ?_) #[true, false, true, false, true, true, true, false, false, false, false, false, false, false, false, false, false, false, false, false, false] rfl rfl (any_of HT_.out (by kernel_rfl)) (fun _ _ _ h => h) (Or.inl ⟨by rfl, ?_⟩) ?_ ?_
                             rotate_left
                             ·
                              intro w'
                              go_simp
                              with_reducible rfl
                             rotate_left
                             ·
                              simp only [Act.put, List.setIfInBounds_toArray, List.set_cons_zero, List.set_cons_succ, i64_w, i32_w]
                              rfl
                             refine pure_ (i := 9) (N := some 150) (v := ?_) (a' := ?_) #[true, false, true, false, true, true, true, false, false, true, false, false, false, false, false, false, false, false, false, false, false] rfl rfl (any_of HT_.out (by kernel_rfl)) (fun _ _ _ h => h) (Or.inl ⟨by rfl, ?_⟩) ?_ ?_
                             rotate_left
                             ·
                              intro w'
                              go_simp
                              with_reducible rfl
                             rotate_left
                             ·
                              simp only [Act.put, List.setIfInBounds_toArray, List.set_cons_zero, List.set_cons_succ, i64_w, i32_w]
                              rfl
                             refine take_ (i := 7) (N := some 148) (v := ?_) (a' := ?_) #[true, false, true, false, true, true, true, true, false, true, false, false, false, false, false, false, false, false, false, false, false] rfl rfl (take_ofW HT_.out HW_.out (by kernel_rfl)) (fun _ _ _ h => h) (Or.inl ⟨by rfl, ?_⟩) hHeld ?_ ?_
                             rotate_left
                             ·
                              rintro w' ⟨s0, s1⟩
                              go_simp
                              with_reducible rfl
                             rotate_left
                             ·
                              simp only [Act.put, List.setIfInBounds_toArray, List.set_cons_zero, List.set_cons_succ, i64_w, i32_w]
                              rfl
                             refine pure_ (i := 8) (N := some 149) (v := ?_) (a' := ?_) #[true, false, true, false, true, true, true, true, true, true, false, false, false, false, false, false, false, false, false, false, false] rfl rfl (any_of HT_.out (by kernel_rfl)) (fun _ _ _ h => h) (Or.inl ⟨by rfl, ?_⟩) ?_ ?_
                             rotate_left
                             ·
                              intro w'
                              go_simp
                              with_reducible rfl
                             rotate_left
                             ·
                              simp only [Act.put, List.setIfInBounds_toArray, List.set_cons_zero, List.set_cons_succ, i64_w, i32_w]
                              rfl
                             refine take_ (i := 10) (N := some 151) (v := ?_) (a' := ?_) #[true, false, true, false, true, true, true, true, true, true, true, false, false, false, false, false, false, false, false, false, false] rfl rfl (take_ofW HT_.out HW_.out (by kernel_rfl)) (fun _ _ _ h => h) (Or.inl ⟨by rfl, ?_⟩) hHeld ?_ ?_
                             rotate_left
                             ·
                              rintro w' ⟨s0, s1⟩
                              go_simp
                              with_reducible rfl
                             rotate_left
                             ·
                              simp only [Act.put, List.setIfInBounds_toArray, List.set_cons_zero, List.set_cons_succ, i64_w, i32_w]
                              rfl
                             refine pure_ (i := 11) (N := some 152) (v := ?_) (a' := ?_) #[true, false, true, false, true, true, true, true, true, true, true, true, false, false, false, false, false, false, false, false, false] rfl rfl (any_of HT_.out (by kernel_rfl)) (fun _ _ _ h => h) (Or.inl ⟨by rfl, ?_⟩) ?_ ?_
                             rotate_left
                             ·
                              intro w'
                              go_simp
                              with_reducible rfl
                             rotate_left
                             ·
                              simp only [Act.put, List.setIfInBounds_toArray, List.set_cons_zero, List.set_cons_succ, i64_w, i32_w]
                              rfl
                             refine pure_ (i := 12) (N := some 153) (v := ?_) (a' := ?_) #[true, false, true, false, true, true, true, true, true, true, true, true, true, false, false, false, false, false, false, false, false] rfl rfl (any_of HT_.out (by kernel_rfl)) (fun _ _ _ h => h) (Or.inl ⟨by rfl, ?_⟩) ?_ ?_
                             rotate_left
                             ·
                              intro w'
                              go_simp
                              with_reducible rfl
                             rotate_left
                             ·
                              simp only [Act.put, List.setIfInBounds_toArray, List.set_cons_zero, List.set_cons_succ, i64_w, i32_w]
                              rfl
                             refine join_ (σ := Value × Value × Value) 7 #[true, true, true, true, true, true, true, true, true, true, true, true, true, true, false, false, false, false, false, false, false] (fun s_ => [(142, s_.1), (144, s_.2.1), (154, s_.2.2)]) (fun s_ w' => (w'.cell? ⟨gb198, 0, none⟩ = some (.int .i64 ((rd_T34 (rd_L4 t191 t189) (ji29)).f0)) ∧ w'.cell? ⟨gb198, 1, none⟩ = some (.int .i64 ((rd_T34 (rd_L4 t191 t189) (ji29)).f1))) ∧ (Kd.R k37 37 w' w.heap.size (fun k_ => some k_ ≠ (s_.2.2 : Value).ownBlock ∧ some k_ ≠ (.slice Ao18 t186.length co18 : Value).ownBlock) s_.2.1 y240) ∧ (Kd.R k37 37 w' w.heap.size (fun k_ => some k_ ≠ (s_.2.1 : Value).ownBlock ∧ some k_ ≠ (.slice Ao18 t186.length co18 : Value).ownBlock) s_.2.2 y243) ∧ (Kd.R k37 37 w' w.heap.size (fun k_ => some k_ ≠ (s_.2.1 : Value).ownBlock ∧ some k_ ≠ (s_.2.2 : Value).ownBlock) (.slice Ao18 t186.length co18) t186) ∧ (w'.heap[gb198]? = some (.cells #[.int .i64 ((rd_T34 (rd_L4 t191 t189) (ji29)).f0), .int .i64 ((rd_T34 (rd_L4 t191 t189) (ji29)).f1)] 34 (0, 0))) ∧ (Below w.heap.size w w')) ?_ ?_
                             rotate_left
                             ·
                              intro hCont
                              refine two_ (i := 1) (j := 13) (Ni := some 142) (Nj := some 154) #[true, true, true, false, true, true, true, true, true, true, true, true, true, false, false, false, false, false, false, false, false] #[true, false, true, false, true, true, true, true, true, true, true, true, true, true, false, false, false, false, false, false, false] rfl rfl rfl rfl (two_of HT_.out (by kernel_rfl)) (by decide) (by decide) (fun K hK => ?_) (fun K hK => ?_)
                              ·
                               skip
                               refine Kd.R_lit_step k37 _ 37 ?hg (N := 142) ?hd (xs := ([] : List (S37))) (inner := []) (ok := fun _ => True) (okp := fun _ => True) ?hr ?hp (fun _ hk => hk) trivial (Below.refl _ _) (Nat.le_refl _) (by simp) ?_; (case hd => rfl); (case hg => rfl); (case hr => first | (go_simp; done) | (go_simp; rfl)); (case hp => exact (Reps.none _ _))
                               intro v238 w99 ho100 hb hg_ hnew_
                               clear hg_ hnew_
                               (first | rw [← Ny237.out] at ho100 | (simp only [Int.reduceToNat] at ho100; rw [← Ny237.out] at ho100))
                               have n0_ := Aside0.mk (Kd.R_elder' (by (with_reducible repeat (first | apply Kd.R_alloc | apply Kd.R_drewN | apply Kd.R_drew)); exact HO_1.out) (Kd.R_base ho100) hb)
                               have n1_ := Aside0.mk (Kd.R_lower (Kd.R_new' ho100 (Kd.R_lt (by (with_reducible repeat (first | apply Kd.R_alloc | apply Kd.R_drewN | apply Kd.R_drew)); exact HO_1.out))) (below_size (by repeat (first | (with_reducible first | exact HB.out | apply below_alloc | apply pw_below_drewN | apply below_drew1 | refine below_set ?_ GE198.out) | exact HB.out))))
                               have n2_ := Aside0.mk (blk_below (g := gb198) (o := .cells #[.int .i64 ((rd_T34 (rd_L4 t191 t189) (ji29)).f0), .int .i64 ((rd_T34 (rd_L4 t191 t189) (ji29)).f1)] 34 (0, 0)) (grz_ BK198.out) hb)
                               have n3_ := Aside0.mk (below_step (by repeat (first | (with_reducible first | exact HB.out | apply below_alloc | apply pw_below_drewN | apply below_drew1 | refine below_set ?_ GE198.out) | exact HB.out)) hb)
                               clear HO_1
                               clear BK198
                               clear HB
                               have HO_1 := n0_
                               have HO239 := n1_
                               have BK198 := n2_
                               have HB := n3_
                               clear n0_ n1_ n2_ n3_
                               clear hb ho100
                               refine hK.out _ _ ⟨(blk_cell BK198.out 0).trans rfl, (blk_cell BK198.out 1).trans rfl⟩ (fun hHeld => ?_)
                               clear hK K
                               refine norm_ (a' := ?_) ?_ ?_
                               rotate_left
                               ·
                                show Act.put _ (some 142) _ = _
                                simp only [Act.put, List.setIfInBounds_toArray, List.set_cons_zero, List.set_cons_succ, i64_w, i32_w]
                                rfl
                               refine two_ (i := 3) (j := 13) (Ni := some 144) (Nj := some 154) #[true, true, true, true, true, true, true, true, true, true, true, true, true, false, false, false, false, false, false, false, false] #[true, true, true, false, true, true, true, true, true, true, true, true, true, true, false, false, false, false, false, false, false] rfl rfl rfl rfl (two_of HT_.out (by kernel_rfl)) (by decide) (by decide) (fun K hK => ?_) (fun K hK => ?_)
                               ·
                                skip
                                refine Kd.R_append_rows_step k37 (w0 := w) w.heap.size (by rfl) (.tmp 142) (.tmp 143) 23 37 (.agg #[(.int .i64 0), (.int .i64 0), (.int .i64 0), (.int .i64 0)]) 32 rfl Try.underlying23 info37 rfl (by decide) (by omega) v238 y237 t186 _ _ _ (fun k_ => some k_ ≠ (.slice Ao18 t186.length co18 : Value).ownBlock) (fun _ => False) rfl rfl ?aO ?aR (fun _ _ h => h) (fun _ h => h.elim) ?aF ?aB ?aS ?aL ?_
                                (case aR => repeat (first | exact (Kd.R_reads' HO_1.out).2.2 | (with_reducible refine Kd.C_alloc ?_ _) | (with_reducible refine Kd.C_drewN ?_ _) | (with_reducible refine Kd.C_drew ?_)))
                                (case aB => exact (by repeat (first | (with_reducible first | exact HB.out | apply below_alloc | apply pw_below_drewN | apply below_drew1 | refine below_set ?_ GE198.out) | exact HB.out)))
                                (case aF => exact (fun k_ hk => Kd.fresh' (Kd.R_lt (by (with_reducible repeat (first | apply Kd.R_alloc | apply Kd.R_drewN | apply Kd.R_drew)); exact HO_1.out)) k_ hk))
                                (case aO => exact (by (with_reducible repeat (first | apply Kd.R_alloc | apply Kd.R_drewN | apply Kd.R_drew)); exact Kd.R_mono HO239.out (fun _ hk => hk.2)))
                                (case aS => exact (below_size (by repeat (first | (with_reducible first | exact HB.out | apply below_alloc | apply pw_below_drewN | apply below_drew1 | refine below_set ?_ GE198.out) | exact HB.out))))
                                (case aL => have := LMc91.out; omega)
                                intro v241 w101 ho hb hg hat
                                rw [← Ny240.out] at ho
                                have n0_ := Aside0.mk (Kd.R_after (ok := (fun _ => True)) (by (with_reducible repeat (first | apply Kd.R_alloc | apply Kd.R_drewN | apply Kd.R_drew)); exact HO_1.out) hg hat)
                                have n1_ := Aside0.mk (blk_grown (g := gb198) (o := .cells #[.int .i64 ((rd_T34 (rd_L4 t191 t189) (ji29)).f0), .int .i64 ((rd_T34 (rd_L4 t191 t189) (ji29)).f1)] 34 (0, 0)) (grz_ BK198.out) hg (Kd.R_ne HO239.out BK198.out (by decide)))
                                have n2_ := Aside0.mk (hb)
                                have n3_ := Aside0.mk (ho)
                                clear HO_1
                                clear BK198
                                clear HB
                                clear HO239
                                have HO_1 := n0_
                                have BK198 := n1_
                                have HB := n2_
                                have HO242 := n3_
                                clear n0_ n1_ n2_ n3_
                                clear ho hb hg hat
                                refine hK.out _ _ ⟨(blk_cell BK198.out 0).trans rfl, (blk_cell BK198.out 1).trans rfl⟩ (fun hHeld => ?_)
                                clear hK K
                                refine norm_ (a' := ?_) ?_ ?_
                                rotate_left
                                ·
                                 show Act.put _ (some 144) _ = _
                                 simp only [Act.put, List.setIfInBounds_toArray, List.set_cons_zero, List.set_cons_succ, i64_w, i32_w]
                                 rfl
                                refine one_ (i := 13) (N := some 154) #[true, true, true, true, true, true, true, true, true, true, true, true, true, true, false, false, false, false, false, false, false] rfl rfl (one_of HT_.out (by kernel_rfl)) (by decide) (fun K hK => ?_)
                                refine Kd.R_lit_step k37 _ 37 ?hg (N := 154) ?hd (xs := ([(⟨t189, (ji29), wrap64 (((rd_T34 (rd_L4 t191 t189) (ji29)).f1) + 1), wrap64 (((rd_T34 (rd_L4 t191 t189) (ji29)).f1) + 5)⟩ : S37)] : List (S37))) (inner := [.int .i64 t189, .int .i64 (ji29), .int .i64 (wrap64 (((rd_T34 (rd_L4 t191 t189) (ji29)).f1) + 1)), .int .i64 (wrap64 (((rd_T34 (rd_L4 t191 t189) (ji29)).f1) + 5))]) (ok := fun _ => True) (okp := fun _ => True) ?hr ?hp (fun _ hk => hk) trivial (Below.refl _ _) (Nat.le_refl _) (by simp) ?_; (case hd => rfl); (case hg => rfl); (case hr => first | (go_simp; done) | (go_simp; rfl)); (case hp => exact (Reps.c4 (show Kd.M k37 _ _ _ (⟨t189, (ji29), wrap64 (((rd_T34 (rd_L4 t191 t189) (ji29)).f1) + 1), wrap64 (((rd_T34 (rd_L4 t191 t189) (ji29)).f1) + 5)⟩ : S37) [.int .i64 t189, .int .i64 (ji29), .int .i64 (wrap64 (((rd_T34 (rd_L4 t191 t189) (ji29)).f1) + 1)), .int .i64 (wrap64 (((rd_T34 (rd_L4 t191 t189) (ji29)).f1) + 5))] from (k37_mkM _ _ _ (⟨t189, (ji29), wrap64 (((rd_T34 (rd_L4 t191 t189) (ji29)).f1) + 1), wrap64 (((rd_T34 (rd_L4 t191 t189) (ji29)).f1) + 5)⟩ : S37) )) (Reps.none _ _)))
                                intro v244 w102 ho103 hb hg_ hnew_
                                clear hg_ hnew_
                                (first | rw [← Ny243.out] at ho103 | (simp only [Int.reduceToNat] at ho103; rw [← Ny243.out] at ho103))
                                have n0_ := Aside0.mk (Kd.R_elder' (by (with_reducible repeat (first | apply Kd.R_alloc | apply Kd.R_drewN | apply Kd.R_drew)); exact HO_1.out) (Kd.R_base ho103) hb)
                                have n1_ := Aside0.mk (Kd.R_elder' (by (with_reducible repeat (first | apply Kd.R_alloc | apply Kd.R_drewN | apply Kd.R_drew)); exact HO242.out) (Kd.R_base ho103) hb)
                                have n2_ := Aside0.mk (Kd.R_lower (Kd.R_new' (Kd.R_new' ho103 (Kd.R_lt (by (with_reducible repeat (first | apply Kd.R_alloc | apply Kd.R_drewN | apply Kd.R_drew)); exact HO_1.out))) (Kd.R_lt (by (with_reducible repeat (first | apply Kd.R_alloc | apply Kd.R_drewN | apply Kd.R_drew)); exact HO242.out))) (below_size (by repeat (first | (with_reducible first | exact HB.out | apply below_alloc | apply pw_below_drewN | apply below_drew1 | refine below_set ?_ GE198.out) | exact HB.out))))
                                have n3_ := Aside0.mk (blk_below (g := gb198) (o := .cells #[.int .i64 ((rd_T34 (rd_L4 t191 t189) (ji29)).f0), .int .i64 ((rd_T34 (rd_L4 t191 t189) (ji29)).f1)] 34 (0, 0)) (grz_ BK198.out) hb)
                                have n4_ := Aside0.mk (below_step (by repeat (first | (with_reducible first | exact HB.out | apply below_alloc | apply pw_below_drewN | apply below_drew1 | refine below_set ?_ GE198.out) | exact HB.out)) hb)
                                clear HO_1
                                clear HO242
                                clear BK198
                                clear HB
                                have HO_1 := n0_
                                have HO242 := n1_
                                have HO245 := n2_
                                have BK198 := n3_
                                have HB := n4_
                                clear n0_ n1_ n2_ n3_ n4_
                                clear hb ho103
                                refine hK.out _ _ ⟨(blk_cell BK198.out 0).trans rfl, (blk_cell BK198.out 1).trans rfl⟩ (fun hHeld => ?_)
                                clear hK K
                                refine norm_ (a' := ?_) ?_ ?_
                                rotate_left
                                ·
                                 show Act.put _ (some 154) _ = _
                                 simp only [Act.put, List.setIfInBounds_toArray, List.set_cons_zero, List.set_cons_succ, i64_w, i32_w]
                                 rfl
                                exact norm_ (by simp only [putAll, Act.put, List.setIfInBounds_toArray, List.set_cons_zero, List.set_cons_succ]) (hCont (v238, v241, v244) _ ⟨hHeld, (by (with_reducible repeat (first | apply Kd.R_alloc | apply Kd.R_drewN | apply Kd.R_drew)); exact Kd.R_mono HO242.out (fun _ hk => by first | exact ⟨hk.2, hk.1⟩ | (repeat' (first | exact hk | exact hk.1 | exact hk.2 | exact hk.1.1 | exact hk.1.2 | exact hk.2.1 | exact hk.2.2 | exact hk.1.1.1 | exact hk.1.1.2 | exact hk.1.2.1 | exact hk.1.2.2 | exact True.intro | apply And.intro)))), (by (with_reducible repeat (first | apply Kd.R_alloc | apply Kd.R_drewN | apply Kd.R_drew)); exact Kd.R_mono HO245.out (fun _ hk => by first | exact ⟨hk.2, hk.1.2⟩ | (repeat' (first | exact hk | exact hk.1 | exact hk.2 | exact hk.1.1 | exact hk.1.2 | exact hk.2.1 | exact hk.2.2 | exact hk.1.1.1 | exact hk.1.1.2 | exact hk.1.2.1 | exact hk.1.2.2 | exact True.intro | apply And.intro)))), (by (with_reducible repeat (first | apply Kd.R_alloc | apply Kd.R_drewN | apply Kd.R_drew)); exact Kd.R_mono HO_1.out (fun _ hk => by first | exact ⟨hk.1.2, hk.2⟩ | (repeat' (first | exact hk | exact hk.1 | exact hk.2 | exact hk.1.1 | exact hk.1.2 | exact hk.2.1 | exact hk.2.2 | exact hk.1.1.1 | exact hk.1.1.2 | exact hk.1.2.1 | exact hk.1.2.2 | exact True.intro | apply And.intro)))), (grz_ BK198.out), (by repeat (first | (with_reducible first | exact HB.out | apply below_alloc | apply pw_below_drewN | apply below_drew1 | refine below_set ?_ GE198.out) | exact HB.out))⟩)
                               ·
                                skip
                                refine Kd.R_lit_step k37 _ 37 ?hg (N := 154) ?hd (xs := ([(⟨t189, (ji29), wrap64 (((rd_T34 (rd_L4 t191 t189) (ji29)).f1) + 1), wrap64 (((rd_T34 (rd_L4 t191 t189) (ji29)).f1) + 5)⟩ : S37)] : List (S37))) (inner := [.int .i64 t189, .int .i64 (ji29), .int .i64 (wrap64 (((rd_T34 (rd_L4 t191 t189) (ji29)).f1) + 1)), .int .i64 (wrap64 (((rd_T34 (rd_L4 t191 t189) (ji29)).f1) + 5))]) (ok := fun _ => True) (okp := fun _ => True) ?hr ?hp (fun _ hk => hk) trivial (Below.refl _ _) (Nat.le_refl _) (by simp) ?_; (case hd => rfl); (case hg => rfl); (case hr => first | (go_simp; done) | (go_simp; rfl)); (case hp => exact (Reps.c4 (show Kd.M k37 _ _ _ (⟨t189, (ji29), wrap64 (((rd_T34 (rd_L4 t191 t189) (ji29)).f1) + 1), wrap64 (((rd_T34 (rd_L4 t191 t189) (ji29)).f1) + 5)⟩ : S37) [.int .i64 t189, .int .i64 (ji29), .int .i64 (wrap64 (((rd_T34 (rd_L4 t191 t189) (ji29)).f1) + 1)), .int .i64 (wrap64 (((rd_T34 (rd_L4 t191 t189) (ji29)).f1) + 5))] from (k37_mkM _ _ _ (⟨t189, (ji29), wrap64 (((rd_T34 (rd_L4 t191 t189) (ji29)).f1) + 1), wrap64 (((rd_T34 (rd_L4 t191 t189) (ji29)).f1) + 5)⟩ : S37) )) (Reps.none _ _)))
                                intro v244 w101 ho102 hb hg_ hnew_
                                clear hg_ hnew_
                                (first | rw [← Ny243.out] at ho102 | (simp only [Int.reduceToNat] at ho102; rw [← Ny243.out] at ho102))
                                have n0_ := Aside0.mk (Kd.R_elder' (by (with_reducible repeat (first | apply Kd.R_alloc | apply Kd.R_drewN | apply Kd.R_drew)); exact HO_1.out) (Kd.R_base ho102) hb)
                                have n1_ := Aside0.mk (Kd.R_elder' (by (with_reducible repeat (first | apply Kd.R_alloc | apply Kd.R_drewN | apply Kd.R_drew)); exact HO239.out) (Kd.R_base ho102) hb)
                                have n2_ := Aside0.mk (Kd.R_lower (Kd.R_new' (Kd.R_new' ho102 (Kd.R_lt (by (with_reducible repeat (first | apply Kd.R_alloc | apply Kd.R_drewN | apply Kd.R_drew)); exact HO_1.out))) (Kd.R_lt (by (with_reducible repeat (first | apply Kd.R_alloc | apply Kd.R_drewN | apply Kd.R_drew)); exact HO239.out))) (below_size (by repeat (first | (with_reducible first | exact HB.out | apply below_alloc | apply pw_below_drewN | apply below_drew1 | refine below_set ?_ GE198.out) | exact HB.out))))
                                have n3_ := Aside0.mk (blk_below (g := gb198) (o := .cells #[.int .i64 ((rd_T34 (rd_L4 t191 t189) (ji29)).f0), .int .i64 ((rd_T34 (rd_L4 t191 t189) (ji29)).f1)] 34 (0, 0)) (grz_ BK198.out) hb)
                                have n4_ := Aside0.mk (below_step (by repeat (first | (with_reducible first | exact HB.out | apply below_alloc | apply pw_below_drewN | apply below_drew1 | refine below_set ?_ GE198.out) | exact HB.out)) hb)
                                clear HO_1
                                clear HO239
                                clear BK198
                                clear HB
                                have HO_1 := n0_
                                have HO239 := n1_
                                have HO245 := n2_
                                have BK198 := n3_
                                have HB := n4_
                                clear n0_ n1_ n2_ n3_ n4_
                                clear hb ho102
                                refine hK.out _ _ ⟨(blk_cell BK198.out 0).trans rfl, (blk_cell BK198.out 1).trans rfl⟩ (fun hHeld => ?_)
                                clear hK K
                                refine norm_ (a' := ?_) ?_ ?_
                                rotate_left
                                ·
                                 show Act.put _ (some 154) _ = _
                                 simp only [Act.put, List.setIfInBounds_toArray, List.set_cons_zero, List.set_cons_succ, i64_w, i32_w]
                                 rfl
                                refine one_ (i := 3) (N := some 144) #[true, true, true, true, true, true, true, true, true, true, true, true, true, true, false, false, false, false, false, false, false] rfl rfl (one_of HT_.out (by kernel_rfl)) (by decide) (fun K hK => ?_)
                                refine Kd.R_append_rows_step k37 (w0 := w) w.heap.size (by rfl) (.tmp 142) (.tmp 143) 23 37 (.agg #[(.int .i64 0), (.int .i64 0), (.int .i64 0), (.int .i64 0)]) 32 rfl Try.underlying23 info37 rfl (by decide) (by omega) v238 y237 t186 _ _ _ (fun k_ => some k_ ≠ (.slice Ao18 t186.length co18 : Value).ownBlock ∧ some k_ ≠ (v244 : Value).ownBlock) (fun _ => False) rfl rfl ?aO ?aR (fun _ _ h => h) (fun _ h => h.elim) ?aF ?aB ?aS ?aL ?_
                                (case aR => repeat (first | exact (Kd.R_reads' HO_1.out).2.2 | (with_reducible refine Kd.C_alloc ?_ _) | (with_reducible refine Kd.C_drewN ?_ _) | (with_reducible refine Kd.C_drew ?_)))
                                (case aB => exact (by repeat (first | (with_reducible first | exact HB.out | apply below_alloc | apply pw_below_drewN | apply below_drew1 | refine below_set ?_ GE198.out) | exact HB.out)))
                                (case aF => exact (fun k_ hk => ⟨Kd.fresh' (Kd.R_lt (by (with_reducible repeat (first | apply Kd.R_alloc | apply Kd.R_drewN | apply Kd.R_drew)); exact HO_1.out)) k_ hk, Kd.fresh' (Kd.R_lt (by (with_reducible repeat (first | apply Kd.R_alloc | apply Kd.R_drewN | apply Kd.R_drew)); exact HO245.out)) k_ hk⟩))
                                (case aO => exact (by (with_reducible repeat (first | apply Kd.R_alloc | apply Kd.R_drewN | apply Kd.R_drew)); exact Kd.R_mono HO239.out (fun _ hk => by first | exact ⟨hk.1.2, hk.2⟩ | (repeat' (first | exact hk | exact hk.1 | exact hk.2 | exact hk.1.1 | exact hk.1.2 | exact hk.2.1 | exact hk.2.2 | exact hk.1.1.1 | exact hk.1.1.2 | exact hk.1.2.1 | exact hk.1.2.2 | exact True.intro | apply And.intro)))))
                                (case aS => exact (below_size (by repeat (first | (with_reducible first | exact HB.out | apply below_alloc | apply pw_below_drewN | apply below_drew1 | refine below_set ?_ GE198.out) | exact HB.out))))
                                (case aL => have := LMc91.out; omega)
                                intro v241 w103 ho hb hg hat
                                rw [← Ny240.out] at ho
                                have n0_ := Aside0.mk (Kd.R_after (ok := (fun k_ => some k_ ≠ (v244 : Value).ownBlock)) (by (with_reducible repeat (first | apply Kd.R_alloc | apply Kd.R_drewN | apply Kd.R_drew)); exact Kd.R_mono HO_1.out (fun _ hk => by first | exact ⟨hk.2, hk.1.2⟩ | (repeat' (first | exact hk | exact hk.1 | exact hk.2 | exact hk.1.1 | exact hk.1.2 | exact hk.2.1 | exact hk.2.2 | exact hk.1.1.1 | exact hk.1.1.2 | exact hk.1.2.1 | exact hk.1.2.2 | exact True.intro | apply And.intro)))) hg hat)
                                have n1_ := Aside0.mk (blk_grown (g := gb198) (o := .cells #[.int .i64 ((rd_T34 (rd_L4 t191 t189) (ji29)).f0), .int .i64 ((rd_T34 (rd_L4 t191 t189) (ji29)).f1)] 34 (0, 0)) (grz_ BK198.out) hg (Kd.R_ne HO239.out BK198.out (by decide)))
                                have n2_ := Aside0.mk (Kd.R_after (ok := (fun k_ => some k_ ≠ (.slice Ao18 t186.length co18 : Value).ownBlock)) (by (with_reducible repeat (first | apply Kd.R_alloc | apply Kd.R_drewN | apply Kd.R_drew)); exact Kd.R_mono HO245.out (fun _ hk => by first | exact ⟨hk.1.2, hk.2⟩ | (repeat' (first | exact hk | exact hk.1 | exact hk.2 | exact hk.1.1 | exact hk.1.2 | exact hk.2.1 | exact hk.2.2 | exact hk.1.1.1 | exact hk.1.1.2 | exact hk.1.2.1 | exact hk.1.2.2 | exact True.intro | apply And.intro)))) hg hat)
                                have n3_ := Aside0.mk (hb)
                                have n4_ := Aside0.mk (ho)
                                clear HO_1
                                clear BK198
                                clear HO245
                                clear HB
                                clear HO239
                                have HO_1 := n0_
                                have BK198 := n1_
                                have HO245 := n2_
                                have HB := n3_
                                have HO242 := n4_
                                clear n0_ n1_ n2_ n3_ n4_
                                clear ho hb hg hat
                                refine hK.out _ _ ⟨(blk_cell BK198.out 0).trans rfl, (blk_cell BK198.out 1).trans rfl⟩ (fun hHeld => ?_)
                                clear hK K
                                refine norm_ (a' := ?_) ?_ ?_
                                rotate_left
                                ·
                                 show Act.put _ (some 144) _ = _
                                 simp only [Act.put, List.setIfInBounds_toArray, List.set_cons_zero, List.set_cons_succ, i64_w, i32_w]
                                 rfl
                                exact norm_ (by simp only [putAll, Act.put, List.setIfInBounds_toArray, List.set_cons_zero, List.set_cons_succ]) (hCont (v238, v241, v244) _ ⟨hHeld, (by (with_reducible repeat (first | apply Kd.R_alloc | apply Kd.R_drewN | apply Kd.R_drew)); exact Kd.R_mono HO242.out (fun _ hk => by first | exact ⟨hk.2, hk.1⟩ | (repeat' (first | exact hk | exact hk.1 | exact hk.2 | exact hk.1.1 | exact hk.1.2 | exact hk.2.1 | exact hk.2.2 | exact hk.1.1.1 | exact hk.1.1.2 | exact hk.1.2.1 | exact hk.1.2.2 | exact True.intro | apply And.intro)))), (by (with_reducible repeat (first | apply Kd.R_alloc | apply Kd.R_drewN | apply Kd.R_drew)); exact Kd.R_mono HO245.out (fun _ hk => by first | exact ⟨hk.2, hk.1⟩ | (repeat' (first | exact hk | exact hk.1 | exact hk.2 | exact hk.1.1 | exact hk.1.2 | exact hk.2.1 | exact hk.2.2 | exact hk.1.1.1 | exact hk.1.1.2 | exact hk.1.2.1 | exact hk.1.2.2 | exact True.intro | apply And.intro)))), (by (with_reducible repeat (first | apply Kd.R_alloc | apply Kd.R_drewN | apply Kd.R_drew)); exact Kd.R_mono HO_1.out (fun _ hk => by first | exact ⟨hk.2, hk.1⟩ | (repeat' (first | exact hk | exact hk.1 | exact hk.2 | exact hk.1.1 | exact hk.1.2 | exact hk.2.1 | exact hk.2.2 | exact hk.1.1.1 | exact hk.1.1.2 | exact hk.1.2.1 | exact hk.1.2.2 | exact True.intro | apply And.intro)))), (grz_ BK198.out), (by repeat (first | (with_reducible first | exact HB.out | apply below_alloc | apply pw_below_drewN | apply below_drew1 | refine below_set ?_ GE198.out) | exact HB.out))⟩)
                              ·
                               skip
                               refine Kd.R_lit_step k37 _ 37 ?hg (N := 154) ?hd (xs := ([(⟨t189, (ji29), wrap64 (((rd_T34 (rd_L4 t191 t189) (ji29)).f1) + 1), wrap64 (((rd_T34 (rd_L4 t191 t189) (ji29)).f1) + 5)⟩ : S37)] : List (S37))) (inner := [.int .i64 t189, .int .i64 (ji29), .int .i64 (wrap64 (((rd_T34 (rd_L4 t191 t189) (ji29)).f1) + 1)), .int .i64 (wrap64 (((rd_T34 (rd_L4 t191 t189) (ji29)).f1) + 5))]) (ok := fun _ => True) (okp := fun _ => True) ?hr ?hp (fun _ hk => hk) trivial (Below.refl _ _) (Nat.le_refl _) (by simp) ?_; (case hd => rfl); (case hg => rfl); (case hr => first | (go_simp; done) | (go_simp; rfl)); (case hp => exact (Reps.c4 (show Kd.M k37 _ _ _ (⟨t189, (ji29), wrap64 (((rd_T34 (rd_L4 t191 t189) (ji29)).f1) + 1), wrap64 (((rd_T34 (rd_L4 t191 t189) (ji29)).f1) + 5)⟩ : S37) [.int .i64 t189, .int .i64 (ji29), .int .i64 (wrap64 (((rd_T34 (rd_L4 t191 t189) (ji29)).f1) + 1)), .int .i64 (wrap64 (((rd_T34 (rd_L4 t191 t189) (ji29)).f1) + 5))] from (k37_mkM _ _ _ (⟨t189, (ji29), wrap64 (((rd_T34 (rd_L4 t191 t189) (ji29)).f1) + 1), wrap64 (((rd_T34 (rd_L4 t191 t189) (ji29)).f1) + 5)⟩ : S37) )) (Reps.none _ _)))
                               intro v244 w99 ho100 hb hg_ hnew_
                               clear hg_ hnew_
                               (first | rw [← Ny243.out] at ho100 | (simp only [Int.reduceToNat] at ho100; rw [← Ny243.out] at ho100))
                               have n0_ := Aside0.mk (Kd.R_elder' (by (with_reducible repeat (first | apply Kd.R_alloc | apply Kd.R_drewN | apply Kd.R_drew)); exact HO_1.out) (Kd.R_base ho100) hb)
                               have n1_ := Aside0.mk (Kd.R_lower (Kd.R_new' ho100 (Kd.R_lt (by (with_reducible repeat (first | apply Kd.R_alloc | apply Kd.R_drewN | apply Kd.R_drew)); exact HO_1.out))) (below_size (by repeat (first | (with_reducible first | exact HB.out | apply below_alloc | apply pw_below_drewN | apply below_drew1 | refine below_set ?_ GE198.out) | exact HB.out))))
                               have n2_ := Aside0.mk (blk_below (g := gb198) (o := .cells #[.int .i64 ((rd_T34 (rd_L4 t191 t189) (ji29)).f0), .int .i64 ((rd_T34 (rd_L4 t191 t189) (ji29)).f1)] 34 (0, 0)) (grz_ BK198.out) hb)
                               have n3_ := Aside0.mk (below_step (by repeat (first | (with_reducible first | exact HB.out | apply below_alloc | apply pw_below_drewN | apply below_drew1 | refine below_set ?_ GE198.out) | exact HB.out)) hb)
                               clear HO_1
                               clear BK198
                               clear HB
                               have HO_1 := n0_
                               have HO245 := n1_
                               have BK198 := n2_
                               have HB := n3_
                               clear n0_ n1_ n2_ n3_
                               clear hb ho100
                               refine hK.out _ _ ⟨(blk_cell BK198.out 0).trans rfl, (blk_cell BK198.out 1).trans rfl⟩ (fun hHeld => ?_)
                               clear hK K
                               refine norm_ (a' := ?_) ?_ ?_
                               rotate_left
                               ·
                                show Act.put _ (some 154) _ = _
                                simp only [Act.put, List.setIfInBounds_toArray, List.set_cons_zero, List.set_cons_succ, i64_w, i32_w]
                                rfl
                               refine one_ (i := 1) (N := some 142) #[true, true, true, false, true, true, true, true, true, true, true, true, true, true, false, false, false, false, false, false, false] rfl rfl (one_of HT_.out (by kernel_rfl)) (by decide) (fun K hK => ?_)
                               refine Kd.R_lit_step k37 _ 37 ?hg (N := 142) ?hd (xs := ([] : List (S37))) (inner := []) (ok := fun _ => True) (okp := fun _ => True) ?hr ?hp (fun _ hk => hk) trivial (Below.refl _ _) (Nat.le_refl _) (by simp) ?_; (case hd => rfl); (case hg => rfl); (case hr => first | (go_simp; done) | (go_simp; rfl)); (case hp => exact (Reps.none _ _))
                               intro v238 w101 ho102 hb hg_ hnew_
                               clear hg_ hnew_
                               (first | rw [← Ny237.out] at ho102 | (simp only [Int.reduceToNat] at ho102; rw [← Ny237.out] at ho102))
                               have n0_ := Aside0.mk (Kd.R_elder' (by (with_reducible repeat (first | apply Kd.R_alloc | apply Kd.R_drewN | apply Kd.R_drew)); exact HO_1.out) (Kd.R_base ho102) hb)
                               have n1_ := Aside0.mk (Kd.R_elder' (by (with_reducible repeat (first | apply Kd.R_alloc | apply Kd.R_drewN | apply Kd.R_drew)); exact HO245.out) (Kd.R_base ho102) hb)
                               have n2_ := Aside0.mk (Kd.R_lower (Kd.R_new' (Kd.R_new' ho102 (Kd.R_lt (by (with_reducible repeat (first | apply Kd.R_alloc | apply Kd.R_drewN | apply Kd.R_drew)); exact HO_1.out))) (Kd.R_lt (by (with_reducible repeat (first | apply Kd.R_alloc | apply Kd.R_drewN | apply Kd.R_drew)); exact HO245.out))) (below_size (by repeat (first | (with_reducible first | exact HB.out | apply below_alloc | apply pw_below_drewN | apply below_drew1 | refine below_set ?_ GE198.out) | exact HB.out))))
                               have n3_ := Aside0.mk (blk_below (g := gb198) (o := .cells #[.int .i64 ((rd_T34 (rd_L4 t191 t189) (ji29)).f0), .int .i64 ((rd_T34 (rd_L4 t191 t189) (ji29)).f1)] 34 (0, 0)) (grz_ BK198.out) hb)
                               have n4_ := Aside0.mk (below_step (by repeat (first | (with_reducible first | exact HB.out | apply below_alloc | apply pw_below_drewN | apply below_drew1 | refine below_set ?_ GE198.out) | exact HB.out)) hb)
                               clear HO_1
                               clear HO245
                               clear BK198
                               clear HB
                               have HO_1 := n0_
                               have HO245 := n1_
                               have HO239 := n2_
                               have BK198 := n3_
                               have HB := n4_
                               clear n0_ n1_ n2_ n3_ n4_
                               clear hb ho102
                               refine hK.out _ _ ⟨(blk_cell BK198.out 0).trans rfl, (blk_cell BK198.out 1).trans rfl⟩ (fun hHeld => ?_)
                               clear hK K
                               refine norm_ (a' := ?_) ?_ ?_
                               rotate_left
                               ·
                                show Act.put _ (some 142) _ = _
                                simp only [Act.put, List.setIfInBounds_toArray, List.set_cons_zero, List.set_cons_succ, i64_w, i32_w]
                                rfl
                               refine one_ (i := 3) (N := some 144) #[true, true, true, true, true, true, true, true, true, true, true, true, true, true, false, false, false, false, false, false, false] rfl rfl (one_of HT_.out (by kernel_rfl)) (by decide) (fun K hK => ?_)
                               refine Kd.R_append_rows_step k37 (w0 := w) w.heap.size (by rfl) (.tmp 142) (.tmp 143) 23 37 (.agg #[(.int .i64 0), (.int .i64 0), (.int .i64 0), (.int .i64 0)]) 32 rfl Try.underlying23 info37 rfl (by decide) (by omega) v238 y237 t186 _ _ _ (fun k_ => some k_ ≠ (.slice Ao18 t186.length co18 : Value).ownBlock ∧ some k_ ≠ (v244 : Value).ownBlock) (fun _ => False) rfl rfl ?aO ?aR (fun _ _ h => h) (fun _ h => h.elim) ?aF ?aB ?aS ?aL ?_
                               (case aR => repeat (first | exact (Kd.R_reads' HO_1.out).2.2 | (with_reducible refine Kd.C_alloc ?_ _) | (with_reducible refine Kd.C_drewN ?_ _) | (with_reducible refine Kd.C_drew ?_)))
                               (case aB => exact (by repeat (first | (with_reducible first | exact HB.out | apply below_alloc | apply pw_below_drewN | apply below_drew1 | refine below_set ?_ GE198.out) | exact HB.out)))
                               (case aF => exact (fun k_ hk => ⟨Kd.fresh' (Kd.R_lt (by (with_reducible repeat (first | apply Kd.R_alloc | apply Kd.R_drewN | apply Kd.R_drew)); exact HO_1.out)) k_ hk, Kd.fresh' (Kd.R_lt (by (with_reducible repeat (first | apply Kd.R_alloc | apply Kd.R_drewN | apply Kd.R_drew)); exact HO245.out)) k_ hk⟩))
                               (case aO => exact (by (with_reducible repeat (first | apply Kd.R_alloc | apply Kd.R_drewN | apply Kd.R_drew)); exact Kd.R_mono HO239.out (fun _ hk => by first | exact ⟨hk.1.2, hk.2⟩ | (repeat' (first | exact hk | exact hk.1 | exact hk.2 | exact hk.1.1 | exact hk.1.2 | exact hk.2.1 | exact hk.2.2 | exact hk.1.1.1 | exact hk.1.1.2 | exact hk.1.2.1 | exact hk.1.2.2 | exact True.intro | apply And.intro)))))
                               (case aS => exact (below_size (by repeat (first | (with_reducible first | exact HB.out | apply below_alloc | apply pw_below_drewN | apply below_drew1 | refine below_set ?_ GE198.out) | exact HB.out))))
                               (case aL => have := LMc91.out; omega)
                               intro v241 w103 ho hb hg hat
                               rw [← Ny240.out] at ho
                               have n0_ := Aside0.mk (Kd.R_after (ok := (fun k_ => some k_ ≠ (v244 : Value).ownBlock)) (by (with_reducible repeat (first | apply Kd.R_alloc | apply Kd.R_drewN | apply Kd.R_drew)); exact Kd.R_mono HO_1.out (fun _ hk => by first | exact ⟨hk.1.2, hk.2⟩ | (repeat' (first | exact hk | exact hk.1 | exact hk.2 | exact hk.1.1 | exact hk.1.2 | exact hk.2.1 | exact hk.2.2 | exact hk.1.1.1 | exact hk.1.1.2 | exact hk.1.2.1 | exact hk.1.2.2 | exact True.intro | apply And.intro)))) hg hat)
                               have n1_ := Aside0.mk (blk_grown (g := gb198) (o := .cells #[.int .i64 ((rd_T34 (rd_L4 t191 t189) (ji29)).f0), .int .i64 ((rd_T34 (rd_L4 t191 t189) (ji29)).f1)] 34 (0, 0)) (grz_ BK198.out) hg (Kd.R_ne HO239.out BK198.out (by decide)))
                               have n2_ := Aside0.mk (Kd.R_after (ok := (fun k_ => some k_ ≠ (.slice Ao18 t186.length co18 : Value).ownBlock)) (by (with_reducible repeat (first | apply Kd.R_alloc | apply Kd.R_drewN | apply Kd.R_drew)); exact Kd.R_mono HO245.out (fun _ hk => by first | exact ⟨hk.1.2, hk.2⟩ | (repeat' (first | exact hk | exact hk.1 | exact hk.2 | exact hk.1.1 | exact hk.1.2 | exact hk.2.1 | exact hk.2.2 | exact hk.1.1.1 | exact hk.1.1.2 | exact hk.1.2.1 | exact hk.1.2.2 | exact True.intro | apply And.intro)))) hg hat)
                               have n3_ := Aside0.mk (hb)
                               have n4_ := Aside0.mk (ho)
                               clear HO_1
                               clear BK198
                               clear HO245
                               clear HB
                               clear HO239
                               have HO_1 := n0_
                               have BK198 := n1_
                               have HO245 := n2_
                               have HB := n3_
                               have HO242 := n4_
                               clear n0_ n1_ n2_ n3_ n4_
                               clear ho hb hg hat
                               refine hK.out _ _ ⟨(blk_cell BK198.out 0).trans rfl, (blk_cell BK198.out 1).trans rfl⟩ (fun hHeld => ?_)
                               clear hK K
                               refine norm_ (a' := ?_) ?_ ?_
                               rotate_left
                               ·
                                show Act.put _ (some 144) _ = _
                                simp only [Act.put, List.setIfInBounds_toArray, List.set_cons_zero, List.set_cons_succ, i64_w, i32_w]
                                rfl
                               exact norm_ (by simp only [putAll, Act.put, List.setIfInBounds_toArray, List.set_cons_zero, List.set_cons_succ]) (hCont (v238, v241, v244) _ ⟨hHeld, (by (with_reducible repeat (first | apply Kd.R_alloc | apply Kd.R_drewN | apply Kd.R_drew)); exact Kd.R_mono HO242.out (fun _ hk => by first | exact ⟨hk.2, hk.1⟩ | (repeat' (first | exact hk | exact hk.1 | exact hk.2 | exact hk.1.1 | exact hk.1.2 | exact hk.2.1 | exact hk.2.2 | exact hk.1.1.1 | exact hk.1.1.2 | exact hk.1.2.1 | exact hk.1.2.2 | exact True.intro | apply And.intro)))), (by (with_reducible repeat (first | apply Kd.R_alloc | apply Kd.R_drewN | apply Kd.R_drew)); exact Kd.R_mono HO245.out (fun _ hk => by first | exact ⟨hk.2, hk.1⟩ | (repeat' (first | exact hk | exact hk.1 | exact hk.2 | exact hk.1.1 | exact hk.1.2 | exact hk.2.1 | exact hk.2.2 | exact hk.1.1.1 | exact hk.1.1.2 | exact hk.1.2.1 | exact hk.1.2.2 | exact True.intro | apply And.intro)))), (by (with_reducible repeat (first | apply Kd.R_alloc | apply Kd.R_drewN | apply Kd.R_drew)); exact Kd.R_mono HO_1.out (fun _ hk => by first | exact ⟨hk.2, hk.1⟩ | (repeat' (first | exact hk | exact hk.1 | exact hk.2 | exact hk.1.1 | exact hk.1.2 | exact hk.2.1 | exact hk.2.2 | exact hk.1.1.1 | exact hk.1.1.2 | exact hk.1.2.1 | exact hk.1.2.2 | exact True.intro | apply And.intro)))), (grz_ BK198.out), (by repeat (first | (with_reducible first | exact HB.out | apply below_alloc | apply pw_below_drewN | apply below_drew1 | refine below_set ?_ GE198.out) | exact HB.out))⟩)
                             rintro ⟨v238, v241, v244⟩ w104 ⟨hS_, h0_, h1_, h2_, h3_, h4_⟩
                             have HO242 : Aside0 (Kd.R k37 37 w104 w.heap.size (fun k_ => some k_ ≠ (v244 : Value).ownBlock ∧ some k_ ≠ (.slice Ao18 t186.length co18 : Value).ownBlock) v241 y240) := ⟨h0_⟩
                             have HO245 : Aside0 (Kd.R k37 37 w104 w.heap.size (fun k_ => some k_ ≠ (v241 : Value).ownBlock ∧ some k_ ≠ (.slice Ao18 t186.length co18 : Value).ownBlock) v244 y243) := ⟨h1_⟩
                             replace HO_1 : Aside0 (Kd.R k37 37 w104 w.heap.size (fun k_ => some k_ ≠ (v241 : Value).ownBlock ∧ some k_ ≠ (v244 : Value).ownBlock) (.slice Ao18 t186.length co18) t186) := ⟨h2_⟩
                             replace BK198 : Aside0 (w104.heap[gb198]? = some (.cells #[.int .i64 ((rd_T34 (rd_L4 t191 t189) (ji29)).f0), .int .i64 ((rd_T34 (rd_L4 t191 t189) (ji29)).f1)] 34 (0, 0))) := ⟨h3_⟩
                             replace HB : Aside0 (Below w.heap.size w w104) := ⟨h4_⟩
                             clear h0_ h1_ h2_ h3_ h4_
                             have hHeld : w104.cell? ⟨gb198, 0, none⟩ = some (.int .i64 ((rd_T34 (rd_L4 t191 t189) (ji29)).f0)) ∧ w104.cell? ⟨gb198, 1, none⟩ = some (.int .i64 ((rd_T34 (rd_L4 t191 t189) (ji29)).f1)) := hS_
                             obtain ⟨Ao106, co106, eo106⟩ := Kd.R_slice HO245.out
                             (first | subst eo106 | (injection eo106 with f1_ f2_ f3_; have f4_ := f1_.symm; have f5_ := f3_.symm; clear f1_ f2_ f3_; subst f4_; subst f5_))
                             refine norm_ (a' := ?_) ?_ ?_
                             rotate_left
                             ·
                              simp only [putAll, Act.put, List.setIfInBounds_toArray, List.set_cons_zero, List.set_cons_succ]
                              rfl
                             refine one_ (i := 14) (N := some 155) #[true, true, true, true, true, true, true, true, true, true, true, true, true, true, true, false, false, false, false, false, false] rfl rfl (one_of HT_.out (by kernel_rfl)) (by decide) (fun K hK => ?_)
                             refine Kd.R_append_rows_step k37 (w0 := w) w.heap.size (by rfl) (.tmp 144) (.tmp 154) 23 37 (.agg #[(.int .i64 0), (.int .i64 0), (.int .i64 0), (.int .i64 0)]) 32 rfl Try.underlying23 info37 rfl (by decide) (by omega) v241 y240 y243 _ _ _ (fun k_ => some k_ ≠ (.slice Ao18 t186.length co18 : Value).ownBlock ∧ some k_ ≠ (.slice Ao106 y243.length co106 : Value).ownBlock) (fun _ => False) rfl rfl ?aO ?aR (fun _ _ h => h) (fun _ h => h.elim) ?aF ?aB ?aS ?aL ?_
                             (case aR => repeat (first | exact (Kd.R_reads' HO245.out).2.2 | (with_reducible refine Kd.C_alloc ?_ _) | (with_reducible refine Kd.C_drewN ?_ _) | (with_reducible refine Kd.C_drew ?_)))
                             (case aB => exact (by repeat (first | (with_reducible first | exact HB.out | apply below_alloc | apply pw_below_drewN | apply below_drew1 | refine below_set ?_ GE198.out) | exact HB.out)))
                             (case aF => exact (fun k_ hk => ⟨Kd.fresh' (Kd.R_lt (by (with_reducible repeat (first | apply Kd.R_alloc | apply Kd.R_drewN | apply Kd.R_drew)); exact HO_1.out)) k_ hk, Kd.fresh' (Kd.R_lt (by (with_reducible repeat (first | apply Kd.R_alloc | apply Kd.R_drewN | apply Kd.R_drew)); exact HO245.out)) k_ hk⟩))
                             (case aO => exact (by (with_reducible repeat (first | apply Kd.R_alloc | apply Kd.R_drewN | apply Kd.R_drew)); exact Kd.R_mono HO242.out (fun _ hk => by first | exact ⟨hk.2, hk.1⟩ | (repeat' (first | exact hk | exact hk.1 | exact hk.2 | exact hk.1.1 | exact hk.1.2 | exact hk.2.1 | exact hk.2.2 | exact hk.1.1.1 | exact hk.1.1.2 | exact hk.1.2.1 | exact hk.1.2.2 | exact True.intro | apply And.intro)))))
                             (case aS => exact (below_size (by repeat (first | (with_reducible first | exact HB.out | apply below_alloc | apply pw_below_drewN | apply below_drew1 | refine below_set ?_ GE198.out) | exact HB.out))))
                             (case aL => have := LMc92.out; omega)
                             intro v247 w105 ho hb hg hat
                             rw [← Ny246.out] at ho
                             have n0_ := Aside0.mk (Kd.R_after (ok := (fun k_ => some k_ ≠ (.slice Ao106 y243.length co106 : Value).ownBlock)) (by (with_reducible repeat (first | apply Kd.R_alloc | apply Kd.R_drewN | apply Kd.R_drew)); exact Kd.R_mono HO_1.out (fun _ hk => by first | exact ⟨hk.2, hk.1⟩ | (repeat' (first | exact hk | exact hk.1 | exact hk.2 | exact hk.1.1 | exact hk.1.2 | exact hk.2.1 | exact hk.2.2 | exact hk.1.1.1 | exact hk.1.1.2 | exact hk.1.2.1 | exact hk.1.2.2 | exact True.intro | apply And.intro)))) hg hat)
                             have n1_ := Aside0.mk (blk_grown (g := gb198) (o := .cells #[.int .i64 ((rd_T34 (rd_L4 t191 t189) (ji29)).f0), .int .i64 ((rd_T34 (rd_L4 t191 t189) (ji29)).f1)] 34 (0, 0)) (grz_ BK198.out) hg (Kd.R_ne HO242.out BK198.out (by decide)))
                             have n2_ := Aside0.mk (Kd.R_after (ok := (fun k_ => some k_ ≠ (.slice Ao18 t186.length co18 : Value).ownBlock)) (by (with_reducible repeat (first | apply Kd.R_alloc | apply Kd.R_drewN | apply Kd.R_drew)); exact Kd.R_mono HO245.out (fun _ hk => by first | exact ⟨hk.2, hk.1⟩ | (repeat' (first | exact hk | exact hk.1 | exact hk.2 | exact hk.1.1 | exact hk.1.2 | exact hk.2.1 | exact hk.2.2 | exact hk.1.1.1 | exact hk.1.1.2 | exact hk.1.2.1 | exact hk.1.2.2 | exact True.intro | apply And.intro)))) hg hat)
                             have n3_ := Aside0.mk (hb)
                             have n4_ := Aside0.mk (ho)
                             clear HO_1
                             clear BK198
                             clear HO245
                             clear HB
                             clear HO242
                             have HO_1 := n0_
                             have BK198 := n1_
                             have HO245 := n2_
                             have HB := n3_
                             have HO248 := n4_
                             clear n0_ n1_ n2_ n3_ n4_
                             clear ho hb hg hat
                             obtain ⟨Ao107, co107, eo107⟩ := Kd.R_slice HO248.out
                             (first | subst eo107 | (injection eo107 with f1_ f2_ f3_; have f4_ := f1_.symm; have f5_ := f3_.symm; clear f1_ f2_ f3_; subst f4_; subst f5_))
                             refine hK.out _ _ ⟨(blk_cell BK198.out 0).trans rfl, (blk_cell BK198.out 1).trans rfl⟩ (fun hHeld => ?_)
                             clear hK K
                             refine norm_ (a' := ?_) ?_ ?_
                             rotate_left
                             ·
                              show Act.put _ (some 155) _ = _
                              simp only [Act.put, List.setIfInBounds_toArray, List.set_cons_zero, List.set_cons_succ, i64_w, i32_w]
                              rfl
                             refine one_ (i := 15) (N := some 156) #[true, true, true, true, true, true, true, true, true, true, true, true, true, true, true, true, false, false, false, false, false] rfl rfl (one_of HT_.out (by kernel_rfl)) (by decide) (fun K hK => ?_)
                             refine goes_ Try.func9 (by kernel_rfl) rfl #[.int .i64 t185, .slice Ao107 y246.length co107] (by rfl) rfl rfl (by (try simp only [List.map_toArray, List.map_cons, List.map_nil]); first | done | rfl | (simp only [List.length_drop, List.length_take]; rfl)) ?_
                             with_reducible refine (chron_Tightest.calls kj68 t185 _ _ y246 t249 t250 _ ?side1 ?side2 A93.out).mono ?_
                             (case side1 => repeat (first | exact (Kd.R_reads' HO248.out).2.2 | (with_reducible refine Kd.C_alloc ?_ _) | (with_reducible refine Kd.C_drewN ?_ _) | (with_reducible refine Kd.C_drew ?_)))
                             (case side2 => exact (Kd.R_reads' HO248.out).2.1)
                             rintro e w108 ⟨v251, rfl, ho0, hb⟩
                             refine ⟨_, rfl, ?_⟩
                             have n0_ := Aside0.mk (Kd.R_below (by (with_reducible repeat (first | apply Kd.R_alloc | apply Kd.R_drewN | apply Kd.R_drew)); exact HO_1.out) hb)
                             have n1_ := Aside0.mk (Kd.R_below (by (with_reducible repeat (first | apply Kd.R_alloc | apply Kd.R_drewN | apply Kd.R_drew)); exact HO245.out) hb)
                             have n2_ := Aside0.mk (Kd.R_below (by (with_reducible repeat (first | apply Kd.R_alloc | apply Kd.R_drewN | apply Kd.R_drew)); exact HO248.out) hb)
                             have n3_ := Aside0.mk (Kd.S_lower (Kd.S_newB ho0 (g := gb198) (o := .cells #[.int .i64 ((rd_T34 (rd_L4 t191 t189) (ji29)).f0), .int .i64 ((rd_T34 (rd_L4 t191 t189) (ji29)).f1)] 34 (0, 0)) (grz_ BK198.out)) (below_size (by repeat (first | (with_reducible first | exact HB.out | apply below_alloc | apply pw_below_drewN | apply below_drew1 | refine below_set ?_ GE198.out) | exact HB.out))))
                             have n4_ := Aside0.mk (blk_below (g := gb198) (o := .cells #[.int .i64 ((rd_T34 (rd_L4 t191 t189) (ji29)).f0), .int .i64 ((rd_T34 (rd_L4 t191 t189) (ji29)).f1)] 34 (0, 0)) (grz_ BK198.out) hb)
                             have n5_ := Aside0.mk (below_step (by repeat (first | (with_reducible first | exact HB.out | apply below_alloc | apply pw_below_drewN | apply below_drew1 | refine below_set ?_ GE198.out) | exact HB.out)) hb)
                             clear HO_1
                             clear HO245
                             clear HO248
                             clear BK198
                             clear HB
                             have HO_1 := n0_
                             have HO245 := n1_
                             have HO248 := n2_
                             have HO252 := n3_
                             have BK198 := n4_
                             have HB := n5_
                             clear n0_ n1_ n2_ n3_ n4_ n5_
                             (try clear hb)
                             (try clear hb2)
                             (try clear hk)
                             (try clear hi)
                             (try clear ho0)
                             refine hK.out _ _ ⟨(blk_cell BK198.out 0).trans rfl, (blk_cell BK198.out 1).trans rfl⟩ (fun hHeld => ?_)
                             clear hK K
                             refine norm_ (a' := ?_) ?_ ?_
                             rotate_left
                             ·
                              show Act.put _ (some 156) _ = _
                              simp only [Act.put, List.setIfInBounds_toArray, List.set_cons_zero, List.set_cons_succ, i64_w, i32_w]
                              rfl
                             refine pure_ (i := 16) (N := some 140) (v := ?_) (a' := ?_) #[true, true, true, true, true, true, true, true, true, true, true, true, true, true, true, true, true, false, false, false, false] rfl rfl (any_of HT_.out (by kernel_rfl)) (fun _ _ _ h => h) (Or.inl ⟨by rfl, ?_⟩) ?_ ?_
                             rotate_left
                             ·
                              intro w'
                              go_simp
                              with_reducible rfl
                             rotate_left
                             ·
                              simp only [Act.put, List.setIfInBounds_toArray, List.set_cons_zero, List.set_cons_succ, i64_w, i32_w]
                              rfl
                             refine pure_ (i := 17) (N := some 157) (v := ?_) (a' := ?_) #[true, true, true, true, true, true, true, true, true, true, true, true, true, true, true, true, true, true, false, false, false] rfl rfl (any_of HT_.out (by kernel_rfl)) (fun _ _ _ h => h) (Or.inl ⟨by rfl, ?_⟩) ?_ ?_
                             rotate_left
                             ·
                              intro w'
                              go_simp
                              with_reducible rfl
                             rotate_left
                             ·
                              simp only [Act.put, List.setIfInBounds_toArray, List.set_cons_zero, List.set_cons_succ, i64_w, i32_w]
                              rfl
                             refine pure_ (i := 18) (N := some 158) (v := ?_) (a' := ?_) #[true, true, true, true, true, true, true, true, true, true, true, true, true, true, true, true, true, true, true, false, false] rfl rfl (any_of HT_.out (by kernel_rfl)) (fun _ _ _ h => h) (Or.inl ⟨by rfl, ?_⟩) ?_ ?_
                             rotate_left
                             ·
                              intro w'
                              go_simp
                              with_reducible rfl
                             rotate_left
                             ·
                              simp only [Act.put, List.setIfInBounds_toArray, List.set_cons_zero, List.set_cons_succ, i64_w, i32_w]
                              rfl
                             refine pure_ (i := 19) (N := some 17) (v := ?_) (a' := ?_) #[true, true, true, true, true, true, true, true, true, true, true, true, true, true, true, true, true, true, true, true, false] rfl rfl (any_of HT_.out (by kernel_rfl)) (fun _ _ _ h => h) (Or.inl ⟨by rfl, ?_⟩) ?_ ?_
                             rotate_left
                             ·
                              intro w'
                              go_simp
                              with_reducible rfl
                             rotate_left
                             ·
                              simp only [Act.put, List.setIfInBounds_toArray, List.set_cons_zero, List.set_cons_succ, i64_w, i32_w]
                              rfl
                             refine pure_ (i := 20) (N := some 18) (v := ?_) (a' := ?_) #[true, true, true, true, true, true, true, true, true, true, true, true, true, true, true, true, true, true, true, true, true] rfl rfl (any_of HT_.out (by kernel_rfl)) (fun _ _ _ h => h) (Or.inl ⟨by rfl, ?_⟩) ?_ ?_
                             rotate_left
                             ·
                              intro w'
                              go_simp
                              with_reducible rfl
                             rotate_left
                             ·
                              simp only [Act.put, List.setIfInBounds_toArray, List.set_cons_zero, List.set_cons_succ, i64_w, i32_w]
                              rfl
                             refine done_ (done_of HT_.out (by kernel_rfl)) ?_
                             try go_wp2
                             have n0_ := Aside0.mk (Kd.R_drew HO_1.out)
                             have n1_ := Aside0.mk (Kd.R_drew HO245.out)
                             have n2_ := Aside0.mk (Kd.R_drew HO248.out)
                             have n3_ := Aside0.mk (Kd.S_drew HO252.out)
                             have n4_ := Aside0.mk (blk_drew BK198.out)
                             have n5_ := Aside0.mk (below_drew1 HB.out)
                             clear HO_1
                             clear HO245
                             clear HO248
                             clear HO252
                             clear BK198
                             clear HB
                             have HO_1 := n0_
                             have HO245 := n1_
                             have HO248 := n2_
                             have HO252 := n3_
                             have BK198 := n4_
                             have HB := n5_
                             clear n0_ n1_ n2_ n3_ n4_ n5_
                             refine start_ (n := 21) (S := fun w' => w'.cell? ⟨gb198, 0, none⟩ = some (.int .i64 ((rd_T34 (rd_L4 t191 t189) (ji29)).f0)) ∧ w'.cell? ⟨gb198, 1, none⟩ = some (.int .i64 ((rd_T34 (rd_L4 t191 t189) (ji29)).f1))) (ds := []) #[false, false, false, false, false, false, false, false, false, false, false, false, false, false, false, false, false, false, false, false, false] (by kernel_rfl) rfl rfl ⟨(blk_cell BK198.out 0).trans rfl, (blk_cell BK198.out 1).trans rfl⟩ (fun hHeld => ?_); refine with_tabW ephemeristop_TopChron.tab22 ephemeristop_TopChron.bits22 (fun HT_ HW_ => ?_)
                             generalize w108.drew = w109 at HO_1 HO245 HO248 HO252 BK198 HB hHeld ⊢
                             refine pure_ (i := 0) (N := some 160) (v := ?_) (a' := ?_) #[true, false, false, false, false, false, false, false, false, false, false, false, false, false, false, false, false, false, false, false, false] rfl rfl (any_of HT_.out (by kernel_rfl)) (fun _ _ _ h => h) (Or.inl ⟨by rfl, ?_⟩) ?_ ?_
                             rotate_left
                             ·
                              intro w'
                              go_simp
                              with_reducible rfl
                             rotate_left
                             ·
                              simp only [Act.put, List.setIfInBounds_toArray, List.set_cons_zero, List.set_cons_succ, i64_w, i32_w]
                              rfl
                             refine pure_ (i := 2) (N := some 162) (v := ?_) (a' := ?_) #[true, false, true, false, false, false, false, false, false, false, false, false, false, false, false, false, false, false, false, false, false] rfl rfl (any_of HT_.out (by kernel_rfl)) (fun _ _ _ h => h) (Or.inl ⟨by rfl, ?_⟩) ?_ ?_
                             rotate_left
                             ·
                              intro w'
                              go_simp
                              with_reducible rfl
                             rotate_left
                             ·
                              simp only [Act.put, List.setIfInBounds_toArray, List.set_cons_zero, List.set_cons_succ, i64_w, i32_w]
                              rfl
                             refine pure_ (i := 4) (N := some 164) (v := ?_) (a' := ?_) #[true, false, true, false, true, false, false, false, false, false, false, false, false, false, false, false, false, false, false, false, false] rfl rfl (any_of HT_.out (by kernel_rfl)) (fun _ _ _ h => h) (Or.inl ⟨by rfl, ?_⟩) ?_ ?_
                             rotate_left
                             ·
                              intro w'
                              go_simp
                              with_reducible rfl
                             rotate_left
                             ·
                              simp only [Act.put, List.setIfInBounds_toArray, List.set_cons_zero, List.set_cons_succ, i64_w, i32_w]
                              rfl
                             refine pure_ (i := 5) (N := some 165) (v := ?_) (a' := ?_) #[true, false, true, false, true, true, false, false, false, false, false, false, false, false, false, false, false, false, false, false, false] rfl rfl (any_of HT_.out (by kernel_rfl)) (fun _ _ _ h => h) (Or.inl ⟨by rfl, ?_⟩) ?_ ?_
                             rotate_left
                             ·
                              intro w'
                              go_simp
                              with_reducible rfl
                             rotate_left
                             ·
                              simp only [Act.put, List.setIfInBounds_toArray, List.set_cons_zero, List.set_cons_succ, i64_w, i32_w]
                              rfl
                             refine pure_ (i := 6) (N := some 166) (v := ?_) (a' := ?_) #[true, false, true, false, true, true, true, false, false, false, false, false, false, false, false, false, false, false, false, false, false] rfl rfl (any_of HT_.out (by kernel_rfl)) (fun _ _ _ h => h) (Or.inl ⟨by rfl, ?_⟩) ?_ ?_
                             rotate_left
                             ·
                              intro w'
                              go_simp
                              with_reducible rfl
                             rotate_left
                             ·
                              simp only [Act.put, List.setIfInBounds_toArray, List.set_cons_zero, List.set_cons_succ, i64_w, i32_w]
                              rfl
                             refine pure_ (i := 9) (N := some 169) (v := ?_) (a' := ?_) #[true, false, true, false, true, true, true, false, false, true, false, false, false, false, false, false, false, false, false, false, false] rfl rfl (any_of HT_.out (by kernel_rfl)) (fun _ _ _ h => h) (Or.inl ⟨by rfl, ?_⟩) ?_ ?_
                             rotate_left
                             ·
                              intro w'
                              go_simp
                              with_reducible rfl
                             rotate_left
                             ·
                              simp only [Act.put, List.setIfInBounds_toArray, List.set_cons_zero, List.set_cons_succ, i64_w, i32_w]
                              rfl
                             refine take_ (i := 7) (N := some 167) (v := ?_) (a' := ?_) #[true, false, true, false, true, true, true, true, false, true, false, false, false, false, false, false, false, false, false, false, false] rfl rfl (take_ofW HT_.out HW_.out (by kernel_rfl)) (fun _ _ _ h => h) (Or.inl ⟨by rfl, ?_⟩) hHeld ?_ ?_
                             rotate_left
                             ·
                              rintro w' ⟨s0, s1⟩
                              go_simp
                              with_reducible rfl
                             rotate_left
                             ·
                              simp only [Act.put, List.setIfInBounds_toArray, List.set_cons_zero, List.set_cons_succ, i64_w, i32_w]
                              rfl
                             refine pure_ (i := 8) (N := some 168) (v := ?_) (a' := ?_) #[true, false, true, false, true, true, true, true, true, true, false, false, false, false, false, false, false, false, false, false, false] rfl rfl (any_of HT_.out (by kernel_rfl)) (fun _ _ _ h => h) (Or.inl ⟨by rfl, ?_⟩) ?_ ?_
                             rotate_left
                             ·
                              intro w'
                              go_simp
                              with_reducible rfl
                             rotate_left
                             ·
                              simp only [Act.put, List.setIfInBounds_toArray, List.set_cons_zero, List.set_cons_succ, i64_w, i32_w]
                              rfl
                             refine take_ (i := 10) (N := some 170) (v := ?_) (a' := ?_) #[true, false, true, false, true, true, true, true, true, true, true, false, false, false, false, false, false, false, false, false, false] rfl rfl (take_ofW HT_.out HW_.out (by kernel_rfl)) (fun _ _ _ h => h) (Or.inl ⟨by rfl, ?_⟩) hHeld ?_ ?_
                             rotate_left
                             ·
                              rintro w' ⟨s0, s1⟩
                              go_simp
                              with_reducible rfl
                             rotate_left
                             ·
                              simp only [Act.put, List.setIfInBounds_toArray, List.set_cons_zero, List.set_cons_succ, i64_w, i32_w]
                              rfl
                             refine pure_ (i := 11) (N := some 171) (v := ?_) (a' := ?_) #[true, false, true, false, true, true, true, true, true, true, true, true, false, false, false, false, false, false, false, false, false] rfl rfl (any_of HT_.out (by kernel_rfl)) (fun _ _ _ h => h) (Or.inl ⟨by rfl, ?_⟩) ?_ ?_
                             rotate_left
                             ·
                              intro w'
                              go_simp
                              with_reducible rfl
                             rotate_left
                             ·
                              simp only [Act.put, List.setIfInBounds_toArray, List.set_cons_zero, List.set_cons_succ, i64_w, i32_w]
                              rfl
                             refine pure_ (i := 12) (N := some 172) (v := ?_) (a' := ?_) #[true, false, true, false, true, true, true, true, true, true, true, true, true, false, false, false, false, false, false, false, false] rfl rfl (any_of HT_.out (by kernel_rfl)) (fun _ _ _ h => h) (Or.inl ⟨by rfl, ?_⟩) ?_ ?_
                             rotate_left
                             ·
                              intro w'
                              go_simp
                              with_reducible rfl
                             rotate_left
                             ·
                              simp only [Act.put, List.setIfInBounds_toArray, List.set_cons_zero, List.set_cons_succ, i64_w, i32_w]
                              rfl
                             refine join_ (σ := Value × Value × Value) 7 #[true, true, true, true, true, true, true, true, true, true, true, true, true, true, false, false, false, false, false, false, false] (fun s_ => [(161, s_.1), (163, s_.2.1), (173, s_.2.2)]) (fun s_ w' => (w'.cell? ⟨gb198, 0, none⟩ = some (.int .i64 ((rd_T34 (rd_L4 t191 t189) (ji29)).f0)) ∧ w'.cell? ⟨gb198, 1, none⟩ = some (.int .i64 ((rd_T34 (rd_L4 t191 t189) (ji29)).f1))) ∧ (Kd.R k37 37 w' w.heap.size (fun k_ => some k_ ≠ (.slice Ao107 y246.length co107 : Value).ownBlock ∧ some k_ ≠ (s_.2.1 : Value).ownBlock ∧ some k_ ≠ (s_.2.2 : Value).ownBlock ∧ some k_ ≠ (.slice Ao18 t186.length co18 : Value).ownBlock) (.slice Ao106 y243.length co106) y243) ∧ (Kd.R k37 37 w' w.heap.size (fun k_ => some k_ ≠ (.slice Ao106 y243.length co106 : Value).ownBlock ∧ some k_ ≠ (s_.2.1 : Value).ownBlock ∧ some k_ ≠ (s_.2.2 : Value).ownBlock ∧ some k_ ≠ (.slice Ao18 t186.length co18 : Value).ownBlock) (.slice Ao107 y246.length co107) y246) ∧ (Kd.S (Kd.slice 34 k34) 32 w' w.heap.size (fun k_ => k_ ≠ gb198) v251 t249) ∧ (Kd.R k37 37 w' w.heap.size (fun k_ => some k_ ≠ (.slice Ao106 y243.length co106 : Value).ownBlock ∧ some k_ ≠ (.slice Ao107 y246.length co107 : Value).ownBlock ∧ some k_ ≠ (s_.2.2 : Value).ownBlock ∧ some k_ ≠ (.slice Ao18 t186.length co18 : Value).ownBlock) s_.2.1 y256) ∧ (Kd.R k37 37 w' w.heap.size (fun k_ => some k_ ≠ (.slice Ao106 y243.length co106 : Value).ownBlock ∧ some k_ ≠ (.slice Ao107 y246.length co107 : Value).ownBlock ∧ some k_ ≠ (s_.2.1 : Value).ownBlock ∧ some k_ ≠ (.slice Ao18 t186.length co18 : Value).ownBlock) s_.2.2 y259) ∧ (Kd.R k37 37 w' w.heap.size (fun k_ => some k_ ≠ (.slice Ao106 y243.length co106 : Value).ownBlock ∧ some k_ ≠ (.slice Ao107 y246.length co107 : Value).ownBlock ∧ some k_ ≠ (s_.2.1 : Value).ownBlock ∧ some k_ ≠ (s_.2.2 : Value).ownBlock) (.slice Ao18 t186.length co18) t186) ∧ (w'.heap[gb198]? = some (.cells #[.int .i64 ((rd_T34 (rd_L4 t191 t189) (ji29)).f0), .int .i64 ((rd_T34 (rd_L4 t191 t189) (ji29)).f1)] 34 (0, 0))) ∧ (Below w.heap.size w w')) ?_ ?_
                             rotate_left
                             ·
                              intro hCont
                              refine two_ (i := 1) (j := 13) (Ni := some 161) (Nj := some 173) #[true, true, true, false, true, true, true, true, true, true, true, true, true, false, false, false, false, false, false, false, false] #[true, false, true, false, true, true, true, true, true, true, true, true, true, true, false, false, false, false, false, false, false] rfl rfl rfl rfl (two_of HT_.out (by kernel_rfl)) (by decide) (by decide) (fun K hK => ?_) (fun K hK => ?_)
                              ·
                               skip
                               refine Kd.R_lit_step k37 _ 37 ?hg (N := 161) ?hd (xs := ([] : List (S37))) (inner := []) (ok := fun _ => True) (okp := fun _ => True) ?hr ?hp (fun _ hk => hk) trivial (Below.refl _ _) (Nat.le_refl _) (by simp) ?_; (case hd => rfl); (case hg => rfl); (case hr => first | (go_simp; done) | (go_simp; rfl)); (case hp => exact (Reps.none _ _))
                               intro v254 w110 ho111 hb hg_ hnew_
                               clear hg_ hnew_
                               (first | rw [← Ny253.out] at ho111 | (simp only [Int.reduceToNat] at ho111; rw [← Ny253.out] at ho111))
                               have n0_ := Aside0.mk (Kd.R_elder' (by (with_reducible repeat (first | apply Kd.R_alloc | apply Kd.R_drewN | apply Kd.R_drew)); exact HO_1.out) (Kd.R_base ho111) hb)
                               have n1_ := Aside0.mk (Kd.R_elder' (by (with_reducible repeat (first | apply Kd.R_alloc | apply Kd.R_drewN | apply Kd.R_drew)); exact HO245.out) (Kd.R_base ho111) hb)
                               have n2_ := Aside0.mk (Kd.R_elder' (by (with_reducible repeat (first | apply Kd.R_alloc | apply Kd.R_drewN | apply Kd.R_drew)); exact HO248.out) (Kd.R_base ho111) hb)
                               have n3_ := Aside0.mk (Kd.S_below (by (with_reducible repeat (first | apply Kd.S_alloc | apply Kd.S_drewN | apply Kd.S_drew)); exact HO252.out) hb)
                               have n4_ := Aside0.mk (Kd.R_lower (Kd.R_new' (Kd.R_new' (Kd.R_new' ho111 (Kd.R_lt (by (with_reducible repeat (first | apply Kd.R_alloc | apply Kd.R_drewN | apply Kd.R_drew)); exact HO_1.out))) (Kd.R_lt (by (with_reducible repeat (first | apply Kd.R_alloc | apply Kd.R_drewN | apply Kd.R_drew)); exact HO245.out))) (Kd.R_lt (by (with_reducible repeat (first | apply Kd.R_alloc | apply Kd.R_drewN | apply Kd.R_drew)); exact HO248.out))) (below_size (by repeat (first | (with_reducible first | exact HB.out | apply below_alloc | apply pw_below_drewN | apply below_drew1 | refine below_set ?_ GE198.out) | exact HB.out))))
                               have n5_ := Aside0.mk (blk_below (g := gb198) (o := .cells #[.int .i64 ((rd_T34 (rd_L4 t191 t189) (ji29)).f0), .int .i64 ((rd_T34 (rd_L4 t191 t189) (ji29)).f1)] 34 (0, 0)) (grz_ BK198.out) hb)
                               have n6_ := Aside0.mk (below_step (by repeat (first | (with_reducible first | exact HB.out | apply below_alloc | apply pw_below_drewN | apply below_drew1 | refine below_set ?_ GE198.out) | exact HB.out)) hb)
                               clear HO_1
                               clear HO245
                               clear HO248
                               clear HO252
                               clear BK198
                               clear HB
                               have HO_1 := n0_
                               have HO245 := n1_
                               have HO248 := n2_
                               have HO252 := n3_
                               have HO255 := n4_
                               have BK198 := n5_
                               have HB := n6_
                               clear n0_ n1_ n2_ n3_ n4_ n5_ n6_
                               clear hb ho111
                               refine hK.out _ _ ⟨(blk_cell BK198.out 0).trans rfl, (blk_cell BK198.out 1).trans rfl⟩ (fun hHeld => ?_)
                               clear hK K
                               refine norm_ (a' := ?_) ?_ ?_
                               rotate_left
                               ·
                                show Act.put _ (some 161) _ = _
                                simp only [Act.put, List.setIfInBounds_toArray, List.set_cons_zero, List.set_cons_succ, i64_w, i32_w]
                                rfl
                               refine two_ (i := 3) (j := 13) (Ni := some 163) (Nj := some 173) #[true, true, true, true, true, true, true, true, true, true, true, true, true, false, false, false, false, false, false, false, false] #[true, true, true, false, true, true, true, true, true, true, true, true, true, true, false, false, false, false, false, false, false] rfl rfl rfl rfl (two_of HT_.out (by kernel_rfl)) (by decide) (by decide) (fun K hK => ?_) (fun K hK => ?_)
                               ·
                                skip
                                refine Kd.R_append_rows_step k37 (w0 := w) w.heap.size (by rfl) (.tmp 161) (.tmp 162) 23 37 (.agg #[(.int .i64 0), (.int .i64 0), (.int .i64 0), (.int .i64 0)]) 32 rfl Try.underlying23 info37 rfl (by decide) (by omega) v254 y253 t186 _ _ _ (fun k_ => some k_ ≠ (.slice Ao18 t186.length co18 : Value).ownBlock ∧ some k_ ≠ (.slice Ao106 y243.length co106 : Value).ownBlock ∧ some k_ ≠ (.slice Ao107 y246.length co107 : Value).ownBlock) (fun _ => False) rfl rfl ?aO ?aR (fun _ _ h => h) (fun _ h => h.elim) ?aF ?aB ?aS ?aL ?_
                                (case aR => repeat (first | exact (Kd.R_reads' HO_1.out).2.2 | (with_reducible refine Kd.C_alloc ?_ _) | (with_reducible refine Kd.C_drewN ?_ _) | (with_reducible refine Kd.C_drew ?_)))
                                (case aB => exact (by repeat (first | (with_reducible first | exact HB.out | apply below_alloc | apply pw_below_drewN | apply below_drew1 | refine below_set ?_ GE198.out) | exact HB.out)))
                                (case aF => exact (fun k_ hk => ⟨Kd.fresh' (Kd.R_lt (by (with_reducible repeat (first | apply Kd.R_alloc | apply Kd.R_drewN | apply Kd.R_drew)); exact HO_1.out)) k_ hk, Kd.fresh' (Kd.R_lt (by (with_reducible repeat (first | apply Kd.R_alloc | apply Kd.R_drewN | apply Kd.R_drew)); exact HO245.out)) k_ hk, Kd.fresh' (Kd.R_lt (by (with_reducible repeat (first | apply Kd.R_alloc | apply Kd.R_drewN | apply Kd.R_drew)); exact HO248.out)) k_ hk⟩))
                                (case aO => exact (by (with_reducible repeat (first | apply Kd.R_alloc | apply Kd.R_drewN | apply Kd.R_drew)); exact Kd.R_mono HO255.out (fun _ hk => by first | exact ⟨hk.1.1.2, ⟨hk.1.2, hk.2⟩⟩ | (repeat' (first | exact hk | exact hk.1 | exact hk.2 | exact hk.1.1 | exact hk.1.2 | exact hk.2.1 | exact hk.2.2 | exact hk.1.1.1 | exact hk.1.1.2 | exact hk.1.2.1 | exact hk.1.2.2 | exact True.intro | apply And.intro)))))
                                (case aS => exact (below_size (by repeat (first | (with_reducible first | exact HB.out | apply below_alloc | apply pw_below_drewN | apply below_drew1 | refine below_set ?_ GE198.out) | exact HB.out))))
                                (case aL => have := LMc94.out; omega)
                                intro v257 w112 ho hb hg hat
                                rw [← Ny256.out] at ho
                                have n0_ := Aside0.mk (Kd.R_after (ok := (fun k_ => some k_ ≠ (.slice Ao106 y243.length co106 : Value).ownBlock ∧ some k_ ≠ (.slice Ao107 y246.length co107 : Value).ownBlock)) (by (with_reducible repeat (first | apply Kd.R_alloc | apply Kd.R_drewN | apply Kd.R_drew)); exact HO_1.out) hg hat)
                                have n1_ := Aside0.mk (blk_grown (g := gb198) (o := .cells #[.int .i64 ((rd_T34 (rd_L4 t191 t189) (ji29)).f0), .int .i64 ((rd_T34 (rd_L4 t191 t189) (ji29)).f1)] 34 (0, 0)) (grz_ BK198.out) hg (Kd.R_ne HO255.out BK198.out (by decide)))
                                have n2_ := Aside0.mk (Kd.R_after (ok := (fun k_ => some k_ ≠ (.slice Ao18 t186.length co18 : Value).ownBlock ∧ some k_ ≠ (.slice Ao107 y246.length co107 : Value).ownBlock)) (by (with_reducible repeat (first | apply Kd.R_alloc | apply Kd.R_drewN | apply Kd.R_drew)); exact HO245.out) hg hat)
                                have n3_ := Aside0.mk (Kd.R_after (ok := (fun k_ => some k_ ≠ (.slice Ao18 t186.length co18 : Value).ownBlock ∧ some k_ ≠ (.slice Ao106 y243.length co106 : Value).ownBlock)) (by (with_reducible repeat (first | apply Kd.R_alloc | apply Kd.R_drewN | apply Kd.R_drew)); exact HO248.out) hg hat)
                                have n4_ := Aside0.mk (Kd.S_over' (by (with_reducible repeat (first | apply Kd.S_alloc | apply Kd.S_drewN | apply Kd.S_drew)); exact HO252.out) (Kd.R_typed (by (with_reducible repeat (first | apply Kd.R_alloc | apply Kd.R_drewN | apply Kd.R_drew)); exact HO255.out)) (by decide) hg)
                                have n5_ := Aside0.mk (hb)
                                have n6_ := Aside0.mk (ho)
                                clear HO_1
                                clear BK198
                                clear HO245
                                clear HO248
                                clear HO252
                                clear HB
                                clear HO255
                                have HO_1 := n0_
                                have BK198 := n1_
                                have HO245 := n2_
                                have HO248 := n3_
                                have HO252 := n4_
                                have HB := n5_
                                have HO258 := n6_
                                clear n0_ n1_ n2_ n3_ n4_ n5_ n6_
                                clear ho hb hg hat
                                refine hK.out _ _ ⟨(blk_cell BK198.out 0).trans rfl, (blk_cell BK198.out 1).trans rfl⟩ (fun hHeld => ?_)
                                clear hK K
                                refine norm_ (a' := ?_) ?_ ?_
                                rotate_left
                                ·
                                 show Act.put _ (some 163) _ = _
                                 simp only [Act.put, List.setIfInBounds_toArray, List.set_cons_zero, List.set_cons_succ, i64_w, i32_w]
                                 rfl
                                refine one_ (i := 13) (N := some 173) #[true, true, true, true, true, true, true, true, true, true, true, true, true, true, false, false, false, false, false, false, false] rfl rfl (one_of HT_.out (by kernel_rfl)) (by decide) (fun K hK => ?_)
                                refine Kd.R_lit_step k37 _ 37 ?hg (N := 173) ?hd (xs := ([(⟨t189, (ji29), wrap64 (((rd_T34 (rd_L4 t191 t189) (ji29)).f0) - 5), wrap64 (((rd_T34 (rd_L4 t191 t189) (ji29)).f0) - 1)⟩ : S37)] : List (S37))) (inner := [.int .i64 t189, .int .i64 (ji29), .int .i64 (wrap64 (((rd_T34 (rd_L4 t191 t189) (ji29)).f0) - 5)), .int .i64 (wrap64 (((rd_T34 (rd_L4 t191 t189) (ji29)).f0) - 1))]) (ok := fun _ => True) (okp := fun _ => True) ?hr ?hp (fun _ hk => hk) trivial (Below.refl _ _) (Nat.le_refl _) (by simp) ?_; (case hd => rfl); (case hg => rfl); (case hr => first | (go_simp; done) | (go_simp; rfl)); (case hp => exact (Reps.c4 (show Kd.M k37 _ _ _ (⟨t189, (ji29), wrap64 (((rd_T34 (rd_L4 t191 t189) (ji29)).f0) - 5), wrap64 (((rd_T34 (rd_L4 t191 t189) (ji29)).f0) - 1)⟩ : S37) [.int .i64 t189, .int .i64 (ji29), .int .i64 (wrap64 (((rd_T34 (rd_L4 t191 t189) (ji29)).f0) - 5)), .int .i64 (wrap64 (((rd_T34 (rd_L4 t191 t189) (ji29)).f0) - 1))] from (k37_mkM _ _ _ (⟨t189, (ji29), wrap64 (((rd_T34 (rd_L4 t191 t189) (ji29)).f0) - 5), wrap64 (((rd_T34 (rd_L4 t191 t189) (ji29)).f0) - 1)⟩ : S37) )) (Reps.none _ _)))
                                intro v260 w113 ho114 hb hg_ hnew_
                                clear hg_ hnew_
                                (first | rw [← Ny259.out] at ho114 | (simp only [Int.reduceToNat] at ho114; rw [← Ny259.out] at ho114))
                                have n0_ := Aside0.mk (Kd.R_elder' (by (with_reducible repeat (first | apply Kd.R_alloc | apply Kd.R_drewN | apply Kd.R_drew)); exact HO_1.out) (Kd.R_base ho114) hb)
                                have n1_ := Aside0.mk (Kd.R_elder' (by (with_reducible repeat (first | apply Kd.R_alloc | apply Kd.R_drewN | apply Kd.R_drew)); exact HO245.out) (Kd.R_base ho114) hb)
                                have n2_ := Aside0.mk (Kd.R_elder' (by (with_reducible repeat (first | apply Kd.R_alloc | apply Kd.R_drewN | apply Kd.R_drew)); exact HO248.out) (Kd.R_base ho114) hb)
                                have n3_ := Aside0.mk (Kd.S_below (by (with_reducible repeat (first | apply Kd.S_alloc | apply Kd.S_drewN | apply Kd.S_drew)); exact HO252.out) hb)
                                have n4_ := Aside0.mk (Kd.R_elder' (by (with_reducible repeat (first | apply Kd.R_alloc | apply Kd.R_drewN | apply Kd.R_drew)); exact HO258.out) (Kd.R_base ho114) hb)
                                have n5_ := Aside0.mk (Kd.R_lower (Kd.R_new' (Kd.R_new' (Kd.R_new' (Kd.R_new' ho114 (Kd.R_lt (by (with_reducible repeat (first | apply Kd.R_alloc | apply Kd.R_drewN | apply Kd.R_drew)); exact HO_1.out))) (Kd.R_lt (by (with_reducible repeat (first | apply Kd.R_alloc | apply Kd.R_drewN | apply Kd.R_drew)); exact HO245.out))) (Kd.R_lt (by (with_reducible repeat (first | apply Kd.R_alloc | apply Kd.R_drewN | apply Kd.R_drew)); exact HO248.out))) (Kd.R_lt (by (with_reducible repeat (first | apply Kd.R_alloc | apply Kd.R_drewN | apply Kd.R_drew)); exact HO258.out))) (below_size (by repeat (first | (with_reducible first | exact HB.out | apply below_alloc | apply pw_below_drewN | apply below_drew1 | refine below_set ?_ GE198.out) | exact HB.out))))
                                have n6_ := Aside0.mk (blk_below (g := gb198) (o := .cells #[.int .i64 ((rd_T34 (rd_L4 t191 t189) (ji29)).f0), .int .i64 ((rd_T34 (rd_L4 t191 t189) (ji29)).f1)] 34 (0, 0)) (grz_ BK198.out) hb)
                                have n7_ := Aside0.mk (below_step (by repeat (first | (with_reducible first | exact HB.out | apply below_alloc | apply pw_below_drewN | apply below_drew1 | refine below_set ?_ GE198.out) | exact HB.out)) hb)
                                clear HO_1
                                clear HO245
                                clear HO248
                                clear HO252
                                clear HO258
                                clear BK198
                                clear HB
                                have HO_1 := n0_
                                have HO245 := n1_
                                have HO248 := n2_
                                have HO252 := n3_
                                have HO258 := n4_
                                have HO261 := n5_
                                have BK198 := n6_
                                have HB := n7_
                                clear n0_ n1_ n2_ n3_ n4_ n5_ n6_ n7_
                                clear hb ho114
                                refine hK.out _ _ ⟨(blk_cell BK198.out 0).trans rfl, (blk_cell BK198.out 1).trans rfl⟩ (fun hHeld => ?_)
                                clear hK K
                                refine norm_ (a' := ?_) ?_ ?_
                                rotate_left
                                ·
                                 show Act.put _ (some 173) _ = _
                                 simp only [Act.put, List.setIfInBounds_toArray, List.set_cons_zero, List.set_cons_succ, i64_w, i32_w]
                                 rfl
                                exact norm_ (by simp only [putAll, Act.put, List.setIfInBounds_toArray, List.set_cons_zero, List.set_cons_succ]) (hCont (v254, v257, v260) _ ⟨hHeld, (by (with_reducible repeat (first | apply Kd.R_alloc | apply Kd.R_drewN | apply Kd.R_drew)); exact Kd.R_mono HO245.out (fun _ hk => by first | exact ⟨hk.1.1.2, ⟨hk.1.2, ⟨hk.2, hk.1.1.1⟩⟩⟩ | (repeat' (first | exact hk | exact hk.1 | exact hk.2 | exact hk.1.1 | exact hk.1.2 | exact hk.2.1 | exact hk.2.2 | exact hk.1.1.1 | exact hk.1.1.2 | exact hk.1.2.1 | exact hk.1.2.2 | exact True.intro | apply And.intro)))), (by (with_reducible repeat (first | apply Kd.R_alloc | apply Kd.R_drewN | apply Kd.R_drew)); exact Kd.R_mono HO248.out (fun _ hk => by first | exact ⟨hk.1.1.2, ⟨hk.1.2, ⟨hk.2, hk.1.1.1⟩⟩⟩ | (repeat' (first | exact hk | exact hk.1 | exact hk.2 | exact hk.1.1 | exact hk.1.2 | exact hk.2.1 | exact hk.2.2 | exact hk.1.1.1 | exact hk.1.1.2 | exact hk.1.2.1 | exact hk.1.2.2 | exact True.intro | apply And.intro)))), (by (with_reducible repeat (first | apply Kd.S_alloc | apply Kd.S_drewN | apply Kd.S_drew)); exact Kd.S_mono HO252.out (fun _ hk => hk.2)), (by (with_reducible repeat (first | apply Kd.R_alloc | apply Kd.R_drewN | apply Kd.R_drew)); exact Kd.R_mono HO258.out (fun _ hk => by first | exact ⟨hk.1.2.1, ⟨hk.1.2.2, ⟨hk.2, hk.1.1⟩⟩⟩ | (repeat' (first | exact hk | exact hk.1 | exact hk.2 | exact hk.1.1 | exact hk.1.2 | exact hk.2.1 | exact hk.2.2 | exact hk.1.1.1 | exact hk.1.1.2 | exact hk.1.2.1 | exact hk.1.2.2 | exact True.intro | apply And.intro)))), (by (with_reducible repeat (first | apply Kd.R_alloc | apply Kd.R_drewN | apply Kd.R_drew)); exact Kd.R_mono HO261.out (fun _ hk => by first | exact ⟨hk.1.1.2, ⟨hk.1.2, ⟨hk.2, hk.1.1.1.2⟩⟩⟩ | (repeat' (first | exact hk | exact hk.1 | exact hk.2 | exact hk.1.1 | exact hk.1.2 | exact hk.2.1 | exact hk.2.2 | exact hk.1.1.1 | exact hk.1.1.2 | exact hk.1.2.1 | exact hk.1.2.2 | exact True.intro | apply And.intro)))), (by (with_reducible repeat (first | apply Kd.R_alloc | apply Kd.R_drewN | apply Kd.R_drew)); exact Kd.R_mono HO_1.out (fun _ hk => by first | exact ⟨hk.1.1.1, ⟨hk.1.1.2, ⟨hk.1.2, hk.2⟩⟩⟩ | (repeat' (first | exact hk | exact hk.1 | exact hk.2 | exact hk.1.1 | exact hk.1.2 | exact hk.2.1 | exact hk.2.2 | exact hk.1.1.1 | exact hk.1.1.2 | exact hk.1.2.1 | exact hk.1.2.2 | exact True.intro | apply And.intro)))), (grz_ BK198.out), (by repeat (first | (with_reducible first | exact HB.out | apply below_alloc | apply pw_below_drewN | apply below_drew1 | refine below_set ?_ GE198.out) | exact HB.out))⟩)
                               ·
                                skip
                                refine Kd.R_lit_step k37 _ 37 ?hg (N := 173) ?hd (xs := ([(⟨t189, (ji29), wrap64 (((rd_T34 (rd_L4 t191 t189) (ji29)).f0) - 5), wrap64 (((rd_T34 (rd_L4 t191 t189) (ji29)).f0) - 1)⟩ : S37)] : List (S37))) (inner := [.int .i64 t189, .int .i64 (ji29), .int .i64 (wrap64 (((rd_T34 (rd_L4 t191 t189) (ji29)).f0) - 5)), .int .i64 (wrap64 (((rd_T34 (rd_L4 t191 t189) (ji29)).f0) - 1))]) (ok := fun _ => True) (okp := fun _ => True) ?hr ?hp (fun _ hk => hk) trivial (Below.refl _ _) (Nat.le_refl _) (by simp) ?_; (case hd => rfl); (case hg => rfl); (case hr => first | (go_simp; done) | (go_simp; rfl)); (case hp => exact (Reps.c4 (show Kd.M k37 _ _ _ (⟨t189, (ji29), wrap64 (((rd_T34 (rd_L4 t191 t189) (ji29)).f0) - 5), wrap64 (((rd_T34 (rd_L4 t191 t189) (ji29)).f0) - 1)⟩ : S37) [.int .i64 t189, .int .i64 (ji29), .int .i64 (wrap64 (((rd_T34 (rd_L4 t191 t189) (ji29)).f0) - 5)), .int .i64 (wrap64 (((rd_T34 (rd_L4 t191 t189) (ji29)).f0) - 1))] from (k37_mkM _ _ _ (⟨t189, (ji29), wrap64 (((rd_T34 (rd_L4 t191 t189) (ji29)).f0) - 5), wrap64 (((rd_T34 (rd_L4 t191 t189) (ji29)).f0) - 1)⟩ : S37) )) (Reps.none _ _)))
                                intro v260 w112 ho113 hb hg_ hnew_
                                clear hg_ hnew_
                                (first | rw [← Ny259.out] at ho113 | (simp only [Int.reduceToNat] at ho113; rw [← Ny259.out] at ho113))
                                have n0_ := Aside0.mk (Kd.R_elder' (by (with_reducible repeat (first | apply Kd.R_alloc | apply Kd.R_drewN | apply Kd.R_drew)); exact HO_1.out) (Kd.R_base ho113) hb)
                                have n1_ := Aside0.mk (Kd.R_elder' (by (with_reducible repeat (first | apply Kd.R_alloc | apply Kd.R_drewN | apply Kd.R_drew)); exact HO245.out) (Kd.R_base ho113) hb)
                                have n2_ := Aside0.mk (Kd.R_elder' (by (with_reducible repeat (first | apply Kd.R_alloc | apply Kd.R_drewN | apply Kd.R_drew)); exact HO248.out) (Kd.R_base ho113) hb)
                                have n3_ := Aside0.mk (Kd.S_below (by (with_reducible repeat (first | apply Kd.S_alloc | apply Kd.S_drewN | apply Kd.S_drew)); exact HO252.out) hb)
                                have n4_ := Aside0.mk (Kd.R_elder' (by (with_reducible repeat (first | apply Kd.R_alloc | apply Kd.R_drewN | apply Kd.R_drew)); exact HO255.out) (Kd.R_base ho113) hb)
                                have n5_ := Aside0.mk (Kd.R_lower (Kd.R_new' (Kd.R_new' (Kd.R_new' (Kd.R_new' ho113 (Kd.R_lt (by (with_reducible repeat (first | apply Kd.R_alloc | apply Kd.R_drewN | apply Kd.R_drew)); exact HO_1.out))) (Kd.R_lt (by (with_reducible repeat (first | apply Kd.R_alloc | apply Kd.R_drewN | apply Kd.R_drew)); exact HO245.out))) (Kd.R_lt (by (with_reducible repeat (first | apply Kd.R_alloc | apply Kd.R_drewN | apply Kd.R_drew)); exact HO248.out))) (Kd.R_lt (by (with_reducible repeat (first | apply Kd.R_alloc | apply Kd.R_drewN | apply Kd.R_drew)); exact HO255.out))) (below_size (by repeat (first | (with_reducible first | exact HB.out | apply below_alloc | apply pw_below_drewN | apply below_drew1 | refine below_set ?_ GE198.out) | exact HB.out))))
                                have n6_ := Aside0.mk (blk_below (g := gb198) (o := .cells #[.int .i64 ((rd_T34 (rd_L4 t191 t189) (ji29)).f0), .int .i64 ((rd_T34 (rd_L4 t191 t189) (ji29)).f1)] 34 (0, 0)) (grz_ BK198.out) hb)
                                have n7_ := Aside0.mk (below_step (by repeat (first | (with_reducible first | exact HB.out | apply below_alloc | apply pw_below_drewN | apply below_drew1 | refine below_set ?_ GE198.out) | exact HB.out)) hb)
                                clear HO_1
                                clear HO245
                                clear HO248
                                clear HO252
                                clear HO255
                                clear BK198
                                clear HB
                                have HO_1 := n0_
                                have HO245 := n1_
                                have HO248 := n2_
                                have HO252 := n3_
                                have HO255 := n4_
                                have HO261 := n5_
                                have BK198 := n6_
                                have HB := n7_
                                clear n0_ n1_ n2_ n3_ n4_ n5_ n6_ n7_
                                clear hb ho113
                                refine hK.out _ _ ⟨(blk_cell BK198.out 0).trans rfl, (blk_cell BK198.out 1).trans rfl⟩ (fun hHeld => ?_)
                                clear hK K
                                refine norm_ (a' := ?_) ?_ ?_
                                rotate_left
                                ·
                                 show Act.put _ (some 173) _ = _
                                 simp only [Act.put, List.setIfInBounds_toArray, List.set_cons_zero, List.set_cons_succ, i64_w, i32_w]
                                 rfl
                                refine one_ (i := 3) (N := some 163) #[true, true, true, true, true, true, true, true, true, true, true, true, true, true, false, false, false, false, false, false, false] rfl rfl (one_of HT_.out (by kernel_rfl)) (by decide) (fun K hK => ?_)
                                refine Kd.R_append_rows_step k37 (w0 := w) w.heap.size (by rfl) (.tmp 161) (.tmp 162) 23 37 (.agg #[(.int .i64 0), (.int .i64 0), (.int .i64 0), (.int .i64 0)]) 32 rfl Try.underlying23 info37 rfl (by decide) (by omega) v254 y253 t186 _ _ _ (fun k_ => some k_ ≠ (.slice Ao18 t186.length co18 : Value).ownBlock ∧ some k_ ≠ (.slice Ao106 y243.length co106 : Value).ownBlock ∧ some k_ ≠ (.slice Ao107 y246.length co107 : Value).ownBlock ∧ some k_ ≠ (v260 : Value).ownBlock) (fun _ => False) rfl rfl ?aO ?aR (fun _ _ h => h) (fun _ h => h.elim) ?aF ?aB ?aS ?aL ?_
                                (case aR => repeat (first | exact (Kd.R_reads' HO_1.out).2.2 | (with_reducible refine Kd.C_alloc ?_ _) | (with_reducible refine Kd.C_drewN ?_ _) | (with_reducible refine Kd.C_drew ?_)))
                                (case aB => exact (by repeat (first | (with_reducible first | exact HB.out | apply below_alloc | apply pw_below_drewN | apply below_drew1 | refine below_set ?_ GE198.out) | exact HB.out)))
                                (case aF => exact (fun k_ hk => ⟨Kd.fresh' (Kd.R_lt (by (with_reducible repeat (first | apply Kd.R_alloc | apply Kd.R_drewN | apply Kd.R_drew)); exact HO_1.out)) k_ hk, Kd.fresh' (Kd.R_lt (by (with_reducible repeat (first | apply Kd.R_alloc | apply Kd.R_drewN | apply Kd.R_drew)); exact HO245.out)) k_ hk, Kd.fresh' (Kd.R_lt (by (with_reducible repeat (first | apply Kd.R_alloc | apply Kd.R_drewN | apply Kd.R_drew)); exact HO248.out)) k_ hk, Kd.fresh' (Kd.R_lt (by (with_reducible repeat (first | apply Kd.R_alloc | apply Kd.R_drewN | apply Kd.R_drew)); exact HO261.out)) k_ hk⟩))
                                (case aO => exact (by (with_reducible repeat (first | apply Kd.R_alloc | apply Kd.R_drewN | apply Kd.R_drew)); exact Kd.R_mono HO255.out (fun _ hk => by first | exact ⟨hk.1.1.1.2, ⟨hk.1.1.2, ⟨hk.1.2, hk.2⟩⟩⟩ | (repeat' (first | exact hk | exact hk.1 | exact hk.2 | exact hk.1.1 | exact hk.1.2 | exact hk.2.1 | exact hk.2.2 | exact hk.1.1.1 | exact hk.1.1.2 | exact hk.1.2.1 | exact hk.1.2.2 | exact True.intro | apply And.intro)))))
                                (case aS => exact (below_size (by repeat (first | (with_reducible first | exact HB.out | apply below_alloc | apply pw_below_drewN | apply below_drew1 | refine below_set ?_ GE198.out) | exact HB.out))))
                                (case aL => have := LMc94.out; omega)
                                intro v257 w114 ho hb hg hat
                                rw [← Ny256.out] at ho
                                have n0_ := Aside0.mk (Kd.R_after (ok := (fun k_ => some k_ ≠ (.slice Ao106 y243.length co106 : Value).ownBlock ∧ some k_ ≠ (.slice Ao107 y246.length co107 : Value).ownBlock ∧ some k_ ≠ (v260 : Value).ownBlock)) (by (with_reducible repeat (first | apply Kd.R_alloc | apply Kd.R_drewN | apply Kd.R_drew)); exact Kd.R_mono HO_1.out (fun _ hk => by first | exact ⟨⟨hk.1.1.1, ⟨hk.1.1.2, hk.2⟩⟩, hk.1.2⟩ | (repeat' (first | exact hk | exact hk.1 | exact hk.2 | exact hk.1.1 | exact hk.1.2 | exact hk.2.1 | exact hk.2.2 | exact hk.1.1.1 | exact hk.1.1.2 | exact hk.1.2.1 | exact hk.1.2.2 | exact True.intro | apply And.intro)))) hg hat)
                                have n1_ := Aside0.mk (blk_grown (g := gb198) (o := .cells #[.int .i64 ((rd_T34 (rd_L4 t191 t189) (ji29)).f0), .int .i64 ((rd_T34 (rd_L4 t191 t189) (ji29)).f1)] 34 (0, 0)) (grz_ BK198.out) hg (Kd.R_ne HO255.out BK198.out (by decide)))
                                have n2_ := Aside0.mk (Kd.R_after (ok := (fun k_ => some k_ ≠ (.slice Ao18 t186.length co18 : Value).ownBlock ∧ some k_ ≠ (.slice Ao107 y246.length co107 : Value).ownBlock ∧ some k_ ≠ (v260 : Value).ownBlock)) (by (with_reducible repeat (first | apply Kd.R_alloc | apply Kd.R_drewN | apply Kd.R_drew)); exact Kd.R_mono HO245.out (fun _ hk => by first | exact ⟨⟨hk.1.1.1, ⟨hk.1.1.2, hk.2⟩⟩, hk.1.2⟩ | (repeat' (first | exact hk | exact hk.1 | exact hk.2 | exact hk.1.1 | exact hk.1.2 | exact hk.2.1 | exact hk.2.2 | exact hk.1.1.1 | exact hk.1.1.2 | exact hk.1.2.1 | exact hk.1.2.2 | exact True.intro | apply And.intro)))) hg hat)
                                have n3_ := Aside0.mk (Kd.R_after (ok := (fun k_ => some k_ ≠ (.slice Ao18 t186.length co18 : Value).ownBlock ∧ some k_ ≠ (.slice Ao106 y243.length co106 : Value).ownBlock ∧ some k_ ≠ (v260 : Value).ownBlock)) (by (with_reducible repeat (first | apply Kd.R_alloc | apply Kd.R_drewN | apply Kd.R_drew)); exact Kd.R_mono HO248.out (fun _ hk => by first | exact ⟨⟨hk.1.1.1, ⟨hk.1.1.2, hk.2⟩⟩, hk.1.2⟩ | (repeat' (first | exact hk | exact hk.1 | exact hk.2 | exact hk.1.1 | exact hk.1.2 | exact hk.2.1 | exact hk.2.2 | exact hk.1.1.1 | exact hk.1.1.2 | exact hk.1.2.1 | exact hk.1.2.2 | exact True.intro | apply And.intro)))) hg hat)
                                have n4_ := Aside0.mk (Kd.S_over' (by (with_reducible repeat (first | apply Kd.S_alloc | apply Kd.S_drewN | apply Kd.S_drew)); exact HO252.out) (Kd.R_typed (by (with_reducible repeat (first | apply Kd.R_alloc | apply Kd.R_drewN | apply Kd.R_drew)); exact HO255.out)) (by decide) hg)
                                have n5_ := Aside0.mk (Kd.R_after (ok := (fun k_ => some k_ ≠ (.slice Ao18 t186.length co18 : Value).ownBlock ∧ some k_ ≠ (.slice Ao106 y243.length co106 : Value).ownBlock ∧ some k_ ≠ (.slice Ao107 y246.length co107 : Value).ownBlock)) (by (with_reducible repeat (first | apply Kd.R_alloc | apply Kd.R_drewN | apply Kd.R_drew)); exact Kd.R_mono HO261.out (fun _ hk => by first | exact ⟨⟨hk.1.1.1.2, ⟨hk.1.1.2, hk.1.2⟩⟩, hk.2⟩ | (repeat' (first | exact hk | exact hk.1 | exact hk.2 | exact hk.1.1 | exact hk.1.2 | exact hk.2.1 | exact hk.2.2 | exact hk.1.1.1 | exact hk.1.1.2 | exact hk.1.2.1 | exact hk.1.2.2 | exact True.intro | apply And.intro)))) hg hat)
                                have n6_ := Aside0.mk (hb)
                                have n7_ := Aside0.mk (ho)
                                clear HO_1
                                clear BK198
                                clear HO245
                                clear HO248
                                clear HO252
                                clear HO261
                                clear HB
                                clear HO255
                                have HO_1 := n0_
                                have BK198 := n1_
                                have HO245 := n2_
                                have HO248 := n3_
                                have HO252 := n4_
                                have HO261 := n5_
                                have HB := n6_
                                have HO258 := n7_
                                clear n0_ n1_ n2_ n3_ n4_ n5_ n6_ n7_
                                clear ho hb hg hat
                                refine hK.out _ _ ⟨(blk_cell BK198.out 0).trans rfl, (blk_cell BK198.out 1).trans rfl⟩ (fun hHeld => ?_)
                                clear hK K
                                refine norm_ (a' := ?_) ?_ ?_
                                rotate_left
                                ·
                                 show Act.put _ (some 163) _ = _
                                 simp only [Act.put, List.setIfInBounds_toArray, List.set_cons_zero, List.set_cons_succ, i64_w, i32_w]
                                 rfl
                                exact norm_ (by simp only [putAll, Act.put, List.setIfInBounds_toArray, List.set_cons_zero, List.set_cons_succ]) (hCont (v254, v257, v260) _ ⟨hHeld, (by (with_reducible repeat (first | apply Kd.R_alloc | apply Kd.R_drewN | apply Kd.R_drew)); exact Kd.R_mono HO245.out (fun _ hk => by first | exact ⟨hk.1.2.1, ⟨hk.2, ⟨hk.1.2.2, hk.1.1⟩⟩⟩ | (repeat' (first | exact hk | exact hk.1 | exact hk.2 | exact hk.1.1 | exact hk.1.2 | exact hk.2.1 | exact hk.2.2 | exact hk.1.1.1 | exact hk.1.1.2 | exact hk.1.2.1 | exact hk.1.2.2 | exact True.intro | apply And.intro)))), (by (with_reducible repeat (first | apply Kd.R_alloc | apply Kd.R_drewN | apply Kd.R_drew)); exact Kd.R_mono HO248.out (fun _ hk => by first | exact ⟨hk.1.2.1, ⟨hk.2, ⟨hk.1.2.2, hk.1.1⟩⟩⟩ | (repeat' (first | exact hk | exact hk.1 | exact hk.2 | exact hk.1.1 | exact hk.1.2 | exact hk.2.1 | exact hk.2.2 | exact hk.1.1.1 | exact hk.1.1.2 | exact hk.1.2.1 | exact hk.1.2.2 | exact True.intro | apply And.intro)))), (by (with_reducible repeat (first | apply Kd.S_alloc | apply Kd.S_drewN | apply Kd.S_drew)); exact Kd.S_mono HO252.out (fun _ hk => hk.2)), (by (with_reducible repeat (first | apply Kd.R_alloc | apply Kd.R_drewN | apply Kd.R_drew)); exact Kd.R_mono HO258.out (fun _ hk => by first | exact ⟨hk.2.1, ⟨hk.2.2.1, ⟨hk.2.2.2, hk.1⟩⟩⟩ | (repeat' (first | exact hk | exact hk.1 | exact hk.2 | exact hk.1.1 | exact hk.1.2 | exact hk.2.1 | exact hk.2.2 | exact hk.1.1.1 | exact hk.1.1.2 | exact hk.1.2.1 | exact hk.1.2.2 | exact True.intro | apply And.intro)))), (by (with_reducible repeat (first | apply Kd.R_alloc | apply Kd.R_drewN | apply Kd.R_drew)); exact Kd.R_mono HO261.out (fun _ hk => by first | exact ⟨hk.1.2.1, ⟨hk.1.2.2, ⟨hk.2, hk.1.1⟩⟩⟩ | (repeat' (first | exact hk | exact hk.1 | exact hk.2 | exact hk.1.1 | exact hk.1.2 | exact hk.2.1 | exact hk.2.2 | exact hk.1.1.1 | exact hk.1.1.2 | exact hk.1.2.1 | exact hk.1.2.2 | exact True.intro | apply And.intro)))), (by (with_reducible repeat (first | apply Kd.R_alloc | apply Kd.R_drewN | apply Kd.R_drew)); exact Kd.R_mono HO_1.out (fun _ hk => by first | exact ⟨hk.1.1, ⟨hk.1.2.1, ⟨hk.2, hk.1.2.2⟩⟩⟩ | (repeat' (first | exact hk | exact hk.1 | exact hk.2 | exact hk.1.1 | exact hk.1.2 | exact hk.2.1 | exact hk.2.2 | exact hk.1.1.1 | exact hk.1.1.2 | exact hk.1.2.1 | exact hk.1.2.2 | exact True.intro | apply And.intro)))), (grz_ BK198.out), (by repeat (first | (with_reducible first | exact HB.out | apply below_alloc | apply pw_below_drewN | apply below_drew1 | refine below_set ?_ GE198.out) | exact HB.out))⟩)
                              ·
                               skip
                               refine Kd.R_lit_step k37 _ 37 ?hg (N := 173) ?hd (xs := ([(⟨t189, (ji29), wrap64 (((rd_T34 (rd_L4 t191 t189) (ji29)).f0) - 5), wrap64 (((rd_T34 (rd_L4 t191 t189) (ji29)).f0) - 1)⟩ : S37)] : List (S37))) (inner := [.int .i64 t189, .int .i64 (ji29), .int .i64 (wrap64 (((rd_T34 (rd_L4 t191 t189) (ji29)).f0) - 5)), .int .i64 (wrap64 (((rd_T34 (rd_L4 t191 t189) (ji29)).f0) - 1))]) (ok := fun _ => True) (okp := fun _ => True) ?hr ?hp (fun _ hk => hk) trivial (Below.refl _ _) (Nat.le_refl _) (by simp) ?_; (case hd => rfl); (case hg => rfl); (case hr => first | (go_simp; done) | (go_simp; rfl)); (case hp => exact (Reps.c4 (show Kd.M k37 _ _ _ (⟨t189, (ji29), wrap64 (((rd_T34 (rd_L4 t191 t189) (ji29)).f0) - 5), wrap64 (((rd_T34 (rd_L4 t191 t189) (ji29)).f0) - 1)⟩ : S37) [.int .i64 t189, .int .i64 (ji29), .int .i64 (wrap64 (((rd_T34 (rd_L4 t191 t189) (ji29)).f0) - 5)), .int .i64 (wrap64 (((rd_T34 (rd_L4 t191 t189) (ji29)).f0) - 1))] from (k37_mkM _ _ _ (⟨t189, (ji29), wrap64 (((rd_T34 (rd_L4 t191 t189) (ji29)).f0) - 5), wrap64 (((rd_T34 (rd_L4 t191 t189) (ji29)).f0) - 1)⟩ : S37) )) (Reps.none _ _)))
                               intro v260 w110 ho111 hb hg_ hnew_
                               clear hg_ hnew_
                               (first | rw [← Ny259.out] at ho111 | (simp only [Int.reduceToNat] at ho111; rw [← Ny259.out] at ho111))
                               have n0_ := Aside0.mk (Kd.R_elder' (by (with_reducible repeat (first | apply Kd.R_alloc | apply Kd.R_drewN | apply Kd.R_drew)); exact HO_1.out) (Kd.R_base ho111) hb)
                               have n1_ := Aside0.mk (Kd.R_elder' (by (with_reducible repeat (first | apply Kd.R_alloc | apply Kd.R_drewN | apply Kd.R_drew)); exact HO245.out) (Kd.R_base ho111) hb)
                               have n2_ := Aside0.mk (Kd.R_elder' (by (with_reducible repeat (first | apply Kd.R_alloc | apply Kd.R_drewN | apply Kd.R_drew)); exact HO248.out) (Kd.R_base ho111) hb)
                               have n3_ := Aside0.mk (Kd.S_below (by (with_reducible repeat (first | apply Kd.S_alloc | apply Kd.S_drewN | apply Kd.S_drew)); exact HO252.out) hb)
                               have n4_ := Aside0.mk (Kd.R_lower (Kd.R_new' (Kd.R_new' (Kd.R_new' ho111 (Kd.R_lt (by (with_reducible repeat (first | apply Kd.R_alloc | apply Kd.R_drewN | apply Kd.R_drew)); exact HO_1.out))) (Kd.R_lt (by (with_reducible repeat (first | apply Kd.R_alloc | apply Kd.R_drewN | apply Kd.R_drew)); exact HO245.out))) (Kd.R_lt (by (with_reducible repeat (first | apply Kd.R_alloc | apply Kd.R_drewN | apply Kd.R_drew)); exact HO248.out))) (below_size (by repeat (first | (with_reducible first | exact HB.out | apply below_alloc | apply pw_below_drewN | apply below_drew1 | refine below_set ?_ GE198.out) | exact HB.out))))
                               have n5_ := Aside0.mk (blk_below (g := gb198) (o := .cells #[.int .i64 ((rd_T34 (rd_L4 t191 t189) (ji29)).f0), .int .i64 ((rd_T34 (rd_L4 t191 t189) (ji29)).f1)] 34 (0, 0)) (grz_ BK198.out) hb)
                               have n6_ := Aside0.mk (below_step (by repeat (first | (with_reducible first | exact HB.out | apply below_alloc | apply pw_below_drewN | apply below_drew1 | refine below_set ?_ GE198.out) | exact HB.out)) hb)
                               clear HO_1
                               clear HO245
                               clear HO248
                               clear HO252
                               clear BK198
                               clear HB
                               have HO_1 := n0_
                               have HO245 := n1_
                               have HO248 := n2_
                               have HO252 := n3_
                               have HO261 := n4_
                               have BK198 := n5_
                               have HB := n6_
                               clear n0_ n1_ n2_ n3_ n4_ n5_ n6_
                               clear hb ho111
                               refine hK.out _ _ ⟨(blk_cell BK198.out 0).trans rfl, (blk_cell BK198.out 1).trans rfl⟩ (fun hHeld => ?_)
                               clear hK K
                               refine norm_ (a' := ?_) ?_ ?_
                               rotate_left
                               ·
                                show Act.put _ (some 173) _ = _
                                simp only [Act.put, List.setIfInBounds_toArray, List.set_cons_zero, List.set_cons_succ, i64_w, i32_w]
                                rfl
                               refine one_ (i := 1) (N := some 161) #[true, true, true, false, true, true, true, true, true, true, true, true, true, true, false, false, false, false, false, false, false] rfl rfl (one_of HT_.out (by kernel_rfl)) (by decide) (fun K hK => ?_)
                               refine Kd.R_lit_step k37 _ 37 ?hg (N := 161) ?hd (xs := ([] : List (S37))) (inner := []) (ok := fun _ => True) (okp := fun _ => True) ?hr ?hp (fun _ hk => hk) trivial (Below.refl _ _) (Nat.le_refl _) (by simp) ?_; (case hd => rfl); (case hg => rfl); (case hr => first | (go_simp; done) | (go_simp; rfl)); (case hp => exact (Reps.none _ _))
                               intro v254 w112 ho113 hb hg_ hnew_
                               clear hg_ hnew_
                               (first | rw [← Ny253.out] at ho113 | (simp only [Int.reduceToNat] at ho113; rw [← Ny253.out] at ho113))
                               have n0_ := Aside0.mk (Kd.R_elder' (by (with_reducible repeat (first | apply Kd.R_alloc | apply Kd.R_drewN | apply Kd.R_drew)); exact HO_1.out) (Kd.R_base ho113) hb)
                               have n1_ := Aside0.mk (Kd.R_elder' (by (with_reducible repeat (first | apply Kd.R_alloc | apply Kd.R_drewN | apply Kd.R_drew)); exact HO245.out) (Kd.R_base ho113) hb)
                               have n2_ := Aside0.mk (Kd.R_elder' (by (with_reducible repeat (first | apply Kd.R_alloc | apply Kd.R_drewN | apply Kd.R_drew)); exact HO248.out) (Kd.R_base ho113) hb)
                               have n3_ := Aside0.mk (Kd.S_below (by (with_reducible repeat (first | apply Kd.S_alloc | apply Kd.S_drewN | apply Kd.S_drew)); exact HO252.out) hb)
                               have n4_ := Aside0.mk (Kd.R_elder' (by (with_reducible repeat (first | apply Kd.R_alloc | apply Kd.R_drewN | apply Kd.R_drew)); exact HO261.out) (Kd.R_base ho113) hb)
                               have n5_ := Aside0.mk (Kd.R_lower (Kd.R_new' (Kd.R_new' (Kd.R_new' (Kd.R_new' ho113 (Kd.R_lt (by (with_reducible repeat (first | apply Kd.R_alloc | apply Kd.R_drewN | apply Kd.R_drew)); exact HO_1.out))) (Kd.R_lt (by (with_reducible repeat (first | apply Kd.R_alloc | apply Kd.R_drewN | apply Kd.R_drew)); exact HO245.out))) (Kd.R_lt (by (with_reducible repeat (first | apply Kd.R_alloc | apply Kd.R_drewN | apply Kd.R_drew)); exact HO248.out))) (Kd.R_lt (by (with_reducible repeat (first | apply Kd.R_alloc | apply Kd.R_drewN | apply Kd.R_drew)); exact HO261.out))) (below_size (by repeat (first | (with_reducible first | exact HB.out | apply below_alloc | apply pw_below_drewN | apply below_drew1 | refine below_set ?_ GE198.out) | exact HB.out))))
                               have n6_ := Aside0.mk (blk_below (g := gb198) (o := .cells #[.int .i64 ((rd_T34 (rd_L4 t191 t189) (ji29)).f0), .int .i64 ((rd_T34 (rd_L4 t191 t189) (ji29)).f1)] 34 (0, 0)) (grz_ BK198.out) hb)
                               have n7_ := Aside0.mk (below_step (by repeat (first | (with_reducible first | exact HB.out | apply below_alloc | apply pw_below_drewN | apply below_drew1 | refine below_set ?_ GE198.out) | exact HB.out)) hb)
                               clear HO_1
                               clear HO245
                               clear HO248
                               clear HO252
                               clear HO261
                               clear BK198
                               clear HB
                               have HO_1 := n0_
                               have HO245 := n1_
                               have HO248 := n2_
                               have HO252 := n3_
                               have HO261 := n4_
                               have HO255 := n5_
                               have BK198 := n6_
                               have HB := n7_
                               clear n0_ n1_ n2_ n3_ n4_ n5_ n6_ n7_
                               clear hb ho113
                               refine hK.out _ _ ⟨(blk_cell BK198.out 0).trans rfl, (blk_cell BK198.out 1).trans rfl⟩ (fun hHeld => ?_)
                               clear hK K
                               refine norm_ (a' := ?_) ?_ ?_
                               rotate_left
                               ·
                                show Act.put _ (some 161) _ = _
                                simp only [Act.put, List.setIfInBounds_toArray, List.set_cons_zero, List.set_cons_succ, i64_w, i32_w]
                                rfl
                               refine one_ (i := 3) (N := some 163) #[true, true, true, true, true, true, true, true, true, true, true, true, true, true, false, false, false, false, false, false, false] rfl rfl (one_of HT_.out (by kernel_rfl)) (by decide) (fun K hK => ?_)
                               refine Kd.R_append_rows_step k37 (w0 := w) w.heap.size (by rfl) (.tmp 161) (.tmp 162) 23 37 (.agg #[(.int .i64 0), (.int .i64 0), (.int .i64 0), (.int .i64 0)]) 32 rfl Try.underlying23 info37 rfl (by decide) (by omega) v254 y253 t186 _ _ _ (fun k_ => some k_ ≠ (.slice Ao18 t186.length co18 : Value).ownBlock ∧ some k_ ≠ (.slice Ao106 y243.length co106 : Value).ownBlock ∧ some k_ ≠ (.slice Ao107 y246.length co107 : Value).ownBlock ∧ some k_ ≠ (v260 : Value).ownBlock) (fun _ => False) rfl rfl ?aO ?aR (fun _ _ h => h) (fun _ h => h.elim) ?aF ?aB ?aS ?aL ?_
                               (case aR => repeat (first | exact (Kd.R_reads' HO_1.out).2.2 | (with_reducible refine Kd.C_alloc ?_ _) | (with_reducible refine Kd.C_drewN ?_ _) | (with_reducible refine Kd.C_drew ?_)))
                               (case aB => exact (by repeat (first | (with_reducible first | exact HB.out | apply below_alloc | apply pw_below_drewN | apply below_drew1 | refine below_set ?_ GE198.out) | exact HB.out)))
                               (case aF => exact (fun k_ hk => ⟨Kd.fresh' (Kd.R_lt (by (with_reducible repeat (first | apply Kd.R_alloc | apply Kd.R_drewN | apply Kd.R_drew)); exact HO_1.out)) k_ hk, Kd.fresh' (Kd.R_lt (by (with_reducible repeat (first | apply Kd.R_alloc | apply Kd.R_drewN | apply Kd.R_drew)); exact HO245.out)) k_ hk, Kd.fresh' (Kd.R_lt (by (with_reducible repeat (first | apply Kd.R_alloc | apply Kd.R_drewN | apply Kd.R_drew)); exact HO248.out)) k_ hk, Kd.fresh' (Kd.R_lt (by (with_reducible repeat (first | apply Kd.R_alloc | apply Kd.R_drewN | apply Kd.R_drew)); exact HO261.out)) k_ hk⟩))
                               (case aO => exact (by (with_reducible repeat (first | apply Kd.R_alloc | apply Kd.R_drewN | apply Kd.R_drew)); exact Kd.R_mono HO255.out (fun _ hk => by first | exact ⟨hk.1.1.1.2, ⟨hk.1.1.2, ⟨hk.1.2, hk.2⟩⟩⟩ | (repeat' (first | exact hk | exact hk.1 | exact hk.2 | exact hk.1.1 | exact hk.1.2 | exact hk.2.1 | exact hk.2.2 | exact hk.1.1.1 | exact hk.1.1.2 | exact hk.1.2.1 | exact hk.1.2.2 | exact True.intro | apply And.intro)))))
                               (case aS => exact (below_size (by repeat (first | (with_reducible first | exact HB.out | apply below_alloc | apply pw_below_drewN | apply below_drew1 | refine below_set ?_ GE198.out) | exact HB.out))))
                               (case aL => have := LMc94.out; omega)
                               intro v257 w114 ho hb hg hat
                               rw [← Ny256.out] at ho
                               have n0_ := Aside0.mk (Kd.R_after (ok := (fun k_ => some k_ ≠ (.slice Ao106 y243.length co106 : Value).ownBlock ∧ some k_ ≠ (.slice Ao107 y246.length co107 : Value).ownBlock ∧ some k_ ≠ (v260 : Value).ownBlock)) (by (with_reducible repeat (first | apply Kd.R_alloc | apply Kd.R_drewN | apply Kd.R_drew)); exact Kd.R_mono HO_1.out (fun _ hk => by first | exact ⟨⟨hk.1.1.1, ⟨hk.1.1.2, hk.1.2⟩⟩, hk.2⟩ | (repeat' (first | exact hk | exact hk.1 | exact hk.2 | exact hk.1.1 | exact hk.1.2 | exact hk.2.1 | exact hk.2.2 | exact hk.1.1.1 | exact hk.1.1.2 | exact hk.1.2.1 | exact hk.1.2.2 | exact True.intro | apply And.intro)))) hg hat)
                               have n1_ := Aside0.mk (blk_grown (g := gb198) (o := .cells #[.int .i64 ((rd_T34 (rd_L4 t191 t189) (ji29)).f0), .int .i64 ((rd_T34 (rd_L4 t191 t189) (ji29)).f1)] 34 (0, 0)) (grz_ BK198.out) hg (Kd.R_ne HO255.out BK198.out (by decide)))
                               have n2_ := Aside0.mk (Kd.R_after (ok := (fun k_ => some k_ ≠ (.slice Ao18 t186.length co18 : Value).ownBlock ∧ some k_ ≠ (.slice Ao107 y246.length co107 : Value).ownBlock ∧ some k_ ≠ (v260 : Value).ownBlock)) (by (with_reducible repeat (first | apply Kd.R_alloc | apply Kd.R_drewN | apply Kd.R_drew)); exact Kd.R_mono HO245.out (fun _ hk => by first | exact ⟨⟨hk.1.1.1, ⟨hk.1.1.2, hk.1.2⟩⟩, hk.2⟩ | (repeat' (first | exact hk | exact hk.1 | exact hk.2 | exact hk.1.1 | exact hk.1.2 | exact hk.2.1 | exact hk.2.2 | exact hk.1.1.1 | exact hk.1.1.2 | exact hk.1.2.1 | exact hk.1.2.2 | exact True.intro | apply And.intro)))) hg hat)
                               have n3_ := Aside0.mk (Kd.R_after (ok := (fun k_ => some k_ ≠ (.slice Ao18 t186.length co18 : Value).ownBlock ∧ some k_ ≠ (.slice Ao106 y243.length co106 : Value).ownBlock ∧ some k_ ≠ (v260 : Value).ownBlock)) (by (with_reducible repeat (first | apply Kd.R_alloc | apply Kd.R_drewN | apply Kd.R_drew)); exact Kd.R_mono HO248.out (fun _ hk => by first | exact ⟨⟨hk.1.1.1, ⟨hk.1.1.2, hk.1.2⟩⟩, hk.2⟩ | (repeat' (first | exact hk | exact hk.1 | exact hk.2 | exact hk.1.1 | exact hk.1.2 | exact hk.2.1 | exact hk.2.2 | exact hk.1.1.1 | exact hk.1.1.2 | exact hk.1.2.1 | exact hk.1.2.2 | exact True.intro | apply And.intro)))) hg hat)
                               have n4_ := Aside0.mk (Kd.S_over' (by (with_reducible repeat (first | apply Kd.S_alloc | apply Kd.S_drewN | apply Kd.S_drew)); exact HO252.out) (Kd.R_typed (by (with_reducible repeat (first | apply Kd.R_alloc | apply Kd.R_drewN | apply Kd.R_drew)); exact HO255.out)) (by decide) hg)
                               have n5_ := Aside0.mk (Kd.R_after (ok := (fun k_ => some k_ ≠ (.slice Ao18 t186.length co18 : Value).ownBlock ∧ some k_ ≠ (.slice Ao106 y243.length co106 : Value).ownBlock ∧ some k_ ≠ (.slice Ao107 y246.length co107 : Value).ownBlock)) (by (with_reducible repeat (first | apply Kd.R_alloc | apply Kd.R_drewN | apply Kd.R_drew)); exact Kd.R_mono HO261.out (fun _ hk => by first | exact ⟨⟨hk.1.1.1.2, ⟨hk.1.1.2, hk.1.2⟩⟩, hk.2⟩ | (repeat' (first | exact hk | exact hk.1 | exact hk.2 | exact hk.1.1 | exact hk.1.2 | exact hk.2.1 | exact hk.2.2 | exact hk.1.1.1 | exact hk.1.1.2 | exact hk.1.2.1 | exact hk.1.2.2 | exact True.intro | apply And.intro)))) hg hat)
                               have n6_ := Aside0.mk (hb)
                               have n7_ := Aside0.mk (ho)
                               clear HO_1
                               clear BK198
                               clear HO245
                               clear HO248
                               clear HO252
                               clear HO261
                               clear HB
                               clear HO255
                               have HO_1 := n0_
                               have BK198 := n1_
                               have HO245 := n2_
                               have HO248 := n3_
                               have HO252 := n4_
                               have HO261 := n5_
                               have HB := n6_
                               have HO258 := n7_
                               clear n0_ n1_ n2_ n3_ n4_ n5_ n6_ n7_
                               clear ho hb hg hat
                               refine hK.out _ _ ⟨(blk_cell BK198.out 0).trans rfl, (blk_cell BK198.out 1).trans rfl⟩ (fun hHeld => ?_)
                               clear hK K
                               refine norm_ (a' := ?_) ?_ ?_
                               rotate_left
                               ·
                                show Act.put _ (some 163) _ = _
                                simp only [Act.put, List.setIfInBounds_toArray, List.set_cons_zero, List.set_cons_succ, i64_w, i32_w]
                                rfl
                               exact norm_ (by simp only [putAll, Act.put, List.setIfInBounds_toArray, List.set_cons_zero, List.set_cons_succ]) (hCont (v254, v257, v260) _ ⟨hHeld, (by (with_reducible repeat (first | apply Kd.R_alloc | apply Kd.R_drewN | apply Kd.R_drew)); exact Kd.R_mono HO245.out (fun _ hk => by first | exact ⟨hk.1.2.1, ⟨hk.2, ⟨hk.1.2.2, hk.1.1⟩⟩⟩ | (repeat' (first | exact hk | exact hk.1 | exact hk.2 | exact hk.1.1 | exact hk.1.2 | exact hk.2.1 | exact hk.2.2 | exact hk.1.1.1 | exact hk.1.1.2 | exact hk.1.2.1 | exact hk.1.2.2 | exact True.intro | apply And.intro)))), (by (with_reducible repeat (first | apply Kd.R_alloc | apply Kd.R_drewN | apply Kd.R_drew)); exact Kd.R_mono HO248.out (fun _ hk => by first | exact ⟨hk.1.2.1, ⟨hk.2, ⟨hk.1.2.2, hk.1.1⟩⟩⟩ | (repeat' (first | exact hk | exact hk.1 | exact hk.2 | exact hk.1.1 | exact hk.1.2 | exact hk.2.1 | exact hk.2.2 | exact hk.1.1.1 | exact hk.1.1.2 | exact hk.1.2.1 | exact hk.1.2.2 | exact True.intro | apply And.intro)))), (by (with_reducible repeat (first | apply Kd.S_alloc | apply Kd.S_drewN | apply Kd.S_drew)); exact Kd.S_mono HO252.out (fun _ hk => hk.2)), (by (with_reducible repeat (first | apply Kd.R_alloc | apply Kd.R_drewN | apply Kd.R_drew)); exact Kd.R_mono HO258.out (fun _ hk => by first | exact ⟨hk.2.1, ⟨hk.2.2.1, ⟨hk.2.2.2, hk.1⟩⟩⟩ | (repeat' (first | exact hk | exact hk.1 | exact hk.2 | exact hk.1.1 | exact hk.1.2 | exact hk.2.1 | exact hk.2.2 | exact hk.1.1.1 | exact hk.1.1.2 | exact hk.1.2.1 | exact hk.1.2.2 | exact True.intro | apply And.intro)))), (by (with_reducible repeat (first | apply Kd.R_alloc | apply Kd.R_drewN | apply Kd.R_drew)); exact Kd.R_mono HO261.out (fun _ hk => by first | exact ⟨hk.1.2.1, ⟨hk.1.2.2, ⟨hk.2, hk.1.1⟩⟩⟩ | (repeat' (first | exact hk | exact hk.1 | exact hk.2 | exact hk.1.1 | exact hk.1.2 | exact hk.2.1 | exact hk.2.2 | exact hk.1.1.1 | exact hk.1.1.2 | exact hk.1.2.1 | exact hk.1.2.2 | exact True.intro | apply And.intro)))), (by (with_reducible repeat (first | apply Kd.R_alloc | apply Kd.R_drewN | apply Kd.R_drew)); exact Kd.R_mono HO_1.out (fun _ hk => by first | exact ⟨hk.1.1, ⟨hk.1.2.1, ⟨hk.2, hk.1.2.2⟩⟩⟩ | (repeat' (first | exact hk | exact hk.1 | exact hk.2 | exact hk.1.1 | exact hk.1.2 | exact hk.2.1 | exact hk.2.2 | exact hk.1.1.1 | exact hk.1.1.2 | exact hk.1.2.1 | exact hk.1.2.2 | exact True.intro | apply And.intro)))), (grz_ BK198.out), (by repeat (first | (with_reducible first | exact HB.out | apply below_alloc | apply pw_below_drewN | apply below_drew1 | refine below_set ?_ GE198.out) | exact HB.out))⟩)
                             rintro ⟨v254, v257, v260⟩ w115 ⟨hS_, h0_, h1_, h2_, h3_, h4_, h5_, h6_, h7_⟩
                             replace HO245 : Aside0 (Kd.R k37 37 w115 w.heap.size (fun k_ => some k_ ≠ (.slice Ao107 y246.length co107 : Value).ownBlock ∧ some k_ ≠ (v257 : Value).ownBlock ∧ some k_ ≠ (v260 : Value).ownBlock ∧ some k_ ≠ (.slice Ao18 t186.length co18 : Value).ownBlock) (.slice Ao106 y243.length co106) y243) := ⟨h0_⟩
                             replace HO248 : Aside0 (Kd.R k37 37 w115 w.heap.size (fun k_ => some k_ ≠ (.slice Ao106 y243.length co106 : Value).ownBlock ∧ some k_ ≠ (v257 : Value).ownBlock ∧ some k_ ≠ (v260 : Value).ownBlock ∧ some k_ ≠ (.slice Ao18 t186.length co18 : Value).ownBlock) (.slice Ao107 y246.length co107) y246) := ⟨h1_⟩
                             replace HO252 : Aside0 (Kd.S (Kd.slice 34 k34) 32 w115 w.heap.size (fun k_ => k_ ≠ gb198) v251 t249) := ⟨h2_⟩
                             have HO258 : Aside0 (Kd.R k37 37 w115 w.heap.size (fun k_ => some k_ ≠ (.slice Ao106 y243.length co106 : Value).ownBlock ∧ some k_ ≠ (.slice Ao107 y246.length co107 : Value).ownBlock ∧ some k_ ≠ (v260 : Value).ownBlock ∧ some k_ ≠ (.slice Ao18 t186.length co18 : Value).ownBlock) v257 y256) := ⟨h3_⟩
                             have HO261 : Aside0 (Kd.R k37 37 w115 w.heap.size (fun k_ => some k_ ≠ (.slice Ao106 y243.length co106 : Value).ownBlock ∧ some k_ ≠ (.slice Ao107 y246.length co107 : Value).ownBlock ∧ some k_ ≠ (v257 : Value).ownBlock ∧ some k_ ≠ (.slice Ao18 t186.length co18 : Value).ownBlock) v260 y259) := ⟨h4_⟩
                             replace HO_1 : Aside0 (Kd.R k37 37 w115 w.heap.size (fun k_ => some k_ ≠ (.slice Ao106 y243.length co106 : Value).ownBlock ∧ some k_ ≠ (.slice Ao107 y246.length co107 : Value).ownBlock ∧ some k_ ≠ (v257 : Value).ownBlock ∧ some k_ ≠ (v260 : Value).ownBlock) (.slice Ao18 t186.length co18) t186) := ⟨h5_⟩
                             replace BK198 : Aside0 (w115.heap[gb198]? = some (.cells #[.int .i64 ((rd_T34 (rd_L4 t191 t189) (ji29)).f0), .int .i64 ((rd_T34 (rd_L4 t191 t189) (ji29)).f1)] 34 (0, 0))) := ⟨h6_⟩
                             replace HB : Aside0 (Below w.heap.size w w115) := ⟨h7_⟩
                             clear h0_ h1_ h2_ h3_ h4_ h5_ h6_ h7_
                             have hHeld : w115.cell? ⟨gb198, 0, none⟩ = some (.int .i64 ((rd_T34 (rd_L4 t191 t189) (ji29)).f0)) ∧ w115.cell? ⟨gb198, 1, none⟩ = some (.int .i64 ((rd_T34 (rd_L4 t191 t189) (ji29)).f1)) := hS_
                             obtain ⟨Ao117, co117, eo117⟩ := Kd.R_slice HO261.out
                             (first | subst eo117 | (injection eo117 with f1_ f2_ f3_; have f4_ := f1_.symm; have f5_ := f3_.symm; clear f1_ f2_ f3_; subst f4_; subst f5_))
                             refine norm_ (a' := ?_) ?_ ?_
                             rotate_left
                             ·
                              simp only [putAll, Act.put, List.setIfInBounds_toArray, List.set_cons_zero, List.set_cons_succ]
                              rfl
                             refine one_ (i := 14) (N := some 174) #[true, true, true, true, true, true, true, true, true, true, true, true, true, true, true, false, false, false, false, false, false] rfl rfl (one_of HT_.out (by kernel_rfl)) (by decide) (fun K hK => ?_)
                             refine Kd.R_append_rows_step k37 (w0 := w) w.heap.size (by rfl) (.tmp 163) (.tmp 173) 23 37 (.agg #[(.int .i64 0), (.int .i64 0), (.int .i64 0), (.int .i64 0)]) 32 rfl Try.underlying23 info37 rfl (by decide) (by omega) v257 y256 y259 _ _ _ (fun k_ => some k_ ≠ (.slice Ao18 t186.length co18 : Value).ownBlock ∧ some k_ ≠ (.slice Ao106 y243.length co106 : Value).ownBlock ∧ some k_ ≠ (.slice Ao107 y246.length co107 : Value).ownBlock ∧ some k_ ≠ (.slice Ao117 y259.length co117 : Value).ownBlock) (fun _ => False) rfl rfl ?aO ?aR (fun _ _ h => h) (fun _ h => h.elim) ?aF ?aB ?aS ?aL ?_
                             (case aR => repeat (first | exact (Kd.R_reads' HO261.out).2.2 | (with_reducible refine Kd.C_alloc ?_ _) | (with_reducible refine Kd.C_drewN ?_ _) | (with_reducible refine Kd.C_drew ?_)))
                             (case aB => exact (by repeat (first | (with_reducible first | exact HB.out | apply below_alloc | apply pw_below_drewN | apply below_drew1 | refine below_set ?_ GE198.out) | exact HB.out)))
                             (case aF => exact (fun k_ hk => ⟨Kd.fresh' (Kd.R_lt (by (with_reducible repeat (first | apply Kd.R_alloc | apply Kd.R_drewN | apply Kd.R_drew)); exact HO_1.out)) k_ hk, Kd.fresh' (Kd.R_lt (by (with_reducible repeat (first | apply Kd.R_alloc | apply Kd.R_drewN | apply Kd.R_drew)); exact HO245.out)) k_ hk, Kd.fresh' (Kd.R_lt (by (with_reducible repeat (first | apply Kd.R_alloc | apply Kd.R_drewN | apply Kd.R_drew)); exact HO248.out)) k_ hk, Kd.fresh' (Kd.R_lt (by (with_reducible repeat (first | apply Kd.R_alloc | apply Kd.R_drewN | apply Kd.R_drew)); exact HO261.out)) k_ hk⟩))
                             (case aO => exact (by (with_reducible repeat (first | apply Kd.R_alloc | apply Kd.R_drewN | apply Kd.R_drew)); exact Kd.R_mono HO258.out (fun _ hk => by first | exact ⟨hk.2.2.2, ⟨hk.1, ⟨hk.2.1, hk.2.2.1⟩⟩⟩ | (repeat' (first | exact hk | exact hk.1 | exact hk.2 | exact hk.1.1 | exact hk.1.2 | exact hk.2.1 | exact hk.2.2 | exact hk.1.1.1 | exact hk.1.1.2 | exact hk.1.2.1 | exact hk.1.2.2 | exact True.intro | apply And.intro)))))
                             (case aS => exact (below_size (by repeat (first | (with_reducible first | exact HB.out | apply below_alloc | apply pw_below_drewN | apply below_drew1 | refine below_set ?_ GE198.out) | exact HB.out))))
                             (case aL => have := LMc95.out; omega)
                             intro v263 w116 ho hb hg hat
                             rw [← Ny262.out] at ho
                             have n0_ := Aside0.mk (Kd.R_after (ok := (fun k_ => some k_ ≠ (.slice Ao106 y243.length co106 : Value).ownBlock ∧ some k_ ≠ (.slice Ao107 y246.length co107 : Value).ownBlock ∧ some k_ ≠ (.slice Ao117 y259.length co117 : Value).ownBlock)) (by (with_reducible repeat (first | apply Kd.R_alloc | apply Kd.R_drewN | apply Kd.R_drew)); exact Kd.R_mono HO_1.out (fun _ hk => by first | exact ⟨⟨hk.1, ⟨hk.2.1, hk.2.2.2⟩⟩, hk.2.2.1⟩ | (repeat' (first | exact hk | exact hk.1 | exact hk.2 | exact hk.1.1 | exact hk.1.2 | exact hk.2.1 | exact hk.2.2 | exact hk.1.1.1 | exact hk.1.1.2 | exact hk.1.2.1 | exact hk.1.2.2 | exact True.intro | apply And.intro)))) hg hat)
                             have n1_ := Aside0.mk (blk_grown (g := gb198) (o := .cells #[.int .i64 ((rd_T34 (rd_L4 t191 t189) (ji29)).f0), .int .i64 ((rd_T34 (rd_L4 t191 t189) (ji29)).f1)] 34 (0, 0)) (grz_ BK198.out) hg (Kd.R_ne HO258.out BK198.out (by decide)))
                             have n2_ := Aside0.mk (Kd.R_after (ok := (fun k_ => some k_ ≠ (.slice Ao18 t186.length co18 : Value).ownBlock ∧ some k_ ≠ (.slice Ao107 y246.length co107 : Value).ownBlock ∧ some k_ ≠ (.slice Ao117 y259.length co117 : Value).ownBlock)) (by (with_reducible repeat (first | apply Kd.R_alloc | apply Kd.R_drewN | apply Kd.R_drew)); exact Kd.R_mono HO245.out (fun _ hk => by first | exact ⟨⟨hk.2.2.2, ⟨hk.1, hk.2.2.1⟩⟩, hk.2.1⟩ | (repeat' (first | exact hk | exact hk.1 | exact hk.2 | exact hk.1.1 | exact hk.1.2 | exact hk.2.1 | exact hk.2.2 | exact hk.1.1.1 | exact hk.1.1.2 | exact hk.1.2.1 | exact hk.1.2.2 | exact True.intro | apply And.intro)))) hg hat)
                             have n3_ := Aside0.mk (Kd.R_after (ok := (fun k_ => some k_ ≠ (.slice Ao18 t186.length co18 : Value).ownBlock ∧ some k_ ≠ (.slice Ao106 y243.length co106 : Value).ownBlock ∧ some k_ ≠ (.slice Ao117 y259.length co117 : Value).ownBlock)) (by (with_reducible repeat (first | apply Kd.R_alloc | apply Kd.R_drewN | apply Kd.R_drew)); exact Kd.R_mono HO248.out (fun _ hk => by first | exact ⟨⟨hk.2.2.2, ⟨hk.1, hk.2.2.1⟩⟩, hk.2.1⟩ | (repeat' (first | exact hk | exact hk.1 | exact hk.2 | exact hk.1.1 | exact hk.1.2 | exact hk.2.1 | exact hk.2.2 | exact hk.1.1.1 | exact hk.1.1.2 | exact hk.1.2.1 | exact hk.1.2.2 | exact True.intro | apply And.intro)))) hg hat)
                             have n4_ := Aside0.mk (Kd.S_over' (by (with_reducible repeat (first | apply Kd.S_alloc | apply Kd.S_drewN | apply Kd.S_drew)); exact HO252.out) (Kd.R_typed (by (with_reducible repeat (first | apply Kd.R_alloc | apply Kd.R_drewN | apply Kd.R_drew)); exact HO258.out)) (by decide) hg)
                             have n5_ := Aside0.mk (Kd.R_after (ok := (fun k_ => some k_ ≠ (.slice Ao18 t186.length co18 : Value).ownBlock ∧ some k_ ≠ (.slice Ao106 y243.length co106 : Value).ownBlock ∧ some k_ ≠ (.slice Ao107 y246.length co107 : Value).ownBlock)) (by (with_reducible repeat (first | apply Kd.R_alloc | apply Kd.R_drewN | apply Kd.R_drew)); exact Kd.R_mono HO261.out (fun _ hk => by first | exact ⟨⟨hk.2.2.2, ⟨hk.1, hk.2.1⟩⟩, hk.2.2.1⟩ | (repeat' (first | exact hk | exact hk.1 | exact hk.2 | exact hk.1.1 | exact hk.1.2 | exact hk.2.1 | exact hk.2.2 | exact hk.1.1.1 | exact hk.1.1.2 | exact hk.1.2.1 | exact hk.1.2.2 | exact True.intro | apply And.intro)))) hg hat)
                             have n6_ := Aside0.mk (hb)
                             have n7_ := Aside0.mk (ho)
                             clear HO_1
                             clear BK198
                             clear HO245
                             clear HO248
                             clear HO252
                             clear HO261
                             clear HB
                             clear HO258
                             have HO_1 := n0_
                             have BK198 := n1_
                             have HO245 := n2_
                             have HO248 := n3_
                             have HO252 := n4_
                             have HO261 := n5_
                             have HB := n6_
                             have HO264 := n7_
                             clear n0_ n1_ n2_ n3_ n4_ n5_ n6_ n7_
                             clear ho hb hg hat
                             obtain ⟨Ao118, co118, eo118⟩ := Kd.R_slice HO264.out
                             (first | subst eo118 | (injection eo118 with f1_ f2_ f3_; have f4_ := f1_.symm; have f5_ := f3_.symm; clear f1_ f2_ f3_; subst f4_; subst f5_))
                             refine hK.out _ _ ⟨(blk_cell BK198.out 0).trans rfl, (blk_cell BK198.out 1).trans rfl⟩ (fun hHeld => ?_)
                             clear hK K
                             refine norm_ (a' := ?_) ?_ ?_
                             rotate_left
                             ·
                              show Act.put _ (some 174) _ = _
                              simp only [Act.put, List.setIfInBounds_toArray, List.set_cons_zero, List.set_cons_succ, i64_w, i32_w]
                              rfl
                             refine one_ (i := 15) (N := some 175) #[true, true, true, true, true, true, true, true, true, true, true, true, true, true, true, true, false, false, false, false, false] rfl rfl (one_of HT_.out (by kernel_rfl)) (by decide) (fun K hK => ?_)
                             refine goes_ Try.func9 (by kernel_rfl) rfl #[.int .i64 t185, .slice Ao118 y262.length co118] (by rfl) rfl rfl (by (try simp only [List.map_toArray, List.map_cons, List.map_nil]); first | done | rfl | (simp only [List.length_drop, List.length_take]; rfl)) ?_
                             with_reducible refine (chron_Tightest.calls kj68 t185 _ _ y262 t265 t266 _ ?side1 ?side2 A96.out).mono ?_
                             (case side1 => repeat (first | exact (Kd.R_reads' HO264.out).2.2 | (with_reducible refine Kd.C_alloc ?_ _) | (with_reducible refine Kd.C_drewN ?_ _) | (with_reducible refine Kd.C_drew ?_)))
                             (case side2 => exact (Kd.R_reads' HO264.out).2.1)
                             rintro e w119 ⟨v267, rfl, ho0, hb⟩
                             refine ⟨_, rfl, ?_⟩
                             have n0_ := Aside0.mk (Kd.R_below (by (with_reducible repeat (first | apply Kd.R_alloc | apply Kd.R_drewN | apply Kd.R_drew)); exact HO_1.out) hb)
                             have n1_ := Aside0.mk (Kd.R_below (by (with_reducible repeat (first | apply Kd.R_alloc | apply Kd.R_drewN | apply Kd.R_drew)); exact HO245.out) hb)
                             have n2_ := Aside0.mk (Kd.R_below (by (with_reducible repeat (first | apply Kd.R_alloc | apply Kd.R_drewN | apply Kd.R_drew)); exact HO248.out) hb)
                             have n3_ := Aside0.mk (Kd.S_elder' (by (with_reducible repeat (first | apply Kd.S_alloc | apply Kd.S_drewN | apply Kd.S_drew)); exact HO252.out) (Kd.S_base ho0) hb)
                             have n4_ := Aside0.mk (Kd.R_below (by (with_reducible repeat (first | apply Kd.R_alloc | apply Kd.R_drewN | apply Kd.R_drew)); exact HO261.out) hb)
                             have n5_ := Aside0.mk (Kd.R_below (by (with_reducible repeat (first | apply Kd.R_alloc | apply Kd.R_drewN | apply Kd.R_drew)); exact HO264.out) hb)
                             have n6_ := Aside0.mk (Kd.S_lower (Kd.S_newB (Kd.S_new' ho0 (Kd.S_lt (by (with_reducible repeat (first | apply Kd.S_alloc | apply Kd.S_drewN | apply Kd.S_drew)); exact HO252.out))) (g := gb198) (o := .cells #[.int .i64 ((rd_T34 (rd_L4 t191 t189) (ji29)).f0), .int .i64 ((rd_T34 (rd_L4 t191 t189) (ji29)).f1)] 34 (0, 0)) (grz_ BK198.out)) (below_size (by repeat (first | (with_reducible first | exact HB.out | apply below_alloc | apply pw_below_drewN | apply below_drew1 | refine below_set ?_ GE198.out) | exact HB.out))))
                             have n7_ := Aside0.mk (blk_below (g := gb198) (o := .cells #[.int .i64 ((rd_T34 (rd_L4 t191 t189) (ji29)).f0), .int .i64 ((rd_T34 (rd_L4 t191 t189) (ji29)).f1)] 34 (0, 0)) (grz_ BK198.out) hb)
                             have n8_ := Aside0.mk (below_step (by repeat (first | (with_reducible first | exact HB.out | apply below_alloc | apply pw_below_drewN | apply below_drew1 | refine below_set ?_ GE198.out) | exact HB.out)) hb)
                             clear HO_1
                             clear HO245
                             clear HO248
                             clear HO252
                             clear HO261
                             clear HO264
                             clear BK198
                             clear HB
                             have HO_1 := n0_
                             have HO245 := n1_
                             have HO248 := n2_
                             have HO252 := n3_
                             have HO261 := n4_
                             have HO264 := n5_
                             have HO268 := n6_
                             have BK198 := n7_
                             have HB := n8_
                             clear n0_ n1_ n2_ n3_ n4_ n5_ n6_ n7_ n8_
                             (try clear hb)
                             (try clear hb2)
                             (try clear hk)
                             (try clear hi)
                             (try clear ho0)
                             refine hK.out _ _ ⟨(blk_cell BK198.out 0).trans rfl, (blk_cell BK198.out 1).trans rfl⟩ (fun hHeld => ?_)
                             clear hK K
                             refine norm_ (a' := ?_) ?_ ?_
                             rotate_left
                             ·
                              show Act.put _ (some 175) _ = _
                              simp only [Act.put, List.setIfInBounds_toArray, List.set_cons_zero, List.set_cons_succ, i64_w, i32_w]
                              rfl
                             refine pure_ (i := 16) (N := some 159) (v := ?_) (a' := ?_) #[true, true, true, true, true, true, true, true, true, true, true, true, true, true, true, true, true, false, false, false, false] rfl rfl (any_of HT_.out (by kernel_rfl)) (fun _ _ _ h => h) (Or.inl ⟨by rfl, ?_⟩) ?_ ?_
                             rotate_left
                             ·
                              intro w'
                              go_simp
                              with_reducible rfl
                             rotate_left
                             ·
                              simp only [Act.put, List.setIfInBounds_toArray, List.set_cons_zero, List.set_cons_succ, i64_w, i32_w]
                              rfl
                             refine pure_ (i := 17) (N := some 176) (v := ?_) (a' := ?_) #[true, true, true, true, true, true, true, true, true, true, true, true, true, true, true, true, true, true, false, false, false] rfl rfl (any_of HT_.out (by kernel_rfl)) (fun _ _ _ h => h) (Or.inl ⟨by rfl, ?_⟩) ?_ ?_
                             rotate_left
                             ·
                              intro w'
                              go_simp
                              with_reducible rfl
                             rotate_left
                             ·
                              simp only [Act.put, List.setIfInBounds_toArray, List.set_cons_zero, List.set_cons_succ, i64_w, i32_w]
                              rfl
                             refine pure_ (i := 18) (N := some 177) (v := ?_) (a' := ?_) #[true, true, true, true, true, true, true, true, true, true, true, true, true, true, true, true, true, true, true, false, false] rfl rfl (any_of HT_.out (by kernel_rfl)) (fun _ _ _ h => h) (Or.inl ⟨by rfl, ?_⟩) ?_ ?_
                             rotate_left
                             ·
                              intro w'
                              go_simp
                              with_reducible rfl
                             rotate_left
                             ·
                              simp only [Act.put, List.setIfInBounds_toArray, List.set_cons_zero, List.set_cons_succ, i64_w, i32_w]
                              rfl
                             refine pure_ (i := 19) (N := some 19) (v := ?_) (a' := ?_) #[true, true, true, true, true, true, true, true, true, true, true, true, true, true, true, true, true, true, true, true, false] rfl rfl (any_of HT_.out (by kernel_rfl)) (fun _ _ _ h => h) (Or.inl ⟨by rfl, ?_⟩) ?_ ?_
                             rotate_left
                             ·
                              intro w'
                              go_simp
                              with_reducible rfl
                             rotate_left
                             ·
                              simp only [Act.put, List.setIfInBounds_toArray, List.set_cons_zero, List.set_cons_succ, i64_w, i32_w]
                              rfl
                             refine pure_ (i := 20) (N := some 20) (v := ?_) (a' := ?_) #[true, true, true, true, true, true, true, true, true, true, true, true, true, true, true, true, true, true, true, true, true] rfl rfl (any_of HT_.out (by kernel_rfl)) (fun _ _ _ h => h) (Or.inl ⟨by rfl, ?_⟩) ?_ ?_
                             rotate_left
                             ·
                              intro w'
                              go_simp
                              with_reducible rfl
                             rotate_left
                             ·
                              simp only [Act.put, List.setIfInBounds_toArray, List.set_cons_zero, List.set_cons_succ, i64_w, i32_w]
                              rfl
                             refine done_ (done_of HT_.out (by kernel_rfl)) ?_
                             try go_wp2
                             go_ret
                             exact ⟨by first | rfl | (simp [errW_none, errW_some] <;> rfl) | (simp only [← hji29]; first | rfl | (simp [errW_none, errW_some] <;> rfl)) | (simp [*, errW_none, errW_some] <;> rfl), by repeat (first | (with_reducible first | exact HB.out | apply below_alloc | apply pw_below_drewN | apply below_drew1 | refine below_set ?_ GE198.out) | exact HB.out)⟩
                            ·
                             rw [if_neg c97] at H
                             exact absurd H (by simp)
                           ·
                            rw [if_neg c95] at H
                            exact absurd H (by simp)
                          ·
                           rw [if_neg c94] at H
                           exact absurd H (by simp)
                         ·
                          rw [if_neg c92] at H
                          exact absurd H (by simp)
                        ·
                         rw [if_neg c91] at H
                         exact absurd H (by simp)
                    ·
                     rw [if_neg c67] at H
                     exact absurd H (by simp)
                   ·
                    rw [if_neg c66] at H
                    exact absurd H (by simp)
               ·
                rw [if_neg c42] at H
                exact absurd H (by simp)
              ·
               rw [if_neg c41] at H
               exact absurd H (by simp)
          ·
           rw [if_neg c31] at H
           exact absurd H (by simp)
         ·
          rw [if_neg c30] at H
          exact absurd H (by simp)
        ·
         rw [if_neg c28] at H
         exact absurd H (by simp)
       ·
        rw [if_neg c27] at H
        exact absurd H (by simp)
 ·
  replace c6 := Bool.eq_false_iff.mpr c6
  subst c6
  have H1 : (none) = some r := by rw [if_neg (show ¬ (false = true) by decide)] at H; exact H
  clear H
  have H := H1
  clear H1
  exact absurd H (by simp)

end Go.Proofs.Ytoecglgbmhhdnaa.JE
