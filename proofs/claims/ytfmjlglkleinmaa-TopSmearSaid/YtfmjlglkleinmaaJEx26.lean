-- Made by a program of this session (wip/hp.py, over the kit's print) out of the translation. Not trusted: Lean checks it.
import Derived.Test.YtfmjlglkleinmaaJEx0
import Derived.Test.YtfmjlglkleinmaaJEx2
import Derived.Test.YtfmjlglkleinmaaJEx7
import Derived.Test.YtfmjlglkleinmaaJEx14
import Derived.Test.YtfmjlglkleinmaaJEx22
import Derived.Test.YtfmjlglkleinmaaJEx24
import Derived.Test.YtfmjlglkleinmaaJEx25
namespace Go.Proofs.Ytfmjlglkleinmaa.JE
open Go.RowKit Go.Proofs.YtfmjlglkleinmaaW.PrintWords Go.Proofs.YtfmjlglkleinmaaW.PrintLast Go.Proofs.YtfmjlglkleinmaaW.PrintMore
attribute [local go_sem] max2_int min2_int max_two min_two max_three min_three max_four min_four   -- for this text's walks alone
set_option linter.unusedVariables false
set_option linter.unusedSimpArgs false

/-! ### ephemeristop_TopSmear: function 4 -/
set_option maxHeartbeats 8000000 in
set_option maxRecDepth 100000 in
theorem ephemeristop_TopSmear.calls (k : Nat) (A0 : Option Addr) (c0 : Nat) (l0 : List Int) (a1 : Int) (a2 : Int) (a3 : Int) (r : Bool) (w : World) (hr0 : Kd.C (Kd.int .i64) w A0 l0.length l0) (hc0 : l0.length ≤ c0) (h : ephemeristop_TopSmear.f k l0 a1 a2 a3 = some r) :
    Calls Try.prog 4 #[.slice A0 l0.length c0, .int .i64 a1, .int .i64 a2, .int .i64 a3] w fun e w' => e = .returned (.bool r) ∧ Below w.heap.size w w' := by
  have hu41 := Try.underlying41
  have HR0 := Aside0.mk hr0
  have HC0 := Aside0.mk hc0
  clear hr0 hc0
  have HB := Aside0.mk (Below.refl w.heap.size w)
  have H : ((ephemeristop_sClocks.f k).bind fun t267 => (if t267 = true then (ephemeristop_TopSmear.l0 k a1 a2 a3 ([] : List (S41)) 10 l0 (l0.length : Int) 0) else (none))) = some r := h
  clear h
  replace H := Option.bind_eq_some_iff.mp H
  obtain ⟨t267, A50, H⟩ := H
  replace H : (if t267 = true then (ephemeristop_TopSmear.l0 k a1 a2 a3 ([] : List (S41)) 10 l0 (l0.length : Int) 0) else (none)) = some r := H
  have A5 := Aside0.mk A50
  clear A50
  by_cases c6 : t267 = true
  · subst c6
    have H1 : (ephemeristop_TopSmear.l0 k a1 a2 a3 ([] : List (S41)) 10 l0 (l0.length : Int) 0) = some r := by rw [if_pos rfl] at H; exact H
    clear H
    have H := H1
    clear H1
    have H' := Aside0.mk H
    clear H
    go_enter Try.func4, Try.ntmps4
    go_wp2_with (first | ((with_reducible refine gate_callee (f := 11) rfl ?_); refine goesL_ (some 25) rfl rfl Try.func11 (by kernel_rfl) rfl #[] rfl (by (try simp only [List.map_toArray, List.map_cons, List.map_nil]); first | done | rfl | (simp only [List.length_drop, List.length_take]; rfl)) ?_; (with_reducible refine (ephemeristop_sClocks.calls k  true _ A5.out).mono ?_); rintro e w7 ⟨rfl, hb⟩; refine ⟨_, rfl, ?_⟩; have n0_ := Aside0.mk (below_step (by repeat (first | (with_reducible first | exact HB.out | apply below_alloc | apply pw_below_drewN | apply below_drew1) | exact HB.out)) hb); clear HB; have HB := n0_; clear n0_; (try clear hb); (try clear hb2); (try clear hk); (try clear hi)))
    go_loopg [9, 10, 29] k (fun kq v9 v10 v29 w' => ∃ (x9_1 : List (S41)) (x10_1 : Int) (x29_1 : Int), v10 = .int .i64 x10_1 ∧ v29 = .int .i64 x29_1 ∧ Aside0 (ephemeristop_TopSmear.l0 kq a1 a2 a3 x9_1 x10_1 l0 (l0.length : Int) x29_1 = some r) ∧ Aside0 (kq ≤ k) ∧ Aside0 (Kd.R k41 41 w' w.heap.size (fun _ => True) v9 x9_1) ∧ Aside0 (Below w.heap.size w w'))
    case atStart => exact ⟨(([] : List (S41))), (10), (0), (by first | rfl | (simp; done) | (simp [*]; done)), (by first | rfl | (simp; done) | (simp [*]; done)), H', ⟨Nat.le_refl _⟩, ⟨by first | exact Kd.R_nil _ _ _ _ _ | exact Kd.N_nil _ _ _ _ _ | exact Kd.V_nil _ _ _ _ _ | exact Kd.Q_nil _ _ _ _ _ | exact Kd.S_nil _ _ _ _ _⟩, ⟨by repeat (first | (with_reducible first | exact HB.out | apply below_alloc | apply pw_below_drewN | apply below_drew1) | exact HB.out)⟩⟩
    case round =>
      clear H'
      try clear c1
      try clear p2
      try clear c4
      try clear c6
      obtain ⟨x9_1, x10_1, x29_1, rfl, rfl, HA, HK1, HO_9, HB⟩ := hrel
      cases gk with
      | zero => exact absurd HA.out (by simp [ephemeristop_TopSmear.l0])
      | succ k1 =>
        have H := HA.out
        clear HA
        simp only [ephemeristop_TopSmear.l0] at H
        by_cases c8 : x29_1 < (l0.length : Int)
        · rw [if_pos c8] at H
          have c8b0 : decide (x29_1 < (l0.length : Int)) = true := decide_eq_true c8
          clear c8
          by_cases c9 : 0 ≤ x29_1
          · rw [if_pos c9] at H
            have c9b0 : decide (0 ≤ x29_1) = true := decide_eq_true c9
            clear c9
            by_cases c10 : x29_1 < (l0.length : Int)
            · rw [if_pos c10] at H
              have c10b0 : decide (x29_1 < (l0.length : Int)) = true := decide_eq_true c10
              clear c10
              by_cases c11 : x29_1 < 12
              · rw [if_pos c11] at H
                have c11b0 : decide (x29_1 < 12) = true := decide_eq_true c11
                clear c11
                replace H := Option.bind_eq_some_iff.mp H
                obtain ⟨t269, A120, H⟩ := H
                replace H : ((ephemeristop_sAt.f (rd l0 x29_1) 3).bind fun t270 => (if x9_1.length < 8796093022208 then (ephemeristop_TopSmear.l0 k1 a1 a2 a3 (x9_1 ++ [(⟨wrap64 (x10_1 + (wrap64 (2 + t269))), wrap64 (1 - (wrap64 (2 * (wrap64 (Int.tdiv t270 2)))))⟩ : S41)]) (wrap64 (x10_1 + (wrap64 (2 + t269)))) l0 (l0.length : Int) (wrap64 (x29_1 + 1))) else (none))) = some r := H
                have A12 := Aside0.mk A120
                clear A120
                replace H := Option.bind_eq_some_iff.mp H
                obtain ⟨t270, A130, H⟩ := H
                replace H : (if x9_1.length < 8796093022208 then (ephemeristop_TopSmear.l0 k1 a1 a2 a3 (x9_1 ++ [(⟨wrap64 (x10_1 + (wrap64 (2 + t269))), wrap64 (1 - (wrap64 (2 * (wrap64 (Int.tdiv t270 2)))))⟩ : S41)]) (wrap64 (x10_1 + (wrap64 (2 + t269)))) l0 (l0.length : Int) (wrap64 (x29_1 + 1))) else (none)) = some r := H
                have A13 := Aside0.mk A130
                clear A130
                by_cases c14 : x9_1.length < 8796093022208
                · rw [if_pos c14] at H
                  have LMc14 := Aside0.mk c14
                  clear c14
                  obtain ⟨y271, hy271⟩ : ∃ y_ : List (S41), y_ = (x9_1 ++ [(⟨wrap64 (x10_1 + (wrap64 (2 + t269))), wrap64 (1 - (wrap64 (2 * (wrap64 (Int.tdiv t270 2)))))⟩ : S41)]) := ⟨_, rfl⟩
                  replace H : (ephemeristop_TopSmear.l0 k1 a1 a2 a3 y271 (wrap64 (x10_1 + (wrap64 (2 + t269)))) l0 (l0.length : Int) (wrap64 (x29_1 + 1))) = some r := by first | (rw [hy271]; with_reducible exact H) | (have H2_ := (Option.bind_some _ _).symm.trans H; rw [hy271]; with_reducible exact H2_) | (have H2_ := (Option.bind_some _ _).symm.trans H; with_reducible exact H2_) | with_reducible exact H | (rw [hy271]; exact H) | exact H
                  have Ny271 := Aside0.mk hy271
                  clear hy271
                  have H' := Aside0.mk H
                  clear H
                  have p268 : 0 ≤ (x29_1 : Int) := of_decide_eq_true (by first | (with_reducible assumption) | assumption)
                  have q268 : x29_1 < (l0.length : Int) := of_decide_eq_true (by first | (with_reducible assumption) | assumption)
                  obtain ⟨ad268, e268, hx268_0⟩ := Kd.at_int HR0.out x29_1 p268 q268
                  cases e268
                  replace hx268_0 := (HB.out.cell (World.block_lt_of_cell? w _ hx268_0)).trans hx268_0
                  replace p268 := eq_true p268
                  replace q268 := eq_true q268
                  go_wp2_with (first | ((with_reducible refine gate_callee (f := 9) rfl ?_); refine goesL_ (some 38) rfl rfl Try.func9 (by kernel_rfl) rfl #[.int .i64 (rd l0 x29_1), .int .i64 300] rfl (by (try simp only [List.map_toArray, List.map_cons, List.map_nil]); first | done | rfl | (simp only [List.length_drop, List.length_take]; rfl)) ?_; (with_reducible refine (ephemeristop_sAt.calls (rd l0 x29_1) 300 t269 _ A12.out).mono ?_); rintro e w' ⟨rfl, ⟨nd, rfl⟩⟩; refine ⟨_, rfl, ?_⟩) | ((with_reducible refine gate_callee (f := 9) rfl ?_); refine goesL_ (some 44) rfl rfl Try.func9 (by kernel_rfl) rfl #[.int .i64 (rd l0 x29_1), .int .i64 3] rfl (by (try simp only [List.map_toArray, List.map_cons, List.map_nil]); first | done | rfl | (simp only [List.length_drop, List.length_take]; rfl)) ?_; (with_reducible refine (ephemeristop_sAt.calls (rd l0 x29_1) 3 t270 _ A13.out).mono ?_); rintro e w' ⟨rfl, ⟨nd, rfl⟩⟩; refine ⟨_, rfl, ?_⟩) | ((with_reducible refine gate_builtin (b := .append) (xs := #[.tmp 41, .tmp 49]) rfl ?_); at_builtin; refine Kd.R_append k41 (w0 := w) w.heap.size rfl (.tmp 41) (.tmp 49) 39 41 (.agg #[(.int .i64 0), (.int .i64 0)]) 16 rfl Try.underlying39 info41 rfl (by decide) (by omega) u9 x9_1 (⟨wrap64 (x10_1 + (wrap64 (2 + t269))), wrap64 (1 - (wrap64 (2 * (wrap64 (Int.tdiv t270 2)))))⟩ : S41) [.int .i64 (wrap64 (x10_1 + (wrap64 (2 + t269)))), .int .i64 (wrap64 (1 - (wrap64 (2 * (wrap64 (Int.tdiv t270 2))))))] (fun _ => True) (fun _ => False) rfl rfl ?aP (fun _ hk => hk.elim) ?aF ?aO ?aB ?aS ?aL ?_; (case aP => exact k41_mkM _ _ _ (⟨wrap64 (x10_1 + (wrap64 (2 + t269))), wrap64 (1 - (wrap64 (2 * (wrap64 (Int.tdiv t270 2)))))⟩ : S41)); (case aB => exact (by repeat (first | (with_reducible first | exact HB.out | apply below_alloc | apply pw_below_drewN | apply below_drew1) | exact HB.out))); (case aF => exact (fun _ _ => trivial)); (case aO => exact (by (with_reducible repeat (first | apply Kd.R_alloc | apply Kd.R_drewN | apply Kd.R_drew)); exact HO_9.out)); (case aS => exact (below_size (by repeat (first | (with_reducible first | exact HB.out | apply below_alloc | apply pw_below_drewN | apply below_drew1) | exact HB.out)))); (case aL => have := LMc14.out; omega); intro v272 w15 ho hb hg hat; rw [← Ny271.out] at ho; have n0_ := Aside0.mk (hb); have n1_ := Aside0.mk (ho); clear HB; clear HO_9; have HB := n0_; have HO273 := n1_; clear n0_ n1_; clear ho hb hg hat))
                  go_roundg k1
                  case measure => have := HK1.out; omega
                  case rel => exact ⟨(y271), (wrap64 (x10_1 + (wrap64 (2 + t269)))), (wrap64 (x29_1 + 1)), (by first | rfl | (simp; done) | (simp [*]; done)), (by first | rfl | (simp; done) | (simp [*]; done)), H', ⟨by have := HK1.out; omega⟩, ⟨by (with_reducible repeat (first | apply Kd.R_alloc | apply Kd.R_drewN | apply Kd.R_drew)); exact HO273.out⟩, ⟨by repeat (first | (with_reducible first | exact HB.out | apply below_alloc | apply pw_below_drewN | apply below_drew1) | exact HB.out)⟩⟩
                · rw [if_neg c14] at H
                  exact absurd H (by simp)
              · rw [if_neg c11] at H
                have c11b0 : decide (x29_1 < 12) = false := decide_eq_false c11
                clear c11
                have H' := Aside0.mk H
                clear H
                have p268 : 0 ≤ (x29_1 : Int) := of_decide_eq_true (by first | (with_reducible assumption) | assumption)
                have q268 : x29_1 < (l0.length : Int) := of_decide_eq_true (by first | (with_reducible assumption) | assumption)
                obtain ⟨ad268, e268, hx268_0⟩ := Kd.at_int HR0.out x29_1 p268 q268
                cases e268
                replace hx268_0 := (HB.out.cell (World.block_lt_of_cell? w _ hx268_0)).trans hx268_0
                replace p268 := eq_true p268
                replace q268 := eq_true q268
                go_wp2
                go_roundg k1
                case measure => have := HK1.out; omega
                case rel => exact ⟨(x9_1), (x10_1), (wrap64 (x29_1 + 1)), (by first | rfl | (simp; done) | (simp [*]; done)), (by first | rfl | (simp; done) | (simp [*]; done)), H', ⟨by have := HK1.out; omega⟩, ⟨by (with_reducible repeat (first | apply Kd.R_alloc | apply Kd.R_drewN | apply Kd.R_drew)); exact HO_9.out⟩, ⟨by repeat (first | (with_reducible first | exact HB.out | apply below_alloc | apply pw_below_drewN | apply below_drew1) | exact HB.out)⟩⟩
            · rw [if_neg c10] at H
              exact absurd H (by simp)
          · rw [if_neg c9] at H
            exact absurd H (by simp)
        · rw [if_neg c8] at H
          have c8b0 : decide (x29_1 < (l0.length : Int)) = false := decide_eq_false c8
          clear c8
          replace H := Option.bind_eq_some_iff.mp H
          obtain ⟨t274, A160, H⟩ := H
          replace H : ((ephemeristop_sAt.f a2 345600000000).bind fun t275 => ((ephemeristop_sAt.f a3 1000000).bind fun t276 => ((smear_Smear.f k1 x9_1 (wrap64 (1000 + t274)) t275).bind fun bt277 => ((smear_Smear.f k1 x9_1 (wrap64 (1000 + t274)) (wrap64 (t275 + t276))).bind fun bt279 => ((leap_Instant.f k1 x9_1 t275).bind fun bt281 => ((leap_Count.f k1 x9_1 (wrap64 (bt277.1 - (Int.tmod bt277.1 86400000)))).bind fun bt284 => ((leap_Instant.f k1 x9_1 bt284.1).bind fun bt286 => (if bt277.2 = 0 then (if bt279.2 = 0 then (if bt281.2.2 = 0 then (if bt277.1 ≤ bt279.1 then (if (wrap64 (bt279.1 - bt277.1)) ≤ (wrap64 ((wrap64 (2 * t276)) + 2)) then (if (wrap64 (bt277.1 - bt281.1)) ≤ 1001 then (if (wrap64 (bt281.1 - bt277.1)) ≤ 1001 then (if bt284.2 = 0 then (if bt286.2.2 = 0 then (some (bt286.1 == (wrap64 (bt277.1 - (Int.tmod bt277.1 86400000))))) else (none)) else (none)) else (none)) else (none)) else (none)) else (none)) else (none)) else (none)) else (none))))))))) = some r := H
          have A16 := Aside0.mk A160
          clear A160
          replace H := Option.bind_eq_some_iff.mp H
          obtain ⟨t275, A170, H⟩ := H
          replace H : ((ephemeristop_sAt.f a3 1000000).bind fun t276 => ((smear_Smear.f k1 x9_1 (wrap64 (1000 + t274)) t275).bind fun bt277 => ((smear_Smear.f k1 x9_1 (wrap64 (1000 + t274)) (wrap64 (t275 + t276))).bind fun bt279 => ((leap_Instant.f k1 x9_1 t275).bind fun bt281 => ((leap_Count.f k1 x9_1 (wrap64 (bt277.1 - (Int.tmod bt277.1 86400000)))).bind fun bt284 => ((leap_Instant.f k1 x9_1 bt284.1).bind fun bt286 => (if bt277.2 = 0 then (if bt279.2 = 0 then (if bt281.2.2 = 0 then (if bt277.1 ≤ bt279.1 then (if (wrap64 (bt279.1 - bt277.1)) ≤ (wrap64 ((wrap64 (2 * t276)) + 2)) then (if (wrap64 (bt277.1 - bt281.1)) ≤ 1001 then (if (wrap64 (bt281.1 - bt277.1)) ≤ 1001 then (if bt284.2 = 0 then (if bt286.2.2 = 0 then (some (bt286.1 == (wrap64 (bt277.1 - (Int.tmod bt277.1 86400000))))) else (none)) else (none)) else (none)) else (none)) else (none)) else (none)) else (none)) else (none)) else (none)))))))) = some r := H
          have A17 := Aside0.mk A170
          clear A170
          replace H := Option.bind_eq_some_iff.mp H
          obtain ⟨t276, A180, H⟩ := H
          replace H : ((smear_Smear.f k1 x9_1 (wrap64 (1000 + t274)) t275).bind fun bt277 => ((smear_Smear.f k1 x9_1 (wrap64 (1000 + t274)) (wrap64 (t275 + t276))).bind fun bt279 => ((leap_Instant.f k1 x9_1 t275).bind fun bt281 => ((leap_Count.f k1 x9_1 (wrap64 (bt277.1 - (Int.tmod bt277.1 86400000)))).bind fun bt284 => ((leap_Instant.f k1 x9_1 bt284.1).bind fun bt286 => (if bt277.2 = 0 then (if bt279.2 = 0 then (if bt281.2.2 = 0 then (if bt277.1 ≤ bt279.1 then (if (wrap64 (bt279.1 - bt277.1)) ≤ (wrap64 ((wrap64 (2 * t276)) + 2)) then (if (wrap64 (bt277.1 - bt281.1)) ≤ 1001 then (if (wrap64 (bt281.1 - bt277.1)) ≤ 1001 then (if bt284.2 = 0 then (if bt286.2.2 = 0 then (some (bt286.1 == (wrap64 (bt277.1 - (Int.tmod bt277.1 86400000))))) else (none)) else (none)) else (none)) else (none)) else (none)) else (none)) else (none)) else (none)) else (none))))))) = some r := H
          have A18 := Aside0.mk A180
          clear A180
          replace H := Option.bind_eq_some_iff.mp H
          obtain ⟨⟨t277, t278⟩, A190, H⟩ := H
          replace H : ((smear_Smear.f k1 x9_1 (wrap64 (1000 + t274)) (wrap64 (t275 + t276))).bind fun bt279 => ((leap_Instant.f k1 x9_1 t275).bind fun bt281 => ((leap_Count.f k1 x9_1 (wrap64 (t277 - (Int.tmod t277 86400000)))).bind fun bt284 => ((leap_Instant.f k1 x9_1 bt284.1).bind fun bt286 => (if t278 = 0 then (if bt279.2 = 0 then (if bt281.2.2 = 0 then (if t277 ≤ bt279.1 then (if (wrap64 (bt279.1 - t277)) ≤ (wrap64 ((wrap64 (2 * t276)) + 2)) then (if (wrap64 (t277 - bt281.1)) ≤ 1001 then (if (wrap64 (bt281.1 - t277)) ≤ 1001 then (if bt284.2 = 0 then (if bt286.2.2 = 0 then (some (bt286.1 == (wrap64 (t277 - (Int.tmod t277 86400000))))) else (none)) else (none)) else (none)) else (none)) else (none)) else (none)) else (none)) else (none)) else (none)))))) = some r := H
          have A19 := Aside0.mk A190
          clear A190
          replace H := Option.bind_eq_some_iff.mp H
          obtain ⟨⟨t279, t280⟩, A200, H⟩ := H
          replace H : ((leap_Instant.f k1 x9_1 t275).bind fun bt281 => ((leap_Count.f k1 x9_1 (wrap64 (t277 - (Int.tmod t277 86400000)))).bind fun bt284 => ((leap_Instant.f k1 x9_1 bt284.1).bind fun bt286 => (if t278 = 0 then (if t280 = 0 then (if bt281.2.2 = 0 then (if t277 ≤ t279 then (if (wrap64 (t279 - t277)) ≤ (wrap64 ((wrap64 (2 * t276)) + 2)) then (if (wrap64 (t277 - bt281.1)) ≤ 1001 then (if (wrap64 (bt281.1 - t277)) ≤ 1001 then (if bt284.2 = 0 then (if bt286.2.2 = 0 then (some (bt286.1 == (wrap64 (t277 - (Int.tmod t277 86400000))))) else (none)) else (none)) else (none)) else (none)) else (none)) else (none)) else (none)) else (none)) else (none))))) = some r := H
          have A20 := Aside0.mk A200
          clear A200
          replace H := Option.bind_eq_some_iff.mp H
          obtain ⟨⟨t281, t282, t283⟩, A210, H⟩ := H
          replace H : ((leap_Count.f k1 x9_1 (wrap64 (t277 - (Int.tmod t277 86400000)))).bind fun bt284 => ((leap_Instant.f k1 x9_1 bt284.1).bind fun bt286 => (if t278 = 0 then (if t280 = 0 then (if t283 = 0 then (if t277 ≤ t279 then (if (wrap64 (t279 - t277)) ≤ (wrap64 ((wrap64 (2 * t276)) + 2)) then (if (wrap64 (t277 - t281)) ≤ 1001 then (if (wrap64 (t281 - t277)) ≤ 1001 then (if bt284.2 = 0 then (if bt286.2.2 = 0 then (some (bt286.1 == (wrap64 (t277 - (Int.tmod t277 86400000))))) else (none)) else (none)) else (none)) else (none)) else (none)) else (none)) else (none)) else (none)) else (none)))) = some r := H
          have A21 := Aside0.mk A210
          clear A210
          replace H := Option.bind_eq_some_iff.mp H
          obtain ⟨⟨t284, t285⟩, A220, H⟩ := H
          replace H : ((leap_Instant.f k1 x9_1 t284).bind fun bt286 => (if t278 = 0 then (if t280 = 0 then (if t283 = 0 then (if t277 ≤ t279 then (if (wrap64 (t279 - t277)) ≤ (wrap64 ((wrap64 (2 * t276)) + 2)) then (if (wrap64 (t277 - t281)) ≤ 1001 then (if (wrap64 (t281 - t277)) ≤ 1001 then (if t285 = 0 then (if bt286.2.2 = 0 then (some (bt286.1 == (wrap64 (t277 - (Int.tmod t277 86400000))))) else (none)) else (none)) else (none)) else (none)) else (none)) else (none)) else (none)) else (none)) else (none))) = some r := H
          have A22 := Aside0.mk A220
          clear A220
          replace H := Option.bind_eq_some_iff.mp H
          obtain ⟨⟨t286, t287, t288⟩, A230, H⟩ := H
          replace H : (if t278 = 0 then (if t280 = 0 then (if t283 = 0 then (if t277 ≤ t279 then (if (wrap64 (t279 - t277)) ≤ (wrap64 ((wrap64 (2 * t276)) + 2)) then (if (wrap64 (t277 - t281)) ≤ 1001 then (if (wrap64 (t281 - t277)) ≤ 1001 then (if t285 = 0 then (if t288 = 0 then (some (t286 == (wrap64 (t277 - (Int.tmod t277 86400000))))) else (none)) else (none)) else (none)) else (none)) else (none)) else (none)) else (none)) else (none)) else (none)) = some r := H
          have A23 := Aside0.mk A230
          clear A230
          by_cases c24 : t278 = 0
          · rw [if_pos c24] at H
            have c24b0 : (t278 == 0) = true := beq_iff_eq.mpr c24
            have c24b1 : (t278 != 0) = false := bne_eq_false_iff_eq.mpr c24
            clear c24
            by_cases c25 : t280 = 0
            · rw [if_pos c25] at H
              have c25b0 : (t280 == 0) = true := beq_iff_eq.mpr c25
              have c25b1 : (t280 != 0) = false := bne_eq_false_iff_eq.mpr c25
              clear c25
              by_cases c26 : t283 = 0
              · rw [if_pos c26] at H
                have c26b0 : (t283 == 0) = true := beq_iff_eq.mpr c26
                have c26b1 : (t283 != 0) = false := bne_eq_false_iff_eq.mpr c26
                clear c26
                by_cases c27 : t277 ≤ t279
                · rw [if_pos c27] at H
                  have c27b0 : decide (t277 ≤ t279) = true := decide_eq_true c27
                  clear c27
                  by_cases c28 : (wrap64 (t279 - t277)) ≤ (wrap64 ((wrap64 (2 * t276)) + 2))
                  · rw [if_pos c28] at H
                    have c28b0 : decide ((wrap64 (t279 - t277)) ≤ (wrap64 ((wrap64 (2 * t276)) + 2))) = true := decide_eq_true c28
                    clear c28
                    by_cases c29 : (wrap64 (t277 - t281)) ≤ 1001
                    · rw [if_pos c29] at H
                      have c29b0 : decide ((wrap64 (t277 - t281)) ≤ 1001) = true := decide_eq_true c29
                      clear c29
                      by_cases c30 : (wrap64 (t281 - t277)) ≤ 1001
                      · rw [if_pos c30] at H
                        have c30b0 : decide ((wrap64 (t281 - t277)) ≤ 1001) = true := decide_eq_true c30
                        clear c30
                        by_cases c31 : t285 = 0
                        · rw [if_pos c31] at H
                          have c31b0 : (t285 == 0) = true := beq_iff_eq.mpr c31
                          have c31b1 : (t285 != 0) = false := bne_eq_false_iff_eq.mpr c31
                          clear c31
                          by_cases c32 : t288 = 0
                          · rw [if_pos c32] at H
                            have c32b0 : (t288 == 0) = true := beq_iff_eq.mpr c32
                            have c32b1 : (t288 != 0) = false := bne_eq_false_iff_eq.mpr c32
                            clear c32
                            obtain rfl := Option.some.inj H
                            go_wp2_with (first | ((with_reducible refine gate_callee (f := 9) rfl ?_); refine goesL_ (some 53) rfl rfl Try.func9 (by kernel_rfl) rfl #[.int .i64 a1, .int .i64 43199001] rfl (by (try simp only [List.map_toArray, List.map_cons, List.map_nil]); first | done | rfl | (simp only [List.length_drop, List.length_take]; rfl)) ?_; (with_reducible refine (ephemeristop_sAt.calls a1 43199001 t274 _ A16.out).mono ?_); rintro e w' ⟨rfl, ⟨nd, rfl⟩⟩; refine ⟨_, rfl, ?_⟩) | ((with_reducible refine gate_callee (f := 9) rfl ?_); refine goesL_ (some 56) rfl rfl Try.func9 (by kernel_rfl) rfl #[.int .i64 a2, .int .i64 345600000000] rfl (by (try simp only [List.map_toArray, List.map_cons, List.map_nil]); first | done | rfl | (simp only [List.length_drop, List.length_take]; rfl)) ?_; (with_reducible refine (ephemeristop_sAt.calls a2 345600000000 t275 _ A17.out).mono ?_); rintro e w' ⟨rfl, ⟨nd, rfl⟩⟩; refine ⟨_, rfl, ?_⟩) | ((with_reducible refine gate_callee (f := 9) rfl ?_); refine goesL_ (some 58) rfl rfl Try.func9 (by kernel_rfl) rfl #[.int .i64 a3, .int .i64 1000000] rfl (by (try simp only [List.map_toArray, List.map_cons, List.map_nil]); first | done | rfl | (simp only [List.length_drop, List.length_take]; rfl)) ?_; (with_reducible refine (ephemeristop_sAt.calls a3 1000000 t276 _ A18.out).mono ?_); rintro e w' ⟨rfl, ⟨nd, rfl⟩⟩; refine ⟨_, rfl, ?_⟩; obtain ⟨Ao33, co33, eo33⟩ := Kd.R_slice HO_9.out; subst eo33) | ((with_reducible refine gate_callee (f := 12) rfl ?_); refine goesL_ (some 63) rfl rfl Try.func12 (by kernel_rfl) rfl #[.slice Ao33 x9_1.length co33, .int .i64 (wrap64 (1000 + t274)), .int .i64 t275] rfl (by (try simp only [List.map_toArray, List.map_cons, List.map_nil]); first | done | rfl | (simp only [List.length_drop, List.length_take]; rfl) | (rw [wrap_in_ (n := 1000 + t274) (by omega) (by omega)]; rfl)) ?_; (with_reducible refine (smear_Smear.calls k1 _ _ x9_1 (wrap64 (1000 + t274)) t275 t277 t278 _ ?side1 ?side2 A19.out).mono ?_); (case side1 => repeat (first | exact (Kd.R_reads' HO_9.out).2.2 | (with_reducible refine Kd.C_alloc ?_ _) | (with_reducible refine Kd.C_drewN ?_ _) | (with_reducible refine Kd.C_drew ?_))); (case side2 => exact (Kd.R_reads' HO_9.out).2.1); rintro e w34 ⟨rfl, hb⟩; refine ⟨_, rfl, ?_⟩; have n0_ := Aside0.mk (Kd.R_below (by (with_reducible repeat (first | apply Kd.R_alloc | apply Kd.R_drewN | apply Kd.R_drew)); exact HO_9.out) hb); have n1_ := Aside0.mk (below_step (by repeat (first | (with_reducible first | exact HB.out | apply below_alloc | apply pw_below_drewN | apply below_drew1) | exact HB.out)) hb); clear HO_9; clear HB; have HO_9 := n0_; have HB := n1_; clear n0_ n1_; (try clear hb); (try clear hb2); (try clear hk); (try clear hi)) | ((with_reducible refine gate_callee (f := 12) rfl ?_); refine goesL_ (some 72) rfl rfl Try.func12 (by kernel_rfl) rfl #[.slice Ao33 x9_1.length co33, .int .i64 (wrap64 (1000 + t274)), .int .i64 (wrap64 (t275 + t276))] rfl (by (try simp only [List.map_toArray, List.map_cons, List.map_nil]); first | done | rfl | (simp only [List.length_drop, List.length_take]; rfl) | (rw [wrap_in_ (n := 1000 + t274) (by omega) (by omega)]; rw [wrap_in_ (n := t275 + t276) (by omega) (by omega)]; rfl)) ?_; (with_reducible refine (smear_Smear.calls k1 _ _ x9_1 (wrap64 (1000 + t274)) (wrap64 (t275 + t276)) t279 t280 _ ?side1 ?side2 A20.out).mono ?_); (case side1 => repeat (first | exact (Kd.R_reads' HO_9.out).2.2 | (with_reducible refine Kd.C_alloc ?_ _) | (with_reducible refine Kd.C_drewN ?_ _) | (with_reducible refine Kd.C_drew ?_))); (case side2 => exact (Kd.R_reads' HO_9.out).2.1); rintro e w35 ⟨rfl, hb⟩; refine ⟨_, rfl, ?_⟩; have n0_ := Aside0.mk (Kd.R_below (by (with_reducible repeat (first | apply Kd.R_alloc | apply Kd.R_drewN | apply Kd.R_drew)); exact HO_9.out) hb); have n1_ := Aside0.mk (below_step (by repeat (first | (with_reducible first | exact HB.out | apply below_alloc | apply pw_below_drewN | apply below_drew1) | exact HB.out)) hb); clear HO_9; clear HB; have HO_9 := n0_; have HB := n1_; clear n0_ n1_; (try clear hb); (try clear hb2); (try clear hk); (try clear hi)) | ((with_reducible refine gate_callee (f := 13) rfl ?_); refine goesL_ (some 78) rfl rfl Try.func13 (by kernel_rfl) rfl #[.slice Ao33 x9_1.length co33, .int .i64 t275] rfl (by (try simp only [List.map_toArray, List.map_cons, List.map_nil]); first | done | rfl | (simp only [List.length_drop, List.length_take]; rfl)) ?_; (with_reducible refine (leap_Instant.calls k1 _ _ x9_1 t275 t281 t282 t283 _ ?side1 ?side2 A21.out).mono ?_); (case side1 => repeat (first | exact (Kd.R_reads' HO_9.out).2.2 | (with_reducible refine Kd.C_alloc ?_ _) | (with_reducible refine Kd.C_drewN ?_ _) | (with_reducible refine Kd.C_drew ?_))); (case side2 => exact (Kd.R_reads' HO_9.out).2.1); rintro e w36 ⟨rfl, hb⟩; refine ⟨_, rfl, ?_⟩; have n0_ := Aside0.mk (Kd.R_below (by (with_reducible repeat (first | apply Kd.R_alloc | apply Kd.R_drewN | apply Kd.R_drew)); exact HO_9.out) hb); have n1_ := Aside0.mk (below_step (by repeat (first | (with_reducible first | exact HB.out | apply below_alloc | apply pw_below_drewN | apply below_drew1) | exact HB.out)) hb); clear HO_9; clear HB; have HO_9 := n0_; have HB := n1_; clear n0_ n1_; (try clear hb); (try clear hb2); (try clear hk); (try clear hi)) | ((with_reducible refine gate_callee (f := 14) rfl ?_); refine goesL_ (some 88) rfl rfl Try.func14 (by kernel_rfl) rfl #[.slice Ao33 x9_1.length co33, .int .i64 (wrap64 (t277 - (Int.tmod t277 86400000)))] rfl (by (try simp only [List.map_toArray, List.map_cons, List.map_nil]); first | done | rfl | (simp only [List.length_drop, List.length_take]; rfl)) ?_; (with_reducible refine (leap_Count.calls k1 _ _ x9_1 (wrap64 (t277 - (Int.tmod t277 86400000))) t284 t285 _ ?side1 ?side2 A22.out).mono ?_); (case side1 => repeat (first | exact (Kd.R_reads' HO_9.out).2.2 | (with_reducible refine Kd.C_alloc ?_ _) | (with_reducible refine Kd.C_drewN ?_ _) | (with_reducible refine Kd.C_drew ?_))); (case side2 => exact (Kd.R_reads' HO_9.out).2.1); rintro e w37 ⟨rfl, hb⟩; refine ⟨_, rfl, ?_⟩; have n0_ := Aside0.mk (Kd.R_below (by (with_reducible repeat (first | apply Kd.R_alloc | apply Kd.R_drewN | apply Kd.R_drew)); exact HO_9.out) hb); have n1_ := Aside0.mk (below_step (by repeat (first | (with_reducible first | exact HB.out | apply below_alloc | apply pw_below_drewN | apply below_drew1) | exact HB.out)) hb); clear HO_9; clear HB; have HO_9 := n0_; have HB := n1_; clear n0_ n1_; (try clear hb); (try clear hb2); (try clear hk); (try clear hi)) | ((with_reducible refine gate_callee (f := 13) rfl ?_); refine goesL_ (some 94) rfl rfl Try.func13 (by kernel_rfl) rfl #[.slice Ao33 x9_1.length co33, .int .i64 t284] rfl (by (try simp only [List.map_toArray, List.map_cons, List.map_nil]); first | done | rfl | (simp only [List.length_drop, List.length_take]; rfl)) ?_; (with_reducible refine (leap_Instant.calls k1 _ _ x9_1 t284 t286 t287 t288 _ ?side1 ?side2 A23.out).mono ?_); (case side1 => repeat (first | exact (Kd.R_reads' HO_9.out).2.2 | (with_reducible refine Kd.C_alloc ?_ _) | (with_reducible refine Kd.C_drewN ?_ _) | (with_reducible refine Kd.C_drew ?_))); (case side2 => exact (Kd.R_reads' HO_9.out).2.1); rintro e w38 ⟨rfl, hb⟩; refine ⟨_, rfl, ?_⟩; have n0_ := Aside0.mk (Kd.R_below (by (with_reducible repeat (first | apply Kd.R_alloc | apply Kd.R_drewN | apply Kd.R_drew)); exact HO_9.out) hb); have n1_ := Aside0.mk (below_step (by repeat (first | (with_reducible first | exact HB.out | apply below_alloc | apply pw_below_drewN | apply below_drew1) | exact HB.out)) hb); clear HO_9; clear HB; have HO_9 := n0_; have HB := n1_; clear n0_ n1_; (try clear hb); (try clear hb2); (try clear hk); (try clear hi)))
                            go_ret
                            exact ⟨by first | rfl | (simp [errW_none, errW_some] <;> rfl) | (simp [*, errW_none, errW_some] <;> rfl), by repeat (first | (with_reducible first | exact HB.out | apply below_alloc | apply pw_below_drewN | apply below_drew1) | exact HB.out)⟩
                          · rw [if_neg c32] at H
                            exact absurd H (by simp)
                        · rw [if_neg c31] at H
                          exact absurd H (by simp)
                      · rw [if_neg c30] at H
                        exact absurd H (by simp)
                    · rw [if_neg c29] at H
                      exact absurd H (by simp)
                  · rw [if_neg c28] at H
                    exact absurd H (by simp)
                · rw [if_neg c27] at H
                  exact absurd H (by simp)
              · rw [if_neg c26] at H
                exact absurd H (by simp)
            · rw [if_neg c25] at H
              exact absurd H (by simp)
          · rw [if_neg c24] at H
            exact absurd H (by simp)
  · replace c6 := Bool.eq_false_iff.mpr c6
    subst c6
    have H1 : (none) = some r := by rw [if_neg (show ¬ (false = true) by decide)] at H; exact H
    clear H
    have H := H1
    clear H1
    exact absurd H (by simp)

theorem ephemeristop_TopSmear.walk (P : ephemeristop_TopSmear.Pure) (a0 : Option Addr) (len0 cap0 : Nat) (z0 : List Int) (a1 : Int) (a2 : Int) (a3 : Int) (w : World) (w0 : (a0 = none ∧ len0 = 0 ∧ cap0 = 0 ∧ z0 = []) ∨ ∃ x, a0 = some x ∧ len0 ≤ cap0 ∧ cap0 ≤ maxLen ∧ z0.length = cap0 ∧ (∀ i, i < z0.length → w.cell? (x.add i) = some (.int .i64 (z0.getD i 0))) ∧ ∀ n ∈ z0, (Lit.int .i64 n).wf = true) (y0 : len0 * 8 ≤ 140737488351232) (w1 : (Lit.int .i64 a1).wf = true) (w2 : (Lit.int .i64 a2).wf = true) (w3 : (Lit.int .i64 a3).wf = true) :
    Calls Try.prog 4 #[.slice a0 len0 cap0, .int .i64 a1, .int .i64 a2, .int .i64 a3] w fun e w' => e = .returned (.bool true) ∧ Below w.heap.size w w' := by
  obtain ⟨l0, rfl, hr0, hm0, hw0, hc0⟩ := ReadsInt.ofRowC w0
  obtain ⟨k, h⟩ := P l0 a1 a2 a3 hm0 y0 hw0 w1 w2 w3
  refine (ephemeristop_TopSmear.calls k _ _ l0 a1 a2 a3 true w (Kd.C_of_reads (d := (0 : Int)) (h1 := fun _ => rfl) hr0) hc0 h).mono ?_
  rintro e w' ⟨rfl, hd⟩
  exact ⟨rfl, hd⟩

end Go.Proofs.Ytfmjlglkleinmaa.JE
