-- Made by a program of this session (wip/hp.py, over the kit's print) out of the translation. Not trusted: Lean checks it.
import Derived.Test.YtgmjgnojjbajdaaDoorJSx0
import Derived.Test.YtgmjgnojjbajdaaDoorJSx1
import Derived.Test.YtgmjgnojjbajdaaDoorJSx3
namespace Go.Proofs.YtgmjgnojjbajdaaDoor.JS
open Go.RowKit Go.Proofs.YtgmjgnojjbajdaaDoorW.PrintWords Go.Proofs.YtgmjgnojjbajdaaDoorW.PrintLast Go.Proofs.YtgmjgnojjbajdaaDoorW.PrintMore
attribute [local go_sem] max2_int min2_int max_two min_two max_three min_three max_four min_four   -- for this text's walks alone
set_option linter.unusedVariables false
set_option linter.unusedSimpArgs false

/-! ### series_Turned: function 40 -/
set_option maxHeartbeats 8000000 in
set_option maxRecDepth 100000 in
theorem series_Turned.calls (k : Nat) (a0 : Int) (a1 : Int) (r : Int) (w : World) (h : series_Turned.f k a0 a1 = some r) :
    Calls Tryd.prog 40 #[.int .i64 a0, .int .i64 a1] w fun e w' => e = .returned (.int .i64 r) ∧ Drawn0 w w' := by
  have H : ((interval_Floor.f a1 86400000).bind fun t164 => ((interval_Floor.f a0 1000000000000000).bind fun t165 => (if t164 < 0 then (series_Turned.j0 k a0 t164 (wrap64 (a1 - (wrap64 (t164 * 86400000)))) (wrap64 (a0 - (wrap64 (t165 * 1000000000000000)))) (wrap64 (-t164))) else (series_Turned.j0 k a0 t164 (wrap64 (a1 - (wrap64 (t164 * 86400000)))) (wrap64 (a0 - (wrap64 (t165 * 1000000000000000)))) t164)))) = some r := h
  clear h
  replace H := Option.bind_eq_some_iff.mp H
  obtain ⟨t164, A30, H⟩ := H
  replace H : ((interval_Floor.f a0 1000000000000000).bind fun t165 => (if t164 < 0 then (series_Turned.j0 k a0 t164 (wrap64 (a1 - (wrap64 (t164 * 86400000)))) (wrap64 (a0 - (wrap64 (t165 * 1000000000000000)))) (wrap64 (-t164))) else (series_Turned.j0 k a0 t164 (wrap64 (a1 - (wrap64 (t164 * 86400000)))) (wrap64 (a0 - (wrap64 (t165 * 1000000000000000)))) t164))) = some r := H
  have A3 := Aside0.mk A30
  clear A30
  replace H := Option.bind_eq_some_iff.mp H
  obtain ⟨t165, A40, H⟩ := H
  replace H : (if t164 < 0 then (series_Turned.j0 k a0 t164 (wrap64 (a1 - (wrap64 (t164 * 86400000)))) (wrap64 (a0 - (wrap64 (t165 * 1000000000000000)))) (wrap64 (-t164))) else (series_Turned.j0 k a0 t164 (wrap64 (a1 - (wrap64 (t164 * 86400000)))) (wrap64 (a0 - (wrap64 (t165 * 1000000000000000)))) t164)) = some r := H
  have A4 := Aside0.mk A40
  clear A40
  have HC5 := Aside0.mk H
  clear H
  go_enter Tryd.func40, Tryd.ntmps40
  go_upto_if 24 with (first | ((with_reducible refine gate_callee (f := 49) rfl ?_); refine goesL_ (some 12) rfl rfl Tryd.func49 (by kernel_rfl) rfl #[.int .i64 a1, .int .i64 86400000] rfl (by (try simp only [List.map_toArray, List.map_cons, List.map_nil]); first | done | rfl | (simp only [List.length_drop, List.length_take]; rfl)) ?_; (with_reducible refine (interval_Floor.calls a1 86400000 t164 _ A3.out).mono ?_); rintro e w' ⟨rfl, ⟨nd, rfl⟩⟩; refine ⟨_, rfl, ?_⟩) | ((with_reducible refine gate_callee (f := 49) rfl ?_); refine goesL_ (some 19) rfl rfl Tryd.func49 (by kernel_rfl) rfl #[.int .i64 a0, .int .i64 1000000000000000] rfl (by (try simp only [List.map_toArray, List.map_cons, List.map_nil]); first | done | rfl | (simp only [List.length_drop, List.length_take]; rfl)) ?_; (with_reducible refine (interval_Floor.calls a0 1000000000000000 t165 _ A4.out).mono ?_); rintro e w' ⟨rfl, ⟨nd, rfl⟩⟩; refine ⟨_, rfl, ?_⟩))
  (try simp only [Act.put, List.setIfInBounds_toArray, List.set_cons_zero, List.set_cons_succ])
  go_cut [8] (fun v8 wc => ∃ (kq : Nat) (x8_4 : Int), v8 = .int .i64 x8_4 ∧ Aside0 (series_Turned.j0 kq a0 t164 (wrap64 (a1 - (wrap64 (t164 * 86400000)))) (wrap64 (a0 - (wrap64 (t165 * 1000000000000000)))) x8_4 = some r) ∧ Aside0 (kq ≤ k) ∧ Drawn0 w wc)
  case first =>
    have H := HC5.out
    clear HC5
    by_cases c6 : t164 < 0
    · rw [if_pos c6] at H
      have c6b0 : decide (t164 < 0) = true := decide_eq_true c6
      clear c6
      (first | rw [c6b0] | (simp only [i64_w, i32_w]; rw [c6b0]) | rw [c6b1] | skip)
      have H' := Aside0.mk H
      clear H
      go_wp2
      go_meet
      case rel => exact ⟨_, (wrap64 (-t164)), (by first | rfl | (simp; done) | (simp [*]; done)), H', ⟨by first | omega | exact Nat.le_refl _⟩, by repeat (first | exact Drawn0.refl _ | apply Drawn0.step)⟩
    · rw [if_neg c6] at H
      have c6b0 : decide (t164 < 0) = false := decide_eq_false c6
      clear c6
      (first | rw [c6b0] | (simp only [i64_w, i32_w]; rw [c6b0]) | rw [c6b1] | skip)
      have H' := Aside0.mk H
      clear H
      go_wp2
      go_meet
      case rel => exact ⟨_, (t164), (by first | rfl | (simp; done) | (simp [*]; done)), H', ⟨by first | omega | exact Nat.le_refl _⟩, by repeat (first | exact Drawn0.refl _ | apply Drawn0.step)⟩
  case rest =>
    clear HC5
    try clear p2
    try clear c4
    try clear c6
    try clear c6b0
    try clear p6
    obtain ⟨kq, x8_4, rfl, HA, HJ4, ⟨mc4, rfl⟩⟩ := hcut
    cases kq with
    | zero => exact absurd HA.out (by simp [series_Turned.j0])
    | succ kj4 =>
      have H := HA.out
      clear HA
      simp only [series_Turned.j0] at H
      by_cases c7 : t164 < 0
      · rw [if_pos c7] at H
        have c7b0 : decide (t164 < 0) = true := decide_eq_true c7
        clear c7
        replace H := Option.bind_eq_some_iff.mp H
        obtain ⟨t166, A80, H⟩ := H
        replace H : ((interval_Floor.f (wrap64 ((wrap64 (-(wrap64 ((Int.tmod (wrap64 ((Int.tmod (wrap64 ((wrap64 (a0 - (wrap64 (t165 * 1000000000000000)))) * (wrap64 (Int.tdiv x8_4 1000)))) 1000000000000000) * 1000)) 1000000000000000) + (Int.tmod (wrap64 ((wrap64 (a0 - (wrap64 (t165 * 1000000000000000)))) * (Int.tmod x8_4 1000))) 1000000000000000))))) + (wrap64 ((wrap64 (t166 * (wrap64 (a1 - (wrap64 (t164 * 86400000)))))) + (wrap64 (Int.tdiv (wrap64 ((wrap64 (a0 - (wrap64 (t166 * 86400000)))) * (wrap64 (a1 - (wrap64 (t164 * 86400000)))))) 86400000)))))) 1000000000000000).bind fun t167 => (some (wrap64 ((wrap64 ((wrap64 (-(wrap64 ((Int.tmod (wrap64 ((Int.tmod (wrap64 ((wrap64 (a0 - (wrap64 (t165 * 1000000000000000)))) * (wrap64 (Int.tdiv x8_4 1000)))) 1000000000000000) * 1000)) 1000000000000000) + (Int.tmod (wrap64 ((wrap64 (a0 - (wrap64 (t165 * 1000000000000000)))) * (Int.tmod x8_4 1000))) 1000000000000000))))) + (wrap64 ((wrap64 (t166 * (wrap64 (a1 - (wrap64 (t164 * 86400000)))))) + (wrap64 (Int.tdiv (wrap64 ((wrap64 (a0 - (wrap64 (t166 * 86400000)))) * (wrap64 (a1 - (wrap64 (t164 * 86400000)))))) 86400000)))))) - (wrap64 (t167 * 1000000000000000)))))) = some r := H
        have A8 := Aside0.mk A80
        clear A80
        replace H := Option.bind_eq_some_iff.mp H
        obtain ⟨t167, A90, H⟩ := H
        replace H : (some (wrap64 ((wrap64 ((wrap64 (-(wrap64 ((Int.tmod (wrap64 ((Int.tmod (wrap64 ((wrap64 (a0 - (wrap64 (t165 * 1000000000000000)))) * (wrap64 (Int.tdiv x8_4 1000)))) 1000000000000000) * 1000)) 1000000000000000) + (Int.tmod (wrap64 ((wrap64 (a0 - (wrap64 (t165 * 1000000000000000)))) * (Int.tmod x8_4 1000))) 1000000000000000))))) + (wrap64 ((wrap64 (t166 * (wrap64 (a1 - (wrap64 (t164 * 86400000)))))) + (wrap64 (Int.tdiv (wrap64 ((wrap64 (a0 - (wrap64 (t166 * 86400000)))) * (wrap64 (a1 - (wrap64 (t164 * 86400000)))))) 86400000)))))) - (wrap64 (t167 * 1000000000000000))))) = some r := H
        have A9 := Aside0.mk A90
        clear A90
        obtain rfl := Option.some.inj H
        go_wp2_with (first | ((with_reducible refine gate_callee (f := 49) rfl ?_); refine goesL_ (some 45) rfl rfl Tryd.func49 (by kernel_rfl) rfl #[.int .i64 a0, .int .i64 86400000] rfl (by (try simp only [List.map_toArray, List.map_cons, List.map_nil]); first | done | rfl | (simp only [List.length_drop, List.length_take]; rfl)) ?_; (with_reducible refine (interval_Floor.calls a0 86400000 t166 _ A8.out).mono ?_); rintro e w' ⟨rfl, ⟨nd, rfl⟩⟩; refine ⟨_, rfl, ?_⟩) | ((with_reducible refine gate_callee (f := 49) rfl ?_); refine goesL_ (some 61) rfl rfl Tryd.func49 (by kernel_rfl) rfl #[.int .i64 (wrap64 ((wrap64 (-(wrap64 ((Int.tmod (wrap64 ((Int.tmod (wrap64 ((wrap64 (a0 - (wrap64 (t165 * 1000000000000000)))) * (wrap64 (Int.tdiv x8_4 1000)))) 1000000000000000) * 1000)) 1000000000000000) + (Int.tmod (wrap64 ((wrap64 (a0 - (wrap64 (t165 * 1000000000000000)))) * (Int.tmod x8_4 1000))) 1000000000000000))))) + (wrap64 ((wrap64 (t166 * (wrap64 (a1 - (wrap64 (t164 * 86400000)))))) + (wrap64 (Int.tdiv (wrap64 ((wrap64 (a0 - (wrap64 (t166 * 86400000)))) * (wrap64 (a1 - (wrap64 (t164 * 86400000)))))) 86400000)))))), .int .i64 1000000000000000] rfl (by (try simp only [List.map_toArray, List.map_cons, List.map_nil]); first | done | rfl | (simp only [List.length_drop, List.length_take]; rfl) | (rw [wrap_in_ (n := t165 * 1000000000000000) (by omega) (by omega)]; rw [wrap_in_ (n := Int.tdiv x8_4 1000) (by omega) (by omega)]; rw [wrap_in_ (n := t164 * 86400000) (by omega) (by omega)]; rw [wrap_in_ (n := t166 * 86400000) (by omega) (by omega)]; rfl)) ?_; (with_reducible refine (interval_Floor.calls (wrap64 ((wrap64 (-(wrap64 ((Int.tmod (wrap64 ((Int.tmod (wrap64 ((wrap64 (a0 - (wrap64 (t165 * 1000000000000000)))) * (wrap64 (Int.tdiv x8_4 1000)))) 1000000000000000) * 1000)) 1000000000000000) + (Int.tmod (wrap64 ((wrap64 (a0 - (wrap64 (t165 * 1000000000000000)))) * (Int.tmod x8_4 1000))) 1000000000000000))))) + (wrap64 ((wrap64 (t166 * (wrap64 (a1 - (wrap64 (t164 * 86400000)))))) + (wrap64 (Int.tdiv (wrap64 ((wrap64 (a0 - (wrap64 (t166 * 86400000)))) * (wrap64 (a1 - (wrap64 (t164 * 86400000)))))) 86400000)))))) 1000000000000000 t167 _ A9.out).mono ?_); rintro e w' ⟨rfl, ⟨nd, rfl⟩⟩; refine ⟨_, rfl, ?_⟩))
        go_ret
        exact ⟨by first | rfl | (simp; done) | (simp [*]; done), by repeat (first | exact Drawn0.refl _ | apply Drawn0.step)⟩
      · rw [if_neg c7] at H
        have c7b0 : decide (t164 < 0) = false := decide_eq_false c7
        clear c7
        replace H := Option.bind_eq_some_iff.mp H
        obtain ⟨t168, A100, H⟩ := H
        replace H : ((interval_Floor.f (wrap64 ((wrap64 ((Int.tmod (wrap64 ((Int.tmod (wrap64 ((wrap64 (a0 - (wrap64 (t165 * 1000000000000000)))) * (wrap64 (Int.tdiv x8_4 1000)))) 1000000000000000) * 1000)) 1000000000000000) + (Int.tmod (wrap64 ((wrap64 (a0 - (wrap64 (t165 * 1000000000000000)))) * (Int.tmod x8_4 1000))) 1000000000000000))) + (wrap64 ((wrap64 (t168 * (wrap64 (a1 - (wrap64 (t164 * 86400000)))))) + (wrap64 (Int.tdiv (wrap64 ((wrap64 (a0 - (wrap64 (t168 * 86400000)))) * (wrap64 (a1 - (wrap64 (t164 * 86400000)))))) 86400000)))))) 1000000000000000).bind fun t169 => (some (wrap64 ((wrap64 ((wrap64 ((Int.tmod (wrap64 ((Int.tmod (wrap64 ((wrap64 (a0 - (wrap64 (t165 * 1000000000000000)))) * (wrap64 (Int.tdiv x8_4 1000)))) 1000000000000000) * 1000)) 1000000000000000) + (Int.tmod (wrap64 ((wrap64 (a0 - (wrap64 (t165 * 1000000000000000)))) * (Int.tmod x8_4 1000))) 1000000000000000))) + (wrap64 ((wrap64 (t168 * (wrap64 (a1 - (wrap64 (t164 * 86400000)))))) + (wrap64 (Int.tdiv (wrap64 ((wrap64 (a0 - (wrap64 (t168 * 86400000)))) * (wrap64 (a1 - (wrap64 (t164 * 86400000)))))) 86400000)))))) - (wrap64 (t169 * 1000000000000000)))))) = some r := H
        have A10 := Aside0.mk A100
        clear A100
        replace H := Option.bind_eq_some_iff.mp H
        obtain ⟨t169, A110, H⟩ := H
        replace H : (some (wrap64 ((wrap64 ((wrap64 ((Int.tmod (wrap64 ((Int.tmod (wrap64 ((wrap64 (a0 - (wrap64 (t165 * 1000000000000000)))) * (wrap64 (Int.tdiv x8_4 1000)))) 1000000000000000) * 1000)) 1000000000000000) + (Int.tmod (wrap64 ((wrap64 (a0 - (wrap64 (t165 * 1000000000000000)))) * (Int.tmod x8_4 1000))) 1000000000000000))) + (wrap64 ((wrap64 (t168 * (wrap64 (a1 - (wrap64 (t164 * 86400000)))))) + (wrap64 (Int.tdiv (wrap64 ((wrap64 (a0 - (wrap64 (t168 * 86400000)))) * (wrap64 (a1 - (wrap64 (t164 * 86400000)))))) 86400000)))))) - (wrap64 (t169 * 1000000000000000))))) = some r := H
        have A11 := Aside0.mk A110
        clear A110
        obtain rfl := Option.some.inj H
        go_wp2_with (first | ((with_reducible refine gate_callee (f := 49) rfl ?_); refine goesL_ (some 45) rfl rfl Tryd.func49 (by kernel_rfl) rfl #[.int .i64 a0, .int .i64 86400000] rfl (by (try simp only [List.map_toArray, List.map_cons, List.map_nil]); first | done | rfl | (simp only [List.length_drop, List.length_take]; rfl)) ?_; (with_reducible refine (interval_Floor.calls a0 86400000 t168 _ A10.out).mono ?_); rintro e w' ⟨rfl, ⟨nd, rfl⟩⟩; refine ⟨_, rfl, ?_⟩) | ((with_reducible refine gate_callee (f := 49) rfl ?_); refine goesL_ (some 61) rfl rfl Tryd.func49 (by kernel_rfl) rfl #[.int .i64 (wrap64 ((wrap64 ((Int.tmod (wrap64 ((Int.tmod (wrap64 ((wrap64 (a0 - (wrap64 (t165 * 1000000000000000)))) * (wrap64 (Int.tdiv x8_4 1000)))) 1000000000000000) * 1000)) 1000000000000000) + (Int.tmod (wrap64 ((wrap64 (a0 - (wrap64 (t165 * 1000000000000000)))) * (Int.tmod x8_4 1000))) 1000000000000000))) + (wrap64 ((wrap64 (t168 * (wrap64 (a1 - (wrap64 (t164 * 86400000)))))) + (wrap64 (Int.tdiv (wrap64 ((wrap64 (a0 - (wrap64 (t168 * 86400000)))) * (wrap64 (a1 - (wrap64 (t164 * 86400000)))))) 86400000)))))), .int .i64 1000000000000000] rfl (by (try simp only [List.map_toArray, List.map_cons, List.map_nil]); first | done | rfl | (simp only [List.length_drop, List.length_take]; rfl) | (rw [wrap_in_ (n := t165 * 1000000000000000) (by omega) (by omega)]; rw [wrap_in_ (n := Int.tdiv x8_4 1000) (by omega) (by omega)]; rw [wrap_in_ (n := t164 * 86400000) (by omega) (by omega)]; rw [wrap_in_ (n := t168 * 86400000) (by omega) (by omega)]; rfl)) ?_; (with_reducible refine (interval_Floor.calls (wrap64 ((wrap64 ((Int.tmod (wrap64 ((Int.tmod (wrap64 ((wrap64 (a0 - (wrap64 (t165 * 1000000000000000)))) * (wrap64 (Int.tdiv x8_4 1000)))) 1000000000000000) * 1000)) 1000000000000000) + (Int.tmod (wrap64 ((wrap64 (a0 - (wrap64 (t165 * 1000000000000000)))) * (Int.tmod x8_4 1000))) 1000000000000000))) + (wrap64 ((wrap64 (t168 * (wrap64 (a1 - (wrap64 (t164 * 86400000)))))) + (wrap64 (Int.tdiv (wrap64 ((wrap64 (a0 - (wrap64 (t168 * 86400000)))) * (wrap64 (a1 - (wrap64 (t164 * 86400000)))))) 86400000)))))) 1000000000000000 t169 _ A11.out).mono ?_); rintro e w' ⟨rfl, ⟨nd, rfl⟩⟩; refine ⟨_, rfl, ?_⟩))
        go_ret
        exact ⟨by first | rfl | (simp; done) | (simp [*]; done), by repeat (first | exact Drawn0.refl _ | apply Drawn0.step)⟩

end Go.Proofs.YtgmjgnojjbajdaaDoor.JS
