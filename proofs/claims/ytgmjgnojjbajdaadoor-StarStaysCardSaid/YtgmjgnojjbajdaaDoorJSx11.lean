-- Made by a program of this session (wip/hp.py, over the kit's print) out of the translation. Not trusted: Lean checks it.
import Derived.Test.YtgmjgnojjbajdaaDoorJSx0
import Derived.Test.YtgmjgnojjbajdaaDoorJSx1
import Derived.Test.YtgmjgnojjbajdaaDoorJSx3
namespace Go.Proofs.YtgmjgnojjbajdaaDoor.JS
open Go.RowKit Go.Proofs.YtgmjgnojjbajdaaDoorW.PrintWords Go.Proofs.YtgmjgnojjbajdaaDoorW.PrintLast Go.Proofs.YtgmjgnojjbajdaaDoorW.PrintMore
attribute [local go_sem] max2_int min2_int max_two min_two max_three min_three max_four min_four   -- for this text's walks alone
set_option linter.unusedVariables false
set_option linter.unusedSimpArgs false

/-! ### trig_Reduced: function 47 -/
set_option maxHeartbeats 8000000 in
set_option maxRecDepth 100000 in
theorem trig_Reduced.calls (a0 : Int) (r : Int) (w : World) (h : trig_Reduced.f a0 = some r) :
    Calls Tryd.prog 47 #[.int .i64 a0] w fun e w' => e = .returned (.int .i64 r) ∧ Drawn0 w w' := by
  have H : ((interval_Floor.f a0 1000000000).bind fun t121 => (some (wrap64 (a0 - (wrap64 (t121 * 1000000000)))))) = some r := h
  clear h
  replace H := Option.bind_eq_some_iff.mp H
  obtain ⟨t121, A20, H⟩ := H
  replace H : (some (wrap64 (a0 - (wrap64 (t121 * 1000000000))))) = some r := H
  have A2 := Aside0.mk A20
  clear A20
  obtain rfl := Option.some.inj H
  go_enter Tryd.func47, Tryd.ntmps47
  go_wp2_with (first | ((with_reducible refine gate_callee (f := 49) rfl ?_); refine goesL_ (some 5) rfl rfl Tryd.func49 (by kernel_rfl) rfl #[.int .i64 a0, .int .i64 1000000000] rfl (by (try simp only [List.map_toArray, List.map_cons, List.map_nil]); first | done | rfl | (simp only [List.length_drop, List.length_take]; rfl)) ?_; (with_reducible refine (interval_Floor.calls a0 1000000000 t121 _ A2.out).mono ?_); rintro e w' ⟨rfl, ⟨nd, rfl⟩⟩; refine ⟨_, rfl, ?_⟩))
  go_ret
  exact ⟨by first | rfl | (simp; done) | (simp [*]; done), by repeat (first | exact Drawn0.refl _ | apply Drawn0.step)⟩

/-! ### trig_out: function 57 -/
set_option maxHeartbeats 8000000 in
set_option maxRecDepth 100000 in
theorem trig_out.calls (a0 : Int) (r : Bool) (w : World) (h : trig_out.f a0 = some r) :
    Calls Tryd.prog 57 #[.int .i64 a0] w fun e w' => e = .returned (.bool r) ∧ Drawn0 w w' := by
  have H : (if a0 < (-1000000000000000000) then (some true) else (some (decide (a0 > 1000000000000000000)))) = some r := h
  clear h
  by_cases c2 : a0 < (-1000000000000000000)
  · rw [if_pos c2] at H
    have c2b0 : decide (a0 < (-1000000000000000000)) = true := decide_eq_true c2
    clear c2
    obtain rfl := Option.some.inj H
    go_enter Tryd.func57, Tryd.ntmps57
    go_wp2
    go_ret
    exact ⟨by first | rfl | (simp; done) | (simp [*]; done), by repeat (first | exact Drawn0.refl _ | apply Drawn0.step)⟩
  · rw [if_neg c2] at H
    have c2b0 : decide (a0 < (-1000000000000000000)) = false := decide_eq_false c2
    clear c2
    obtain rfl := Option.some.inj H
    go_enter Tryd.func57, Tryd.ntmps57
    go_wp2
    go_ret
    exact ⟨by first | rfl | (simp; done) | (simp [*]; done), by repeat (first | exact Drawn0.refl _ | apply Drawn0.step)⟩

/-! ### trig_mul: function 65 -/
set_option maxHeartbeats 8000000 in
set_option maxRecDepth 100000 in
theorem trig_mul.calls (a0 : Int) (a1 : Int) (r : Int) (w : World) (h : trig_mul.f a0 a1 = some r) :
    Calls Tryd.prog 65 #[.int .i64 a0, .int .i64 a1] w fun e w' => e = .returned (.int .i64 r) ∧ Drawn0 w w' := by
  have H : (some (wrap64 ((wrap64 ((a0 / 1073741824) * (a1 / 1073741824))) + ((wrap64 ((wrap64 ((wrap64 ((a0 / 1073741824) * (Go.bits .and .i64 a1 1073741823))) + (wrap64 ((Go.bits .and .i64 a0 1073741823) * (a1 / 1073741824))))) + ((wrap64 ((Go.bits .and .i64 a0 1073741823) * (Go.bits .and .i64 a1 1073741823))) / 1073741824))) / 1073741824)))) = some r := h
  clear h
  obtain rfl := Option.some.inj H
  go_enter Tryd.func65, Tryd.ntmps65
  go_wp2
  go_ret
  exact ⟨by first | rfl | (simp; done) | (simp [*]; done), by repeat (first | exact Drawn0.refl _ | apply Drawn0.step)⟩

end Go.Proofs.YtgmjgnojjbajdaaDoor.JS
