-- Made by a program of this session (wip/hp.py, over the kit's print) out of the translation. Not trusted: Lean checks it.
import Derived.Test.YtimehbdleognkaaJEx0
import Derived.Test.YtimehbdleognkaaJEx1
namespace Go.Proofs.Ytimehbdleognkaa.JE
open Go.RowKit Go.Proofs.YtimehbdleognkaaW.PrintWords Go.Proofs.YtimehbdleognkaaW.PrintLast Go.Proofs.YtimehbdleognkaaW.PrintMore
attribute [local go_sem] max2_int min2_int max_two min_two max_three min_three max_four min_four   -- for this text's walks alone
set_option linter.unusedVariables false
set_option linter.unusedSimpArgs false

/-! ### series_beyond: function 25 -/
set_option maxHeartbeats 8000000 in
set_option maxRecDepth 100000 in
theorem series_beyond.calls (a0 : Int) (a1 : Int) (r : Bool) (w : World) (h : series_beyond.f a0 a1 = some r) :
    Calls Try.prog 25 #[.int .i64 a0, .int .i64 a1] w fun e w' => e = .returned (.bool r) ∧ Drawn0 w w' := by
  have H : (if a0 < (wrap64 (-a1)) then (some true) else (some (decide (a0 > a1)))) = some r := h
  clear h
  by_cases c3 : a0 < (wrap64 (-a1))
  · rw [if_pos c3] at H
    have c3b0 : decide (a0 < (wrap64 (-a1))) = true := decide_eq_true c3
    clear c3
    obtain rfl := Option.some.inj H
    go_enter Try.func25, Try.ntmps25
    go_wp2
    go_ret
    exact ⟨by first | rfl | (simp; done) | (simp [*]; done), by repeat (first | exact Drawn0.refl _ | apply Drawn0.step)⟩
  · rw [if_neg c3] at H
    have c3b0 : decide (a0 < (wrap64 (-a1))) = false := decide_eq_false c3
    clear c3
    obtain rfl := Option.some.inj H
    go_enter Try.func25, Try.ntmps25
    go_wp2
    go_ret
    exact ⟨by first | rfl | (simp; done) | (simp [*]; done), by repeat (first | exact Drawn0.refl _ | apply Drawn0.step)⟩

end Go.Proofs.Ytimehbdleognkaa.JE
