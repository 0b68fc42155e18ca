-- Made by a program of this session (wip/hp.py, over the kit's print) out of the translation. Not trusted: Lean checks it.
import Derived.Test.YtmoffcpbmigngaaJSx0
import Derived.Test.YtmoffcpbmigngaaJSx1
import Derived.Test.YtmoffcpbmigngaaJSx9
namespace Go.Proofs.Ytmoffcpbmigngaa.JS
open Go.RowKit Go.Proofs.YtmoffcpbmigngaaW.PrintWords Go.Proofs.YtmoffcpbmigngaaW.PrintLast Go.Proofs.YtmoffcpbmigngaaW.PrintMore
attribute [local go_sem] max2_int min2_int max_two min_two max_three min_three max_four min_four   -- for this text's walks alone
set_option linter.unusedVariables false
set_option linter.unusedSimpArgs false

/-! ### interval_times: function 110 -/
-- hand
set_option maxHeartbeats 2000000 in
set_option maxRecDepth 100000 in
theorem interval_times.calls (a0 : Int) (a1 : Int) (r1 : Int) (r2 : Bool) (w : World) (h : interval_times.f a0 a1 = some (r1, r2)) :
    Calls Try.prog 110 #[.int .i64 a0, .int .i64 a1] w fun e w' => e = .returned (.tuple #[.int .i64 r1, .bool r2]) ∧ Drawn0 w w' := by
  unfold interval_times.f at h
  by_cases hp : InR a0 ∧ InR a1 ∧ InR (a0 * a1)
  · rw [if_pos hp] at h
    simp only [Option.some.injEq, Prod.mk.injEq] at h
    obtain ⟨rfl, rfl⟩ := h
    obtain ⟨h0, h1, h2⟩ := hp
    by_cases x0 : a0 = 0
    · subst x0
      go_enter Try.func110, Try.ntmps110
      go_wp2
      all_goals
        go_ret2
        exact ⟨by simp, by repeat (first | exact Drawn0.refl _ | apply Drawn0.step)⟩
    · by_cases y0 : a1 = 0
      · subst y0
        have b0 : (a0 == 0) = false := beq_eq_false_iff_ne.mpr x0
        go_enter Try.func110, Try.ntmps110
        go_wp2
        all_goals
          go_ret2
          exact ⟨by simp, by repeat (first | exact Drawn0.refl _ | apply Drawn0.step)⟩
      · have b0 : (a0 == 0) = false := beq_eq_false_iff_ne.mpr x0
        have b1 : (a1 == 0) = false := beq_eq_false_iff_ne.mpr y0
        have q := quo_ge_ y0 h2
        have e0 := abs_f_ h0
        have e1 := abs_f_ h1
        obtain ⟨m0, hm0⟩ : ∃ m, (if a0 < 0 then -a0 else a0) = m := ⟨_, rfl⟩
        obtain ⟨m1, hm1⟩ : ∃ m, (if a1 < 0 then -a1 else a1) = m := ⟨_, rfl⟩
        have p1 : m1 ≠ 0 := by rw [← hm1]; split <;> omega
        rw [hm0] at e0 q
        rw [hm1] at e1 q
        have b2 : (m1 == 0) = false := beq_eq_false_iff_ne.mpr p1
        have hw : wrap64 (Int.tdiv 1000000000000000000 m1) = Int.tdiv 1000000000000000000 m1 := wrap_in_ (by have := h0.1; have : 0 ≤ m0 := (by rw [← hm0]; split <;> omega); omega) (by omega)
        have hd : decide (Int.tdiv 1000000000000000000 m1 < m0) = false := decide_eq_false (by omega)
        have hx : wrap64 (a0 * a1) = a0 * a1 := wrap_in_ (by have := h2.1; omega) (by have := h2.2; omega)
        have E0 := Aside0.mk e0
        have E1 := Aside0.mk e1
        have p2 : ¬ m1 = 0 := p1
        clear e0 e1 hm0 hm1 q p1
        go_enter Try.func110, Try.ntmps110
        go_wp2_with fail
        refine (interval_abs.calls a0 m0 _ E0.out).mono ?_
        rintro e w' ⟨rfl, ⟨nd, rfl⟩⟩
        go_wp2_with fail
        refine (interval_abs.calls a1 m1 _ E1.out).mono ?_
        rintro e w' ⟨rfl, ⟨nd, rfl⟩⟩
        go_wp2
        go_ret2
        exact ⟨by first | rfl | (rw [hx]; done) | (rw [hx]; rfl) | (simp [hx]; done), by repeat (first | exact Drawn0.refl _ | apply Drawn0.step)⟩
  · rw [if_neg hp] at h; cases h

end Go.Proofs.Ytmoffcpbmigngaa.JS
