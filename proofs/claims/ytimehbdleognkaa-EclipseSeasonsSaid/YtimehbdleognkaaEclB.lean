/- The first eclipses' facts, worked out. No condition on a program. -/
import Derived.Test.YtimehbdleognkaaJEx1
import Derived.Test.YtimehbdleognkaaTrigCore
import Derived.WalkKit
namespace Go.Proofs.Ytimehbdleognkaa.JE
open Go.Proofs.Ytimehbdleognkaa.Own Go.RowKit Go.Proofs.YtimehbdleognkaaW.PrintWords Go.Proofs.YtimehbdleognkaaW.PrintLast

theorem ph_24716 : phase_Find.f 100 24716 0 = some (63062452272103, 63062452609603, 0) := by decide +kernel
theorem ec_24716 : ∃ k0, ∀ k, k0 ≤ k → eclipse_Find.f k 24716 0 = some (0, 63062452272103, 63062452609603, (-14185000), (-14116477), 0, 0, 0) := by
  refine of_mono (k0 := 101) (eclipse_Find.mono _ _) ?_
  unfold eclipse_Find.f
  rw [if_pos rfl]
  simp only [eclipse_Find.j0]
  rw [if_neg (by decide), ph_24716]
  kernel_rfl
theorem ph_24717 : phase_Find.f 100 24717 0 = some (63064983464981, 63064983802481, 0) := by decide +kernel
theorem ec_24717 : ∃ k0, ∀ k, k0 ≤ k → eclipse_Find.f k 24717 0 = some (0, 63064983464981, 63064983802481, (-11443144), (-11374621), 0, 0, 0) := by
  refine of_mono (k0 := 101) (eclipse_Find.mono _ _) ?_
  unfold eclipse_Find.f
  rw [if_pos rfl]
  simp only [eclipse_Find.j0]
  rw [if_neg (by decide), ph_24717]
  kernel_rfl
end Go.Proofs.Ytimehbdleognkaa.JE
