/- The first eclipses' facts, worked out. No condition on a program. -/
import Derived.Test.YtimehbdleognkaaJEx1
import Derived.Test.YtimehbdleognkaaTrigCore
import Derived.WalkKit
namespace Go.Proofs.Ytimehbdleognkaa.JE
open Go.Proofs.Ytimehbdleognkaa.Own Go.RowKit Go.Proofs.YtimehbdleognkaaW.PrintWords Go.Proofs.YtimehbdleognkaaW.PrintLast

theorem ph_24714 : phase_Find.f 100 24714 0 = some (63057379064714, 63057379166402, 0) := by decide +kernel
theorem ec_24714 : ∃ k0, ∀ k, k0 ≤ k → eclipse_Find.f k 24714 0 = some (0, 63057379064714, 63057379166402, (-8354593), (-8305995), 0, 0, 0) := by
  refine of_mono (k0 := 101) (eclipse_Find.mono _ _) ?_
  unfold eclipse_Find.f
  rw [if_pos rfl]
  simp only [eclipse_Find.j0]
  rw [if_neg (by decide), ph_24714]
  kernel_rfl
theorem ph_24715 : phase_Find.f 100 24715 0 = some (63059918716725, 63059919054225, 0) := by decide +kernel
theorem ec_24715 : ∃ k0, ∀ k, k0 ≤ k → eclipse_Find.f k 24715 0 = some (0, 63059918716725, 63059919054225, (-13121849), (-13053326), 0, 0, 0) := by
  refine of_mono (k0 := 101) (eclipse_Find.mono _ _) ?_
  unfold eclipse_Find.f
  rw [if_pos rfl]
  simp only [eclipse_Find.j0]
  rw [if_neg (by decide), ph_24715]
  kernel_rfl
end Go.Proofs.Ytimehbdleognkaa.JE
