/- The first eclipses' facts, worked out. No condition on a program. -/
import Derived.Test.YtimehbdleognkaaJEx1
import Derived.Test.YtimehbdleognkaaTrigCore
import Derived.WalkKit
namespace Go.Proofs.Ytimehbdleognkaa.JE
open Go.Proofs.Ytimehbdleognkaa.Own Go.RowKit Go.Proofs.YtimehbdleognkaaW.PrintWords Go.Proofs.YtimehbdleognkaaW.PrintLast

theorem ph_24718 : phase_Find.f 100 24718 0 = some (63067516007859, 63067516345359, 0) := by decide +kernel
theorem ec_24718 : ∃ k0, ∀ k, k0 ≤ k → eclipse_Find.f k 24718 0 = some (0, 63067516007859, 63067516345359, (-5670447), (-5601924), 0, 0, 0) := by
  refine of_mono (k0 := 101) (eclipse_Find.mono _ _) ?_
  unfold eclipse_Find.f
  rw [if_pos rfl]
  simp only [eclipse_Find.j0]
  rw [if_neg (by decide), ph_24718]
  kernel_rfl
theorem ph_24719 : phase_Find.f 100 24719 0 = some (63070053545370, 63070053650637, 0) := by decide +kernel
theorem ec_24719 : ∃ k0, ∀ k, k0 ≤ k → eclipse_Find.f k 24719 0 = some (2, 63070053545370, 63070053650637, (1668615), (1717514), 581, 594, 0) := by
  refine of_mono (k0 := 101) (eclipse_Find.mono _ _) ?_
  unfold eclipse_Find.f
  rw [if_pos rfl]
  simp only [eclipse_Find.j0]
  rw [if_neg (by decide), ph_24719]
  kernel_rfl
end Go.Proofs.Ytimehbdleognkaa.JE
