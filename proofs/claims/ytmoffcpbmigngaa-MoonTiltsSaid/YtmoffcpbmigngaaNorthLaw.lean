/- The latitude of the moon: bounds. No condition on a program. -/
import Derived.Test.YtmoffcpbmigngaaJMx1
import Derived.Test.YtmoffcpbmigngaaSkyLaw
namespace Go.Proofs.Ytmoffcpbmigngaa.JM
open Go.Proofs.Ytmoffcpbmigngaa.Own Go.Proofs.Ytmoffcpbmigngaa.Tp Go.RowKit Go.Proofs.YtmoffcpbmigngaaW.PrintWords Go.Proofs.YtmoffcpbmigngaaW.PrintLast

def northL' : List S93 := [⟨14244783, 648500531, 36748195111111⟩, ⟨779450, 747884547, 73039842194444⟩, ⟨771369, 450883485, (-456548027778)⟩]
theorem lat_b {t : Int} (h3 : -345600000000000 ≤ t) (h4 : t < 345600086400000) : ∃ a b, a ≤ b ∧ -15820000 ≤ a ∧ b ≤ 15820000 ∧ b - a ≤ 41000 ∧ ∀ k, 53 ≤ k → moon_Latitude.f k t = some (a, b, 0) := by
  have ok : ∀ x ∈ northL', tok x := by unfold tok; decide +kernel
  have s := sl_b ok t
  have w := sl_w northL' t
  have r := sl_rl northL' t
  have m := rl_am northL' t
  have wn : wl northL' ≤ 200 := by decide +kernel
  have an : am northL' = ((15795602 : Int) : Rat) := by decide +kernel
  rw [an, ← Rat.intCast_neg] at m
  have l1 : (sl northL' t).1 ≤ 15795602 := ci (Rat.le_trans r.1 m.2)
  have l2 : -15795602 ≤ (sl northL' t).2 := ci (Rat.le_trans m.1 r.2)
  refine ⟨0 - 20000 + (sl northL' t).1, 0 + 20000 + (sl northL' t).2, by omega, by omega, by omega, by omega, fun k hk => ?_⟩
  unfold moon_Latitude.f moon_North.f
  simp only [Option.bind_some]
  have v := value_f (l := northL') (by decide) ok h3 h4 (mean := 0) (rate := 0) (rest := 20000) (by omega) (by omega) (by omega) (by omega) (by omega) (by omega) k hk
  unfold northL' at v ⊢
  rw [v]
  rfl
end Go.Proofs.Ytmoffcpbmigngaa.JM
