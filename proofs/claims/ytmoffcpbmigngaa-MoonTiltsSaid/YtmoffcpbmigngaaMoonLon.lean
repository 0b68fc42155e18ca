/- The longitude of the moon: what moon.Longitude computes. No condition on a program. -/
import Derived.Test.YtmoffcpbmigngaaJMx1
import Derived.Test.YtmoffcpbmigngaaSkyLaw
namespace Go.Proofs.Ytmoffcpbmigngaa.JM
open Go.Proofs.Ytmoffcpbmigngaa.Own Go.Proofs.Ytmoffcpbmigngaa.Tp Go.RowKit Go.Proofs.YtmoffcpbmigngaaW.PrintWords Go.Proofs.YtmoffcpbmigngaaW.PrintLast

def moonL' : List S93 := [⟨17468817, 99384016, 36291647083333⟩, ⟨3538964, 134030564, 31434736861111⟩, ⟨1828650, 233414580, 67726383944444⟩, ⟨593383, 198768032, 72583294166666⟩, ⟨(-514211), 84888545, 2737778555556⟩, ⟨(-317589), 297001062, 73496390222222⟩]
theorem moon_lon' {t : Int} (h3 : -345600000000000 ≤ t) (h4 : t < 345600086400000) : ∃ p q, (∀ k, 53 ≤ k → moon_Longitude.f k t = some (p, q, 0)) ∧ Ang p q (RR 392048814 36601101305556 moonL' t) 40013 := by
  obtain ⟨p, q, h, a⟩ := angle_f (l := moonL') (by decide) (by unfold tok; decide +kernel) h3 h4 (mean := 392048814) (rate := 36601101305556) (rest := 20000) (by omega) (by omega) (by omega) (by omega) (by omega) (by omega)
  refine ⟨p, q, fun k hk => ?_, ?_⟩
  · unfold moon_Longitude.f moon_Series.f
    simp only [Option.bind_some]
    have := h k hk
    unfold moonL' at this
    rw [this]
    rfl
  · have e : 2 * 20000 + 1 + wl moonL' = 40013 := by decide +kernel
    rw [e] at a
    exact a
end Go.Proofs.Ytmoffcpbmigngaa.JM
