/- The elongation of the moon: what moon.Elongation computes, and how fast it grows. No condition on a program. -/
import Derived.Test.YtimehbdleognkaaJEx1
import Derived.Test.YtimehbdleognkaaSunLaw
namespace Go.Proofs.Ytimehbdleognkaa.JE
open Go.Proofs.Ytimehbdleognkaa.Own Go.Proofs.Ytimehbdleognkaa.Tp Go.RowKit Go.Proofs.YtimehbdleognkaaW.PrintWords Go.Proofs.YtimehbdleognkaaW.PrintLast

def moonL : List S51 := [⟨17468817, 99384016, 36291647083333⟩, ⟨3538964, 134030564, 31434736861111⟩, ⟨1828650, 233414580, 67726383944444⟩, ⟨593383, 198768032, 72583294166666⟩, ⟨(-514211), 84888545, 2737778555556⟩, ⟨(-317589), 297001062, 73496390222222⟩]
theorem moonL_ok : ∀ x ∈ moonL, tok x := by decide +kernel

def MR (t : Int) : Rat := RR 392048814 36601101305556 moonL t
theorem moon_lon {t : Int} (h3 : -345600000000000 ≤ t) (h4 : t < 345600086400000) : ∃ p q, (∀ k, 53 ≤ k → moon_Longitude.f k t = some (p, q, 0)) ∧ Ang p q (MR t) 40013 := by
  obtain ⟨p, q, h, a⟩ := angle_f (l := moonL) (by decide) moonL_ok h3 h4 (mean := 392048814) (rate := 36601101305556) (rest := 20000) (by omega) (by omega) (by omega) (by omega) (by omega) (by omega)
  refine ⟨p, q, fun k hk => ?_, ?_⟩
  · unfold moon_Longitude.f moon_Series.f
    simp only [Option.bind_some]
    have := h k hk
    unfold moonL at this
    rw [this]
    rfl
  · have e : 2 * 20000 + 1 + wl moonL = 40013 := by decide +kernel
    rw [e] at a
    exact a
theorem sun_lon {t : Int} (h3 : -345600000000000 ≤ t) (h4 : t < 345600086400000) : ∃ p q, (∀ k, 53 ≤ k → sun_Longitude.f k t = some (p, q, 0)) ∧ Ang p q (SR t) 4005 := by
  obtain ⟨p, q, h, a⟩ := angle_f (l := sunL) (by decide) sunL_ok h3 h4 (mean := 775342092) (rate := 2737909333333) (rest := 2000) (by omega) (by omega) (by omega) (by omega) (by omega) (by omega)
  refine ⟨p, q, fun k hk => ?_, ?_⟩
  · unfold sun_Longitude.f sun_Series.f
    simp only [Option.bind_some]
    have := h k hk
    unfold sunL at this
    rw [this]
    rfl
  · have e : 2 * 2000 + 1 + wl sunL = 4005 := by decide +kernel
    rw [e] at a
    exact a

/-- the true elongation -/
def EE (t : Int) : Rat := MR t - SR t
theorem elong_f {t : Int} (h3 : -345600000000000 ≤ t) (h4 : t < 345600086400000) : ∃ p q, (∀ k, 53 ≤ k → moon_Elongation.f k t = some (p, q, 0)) ∧ Ang p q (EE t) 44018 := by
  obtain ⟨a, b, h, a1, a2, a3, a4, i, a5, a6⟩ := moon_lon h3 h4
  obtain ⟨c, d, g, c1, c2, c3, c4, j, c5, c6⟩ := sun_lon h3 h4
  refine ⟨(a - d) % 1000000000, b - c - (a - d) / 1000000000 * 1000000000, fun k hk => ?_, ?_⟩
  · unfold moon_Elongation.f
    rw [h k hk, g k hk]
    simp only [Option.bind_some, if_true]
    rw [wrap_in (n := a - d) (by omega) (by omega), wrap_in (n := b - c) (by omega) (by omega), sred_f (by omega) (by omega) (by omega) (by omega) (by omega) (by omega)]
    rfl
  · unfold EE
    refine Ang_red (by omega) (by omega) (i - j) ?_ ?_ <;> rw [Rat.intCast_sub, Rat.intCast_sub] <;> grind

/-- how fast the elongation grows -/
theorem EE_lin {t d : Int} (hd : 0 ≤ d) : 322500 / 1000000 * (d : Rat) - 3 ≤ EE (t + d) - EE t ∧ EE (t + d) - EE t ≤ 461400 / 1000000 * (d : Rat) + 3 := by
  have m := RR_lin (mean := 392048814) (rate := 36601101305556) (l := moonL) (t := t) hd
  have s := RR_lin (mean := 775342092) (rate := 2737909333333) (l := sunL) (t := t) hd
  have d0 : (0 : Rat) ≤ (d : Rat) := by
    have z0 : ((0 : Int) : Rat) = 0 := by decide +kernel
    rw [← z0]; exact ic hd
  have n1 : 322500 / 1000000 ≤ ((36601101305556 : Int) : Rat) / 86400000000000 - cA moonL - (((2737909333333 : Int) : Rat) / 86400000000000 + cA sunL) := by decide +kernel
  have n2 : ((36601101305556 : Int) : Rat) / 86400000000000 + cA moonL - (((2737909333333 : Int) : Rat) / 86400000000000 - cA sunL) ≤ 461400 / 1000000 := by decide +kernel
  have n3 : cB moonL + 1 + (cB sunL + 1) ≤ 3 := by decide +kernel
  unfold EE MR SR
  generalize ((36601101305556 : Int) : Rat) / 86400000000000 - cA moonL = a at *
  generalize ((36601101305556 : Int) : Rat) / 86400000000000 + cA moonL = b at *
  generalize ((2737909333333 : Int) : Rat) / 86400000000000 - cA sunL = e at *
  generalize ((2737909333333 : Int) : Rat) / 86400000000000 + cA sunL = f at *
  have p1 := Rat.mul_nonneg (show 0 ≤ a - f - 322500 / 1000000 by grind) d0
  have p2 := Rat.mul_nonneg (show 0 ≤ 461400 / 1000000 - (b - e) by grind) d0
  constructor <;> grind
end Go.Proofs.Ytimehbdleognkaa.JE
