/- The longitude of the sun: what sun.Longitude computes, and how fast it grows. No condition on a program. -/
import Derived.Test.YtgmjgnojjbajdaaDoorJGx1
import Derived.Test.YtgmjgnojjbajdaaDoorSkyLaw
namespace Go.Proofs.YtgmjgnojjbajdaaDoor.JG
open Go.Proofs.YtgmjgnojjbajdaaDoor.Own Go.Proofs.YtgmjgnojjbajdaaDoor.Tp Go.RowKit Go.Proofs.YtgmjgnojjbajdaaDoorW.PrintWords Go.Proofs.YtgmjgnojjbajdaaDoorW.PrintLast

def sunL : List S85 := [⟨5318339, 84888545, 2737778555556⟩, ⟨55536, 169777090, 5475557111112⟩]
instance (x : S85) : Decidable (tok x) := inferInstanceAs (Decidable (_ ∧ _ ∧ _ ∧ _ ∧ _ ∧ _))
theorem sunL_ok : ∀ x ∈ sunL, tok x := by decide +kernel
def SR (t : Int) : Rat := RR 775342092 2737909333333 sunL t

/-- an angle's interval holds the true number, and what is as far as the remainder from it -/
theorem angle_two {l : List S85} (hl : l.length ≤ 40) (ho : ∀ x ∈ l, tok x) {t : Int} (h3 : -345600000000000 ≤ t) (h4 : t < 345600086400000) {mean rate rest : Int}
    (m1 : -1000000000 ≤ mean) (m2 : mean ≤ 1000000000) (g1 : -4000000000000000 ≤ rate) (g2 : rate ≤ 4000000000000000) (r1 : 0 ≤ rest) (r2 : rest ≤ 100000000) :
    ∃ p q, (∀ k, 53 ≤ k → series_Angle.f k mean rate l rest t = some (p, q, 0)) ∧ Ang p q (RR mean rate l t) (2 * rest + 1 + wl l) ∧ Ang p q (RR mean rate l t - (rest : Rat)) (2 * rest + 1 + wl l) ∧ Ang p q (RR mean rate l t + (rest : Rat)) (2 * rest + 1 + wl l) := by
  have b := sl_b ho t
  have tb := tn_b rate t
  have w := sl_w l t
  have r := sl_rl l t
  obtain ⟨j, hj⟩ := tn_ua rate t
  have c0 : ((0 : Int) : Rat) ≤ (rest : Rat) := ic r1
  have z0 : ((0 : Int) : Rat) = 0 := by decide +kernel
  have c1 : ((1 : Int) : Rat) = 1 := by decide +kernel
  have cT : ((1000000000 : Int) : Rat) = 1000000000 := by decide +kernel
  rw [z0] at c0
  have red : ∀ R : Rat, RR mean rate l t - (rest : Rat) ≤ R → R ≤ RR mean rate l t + (rest : Rat) → Ang ((mean - rest + (sl l t).1 + tn rate t / 1000000) % 1000000000) (mean + rest + (sl l t).2 + tn rate t / 1000000 + 1 - (mean - rest + (sl l t).1 + tn rate t / 1000000) / 1000000000 * 1000000000) R (2 * rest + 1 + wl l) := by
    intro R R1 R2
    unfold RR at R1 R2
    refine Ang_red (by omega) (by omega) (-j) ?_ ?_
    · rw [hj]
      rw [Rat.intCast_add, Rat.intCast_add, Rat.intCast_add, Rat.intCast_sub, Rat.intCast_mul, cT, Rat.intCast_neg]; grind
    · rw [hj]
      rw [Rat.intCast_add, Rat.intCast_add, Rat.intCast_add, Rat.intCast_add, Rat.intCast_add, Rat.intCast_mul, cT, c1, Rat.intCast_neg]; grind
  refine ⟨_, _, ?_, red _ (by grind) (by grind), red _ (by grind) (by grind), red _ (by grind) (by grind)⟩
  intro k hk
  unfold series_Angle.f
  rw [check_f hl ho h3 h4 m1 m2 g1 g2 r1 r2 k hk]
  simp only [Option.bind_some, if_true]
  rw [sum_f hl ho h3 h4 rate m1 m2 r1 r2 k hk, turned_f g1 g2 h3 h4 k (by omega)]
  simp only [Option.bind_some]
  rw [tdiv_nn tb.1, wrap_in (n := tn rate t / 1000000) (by omega) (by omega), wrap_in (n := mean - rest + (sl l t).1 + tn rate t / 1000000) (by omega) (by omega), wrap_in (n := mean + rest + (sl l t).2 + tn rate t / 1000000) (by omega) (by omega), wrap_in (n := mean + rest + (sl l t).2 + tn rate t / 1000000 + 1) (by omega) (by omega), sred_f (by omega) (by omega) (by omega) (by omega) (by omega) (by omega)]
  rfl
theorem sun_two {t : Int} (h3 : -345600000000000 ≤ t) (h4 : t < 345600086400000) : ∃ p q, (∀ k, 53 ≤ k → series_Angle.f k 775342092 2737909333333 sunL 2000 t = some (p, q, 0)) ∧ Ang p q (SR t) 4005 ∧ Ang p q (SR t - 2000) 4005 ∧ Ang p q (SR t + 2000) 4005 := by
  obtain ⟨p, q, h, a, b, c⟩ := angle_two (l := sunL) (by decide) sunL_ok h3 h4 (mean := 775342092) (rate := 2737909333333) (rest := 2000) (by omega) (by omega) (by omega) (by omega) (by omega) (by omega)
  have e : 2 * 2000 + 1 + wl sunL = 4005 := by decide +kernel
  have e2 : ((2000 : Int) : Rat) = 2000 := by decide +kernel
  rw [e] at a b c
  rw [e2] at b c
  exact ⟨p, q, h, a, b, c⟩
theorem slon_f {t : Int} (h3 : -345600000000000 ≤ t) (h4 : t < 345600086400000) : ∃ p q, (∀ k, 53 ≤ k → sun_Longitude.f k t = some (p, q, 0)) ∧ Ang p q (SR t) 4005 := by
  obtain ⟨p, q, h, a, _⟩ := sun_two h3 h4
  refine ⟨p, q, fun k hk => ?_, a⟩
  unfold sun_Longitude.f sun_Series.f
  simp only [Option.bind_some]
  have := h k hk
  unfold sunL at this
  rw [this]
  rfl
/-- how fast the longitude of the sun grows -/
theorem SR_lin {t d : Int} (hd : 0 ≤ d) : 30600 / 1000000 * (d : Rat) - 2 ≤ SR (t + d) - SR t ∧ SR (t + d) - SR t ≤ 32780 / 1000000 * (d : Rat) + 2 := by
  have s := RR_lin (mean := 775342092) (rate := 2737909333333) (l := sunL) (t := t) hd
  have d0 : (0 : Rat) ≤ (d : Rat) := by
    have z0 : ((0 : Int) : Rat) = 0 := by decide +kernel
    rw [← z0]; exact ic hd
  have n1 : 30600 / 1000000 ≤ ((2737909333333 : Int) : Rat) / 86400000000000 - cA sunL := by decide +kernel
  have n2 : ((2737909333333 : Int) : Rat) / 86400000000000 + cA sunL ≤ 32780 / 1000000 := by decide +kernel
  have n3 : cB sunL + 1 ≤ 2 := by decide +kernel
  unfold SR
  generalize ((2737909333333 : Int) : Rat) / 86400000000000 - cA sunL = a at *
  generalize ((2737909333333 : Int) : Rat) / 86400000000000 + cA sunL = b at *
  have p1 := Rat.mul_nonneg (show 0 ≤ a - 30600 / 1000000 by grind) d0
  have p2 := Rat.mul_nonneg (show 0 ≤ 32780 / 1000000 - b by grind) d0
  constructor <;> grind
end Go.Proofs.YtgmjgnojjbajdaaDoor.JG
