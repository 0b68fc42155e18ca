/- place.Sidereal, Height and Ground answer, whatever the direction. No condition on a program. -/
import Derived.Test.YtgmjgnojjbajdaaDoorSumLaw
import Derived.Test.YtgmjgnojjbajdaaDoorUnitLaw
import Derived.Test.YtgmjgnojjbajdaaDoorJRx1
import Derived.Test.YtgmjgnojjbajdaaDoorJRx1
import Derived.Test.YtgmjgnojjbajdaaDoorJRx1
namespace Go.Proofs.YtgmjgnojjbajdaaDoor.JR
open Go.Proofs.YtgmjgnojjbajdaaDoor.Own Go.Proofs.YtgmjgnojjbajdaaDoor.Tp Go.Proofs.YtgmjgnojjbajdaaDoor.Iv Go.RowKit Go.Proofs.YtgmjgnojjbajdaaDoorW.PrintWords Go.Proofs.YtgmjgnojjbajdaaDoorW.PrintLast

theorem red1 {a : Int} (h1 : -4000000000000000000 ≤ a) (h2 : a ≤ 4000000000000000000) : series_Reduced.f a (a + 1) = some (a % 1000000000, a % 1000000000 + 1) := by
  unfold series_Reduced.f
  rw [sfloor_ (by omega) (by omega) (by omega) (by omega)]
  simp only [Option.bind_some]
  rw [wrap_in (n := a / 1000000000 * 1000000000) (by omega) (by omega), wrap_in (n := a - a / 1000000000 * 1000000000) (by omega) (by omega), wrap_in (n := a + 1 - a / 1000000000 * 1000000000) (by omega) (by omega)]
  congr 2 <;> omega
theorem sid_f {t : Int} (h3 : -345600000000000 ≤ t) (h4 : t < 345600086400000) : ∃ A, 0 ≤ A ∧ A < 1000000000 ∧ ∀ p0 p1, -500000000 ≤ p0 → p0 ≤ 500000000 → -220000000 ≤ p1 → p1 ≤ 220000000 → ∀ k, 60 ≤ k →
    place_Sidereal.f k p0 p1 t = some ((A + p0) % 1000000000, (A + p0) % 1000000000 + 1, 0) := by
  have b := tn_b 1002737909350806 t
  refine ⟨(275313108 + tn 1002737909350806 t / 1000000) % 1000000000, by omega, by omega, fun p0 p1 g1 g2 g3 g4 k hk => ?_⟩
  have c : place_Check.f p0 p1 = some 0 := by
    unfold place_Check.f
    rw [if_neg (by omega), if_neg (by omega), if_neg (by omega), if_neg (by omega)]
  have ck := check_f (l := []) (by decide) (by intro x hx; cases hx) h3 h4 (mean := 275313108) (rate := 1002737909350806) (rest := 0) (by omega) (by omega) (by omega) (by omega) (by omega) (by omega) k (by omega)
  have sm := sum_f (l := []) (by decide) (by intro x hx; cases hx) h3 h4 (mean := 275313108) (rest := 0) 1002737909350806 (by omega) (by omega) (by omega) (by omega) k (by omega)
  have tu := turned_f (rate := 1002737909350806) (t := t) (by omega) (by omega) h3 h4 k (by omega)
  generalize tn 1002737909350806 t = n at *
  have an : series_Angle.f k 275313108 1002737909350806 [] 0 t = some ((275313108 + n / 1000000) % 1000000000, (275313108 + n / 1000000) % 1000000000 + 1, 0) := by
    unfold series_Angle.f
    rw [ck]
    simp only [Option.bind_some, if_true]
    rw [sm, tu]
    simp only [Option.bind_some, sl]
    rw [tdiv_nn (by omega), wrap_in (n := n / 1000000) (by omega) (by omega), wrap_in (n := 275313108 - 0 + 0 + n / 1000000) (by omega) (by omega), wrap_in (n := 275313108 + 0 + 0 + n / 1000000) (by omega) (by omega), wrap_in (n := 275313108 + 0 + 0 + n / 1000000 + 1) (by omega) (by omega),
      show (275313108 - 0 + 0 + n / 1000000 : Int) = 275313108 + n / 1000000 by omega, show (275313108 + 0 + 0 + n / 1000000 + 1 : Int) = 275313108 + n / 1000000 + 1 by omega, red1 (by omega) (by omega)]
    rfl
  unfold place_Sidereal.f
  rw [c]
  simp only [Option.bind_some, if_true]
  rw [an]
  simp only [Option.bind_some, if_true]
  have m : 0 ≤ (275313108 + n / 1000000) % 1000000000 ∧ (275313108 + n / 1000000) % 1000000000 < 1000000000 := by omega
  generalize (275313108 + n / 1000000) % 1000000000 = A at *
  rw [wrap_in (n := A + p0) (by omega) (by omega), wrap_in (n := A + 1 + p0) (by omega) (by omega), show A + 1 + p0 = A + p0 + 1 by omega, red1 (by omega) (by omega)]
  rfl
theorem out_f {a : Int} (h1 : -1000000000000000000 ≤ a) (h2 : a ≤ 1000000000000000000) : trig_out.f a = some false := by
  unfold trig_out.f
  rw [if_neg (by omega), decide_eq_false (by omega)]
theorem cos1_f {a : Int} (h1 : -100000000000000000 ≤ a) (h2 : a ≤ 100000000000000000) (k : Nat) (hk : 11 ≤ k) :
    trig_Cos.f k a = some ((sv ((a + 250000000) % 1000000000)).1, (sv ((a + 250000000) % 1000000000)).2, 0) := by
  unfold trig_Cos.f
  rw [out_f (by omega) (by omega), ored_f h1 h2]
  simp only [Option.bind_some, Bool.false_eq_true, if_false]
  rw [wrap_in (n := a % 1000000000 + 250000000) (by omega) (by omega), sin_f (by omega) (by omega) k hk, show (a % 1000000000 + 250000000) % 1000000000 = (a + 250000000) % 1000000000 by omega]
  rfl
section
variable {p0 p1 r0 r1 d0 d1 t : Int}
theorem hour_f (h3 : -345600000000000 ≤ t) (h4 : t < 345600086400000) (g1 : -500000000 ≤ p0) (g2 : p0 ≤ 500000000) (g3 : -220000000 ≤ p1) (g4 : p1 ≤ 220000000) (q1 : 0 ≤ r0) (q2 : r0 ≤ r1) (q3 : r1 ≤ 3000000000) (q4 : -250000000 ≤ d0) (q5 : d0 ≤ d1) (q6 : d1 ≤ 250000000) :
    ∃ S, 0 ≤ S ∧ S < 1000000000 ∧ ∀ k, 61 ≤ k → place_hour.f k p0 p1 r0 r1 d0 d1 t = some (S - r1, S + 1 - r0, 0) := by
  obtain ⟨A, A0, A1, hs⟩ := sid_f (t := t) h3 h4
  refine ⟨(A + p0) % 1000000000, by omega, by omega, fun k hk => ?_⟩
  obtain ⟨k, rfl⟩ : ∃ m, k = m + 1 := ⟨k - 1, by omega⟩
  unfold place_hour.f
  rw [hs p0 p1 g1 g2 g3 g4 _ (by omega), tcheck_f (by omega) q2 (by omega), tcheck_f (by omega) q5 (by omega)]
  simp only [Option.bind_some]
  rw [if_pos ⟨trivial, trivial, trivial, q4, q6, by omega, q3⟩, wrap_in (n := (A + p0) % 1000000000 - r1) (by omega) (by omega), wrap_in (n := (A + p0) % 1000000000 + 1 - r0) (by omega) (by omega)]
theorem height_f (h3 : -345600000000000 ≤ t) (h4 : t < 345600086400000) (g1 : -500000000 ≤ p0) (g2 : p0 ≤ 500000000) (g3 : -220000000 ≤ p1) (g4 : p1 ≤ 220000000) (q1 : 0 ≤ r0) (q2 : r0 ≤ r1) (q3 : r1 ≤ 3000000000) (q4 : -250000000 ≤ d0) (q5 : d0 ≤ d1) (q6 : d1 ≤ 250000000) (q7 : r1 - r0 ≤ 900000000) :
    ∃ h0 h1, h0 ≤ h1 ∧ ∀ k, 61 ≤ k → place_Height.f k p0 p1 r0 r1 d0 d1 t = some (h0, h1, 0) := by
  obtain ⟨S, S0, S1, hh⟩ := hour_f (p0 := p0) (p1 := p1) (r0 := r0) (r1 := r1) (d0 := d0) (d1 := d1) h3 h4 g1 g2 g3 g4 q1 q2 q3 q4 q5 q6
  have s1 := sv_b (p1 % 1000000000)
  have s2 := sv_b ((p1 + 250000000) % 1000000000)
  have s3 := so2_b d0 d1
  have s4 := so2_b (d0 % 1000000000 + 250000000) (d1 - d0 + d0 % 1000000000 + 250000000)
  have s5 := so2_b ((S - r1) % 1000000000 + 250000000) (S + 1 - r0 - (S - r1) + (S - r1) % 1000000000 + 250000000)
  obtain ⟨u0, u1, e1, a1, b1, c1, _⟩ := sunit_f s1.1 s3.2.1
  obtain ⟨v0, v1, e2, a2, b2, c2, _⟩ := sunit_f s2.1 s4.2.1
  obtain ⟨x0, x1, e3, a3, b3, c3, _⟩ := sunit_f b2 s5.2.1
  refine ⟨cut1 (u0 + x0), cut1 (u1 + x1), cut1_mono (by omega), fun k hk => ?_⟩
  unfold place_Height.f
  rw [hh k hk]
  simp only [Option.bind_some, if_true]
  rw [sin_f (by omega) (by omega) k (by omega), cos1_f (by omega) (by omega) k (by omega), so2_f (by omega) q5 (by omega) k (by omega), co2_f (by omega) q5 (by omega) (by omega) k (by omega), co2_f (by omega) (by omega) (by omega) (by omega) k (by omega)]
  simp only [Option.bind_some]
  rw [e1, e2]
  simp only [Option.bind_some]
  rw [e3]
  simp only [Option.bind_some]
  rw [wrap_in (n := u0 + x0) (by omega) (by omega), wrap_in (n := u1 + x1) (by omega) (by omega)]
  rfl
theorem ground_f (h3 : -345600000000000 ≤ t) (h4 : t < 345600086400000) (g1 : -500000000 ≤ p0) (g2 : p0 ≤ 500000000) (g3 : -220000000 ≤ p1) (g4 : p1 ≤ 220000000) (q1 : 0 ≤ r0) (q2 : r0 ≤ r1) (q3 : r1 ≤ 3000000000) (q4 : -250000000 ≤ d0) (q5 : d0 ≤ d1) (q6 : d1 ≤ 250000000) (q7 : r1 - r0 ≤ 900000000) :
    ∃ z : Int × Int × Int × Int, ∀ k, 61 ≤ k → place_Ground.f k p0 p1 r0 r1 d0 d1 t = some (z.1, z.2.1, z.2.2.1, z.2.2.2, 0) := by
  obtain ⟨S, S0, S1, hh⟩ := hour_f (p0 := p0) (p1 := p1) (r0 := r0) (r1 := r1) (d0 := d0) (d1 := d1) h3 h4 g1 g2 g3 g4 q1 q2 q3 q4 q5 q6
  have s1 := sv_b (p1 % 1000000000)
  have s2 := sv_b ((p1 + 250000000) % 1000000000)
  have s3 := so2_b d0 d1
  have s4 := so2_b (d0 % 1000000000 + 250000000) (d1 - d0 + d0 % 1000000000 + 250000000)
  have s5 := so2_b ((S - r1) % 1000000000 + 250000000) (S + 1 - r0 - (S - r1) + (S - r1) % 1000000000 + 250000000)
  have s6 := so2_b (S - r1) (S + 1 - r0)
  obtain ⟨u0, u1, e1, a1, b1, c1, _⟩ := sunit_f s4.2.1 s6.2.1
  obtain ⟨v0, v1, e2, a2, b2, c2, _⟩ := sunit_f s2.1 s3.2.1
  obtain ⟨w0, w1, e3, a3, b3, c3, _⟩ := sunit_f s1.1 s4.2.1
  obtain ⟨x0, x1, e4, a4, b4, c4, _⟩ := sunit_f b3 s5.2.1
  refine ⟨(wrap64 (-u1), wrap64 (-u0), cut1 (wrap64 (v0 - x1)), cut1 (wrap64 (v1 - x0))), fun k hk => ?_⟩
  unfold place_Ground.f
  rw [hh k hk]
  simp only [Option.bind_some, if_true]
  rw [sin_f (by omega) (by omega) k (by omega), cos1_f (by omega) (by omega) k (by omega), so2_f (by omega) q5 (by omega) k (by omega), co2_f (by omega) q5 (by omega) (by omega) k (by omega), so2_f (by omega) (by omega) (by omega) k (by omega), co2_f (by omega) (by omega) (by omega) (by omega) k (by omega)]
  simp only [Option.bind_some]
  rw [e1, e2, e3]
  simp only [Option.bind_some]
  rw [e4]
  rfl
end
end Go.Proofs.YtgmjgnojjbajdaaDoor.JR
