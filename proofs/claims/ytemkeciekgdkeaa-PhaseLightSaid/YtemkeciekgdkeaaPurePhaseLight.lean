/- The law PhaseLight: nothing of a new moon is lit, half of a moon at its quarters, all of a full moon. No condition. -/
import Derived.Test.YtemkeciekgdkeaaJPx1
import Derived.Test.YtemkeciekgdkeaaOverLaw
import Derived.Test.YtemkeciekgdkeaaPhaseLaw
namespace Go.Proofs.Ytemkeciekgdkeaa.Pure
open Go.Proofs.Ytemkeciekgdkeaa.JP Go.Proofs.Ytemkeciekgdkeaa.Own Go.Proofs.Ytemkeciekgdkeaa.Tp Go.RowKit Go.Proofs.YtemkeciekgdkeaaW.PrintWords Go.Proofs.YtemkeciekgdkeaaW.PrintLast

theorem phase_works3 : ∃ k0, ∀ k, k0 ≤ k → ephemeriskeep2_phaseWorks.f k = some true :=
  of_mono (k0 := 300) ephemeriskeep2_phaseWorks.mono (by decide +kernel)
theorem clamp_f {a b : Int} (h1 : -1000000000 ≤ a) (h2 : a ≤ 1000000000) (h3 : -1000000000 ≤ b) (h4 : b ≤ 1000000000) : sun_Clamp.f a b = some (a, b) := by
  unfold sun_Clamp.f
  congr 2 <;> simp only [mn, mx] <;> split <;> (try split) <;> omega
/-- what is lit -/
theorem lit_f {t : Int} (h3 : -345600000000000 ≤ t) (h4 : t < 345600086400000) : ∃ a b p j : Int, (∀ k, 54 ≤ k → phase_Lit.f k t = some (a, b, 0)) ∧ -44018 ≤ (p : Rat) - (EE t - 1000000000 * (j : Rat)) ∧ (p : Rat) - (EE t - 1000000000 * (j : Rat)) ≤ 0 ∧
    2 * (a : Rat) ≤ 1000000000 * (1 - cl (zc p)) + 1 ∧ 1000000000 * (1 - cl (zc p)) - 1 ≤ 2 * (b : Rat) ∧ 2 * ((b : Rat) - (a : Rat)) ≤ 2000000000 * lip 44018 + 10 ∧ -1000000000 ≤ a ∧ a ≤ 2000000000 ∧ -1000000000 ≤ b ∧ b ≤ 2000000000 := by
  obtain ⟨p, q, hp, p0, p1, pq, pw, j, b1, b2⟩ := elong_f h3 h4
  have cw : ((44018 : Int) : Rat) = 44018 := by decide +kernel
  have c1 : ((1 : Int) : Rat) = 1 := by decide +kernel
  have c2 : ((2 : Int) : Rat) = 2 := by decide +kernel
  have cT : ((1000000000 : Int) : Rat) = 1000000000 := by decide +kernel
  have pw' := ic pw
  rw [Rat.intCast_sub, cw] at pw'
  have n := so2_near (x := p + 250000000) (y := q - p + p + 250000000) (w := 44018) (by omega) (by omega)
  have sb := so2_b (p + 250000000) (q - p + p + 250000000)
  have ez : cz (p + 250000000) = cl (zc p) := by unfold cz; rw [z_quarter]
  rw [ez] at n
  have pm : p % 1000000000 = p := by omega
  obtain ⟨lo, hlo⟩ : ∃ lo, lo = (so2 (p + 250000000) (q - p + p + 250000000)).1 := ⟨_, rfl⟩
  obtain ⟨hi, hhi⟩ : ∃ hi, hi = (so2 (p + 250000000) (q - p + p + 250000000)).2 := ⟨_, rfl⟩
  rw [← hlo, ← hhi] at n sb
  have v : ∀ k, 54 ≤ k → phase_Lit.f k t = some ((1000000000 - hi) / 2, (1000000000 - lo + 1) / 2, 0) := fun k hk => by
    unfold phase_Lit.f
    rw [hp k (by omega)]
    simp only [Option.bind_some, if_true]
    rw [co2_f (by omega) pq (by omega) (by omega) k (by omega), pm]
    simp only [Option.bind_some]
    rw [← hlo, ← hhi, clamp_f (by omega) (by omega) (by omega) (by omega)]
    simp only [Option.bind_some]
    rw [wrap_in (n := 1000000000 - hi) (by omega) (by omega), wrap_in (n := 1000000000 - lo) (by omega) (by omega), wrap_in (n := 1000000000 - lo + 1) (by omega) (by omega), tdiv_nn (by omega), tdiv_nn (by omega), wrap_in (by omega) (by omega), wrap_in (by omega) (by omega)]
  refine ⟨(1000000000 - hi) / 2, (1000000000 - lo + 1) / 2, p, j, v, by grind, by grind, ?_, ?_, ?_, by omega, by omega, by omega, by omega⟩
  · have := ic (show 2 * ((1000000000 - hi) / 2) ≤ 1000000000 - hi by omega)
    rw [Rat.intCast_mul, c2, Rat.intCast_sub, cT] at this
    grind
  · have := ic (show 1000000000 - lo ≤ 2 * ((1000000000 - lo + 1) / 2) by omega)
    rw [Rat.intCast_mul, c2, Rat.intCast_sub, cT] at this
    grind
  · have g1 := ic (show 1000000000 - hi - 1 ≤ 2 * ((1000000000 - hi) / 2) by omega)
    have g2 := ic (show 2 * ((1000000000 - lo + 1) / 2) ≤ 1000000000 - lo + 1 by omega)
    rw [Rat.intCast_mul, c2, Rat.intCast_sub, Rat.intCast_sub, cT, c1] at g1
    rw [Rat.intCast_mul, c2, Rat.intCast_add, Rat.intCast_sub, cT, c1] at g2
    grind

theorem PhaseLight : ephemeriskeep2_PhaseLight.Pure := by
  intro a b _ _
  obtain ⟨kw, hw⟩ := phase_works3
  have kb := tmod_lt (a := a) (m := 90000) (by omega)
  unfold ephemeriskeep2_PhaseLight.f
  rw [tat_f (by omega) (by omega)]
  have qb : 0 ≤ b % 4 ∧ b % 4 ≤ 3 := by omega
  generalize Int.tmod a 90000 = K at *
  generalize b % 4 = q at *
  obtain ⟨L, R, K1, a1, a2, a3, a4, a5, a6, a7⟩ := pfind_f (k := K) (q := q) (by omega) (by omega) qb.1 qb.2
  have lb : -345600000000000 ≤ L ∧ L < 345600086400000 := by unfold pmid at a1 a3; omega
  obtain ⟨x, y, p, j, hl, e1, e2, l1, l2, l3, b1, b2, b3, b4⟩ := lit_f lb.1 lb.2
  -- the elongation is near its target
  have gr := EE_lin (t := L) (d := R - L) (by omega)
  rw [show L + (R - L) = R by omega] at gr
  have dw := ic a4
  have cx : ((600000 : Int) : Rat) = 600000 := by decide +kernel
  have cT : ((1000000000 : Int) : Rat) = 1000000000 := by decide +kernel
  rw [cx] at dw
  obtain ⟨z, hz⟩ : ∃ z : Int, z = p - q * 250000000 - 1000000000 * (K - j) := ⟨_, rfl⟩
  have zr : (z : Rat) = (p : Rat) - ((q * 250000000 : Int) : Rat) - 1000000000 * ((K : Rat) - (j : Rat)) := by rw [hz, Rat.intCast_sub, Rat.intCast_sub, Rat.intCast_mul 1000000000, cT, Rat.intCast_sub]
  have z1 : -321000 ≤ z := by
    apply ci
    have c : ((-321000 : Int) : Rat) = -321000 := by decide +kernel
    rw [c, zr]
    unfold pe at a5 a6
    generalize ((R - L : Int) : Rat) = D at *
    grind
  have z2 : z ≤ 0 := by
    apply ci
    have c : ((0 : Int) : Rat) = 0 := by decide +kernel
    rw [c, zr]
    unfold pe at a5
    grind
  have pz : zc p = zs (q * 250000000 + 250000000 + z) := by
    rw [← z_quarter, show p + 250000000 = q * 250000000 + 250000000 + z + 1000000000 * (K - j) by omega, (z_per _ _).1]
  have l := zlip (q * 250000000 + 250000000 + z) (d := -z) (by omega)
  rw [show q * 250000000 + 250000000 + z + -z = q * 250000000 + 250000000 by omega, ← pz] at l
  have lm := lip_mono (show -z ≤ 321000 by omega)
  have ln : lip 321000 ≤ 2018 / 1000000 := by decide +kernel
  have lw : lip 44018 ≤ 277 / 1000000 := by decide +kernel
  have cp : -1 ≤ cl (zc p) ∧ cl (zc p) ≤ 1 := cl_b _
  have key : ∀ w0 : Rat, zs (q * 250000000 + 250000000) = w0 → -1 ≤ w0 → w0 ≤ 1 → -(2018 / 1000000) ≤ cl (zc p) - w0 ∧ cl (zc p) - w0 ≤ 2018 / 1000000 := fun w0 hw0 g1 g2 => by
    rw [hw0] at l
    have e : cl w0 = w0 := by
      unfold cl
      split
      · grind
      · split <;> grind
    have := cl_lip (x := zc p) (y := w0) (L := 2018 / 1000000) (by decide +kernel) (by grind) (by grind)
    rw [e] at this
    exact this
  have fin : ∀ (W : Int) (w0 : Rat), zs (q * 250000000 + 250000000) = w0 → -1 ≤ w0 → w0 ≤ 1 → 2 * (W : Rat) = 1000000000 * (1 - w0) → x ≤ W + 2000000 ∧ W - 2000000 ≤ y ∧ y - x < 1000000 := fun W w0 h0 g1 g2 hW => by
    have kk := key w0 h0 g1 g2
    have c2 : ((2000000 : Int) : Rat) = 2000000 := by decide +kernel
    have c9 : ((999999 : Int) : Rat) = 999999 := by decide +kernel
    refine ⟨?_, ?_, ?_⟩
    · apply ci; rw [Rat.intCast_add, c2]; grind
    · apply ci; rw [Rat.intCast_sub, c2]; grind
    · have : y - x ≤ 999999 := by apply ci; rw [Rat.intCast_sub, c9]; grind
      omega
  refine ⟨kw + K1 + 60, ?_⟩
  rw [hw _ (by omega)]
  simp only [Option.bind_some]
  rw [if_pos ⟨by trivial, qb.1, qb.2⟩, a7 _ (by omega)]
  simp only [Option.bind_some]
  rw [hl _ (by omega)]
  simp only [Option.bind_some]
  have goal : x ≤ ephemeriskeep2_PhaseLight.want q + 2000000 ∧ ephemeriskeep2_PhaseLight.want q - 2000000 ≤ y ∧ y - x < 1000000 := by
    rcases (by omega : q = 0 ∨ q = 1 ∨ q = 2 ∨ q = 3) with e | e | e | e
    · subst e; exact fin 0 1 (by decide +kernel) (by decide +kernel) (by decide +kernel) (by decide +kernel)
    · subst e; exact fin 500000000 0 (by decide +kernel) (by decide +kernel) (by decide +kernel) (by decide +kernel)
    · subst e; exact fin 1000000000 (-1) (by decide +kernel) (by decide +kernel) (by decide +kernel) (by decide +kernel)
    · subst e; exact fin 500000000 0 (by decide +kernel) (by decide +kernel) (by decide +kernel) (by decide +kernel)
  rw [wrap_in (n := y - x) (by omega) (by omega), if_pos ⟨by trivial, by trivial, goal.1, goal.2.1, goal.2.2⟩]
end Go.Proofs.Ytemkeciekgdkeaa.Pure
