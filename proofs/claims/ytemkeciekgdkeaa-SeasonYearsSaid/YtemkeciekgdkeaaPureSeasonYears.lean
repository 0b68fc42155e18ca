/- The law SeasonYears: the next passage behind a season is a year later. No condition. -/
import Derived.Test.YtemkeciekgdkeaaJPx1
import Derived.Test.YtemkeciekgdkeaaSeasonLaw
import Derived.Test.YtemkeciekgdkeaaChordLaw
namespace Go.Proofs.Ytemkeciekgdkeaa.Pure
open Go.Proofs.Ytemkeciekgdkeaa.JP Go.Proofs.Ytemkeciekgdkeaa.Own Go.Proofs.Ytemkeciekgdkeaa.Tp Go.RowKit Go.Proofs.YtemkeciekgdkeaaW.PrintWords Go.Proofs.YtemkeciekgdkeaaW.PrintLast

def sB365 : List Rat := [44666 / 10000000, 89328 / 10000000]
def sB366 : List Rat := [127360 / 10000000, 254711 / 10000000]
theorem SR_365 (t : Int) : SR (t + 31536000000) - SR t ≤ 999400000 := by
  have s := rl_chord t 31536000000 sunL sB365 (by decide +kernel)
  have n : chB sunL sB365 ≤ 50000 := by decide +kernel
  have u := ua_step (r := 2737909333333) (t := t) (d := 31536000000)
  have v := ic (show ua 2737909333333 (t + 31536000000) - ua 2737909333333 t ≤ 999336910 by omega)
  have c : ((999336910 : Int) : Rat) = 999336910 := by decide +kernel
  rw [Rat.intCast_sub, c] at v
  unfold SR RR
  grind
theorem SR_366 (t : Int) : 1001900000 ≤ SR (t + 31622400000) - SR t := by
  have s := rl_chord t 31622400000 sunL sB366 (by decide +kernel)
  have n : chB sunL sB366 ≤ 150000 := by decide +kernel
  have u := ua_step (r := 2737909333333) (t := t) (d := 31622400000)
  have v := ic (show 1002074810 ≤ ua 2737909333333 (t + 31622400000) - ua 2737909333333 t by omega)
  have c : ((1002074810 : Int) : Rat) = 1002074810 := by decide +kernel
  rw [Rat.intCast_sub, c] at v
  unfold SR RR
  grind
theorem year_apart {T L R L' R' : Int} (A : Se T L R) (B : Se (T + 1000000000) L' R') : 31536000000 < L' - R ∧ R' - L < 31622400000 := by
  obtain ⟨a1, a2, a3, a4⟩ := A
  obtain ⟨b1, b2, b3, b4⟩ := B
  have cT : ((1000000000 : Int) : Rat) = 1000000000 := by decide +kernel
  have cx : ((600000 : Int) : Rat) = 600000 := by decide +kernel
  rw [Rat.intCast_add, cT] at b3 b4
  have wa := SR_within (a := L) (b := R) (A := 600000) (by omega) a2
  have wb := SR_within (a := L') (b := R') (A := 600000) (by omega) b2
  rw [cx] at wa wb
  constructor
  · rcases Int.lt_or_le 31536000000 (L' - R) with g | g
    · exact g
    · exfalso
      have x := SR_365 R
      have y := SR_mono (a := L') (b := R + 31536000000) (by omega)
      grind
  · rcases Int.lt_or_le (R' - L) 31622400000 with g | g
    · exact g
    · exfalso
      have x := SR_366 L
      have y := SR_mono (a := L + 31622400000) (b := R') (by omega)
      grind

theorem season_works2 : ∃ k0, ∀ k, k0 ≤ k → ephemeriskeep2_seasonWorks.f k = some true :=
  of_mono (k0 := 300) ephemeriskeep2_seasonWorks.mono (by decide +kernel)
theorem SeasonYears : ephemeriskeep2_SeasonYears.Pure := by
  intro a b _ _
  obtain ⟨kw, hw⟩ := season_works2
  unfold ephemeriskeep2_SeasonYears.f
  rw [tat_f (by omega) (by omega), tat_f (by omega) (by omega)]
  have qb : 0 ≤ a % 4 ∧ a % 4 < 4 := by omega
  have yb : 0 ≤ b % 18000 ∧ b % 18000 < 18000 := by omega
  simp only [Option.bind_some]
  generalize a % 4 = q at *
  rw [wrap_in (n := b % 18000 - 9000) (by omega) (by omega)]
  obtain ⟨Y, hY⟩ : ∃ Y, Y = b % 18000 - 9000 := ⟨_, rfl⟩
  rw [← hY]
  obtain ⟨L0, R0, K0, P0, u0, v0, f0⟩ := sfind_f (q := q) (y := Y) (by omega) (by omega) (by omega) (by omega)
  obtain ⟨L1, R1, K1, P1, u1, v1, f1⟩ := sfind_f (q := q) (y := Y + 1) (by omega) (by omega) (by omega) (by omega)
  rw [show 1000000000 * (Y + 1) + 250000000 * q = 1000000000 * Y + 250000000 * q + 1000000000 by omega] at P1
  generalize hT : 1000000000 * Y + 250000000 * q = T at *
  have l0 := P0.lr
  have w0 := P0.wd
  have n0 := P0.neg
  have p0 := P0.pos
  have cT : ((1000000000 : Int) : Rat) = 1000000000 := by decide +kernel
  -- a day behind the season
  have g1 := SR_lin (t := R0) (d := 86400000) (by omega)
  have cd : ((86400000 : Int) : Rat) = 86400000 := by decide +kernel
  rw [cd] at g1
  have wa := SR_within (a := L0) (b := R0) (A := 600000) (by omega) w0
  have cx : ((600000 : Int) : Rat) = 600000 := by decide +kernel
  rw [cx] at wa
  obtain ⟨L2, R2, K2, h1, P2, h3, f2⟩ := next_f (lon := q * 250000000) (t0 := R0 + 86400000) (T := T + 1000000000) (by omega) (by omega) (by omega) (by omega) (by omega) (by rw [Rat.intCast_add, cT]; grind) (by rw [Rat.intCast_add, cT]; grind)
  have yr := year_apart P0 P2
  have l1 := P1.lr
  have l2 := P2.lr
  -- the two passages meet
  have m1 : L2 ≤ R1 := by
    rcases Int.lt_or_le R1 L2 with g | g
    · exfalso
      have := SR_mono (a := R1) (b := L2) (by omega)
      have x1 := P2.neg
      have x2 := P1.pos
      grind
    · exact g
  have m2 : L1 ≤ R2 := by
    rcases Int.lt_or_le R2 L1 with g | g
    · exfalso
      have := SR_mono (a := R2) (b := L1) (by omega)
      have x1 := P1.neg
      have x2 := P2.pos
      grind
    · exact g
  refine ⟨kw + K0 + K1 + K2, ?_⟩
  rw [hw _ (by omega), f0 _ (by omega)]
  simp only [Option.bind_some, if_true]
  rw [wrap_in (n := q * 250000000) (by omega) (by omega), wrap_in (n := R0 + 86400000) (by omega) (by omega), wrap_in (n := Y + 1) (by omega) (by omega), f2 _ (by omega), f1 _ (by omega)]
  simp only [Option.bind_some, if_true]
  unfold ephemeriskeep2_meets.f
  rw [if_pos (by omega), decide_eq_true (by omega)]
  simp only [Option.bind_some, if_true]
  rw [wrap_in (n := L2 - R0) (by omega) (by omega), if_pos (by omega), wrap_in (n := R2 - L0) (by omega) (by omega), decide_eq_true (by omega)]
end Go.Proofs.Ytemkeciekgdkeaa.Pure
