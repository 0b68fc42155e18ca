/- The law SunYears: behind a year the sun is where it was, and its declination is never beyond the tilt. No condition. -/
import Derived.Test.YtmoffcpbmigngaaJSx1
import Derived.Test.YtmoffcpbmigngaaJSx1
import Derived.Test.YtmoffcpbmigngaaSunLaw
import Derived.Test.YtmoffcpbmigngaaEquatorLaw
namespace Go.Proofs.Ytmoffcpbmigngaa.Pure
open Go.Proofs.Ytmoffcpbmigngaa.JS Go.Proofs.Ytmoffcpbmigngaa.Own Go.Proofs.Ytmoffcpbmigngaa.Tp Go.RowKit Go.Proofs.YtmoffcpbmigngaaW.PrintWords Go.Proofs.YtmoffcpbmigngaaW.PrintLast

theorem sun_works : ∃ k0, ∀ k, k0 ≤ k → ephemeriskeep2_sunWorks.f k = some true :=
  of_mono (k0 := 300) ephemeriskeep2_sunWorks.mono (by decide +kernel)
theorem num_sun : lip 2400000 ≤ 1509 / 100000 ∧ lip 4800000 ≤ 3017 / 100000 ∧ 397785004 ≤ 1000000000 * zs 65115000 - 98 / 100 ∧ 1000000000 * zs (-65115000) + 99 / 100 ≤ -397785004 ∧ -2 ≤ (so2 0 0).1 ∧ (so2 0 0).2 ≤ 2 := by decide +kernel
/-- the sun behind some years -/
theorem SR_year (t k : Int) (k0 : 0 ≤ k) (k1 : k < 50) : -95000 ≤ SR (t + k * 31556925000) - SR t - 1000000000 * (k : Rat) ∧ SR (t + k * 31556925000) - SR t - 1000000000 * (k : Rat) ≤ 95000 := by
  obtain ⟨n1, n2, -⟩ := num_sun
  have cT : ((1000000000 : Int) : Rat) = 1000000000 := by decide +kernel
  have ch : ∀ (x : S93) (e D : Int), -D ≤ x.f2 * (k * 31556925000) / 86400000000000 - 1000000000 * e → x.f2 * (k * 31556925000) / 86400000000000 + 1 - 1000000000 * e ≤ D → -(lip D) ≤ cz (tan x (t + k * 31556925000)) - cz (tan x t) ∧ cz (tan x (t + k * 31556925000)) - cz (tan x t) ≤ lip D := by
    intro x e D h1 h2
    have u := ua_step (r := x.f2) (t := t) (d := k * 31556925000)
    rw [cz_tan, cz_tan, ← cz_per (ua x.f2 (t + k * 31556925000) + x.f1) (-e)]
    exact cz_lip (by omega) (by omega)
  have c1 := ch ⟨5318339, 84888545, 2737778555556⟩ k 2400000 (by show -2400000 ≤ 2737778555556 * (k * 31556925000) / 86400000000000 - 1000000000 * k; omega) (by show 2737778555556 * (k * 31556925000) / 86400000000000 + 1 - 1000000000 * k ≤ 2400000; omega)
  have c2 := ch ⟨55536, 169777090, 5475557111112⟩ (2 * k) 4800000 (by show -4800000 ≤ 5475557111112 * (k * 31556925000) / 86400000000000 - 1000000000 * (2 * k); omega) (by show 5475557111112 * (k * 31556925000) / 86400000000000 + 1 - 1000000000 * (2 * k) ≤ 4800000; omega)
  have u := ua_step (r := 2737909333333) (t := t) (d := k * 31556925000)
  have v1 := ic (show -2000 ≤ ua 2737909333333 (t + k * 31556925000) - ua 2737909333333 t - 1000000000 * k by omega)
  have v2 := ic (show ua 2737909333333 (t + k * 31556925000) - ua 2737909333333 t - 1000000000 * k ≤ 2000 by omega)
  have w1 : ((-2000 : Int) : Rat) = -2000 := by decide +kernel
  have w2 : ((2000 : Int) : Rat) = 2000 := by decide +kernel
  rw [Rat.intCast_sub, Rat.intCast_sub, Rat.intCast_mul, cT] at v1 v2
  rw [w1] at v1
  rw [w2] at v2
  have a1 : ((5318339 : Int) : Rat) = 5318339 := by decide +kernel
  have a2 : ((55536 : Int) : Rat) = 55536 := by decide +kernel
  unfold SR RR sunL
  simp only [rl, rv]
  rw [a1, a2]
  generalize cz (tan ⟨5318339, 84888545, 2737778555556⟩ (t + k * 31556925000)) = A at *
  generalize cz (tan ⟨5318339, 84888545, 2737778555556⟩ t) = B at *
  generalize cz (tan ⟨55536, 169777090, 5475557111112⟩ (t + k * 31556925000)) = C at *
  generalize cz (tan ⟨55536, 169777090, 5475557111112⟩ t) = D at *
  constructor <;> grind
theorem SunYears : ephemeriskeep2_SunYears.Pure := by
  intro a0 a1 _ _
  obtain ⟨kw, hw⟩ := sun_works
  obtain ⟨n1, n2, n3, n4, n5, n6⟩ := num_sun
  have ti : ephemeriskeep2_instant.f a0 = some (a0 % 604800000000000 - 302400000000000) := by
    unfold ephemeriskeep2_instant.f
    rw [tat_f (by omega) (by omega)]
    simp only [Option.bind_some]
    rw [wrap_in (by omega) (by omega)]
  obtain ⟨t, ht⟩ : ∃ t, a0 % 604800000000000 - 302400000000000 = t := ⟨_, rfl⟩
  obtain ⟨k, hk⟩ : ∃ k, a1 % 50 = k := ⟨_, rfl⟩
  have tb : -302400000000000 ≤ t ∧ t < 302400000000000 := by omega
  have kb : 0 ≤ k ∧ k < 50 := by omega
  obtain ⟨p, q, fp, p0, p1, p2, p3, i, p4, p5⟩ := slon_f (t := t) (by omega) (by omega)
  obtain ⟨r, s, fr, r0, r1, r2, r3, j, r4, r5⟩ := slon_f (t := t + k * 31556925000) (by omega) (by omega)
  obtain ⟨x0, x1, a, b, z0, z1, K, fe, -, -, -, -, e1, e2, e3, ha, hb⟩ := equator_f (p := p) (q := q) (b0 := 0) (b1 := 0) (S := 2) (by omega) p2 (by omega) (by omega) (by omega) (by omega) (by omega) (by omega) (by omega) n5 n6
  have y := SR_year t k kb.1 kb.2
  -- where the sun is
  have sm : ephemeriskeep2_same.f (p - 100000) (q + 100000) r s = some true := by
    have cT : ((1000000000 : Int) : Rat) = 1000000000 := by decide +kernel
    have c5 : ((4005 : Int) : Rat) = 4005 := by decide +kernel
    have w1 := ic (show q ≤ p + 4005 by omega)
    have w2 := ic (show s ≤ r + 4005 by omega)
    rw [Rat.intCast_add, c5] at w1 w2
    have l1 : ((1000000000 * (k - j + i) - 99006 : Int) : Rat) ≤ ((r - p : Int) : Rat) := by
      have c6 : ((99006 : Int) : Rat) = 99006 := by decide +kernel
      rw [Rat.intCast_sub, Rat.intCast_mul, Rat.intCast_add, Rat.intCast_sub, Rat.intCast_sub, cT, c6]
      grind
    have l2 : ((r - p : Int) : Rat) ≤ ((1000000000 * (k - j + i) + 99006 : Int) : Rat) := by
      have c6 : ((99006 : Int) : Rat) = 99006 := by decide +kernel
      rw [Rat.intCast_add, Rat.intCast_mul, Rat.intCast_add, Rat.intCast_sub, Rat.intCast_sub, cT, c6]
      grind
    have l1 := ci l1
    have l2 := ci l2
    unfold ephemeriskeep2_same.f
    rw [wrap_in (n := r - (p - 100000)) (by omega) (by omega), tat_f (by omega) (by omega)]
    simp only [Option.bind_some]
    rw [wrap_in (n := q + 100000 - (p - 100000)) (by omega) (by omega), if_pos (by omega)]
  -- the declination
  have hz1 : (z1 : Rat) ≤ 1000000000 * zs 65115000 - 98 / 100 := by
    have := ic (show z1 ≤ 397785002 by omega)
    have c : ((397785002 : Int) : Rat) = 397785002 := by decide +kernel
    rw [c] at this; grind
  have hz0 : 1000000000 * zs (-65115000) + 99 / 100 ≤ (z0 : Rat) := by
    have := ic (show -397785002 ≤ z0 by omega)
    have c : ((-397785002 : Int) : Rat) = -397785002 := by decide +kernel
    rw [c] at this; grind
  have B := hb.1 65115000 (by omega) (by omega) (Or.inl hz1)
  have A := ha.2 (-65115000) (by omega) (by omega) (Or.inl hz0)
  have at' : ∀ n, K + 60 ≤ n → sun_At.f n t = some (x0, x1, mx (-250000000) (a - 1), mn 250000000 (b + 4), 0) := fun n hn => by
    unfold sun_At.f
    rw [fp n (by omega)]
    simp only [Option.bind_some, if_true]
    rw [fe n (by omega)]
    rfl
  refine ⟨kw + K + 60, ?_⟩
  unfold ephemeriskeep2_SunYears.f
  rw [hw _ (by omega), ti, ht, tat_f (by omega) (by omega), hk]
  simp only [Option.bind_some, if_true]
  rw [fp _ (by omega), wrap_in (n := k * 31556925000) (by omega) (by omega), wrap_in (n := t + k * 31556925000) (by omega) (by omega), fr _ (by omega), at' _ (by omega)]
  simp only [Option.bind_some, if_true]
  rw [wrap_in (n := p - 100000) (by omega) (by omega), wrap_in (n := q + 100000) (by omega) (by omega), sm]
  simp only [Option.bind_some, if_true]
  rw [if_pos (by simp only [mx]; omega), decide_eq_true (by simp only [mn]; omega)]
end Go.Proofs.Ytmoffcpbmigngaa.Pure
