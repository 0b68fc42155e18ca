/- The law MoonTilts: the latitude of the moon is less than 6 degrees, its declination less than 30. No condition. -/
import Derived.Test.YtmoffcpbmigngaaJMx1
import Derived.Test.YtmoffcpbmigngaaJMx1
import Derived.Test.YtmoffcpbmigngaaNorthLaw
import Derived.Test.YtmoffcpbmigngaaMoonLon
import Derived.Test.YtmoffcpbmigngaaEquatorLaw
namespace Go.Proofs.Ytmoffcpbmigngaa.Pure
open Go.Proofs.Ytmoffcpbmigngaa.JM Go.Proofs.Ytmoffcpbmigngaa.Own Go.Proofs.Ytmoffcpbmigngaa.Tp Go.RowKit Go.Proofs.YtmoffcpbmigngaaW.PrintWords Go.Proofs.YtmoffcpbmigngaaW.PrintLast

theorem moon_works : ∃ k0, ∀ k, k0 ≤ k → ephemeriskeep2_moonWorks.f k = some true :=
  of_mono (k0 := 300) ephemeriskeep2_moonWorks.mono (by decide +kernel)
theorem num_moon : 499085001 ≤ 1000000000 * zs 83300000 - 98 / 100 ∧ 1000000000 * zs (-83300000) + 99 / 100 ≤ -499085001 := by decide +kernel
theorem MoonTilts : ephemeriskeep2_MoonTilts.Pure := by
  intro a0 _
  obtain ⟨kw, hw⟩ := moon_works
  obtain ⟨n1, n2⟩ := num_moon
  have ti : ephemeriskeep2_instant.f a0 = some (a0 % 604800000000000 - 302400000000000) := by
    unfold ephemeriskeep2_instant.f
    rw [tat_f (by omega) (by omega)]
    simp only [Option.bind_some]
    rw [wrap_in (by omega) (by omega)]
  obtain ⟨t, ht⟩ : ∃ t, a0 % 604800000000000 - 302400000000000 = t := ⟨_, rfl⟩
  have tb : -302400000000000 ≤ t ∧ t < 302400000000000 := by omega
  obtain ⟨p, q, fp, p0, p1, p2, p3, -⟩ := moon_lon' (t := t) (by omega) (by omega)
  obtain ⟨b0, b1, b2, b3, b4, b5, fb⟩ := lat_b (t := t) (by omega) (by omega)
  have nb := so2_near b2 (w := 41000) b5
  have sc := small_cos (b := b0) (by omega) (by omega)
  have l := lip41.1
  have s1 : -101300000 ≤ (so2 b0 b1).1 := by
    have : ((-101300000 : Int) : Rat) ≤ ((so2 b0 b1).1 : Rat) := by
      have c : ((-101300000 : Int) : Rat) = -101300000 := by decide +kernel
      rw [c]; grind
    exact ci this
  have s2 : (so2 b0 b1).2 ≤ 101300000 := by
    have : ((so2 b0 b1).2 : Rat) ≤ ((101300000 : Int) : Rat) := by
      have c : ((101300000 : Int) : Rat) = 101300000 := by decide +kernel
      rw [c]; grind
    exact ci this
  obtain ⟨x0, x1, a, b, z0, z1, K, fe, -, -, -, -, e1, e2, e3, ha, hb⟩ := equator_f (p := p) (q := q) (b0 := b0) (b1 := b1) (S := 101300000) (by omega) p2 (by omega) (by omega) (by omega) b2 (by omega) b5 (by omega) s1 s2
  have hz1 : (z1 : Rat) ≤ 1000000000 * zs 83300000 - 98 / 100 := by
    have := ic (show z1 ≤ 499085000 by omega)
    have c : ((499085000 : Int) : Rat) = 499085000 := by decide +kernel
    rw [c] at this; grind
  have hz0 : 1000000000 * zs (-83300000) + 99 / 100 ≤ (z0 : Rat) := by
    have := ic (show -499085000 ≤ z0 by omega)
    have c : ((-499085000 : Int) : Rat) = -499085000 := by decide +kernel
    rw [c] at this; grind
  have B := hb.1 83300000 (by omega) (by omega) (Or.inl hz1)
  have A := ha.2 (-83300000) (by omega) (by omega) (Or.inl hz0)
  have at' : ∀ n, K + 60 ≤ n → moon_At.f n t = some (x0, x1, mx (-250000000) (a - 1), mn 250000000 (b + 4), 0) := fun n hn => by
    unfold moon_At.f
    rw [fp n (by omega)]
    simp only [Option.bind_some, if_true]
    rw [fb n (by omega)]
    simp only [Option.bind_some]
    rw [fe n (by omega)]
    rfl
  refine ⟨kw + K + 60, ?_⟩
  unfold ephemeriskeep2_MoonTilts.f
  rw [hw _ (by omega), ti, ht]
  simp only [Option.bind_some, if_true]
  rw [fb _ (by omega), at' _ (by omega)]
  simp only [Option.bind_some, if_true]
  rw [if_pos (by omega), if_pos (by omega), if_pos (by simp only [mx]; omega), decide_eq_true (by simp only [mn]; omega)]
end Go.Proofs.Ytmoffcpbmigngaa.Pure
