/- The law TrigInverts: arcs of sines and cosines contain the angle. No condition. -/
import Derived.Test.YtmoffcpbmigngaaJDx2
import Derived.Test.YtmoffcpbmigngaaHullLaw
namespace Go.Proofs.Ytmoffcpbmigngaa.Pure
open Go.Proofs.Ytmoffcpbmigngaa.JD Go.Proofs.Ytmoffcpbmigngaa.Own Go.Proofs.Ytmoffcpbmigngaa.Tp Go.RowKit Go.Proofs.YtmoffcpbmigngaaW.PrintWords Go.Proofs.YtmoffcpbmigngaaW.PrintLast

theorem trig_works : ∃ k0, ∀ k, k0 ≤ k → ephemeriskeep2_trigWorks.f k = some true :=
  of_mono (k0 := 300) ephemeriskeep2_trigWorks.mono (by decide +kernel)
theorem TrigInverts : ephemeriskeep2_TrigInverts.Pure := by
  intro a0 a1 _ _
  obtain ⟨kw, hw⟩ := trig_works
  have m0 := tmod_lt (a := a0) (m := 250000001) (by omega)
  have m1 := tmod_lt (a := a1) (m := 250000001) (by omega)
  obtain ⟨p, hp⟩ : ∃ p, mn (Int.tmod a0 250000001) (Int.tmod a1 250000001) = p := ⟨_, rfl⟩
  obtain ⟨q0, hq0⟩ : ∃ q, mx (Int.tmod a0 250000001) (Int.tmod a1 250000001) = q := ⟨_, rfl⟩
  have b0 : -250000000 ≤ p ∧ p ≤ q0 ∧ q0 ≤ 250000000 := by
    rw [← hp, ← hq0]; simp only [mn, mx]; omega
  have ec : ephemeriskeep2_cut.f a0 a1 250000000 = some (p, q0) := by
    unfold ephemeriskeep2_cut.f
    rw [wrap_in (n := 250000000 + 1) (by omega) (by omega), if_neg (by omega), show (250000000 : Int) + 1 = 250000001 by omega, hp, hq0]
  obtain ⟨q, hq⟩ : ∃ q, mn q0 (p + 100000000) = q := ⟨_, rfl⟩
  have b1 : p ≤ q ∧ q ≤ p + 100000000 ∧ q ≤ 250000000 := by rw [← hq]; simp only [mn]; omega
  obtain ⟨s, hs⟩ : ∃ s, so2 p q = s := ⟨_, rfl⟩
  obtain ⟨c, hc⟩ : ∃ c, so2 (p % 1000000000 + 250000000) (q - p + p % 1000000000 + 250000000) = c := ⟨_, rfl⟩
  have sb := so2_b p q
  have cb := so2_b (p % 1000000000 + 250000000) (q - p + p % 1000000000 + 250000000)
  have si := so2_in p q
  have ci' := co2_in p q
  rw [hs] at sb si
  rw [hc] at cb ci'
  obtain ⟨a, b, K, fa, ha, hb⟩ := arcsin_f (p := s.1) (q := s.2) (by omega) sb.2.1 (by omega)
  have cl1 : clp s.1 = s.1 := by unfold clp; simp only [mx, mn]; omega
  have cl2 : clp s.2 = s.2 := by unfold clp; simp only [mx, mn]; omega
  rw [cl1] at ha
  rw [cl2] at hb
  have A := ha.1 p b0.1 (by omega) (si.1.1.imp (fun h => by grind) id)
  have B := hb.2 q (by omega) b1.2.2 si.2.2
  obtain ⟨lo, hi, e, L, fr, hr⟩ := arc_f (y0 := s.1) (y1 := s.2) (x0 := c.1) (x1 := c.2) (by omega) sb.2.1 (by omega) (by omega) cb.2.1 (by omega)
  have so : ∀ k, 12 ≤ k → trig_SinOver.f k p q = some (s.1, s.2, 0) := fun k hk => by rw [so2_f (by omega) b1.1 (by omega) k (by omega), hs]
  have co : ∀ k, 12 ≤ k → trig_CosOver.f k p q = some (c.1, c.2, 0) := fun k hk => by rw [co2_f (by omega) b1.1 (by omega) (by omega) k hk, hc]
  refine ⟨kw + K + L + 12, ?_⟩
  unfold ephemeriskeep2_TrigInverts.f
  rw [hw _ (by omega), ec]
  simp only [Option.bind_some, if_true]
  rw [wrap_in (n := p + 100000000) (by omega) (by omega), hq, so _ (by omega), co _ (by omega)]
  simp only [Option.bind_some, if_true]
  rw [fa _ (by omega), fr _ (by omega)]
  simp only [Option.bind_some, if_true]
  have hh : ephemeriskeep2_holds.f (mx (-250000000) (a - 1)) (mn 250000000 (b + 4)) p q = some true := by
    unfold ephemeriskeep2_holds.f
    rw [if_pos (by simp only [mx]; omega), decide_eq_true (by simp only [mn]; omega)]
  rw [hh]
  simp only [Option.bind_some, if_true]
  rcases hr with rfl | ⟨rfl, r0, r1, r2, r3, i1, i2, i3, i4⟩
  · simp
  · rw [if_neg (by omega)]
    have same : ∀ θ : Int, -250000000 ≤ θ → θ ≤ 250000000 → In s (zs θ) → In c (zc θ) → ephemeriskeep2_same.f lo hi θ θ = some true := by
      intro θ t0 t1 hsθ hcθ
      have z := z_bd θ
      obtain ⟨y, y1, y2, y3, y4⟩ := near_pt hsθ sb.2.1 z.1 z.2.1
      obtain ⟨x, x1, x2, x3, x4⟩ := near_pt hcθ cb.2.1 z.2.2.1 z.2.2.2
      obtain ⟨j1, j2, j3, j4⟩ := inn_box i1 i2 i3 i4 y1 y2 x1 x2
      have := inn_ang r2 r3 j1 j2 j3 j4 y3 y4 x3 x4
      unfold ephemeriskeep2_same.f
      rw [wrap_in (n := θ - lo) (by omega) (by omega), tat_f (by omega) (by omega)]
      simp only [Option.bind_some]
      rw [wrap_in (n := hi - lo) (by omega) (by omega), if_pos this]
    rw [same p (by omega) (by omega) si.1 ci'.1, same q (by omega) (by omega) si.2 ci'.2]
    simp
end Go.Proofs.Ytmoffcpbmigngaa.Pure
