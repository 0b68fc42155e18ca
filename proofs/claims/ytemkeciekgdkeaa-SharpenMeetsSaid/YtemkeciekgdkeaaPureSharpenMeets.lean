/- The law SharpenMeets: intervals of one season with several widths have a number in common. No condition. -/
import Derived.Test.YtemkeciekgdkeaaJPx1
import Derived.Test.YtemkeciekgdkeaaSeasonLaw
namespace Go.Proofs.Ytemkeciekgdkeaa.Pure
open Go.Proofs.Ytemkeciekgdkeaa.JP Go.Proofs.Ytemkeciekgdkeaa.Own Go.Proofs.Ytemkeciekgdkeaa.Tp Go.RowKit Go.Proofs.YtemkeciekgdkeaaW.PrintWords Go.Proofs.YtemkeciekgdkeaaW.PrintLast

theorem sharpen_works : ∃ k0, ∀ k, k0 ≤ k → ephemeriskeep2_sharpenWorks.f k = some true :=
  of_mono (k0 := 300) ephemeriskeep2_sharpenWorks.mono (by decide +kernel)

/-- a narrower interval of a season -/
theorem sharp_f {T q L R v : Int} (A : Se T L R) (hq : 0 ≤ q) (hq' : q ≤ 3) (hT : T % 1000000000 = q * 250000000) (r1 : -290000000000000 ≤ L) (r2 : R ≤ 290000000000000) (w : 190000 ≤ v) (w' : v ≤ 100000000000) :
    ∃ L' R' K1, L' < R' ∧ R' - L' ≤ v ∧ L ≤ L' ∧ R' ≤ R ∧ SR L' - (T : Rat) < -2000 ∧ 2000 < SR R' - (T : Rat) ∧ ∀ k, K1 ≤ k → series_Narrow.f (sharpen_Season.sg q) k L R v 0 = some (L', R', 0) := by
  obtain ⟨lr, wd, neg, pos, sL, sR⟩ := A
  have bd : ∀ t, L ≤ t → t ≤ R → -470000000 ≤ SR t - (T : Rat) ∧ SR t - (T : Rat) ≤ 470000000 := fun t t1 t2 => by
    have cx : ((600000 : Int) : Rat) = 600000 := by decide +kernel
    have l1 := SR_within (a := L) (b := t) (A := 600000) t1 (by omega)
    have l2 := SR_within (a := t) (b := R) (A := 600000) t2 (by omega)
    rw [cx] at l1 l2
    have w1 := SR_within (a := L) (b := R) (A := 600000) (by omega) wd
    rw [cx] at w1
    constructor <;> grind
  have sg := fun t (t1 : L ≤ t) (t2 : t ≤ R) => csg_f (g := T % 1000000000) (t := t) (by omega) (by omega) (by omega) (by omega)
  have val : ∀ k t, 54 ≤ k → L ≤ t → t ≤ R → sharpen_Season.sg q k t = some (csg (T % 1000000000) t) := fun k t hk t1 t2 => by
    have h := (sg t t1 t2).1 k hk
    unfold series_Cross.sg at h
    unfold sharpen_Season.sg sun_Longitude.f sun_Series.f
    unfold sunL at h
    rw [wrap_in (n := q * 250000000) (by omega) (by omega), ← hT]
    simp only [Option.bind_some]
    cases hA : series_Angle.f k 775342092 2737909333333 [⟨5318339, 84888545, 2737778555556⟩, ⟨55536, 169777090, 5475557111112⟩] 2000 t with
    | none => rw [hA] at h; simp at h
    | some z => rw [hA] at h; simpa using h
  have H : Sgn (sharpen_Season.sg q) (csg (T % 1000000000)) (fun t => SR t - (T : Rat)) 54 L R 2005 (30600 / 1000000) 2 :=
    { val := fun k hk t t1 t2 => val k t hk t1 t2
      up := fun t t1 t2 h => ((sg t t1 t2).2 T rfl (bd t t1 t2).1 (bd t t1 t2).2).1 h
      dn := fun t t1 t2 h => ((sg t t1 t2).2 T rfl (bd t t1 t2).1 (bd t t1 t2).2).2.1 h
      grow := fun t d _ _ hd => by
        have l := (SR_lin (t := t) (d := d) hd).1
        generalize (d : Rat) = D at *
        grind }
  have xw := ic w
  have cx : ((190000 : Int) : Rat) = 190000 := by decide +kernel
  rw [cx] at xw
  obtain ⟨n, hn⟩ : ∃ n, n = (R - L).toNat := ⟨_, rfl⟩
  obtain ⟨L', R', a1, a2, a3, a4, a5, a6, a7⟩ := narrow_f H (by omega) (by omega) (x2 := v) 0 (by decide +kernel) (by omega) (by grind) n L R (Nat.le_of_eq hn.symm) (Int.le_refl _) lr (Int.le_refl _) sL sR
  exact ⟨L', R', 54 + n + n + n + 10, a2, a6, a1, a3, ((sg L' a1 (by omega)).2 T rfl (bd L' a1 (by omega)).1 (bd L' a1 (by omega)).2).2.2.1 a4, ((sg R' (by omega) a3).2 T rfl (bd R' (by omega) a3).1 (bd R' (by omega) a3).2).2.2.2 a5, a7⟩

theorem SharpenMeets : ephemeriskeep2_SharpenMeets.Pure := by
  intro a b c d _ _ _ _
  obtain ⟨kw, hw⟩ := sharpen_works
  unfold ephemeriskeep2_SharpenMeets.f
  rw [tat_f (by omega) (by omega), tat_f (by omega) (by omega), tat_f (by omega) (by omega), tat_f (by omega) (by omega)]
  have qb : 0 ≤ a % 4 ∧ a % 4 ≤ 3 := by omega
  have yb : 0 ≤ b % 18000 ∧ b % 18000 < 18000 := by omega
  have vb : 0 ≤ c % 400000 ∧ c % 400000 < 400000 := by omega
  have wb : 0 ≤ d % 400000 ∧ d % 400000 < 400000 := by omega
  simp only [Option.bind_some]
  generalize a % 4 = q at *
  generalize c % 400000 = v at *
  generalize d % 400000 = u at *
  rw [wrap_in (n := b % 18000 - 9000) (by omega) (by omega), wrap_in (n := 200000 + v) (by omega) (by omega), wrap_in (n := 200000 + u) (by omega) (by omega)]
  obtain ⟨Y, hY⟩ : ∃ Y, Y = b % 18000 - 9000 := ⟨_, rfl⟩
  rw [← hY]
  obtain ⟨L0, R0, K0, P0, u0, v0, f0⟩ := sfind_f (q := q) (y := Y) qb.1 qb.2 (by omega) (by omega)
  obtain ⟨L1, R1, K1, l1, w1, b1, b2, n1, p1, f1⟩ := sharp_f (v := 200000 + v) P0 qb.1 qb.2 (by omega) u0 v0 (by omega) (by omega)
  obtain ⟨L2, R2, K2, l2, w2, b3, b4, n2, p2, f2⟩ := sharp_f (v := 200000 + u) P0 qb.1 qb.2 (by omega) u0 v0 (by omega) (by omega)
  have m1 : L1 ≤ R2 := by
    rcases Int.lt_or_le R2 L1 with g | g
    · exfalso
      have := SR_mono (a := R2) (b := L1) (by omega)
      grind
    · exact g
  have m2 : L2 ≤ R1 := by
    rcases Int.lt_or_le R1 L2 with g | g
    · exfalso
      have := SR_mono (a := R1) (b := L2) (by omega)
      grind
    · exact g
  refine ⟨kw + K0 + K1 + K2, ?_⟩
  have s1 : sharpen_Season.f (kw + K0 + K1 + K2) q Y (200000 + v) = some (L1, R1, 0) := by
    unfold sharpen_Season.f
    rw [f0 _ (by omega)]
    simp only [Option.bind_some]
    rw [if_pos ⟨by trivial, by omega⟩, f1 _ (by omega)]
  have s2 : sharpen_Season.f (kw + K0 + K1 + K2) q Y (200000 + u) = some (L2, R2, 0) := by
    unfold sharpen_Season.f
    rw [f0 _ (by omega)]
    simp only [Option.bind_some]
    rw [if_pos ⟨by trivial, by omega⟩, f2 _ (by omega)]
  rw [hw _ (by omega), s1, s2]
  simp only [Option.bind_some, if_true]
  unfold ephemeriskeep2_meets.f
  rw [if_pos (by omega), decide_eq_true (by omega)]
  simp only [Option.bind_some, if_true]
  rw [wrap_in (n := R1 - L1) (by omega) (by omega), if_pos (by omega), wrap_in (n := R2 - L2) (by omega) (by omega), decide_eq_true (by omega)]
end Go.Proofs.Ytemkeciekgdkeaa.Pure
