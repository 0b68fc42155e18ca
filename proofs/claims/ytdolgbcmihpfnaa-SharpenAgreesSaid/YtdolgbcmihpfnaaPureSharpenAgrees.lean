/- The law SharpenAgrees: Decide agrees with intervals that are apart. No condition. -/
import Derived.Test.YtdolgbcmihpfnaaJNx1
import Derived.Test.YtdolgbcmihpfnaaSeasonLaw
import Derived.Test.YtdolgbcmihpfnaaPhaseLaw
namespace Go.Proofs.Ytdolgbcmihpfnaa.Pure
open Go.Proofs.Ytdolgbcmihpfnaa.JN Go.Proofs.Ytdolgbcmihpfnaa.Own Go.Proofs.Ytdolgbcmihpfnaa.Tp Go.RowKit Go.Proofs.YtdolgbcmihpfnaaW.PrintWords Go.Proofs.YtdolgbcmihpfnaaW.PrintLast

theorem sharpen_works : ∃ k0, ∀ k, k0 ≤ k → ephemeriskeep2_sharpenWorks.f k = some true :=
  of_mono (k0 := 300) ephemeriskeep2_sharpenWorks.mono (by decide +kernel)

/-- the sign of a season's number in its interval -/
theorem sharp_H {T q L R : Int} (A : Se T L R) (hq : 0 ≤ q) (hq' : q ≤ 3) (hT : T % 1000000000 = q * 250000000) (r1 : -290000000000000 ≤ L) (r2 : R ≤ 290000000000000) :
    Sgn (sharpen_Season.sg q) (csg (T % 1000000000)) (fun t => SR t - (T : Rat)) 54 L R 2005 (30600 / 1000000) 2 := by
  obtain ⟨lr, wd, neg, pos, sL, sR⟩ := A
  have bd : ∀ t, L ≤ t → t ≤ R → -470000000 ≤ SR t - (T : Rat) ∧ SR t - (T : Rat) ≤ 470000000 := fun t t1 t2 => by
    have cx : ((600000 : Int) : Rat) = 600000 := by decide +kernel
    have l1 := SR_within (a := L) (b := t) (A := 600000) t1 (by omega)
    have l2 := SR_within (a := t) (b := R) (A := 600000) t2 (by omega)
    rw [cx] at l1 l2
    have w1 := SR_within (a := L) (b := R) (A := 600000) (by omega) wd
    rw [cx] at w1
    constructor <;> grind
  have sg := fun t (t1 : L ≤ t) (t2 : t ≤ R) => csg_f (g := T % 1000000000) (t := t) (by omega) (by omega) (by omega) (by omega)
  have val : ∀ k t, 54 ≤ k → L ≤ t → t ≤ R → sharpen_Season.sg q k t = some (csg (T % 1000000000) t) := fun k t hk t1 t2 => by
    have h := (sg t t1 t2).1 k hk
    unfold series_Cross.sg at h
    unfold sharpen_Season.sg sun_Longitude.f sun_Series.f
    unfold sunL at h
    rw [wrap_in (n := q * 250000000) (by omega) (by omega), ← hT]
    simp only [Option.bind_some]
    cases hA : series_Angle.f k 775342092 2737909333333 [⟨5318339, 84888545, 2737778555556⟩, ⟨55536, 169777090, 5475557111112⟩] 2000 t with
    | none => rw [hA] at h; simp at h
    | some z => rw [hA] at h; simpa using h
  exact
    { val := fun k hk t t1 t2 => val k t hk t1 t2
      up := fun t t1 t2 h => ((sg t t1 t2).2 T rfl (bd t t1 t2).1 (bd t t1 t2).2).1 h
      dn := fun t t1 t2 h => ((sg t t1 t2).2 T rfl (bd t t1 t2).1 (bd t t1 t2).2).2.1 h
      grow := fun t d _ _ hd => by
        have l := (SR_lin (t := t) (d := d) hd).1
        generalize (d : Rat) = D at *
        grind }
/-- an interval that is narrow already stays -/
theorem narrow_here {sg : Nat → Int → Option Int} {a b w : Int} (h : a ≤ b) (h1 : -4000000000000000000 ≤ a) (h2 : b ≤ 4000000000000000000) (h3 : b - a ≤ w) (x : Int) (k : Nat) (hk : 1 ≤ k) : series_Narrow.f sg k a b w x = some (a, b, 0) := by
  obtain ⟨k, rfl⟩ : ∃ m, k = m + 1 := ⟨k - 1, by omega⟩
  unfold series_Narrow.f
  simp only [series_Narrow.l0]
  rw [wrap_in (n := b - a) (by omega) (by omega), if_neg (by omega)]

/-- Earlier of two intervals -/
def erl (a b c d : Int) : Int × Int := if b < c then (-1, 0) else if d < a then (1, 0) else (0, 11)
theorem earlier_f {a b c d : Int} (h1 : a ≤ b) (h2 : c ≤ d) (g1 : -1000000000000000000 ≤ a) (g2 : b ≤ 1000000000000000000) (g3 : -1000000000000000000 ≤ c) (g4 : d ≤ 1000000000000000000) (k : Nat) (hk : 1 ≤ k) : sharpen_Earlier.f k a b c d = some (erl a b c d) := by
  obtain ⟨k, rfl⟩ : ∃ m, k = m + 1 := ⟨k - 1, by omega⟩
  unfold sharpen_Earlier.f
  rw [tcheck_f g1 h1 g2, tcheck_f g3 h2 g4]
  simp only [Option.bind_some]
  rw [if_pos ⟨trivial, trivial⟩]
  unfold erl
  split
  · rfl
  · split <;> rfl

/-- Decide ends -/
theorem decide_ends {q y l p : Int} (hS : ∀ w, 1 ≤ w → ∃ (r : Int × Int × Int) (K1 : Nat), (r = (0, 0, 11) ∨ (-1000000000000000000 ≤ r.1 ∧ r.1 < r.2.1 ∧ r.2.1 ≤ 1000000000000000000 ∧ r.2.2 = 0)) ∧ ∀ k, K1 ≤ k → sharpen_Season.f k q y w = some r)
    (hP : ∀ w, 1 ≤ w → ∃ (r : Int × Int × Int) (K1 : Nat), (r = (0, 0, 11) ∨ (-1000000000000000000 ≤ r.1 ∧ r.1 < r.2.1 ∧ r.2.1 ≤ 1000000000000000000 ∧ r.2.2 = 0)) ∧ ∀ k, K1 ≤ k → sharpen_Phase.f k l p w = some r) :
    ∀ (n : Nat) (w : Int), 0 ≤ w → w ≤ 600000 → w.toNat ≤ n → ∃ (r : Int × Int) (K1 : Nat), ∀ k, K1 ≤ k → sharpen_Decide.l0 k q y l p w = some r := by
  intro n
  induction n with
  | zero =>
    intro w h0 h1 h2
    refine ⟨(0, 11), 1, fun k hk => ?_⟩
    obtain ⟨k, rfl⟩ : ∃ m, k = m + 1 := ⟨k - 1, by omega⟩
    simp only [sharpen_Decide.l0]
    rw [if_neg (by omega)]
  | succ n ih =>
    intro w h0 h1 h2
    rcases Int.lt_or_le 0 w with g | g
    · obtain ⟨s, K1, s0, hs⟩ := hS w (by omega)
      obtain ⟨p', K2, p0, hp⟩ := hP w (by omega)
      obtain ⟨r, K3, hr⟩ := ih (w / 2) (by omega) (by omega) (by omega)
      have hw : wrap64 (Int.tdiv w 2) = w / 2 := by rw [tdiv_nn (by omega), wrap_in (by omega) (by omega)]
      rcases s0 with s0 | ⟨s1, s2, s3, s4⟩
      · refine ⟨(0, 11), K1 + 1, fun k hk => ?_⟩
        obtain ⟨k, rfl⟩ : ∃ m, k = m + 1 := ⟨k - 1, by omega⟩
        simp only [sharpen_Decide.l0]
        rw [if_pos (by omega), hs k (by omega), s0]
        rfl
      rcases p0 with p0 | ⟨p1, p2, p3, p4⟩
      · refine ⟨(0, 11), K1 + K2 + 1, fun k hk => ?_⟩
        obtain ⟨k, rfl⟩ : ∃ m, k = m + 1 := ⟨k - 1, by omega⟩
        simp only [sharpen_Decide.l0]
        rw [if_pos (by omega), hs k (by omega)]
        simp only [Option.bind_some]
        rw [if_pos s4, hp k (by omega), p0]
        rfl
      refine ⟨if (erl s.1 s.2.1 p'.1 p'.2.1).2 = 0 then ((erl s.1 s.2.1 p'.1 p'.2.1).1, 0) else r, K1 + K2 + K3 + 2, fun k hk => ?_⟩
      obtain ⟨k, rfl⟩ : ∃ m, k = m + 1 := ⟨k - 1, by omega⟩
      simp only [sharpen_Decide.l0]
      rw [if_pos (by omega), hs k (by omega)]
      simp only [Option.bind_some]
      rw [if_pos s4, hp k (by omega)]
      simp only [Option.bind_some]
      rw [if_pos p4, earlier_f (by omega) (by omega) (by omega) (by omega) (by omega) (by omega) k (by omega), hw, hr k (by omega)]
      simp only [Option.bind_some]
      split <;> rfl
    · refine ⟨(0, 11), 1, fun k hk => ?_⟩
      obtain ⟨k, rfl⟩ : ∃ m, k = m + 1 := ⟨k - 1, by omega⟩
      simp only [sharpen_Decide.l0]
      rw [if_neg (by omega)]

theorem SharpenAgrees : ephemeriskeep2_SharpenAgrees.Pure := by
  intro a b c _ _ _
  obtain ⟨kw, hw⟩ := sharpen_works
  unfold ephemeriskeep2_SharpenAgrees.f
  rw [tat_f (by omega) (by omega), tat_f (by omega) (by omega), tat_f (by omega) (by omega)]
  have qb : 0 ≤ a % 4 ∧ a % 4 ≤ 3 := by omega
  have yb : 0 ≤ b % 4000 ∧ b % 4000 < 4000 := by omega
  have lb : 0 ≤ c % 40000 ∧ c % 40000 < 40000 := by omega
  simp only [Option.bind_some]
  generalize a % 4 = q at *
  generalize b % 4000 = Y at *
  generalize c % 40000 = l at *
  obtain ⟨L, R, K0, P0, u0, v0, f0⟩ := sfind_f (q := q) (y := Y) qb.1 qb.2 (by omega) (by omega)
  obtain ⟨L', R', K1, ⟨n1, n2, HP⟩, b1, b2, b3, b4, b5, b6, f1⟩ := pfind_s (k := l) (q := 2) (by omega) (by omega) (by omega) (by omega)
  have rg : -300000000000000 ≤ pmid l 2 - 172800000 ∧ pmid l 2 + 172800000 ≤ 300000000000000 := by unfold pmid; omega
  have HS := sharp_H P0 qb.1 qb.2 (by omega) u0 v0
  obtain ⟨lr, wd, neg, pos, sL, sR⟩ := P0
  have se : ∀ k w, K0 ≤ k → 1 ≤ w → sharpen_Season.f k q Y w = series_Narrow.f (sharpen_Season.sg q) k L R w 0 := fun k w hk h => by
    unfold sharpen_Season.f
    rw [f0 k hk]
    simp only [Option.bind_some]
    rw [if_pos ⟨trivial, h⟩]
  have ph : ∀ k w, K1 ≤ k → 1 ≤ w → sharpen_Phase.f k l 2 w = series_Narrow.f (fun kk t => phase_Sign.f kk 2 t) k L' R' w 0 := fun k w hk h => by
    unfold sharpen_Phase.f
    rw [f1 k hk]
    simp only [Option.bind_some]
    rw [if_pos ⟨trivial, h⟩]
    rfl
  obtain ⟨r, Kd, hd⟩ := decide_ends (q := q) (y := Y) (l := l) (p := 2) (fun w h => by
      obtain ⟨n, hn⟩ : ∃ n, n = (R - L).toNat := ⟨_, rfl⟩
      obtain ⟨r, r0, hr⟩ := narrow_any HS (by omega) (by omega) (x2 := w) 0 h n L R (Nat.le_of_eq hn.symm) (Int.le_refl _) lr (Int.le_refl _) sL sR
      refine ⟨r, K0 + (54 + n + n + n + 10), ?_, fun k hk => ?_⟩
      · rcases r0 with r0 | ⟨r1, r2, r3, r4⟩
        · exact Or.inl r0
        · exact Or.inr ⟨by omega, r2, by omega, r4⟩
      · rw [se k w (by omega) h]
        exact hr k (by omega)) (fun w h => by
      obtain ⟨n, hn⟩ : ∃ n, n = (R' - L').toNat := ⟨_, rfl⟩
      obtain ⟨r, r0, hr⟩ := narrow_any HP (by omega) (by omega) (x2 := w) 0 h n L' R' (Nat.le_of_eq hn.symm) b1 b2 b3 n1 n2
      refine ⟨r, K1 + (54 + n + n + n + 10), ?_, fun k hk => ?_⟩
      · rcases r0 with r0 | ⟨r1, r2, r3, r4⟩
        · exact Or.inl r0
        · exact Or.inr ⟨by omega, r2, by omega, r4⟩
      · rw [ph k w (by omega) h]
        exact hr k (by omega)) 600000 600000 (by omega) (by omega) (by omega)
  have dd : ∀ k, Kd ≤ k → sharpen_Decide.f k q Y l 2 = some r := fun k hk => by unfold sharpen_Decide.f; exact hd k hk
  -- when the intervals are apart, the first round decides
  have first : (erl L R L' R').2 = 0 → r = ((erl L R L' R').1, 0) := fun e => by
    have h := hd (Kd + K0 + K1 + 2) (by omega)
    simp only [sharpen_Decide.l0] at h
    rw [if_pos (by omega), se _ _ (by omega) (by omega), narrow_here (by omega) (by omega) (by omega) wd 0 _ (by omega)] at h
    simp only [Option.bind_some, if_true] at h
    rw [ph _ _ (by omega) (by omega), narrow_here (by omega) (by omega) (by omega) b4 0 _ (by omega)] at h
    simp only [Option.bind_some, if_true] at h
    rw [earlier_f (by omega) (by omega) (by omega) (by omega) (by omega) (by omega) _ (by omega)] at h
    simp only [Option.bind_some] at h
    rw [if_pos e] at h
    exact (Option.some.inj h).symm
  refine ⟨kw + K0 + K1 + Kd + 1, ?_⟩
  rw [hw _ (by omega), f0 _ (by omega), f1 _ (by omega), dd _ (by omega)]
  simp only [Option.bind_some, if_true]
  rw [earlier_f (by omega) (by omega) (by omega) (by omega) (by omega) (by omega) _ (by omega), earlier_f (by omega) (by omega) (by omega) (by omega) (by omega) (by omega) _ (by omega)]
  simp only [Option.bind_some]
  have o : (erl L R L' R').2 = (erl L' R' L R).2 ∧ (erl L' R' L R).1 = wrap64 (-(erl L R L' R').1) := by
    unfold erl
    split <;> rename_i c1
    · rw [if_neg (by omega)]
      exact ⟨rfl, by decide +kernel⟩
    · split <;> rename_i c2
      · exact ⟨rfl, by decide +kernel⟩
      · exact ⟨rfl, by decide +kernel⟩
  rw [if_pos o.1, if_pos o.2]
  split <;> rename_i e
  · rw [first e]
    simp
  · rfl
end Go.Proofs.Ytdolgbcmihpfnaa.Pure
