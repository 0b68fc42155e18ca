/- What season.Next and season.Find compute. No condition on a program. -/
import Derived.Test.YtdolgbcmihpfnaaJNx1
import Derived.Test.YtdolgbcmihpfnaaJNx1
import Derived.Test.YtdolgbcmihpfnaaAfterLaw
import Derived.Test.YtdolgbcmihpfnaaSunLaw
import Derived.Test.YtdolgbcmihpfnaaNarrowLaw
namespace Go.Proofs.Ytdolgbcmihpfnaa.JN
open Go.Proofs.Ytdolgbcmihpfnaa.Own Go.Proofs.Ytdolgbcmihpfnaa.Tp Go.RowKit Go.Proofs.YtdolgbcmihpfnaaW.PrintWords Go.Proofs.YtdolgbcmihpfnaaW.PrintLast

/-- the sign of the sun's longitude against a target -/
def csg (g x : Int) : Int := (series_Cross.sg 775342092 2737909333333 sunL 2000 g 60 x).getD 0
theorem csg_f {g t : Int} (h3 : -345600000000000 ≤ t) (h4 : t < 345600086400000) (g0 : 0 ≤ g) (g1 : g < 1000000000) : (∀ k, 54 ≤ k → series_Cross.sg 775342092 2737909333333 sunL 2000 g k t = some (csg g t)) ∧
    ∀ T : Int, T % 1000000000 = g → -470000000 ≤ SR t - (T : Rat) → SR t - (T : Rat) ≤ 470000000 →
      (¬ csg g t < 0 → -2005 ≤ SR t - (T : Rat)) ∧ (¬ 0 < csg g t → SR t - (T : Rat) ≤ 2005) ∧ (csg g t < 0 → SR t - (T : Rat) < -2000) ∧ (0 < csg g t → 2000 < SR t - (T : Rat)) := by
  obtain ⟨p, r, hp, a0, am_, ap⟩ := sun_two h3 h4
  have v : ∀ k, 54 ≤ k → series_Cross.sg 775342092 2737909333333 sunL 2000 g k t = some (af p r g) := fun k hk => by
    obtain ⟨a1, a2, a3, a4, _⟩ := a0
    unfold series_Cross.sg
    rw [hp k (by omega)]
    simp only [Option.bind_some]
    rw [after_f a1 a2 a3 (by omega) g0 g1 k (by omega)]
  have e : csg g t = af p r g := by unfold csg; rw [v 60 (by omega)]; rfl
  rw [e]
  refine ⟨v, fun T hT e1 e2 => ?_⟩
  have cw : ((4005 : Int) : Rat) = 4005 := by decide +kernel
  have cT : ((1000000000 : Int) : Rat) = 1000000000 := by decide +kernel
  have eT : (T : Rat) = (g : Rat) + 1000000000 * ((T / 1000000000 : Int) : Rat) := by
    have : T = g + 1000000000 * (T / 1000000000) := by omega
    have h := congrArg (fun z : Int => (z : Rat)) this
    simp only [Rat.intCast_add, Rat.intCast_mul, cT] at h
    exact h
  have hm := af_true (g := g) (K := T / 1000000000) am_ (by omega) rfl (by grind) (by grind)
  have hp' := af_true (g := g) (K := T / 1000000000) ap (by omega) rfl (by grind) (by grind)
  rw [cw] at hm hp'
  refine ⟨fun x => ?_, fun x => ?_, fun x => ?_, fun x => ?_⟩
  · have := hm.1 x; grind
  · have := hp'.2.1 x; grind
  · have := hp'.2.2.1 x; grind
  · have := hm.2.2.2 x; grind

theorem slope_sun : ∃ v1 v2, 0 < v1 ∧ ∃ K1, ∀ k, K1 ≤ k → series_Slope.f k 775342092 2737909333333 sunL 2000 = some (v1, v2, 0) := by
  obtain ⟨v, hv⟩ : ∃ v, series_Slope.f 60 775342092 2737909333333 sunL 2000 = some v ∧ 0 < v.1 ∧ v.2.2 = 0 := by
    have : (series_Slope.f 60 775342092 2737909333333 sunL 2000).any (fun v => decide (0 < v.1) && decide (v.2.2 = 0)) = true := by decide +kernel
    cases hs : series_Slope.f 60 775342092 2737909333333 sunL 2000 with
    | none => rw [hs] at this; simp at this
    | some v =>
      rw [hs] at this
      simp only [Option.any_some, Bool.and_eq_true, decide_eq_true_eq] at this
      exact ⟨v, rfl, this.1, this.2⟩
  obtain ⟨v1, v2, v3⟩ := v
  obtain ⟨h1, h2, h3⟩ := hv
  simp only at h2 h3
  subst h3
  exact ⟨v1, v2, h2, of_mono (series_Slope.mono _ _ _ _) h1⟩

/-- an interval in which the sun passes T -/
structure Se (T L R : Int) : Prop where
  lr : L < R
  wd : R - L ≤ 600000
  neg : SR L - (T : Rat) < -2000
  pos : 2000 < SR R - (T : Rat)
  sL : csg (T % 1000000000) L < 0
  sR : 0 < csg (T % 1000000000) R

/-- the interval that Cross finds -/
theorem cross_f {T a b : Int} (ha : -345600000000000 ≤ a) (hb : b < 345600086400000) (ab : a < b) (lo1 : -400000000 ≤ SR a - (T : Rat)) (lo2 : SR a - (T : Rat) < -4005) (hi1 : SR b - (T : Rat) ≤ 400000000) (hi2 : 4005 < SR b - (T : Rat)) {x2 : Int} (w : 190000 ≤ x2) (w' : x2 ≤ 100000000000) :
    ∃ L R K1, a ≤ L ∧ L < R ∧ R ≤ b ∧ R - L ≤ x2 ∧ SR L - (T : Rat) < -2000 ∧ 2000 < SR R - (T : Rat) ∧ csg (T % 1000000000) L < 0 ∧ 0 < csg (T % 1000000000) R ∧ ∀ k, K1 ≤ k → series_Narrow.f (series_Cross.sg 775342092 2737909333333 sunL 2000 (T % 1000000000)) k a b x2 0 = some (L, R, 0) ∧
      series_Cross.sg 775342092 2737909333333 sunL 2000 (T % 1000000000) k a = some (csg (T % 1000000000) a) ∧ series_Cross.sg 775342092 2737909333333 sunL 2000 (T % 1000000000) k b = some (csg (T % 1000000000) b) ∧ csg (T % 1000000000) a < 0 ∧ 0 < csg (T % 1000000000) b := by
  have bd : ∀ t, a ≤ t → t ≤ b → -470000000 ≤ SR t - (T : Rat) ∧ SR t - (T : Rat) ≤ 470000000 := fun t t1 t2 => by
    have l1 := SR_lin (t := a) (d := t - a) (by omega)
    have l2 := SR_lin (t := t) (d := b - t) (by omega)
    rw [show a + (t - a) = t by omega] at l1
    rw [show t + (b - t) = b by omega] at l2
    have z0 : ((0 : Int) : Rat) = 0 := by decide +kernel
    have d1 := ic (show 0 ≤ t - a by omega)
    have d2 := ic (show 0 ≤ b - t by omega)
    rw [z0] at d1 d2
    generalize ((t - a : Int) : Rat) = D1 at *
    generalize ((b - t : Int) : Rat) = D2 at *
    constructor <;> grind
  have sg := fun t (t1 : a ≤ t) (t2 : t ≤ b) => csg_f (g := T % 1000000000) (t := t) (by omega) (by omega) (by omega) (by omega)
  have H : Sgn (series_Cross.sg 775342092 2737909333333 sunL 2000 (T % 1000000000)) (csg (T % 1000000000)) (fun t => SR t - (T : Rat)) 54 a b 2005 (30600 / 1000000) 2 :=
    { val := fun k hk t t1 t2 => (sg t t1 t2).1 k hk
      up := fun t t1 t2 h => ((sg t t1 t2).2 T rfl (bd t t1 t2).1 (bd t t1 t2).2).1 h
      dn := fun t t1 t2 h => ((sg t t1 t2).2 T rfl (bd t t1 t2).1 (bd t t1 t2).2).2.1 h
      grow := fun t d _ _ hd => by
        have l := (SR_lin (t := t) (d := d) hd).1
        generalize (d : Rat) = D at *
        grind }
  have sa : csg (T % 1000000000) a < 0 := by
    rcases Int.lt_or_le (csg (T % 1000000000) a) 0 with g | g
    · exact g
    · exfalso
      have := H.up a (Int.le_refl _) (by omega) (by omega)
      grind
  have sb : 0 < csg (T % 1000000000) b := by
    rcases Int.lt_or_le 0 (csg (T % 1000000000) b) with g | g
    · exact g
    · exfalso
      have := H.dn b (by omega) (Int.le_refl _) (by omega)
      grind
  have xw := ic w
  have cx : ((190000 : Int) : Rat) = 190000 := by decide +kernel
  rw [cx] at xw
  obtain ⟨n, hn⟩ : ∃ n, n = (b - a).toNat := ⟨_, rfl⟩
  obtain ⟨L, R, a1, a2, a3, a4, a5, a6, a7⟩ := narrow_f H (by omega) (by omega) (x2 := x2) 0 (by decide +kernel) (by omega) (by grind) n a b (Nat.le_of_eq hn.symm) (Int.le_refl _) ab (Int.le_refl _) sa sb
  refine ⟨L, R, 54 + n + n + n + 10, a1, a2, a3, a6, ((sg L a1 (by omega)).2 T rfl (bd L a1 (by omega)).1 (bd L a1 (by omega)).2).2.2.1 a4, ((sg R (by omega) a3).2 T rfl (bd R (by omega) a3).1 (bd R (by omega) a3).2).2.2.2 a5, a4, a5, fun k hk => ⟨a7 k hk, (sg a (by omega) (by omega)).1 k (by omega), (sg b (by omega) (by omega)).1 k (by omega), sa, sb⟩⟩

theorem SR_step (t d : Int) : ((2737909333333 * d / 86400000000000 : Int) : Rat) - 10747750 ≤ SR (t + d) - SR t ∧ SR (t + d) - SR t ≤ ((2737909333333 * d / 86400000000000 + 1 : Int) : Rat) + 10747750 := by
  have a1 := rl_am sunL t
  have a2 := rl_am sunL (t + d)
  have n : am sunL = 5373875 := by decide +kernel
  have u := ua_step (r := 2737909333333) (t := t) (d := d)
  have u1 := ic u.1
  have u2 := ic u.2
  rw [Rat.intCast_sub] at u1 u2
  rw [n] at a1 a2
  unfold SR RR
  constructor <;> grind

/-- the season that Next finds -/
theorem next_f {lon t0 T : Int} (l0 : 0 ≤ lon) (l1 : lon < 1000000000) (hT : T % 1000000000 = lon) (t1 : -300000000000000 ≤ t0) (t2 : t0 ≤ 300000000000000) (s1 : 20000 ≤ (T : Rat) - SR t0) (s2 : (T : Rat) - SR t0 ≤ 999970000) :
    ∃ L R K1, t0 ≤ L ∧ Se T L R ∧ R ≤ t0 + 40000000000 ∧ ∀ k, K1 ≤ k → season_Next.f k lon t0 = some (L, R, 0) := by
  obtain ⟨p, q, hp, p0, p1, pq, pw, j, b1, b2⟩ := slon_f (t := t0) (by omega) (by omega)
  have cT : ((1000000000 : Int) : Rat) = 1000000000 := by decide +kernel
  have cw : ((4005 : Int) : Rat) = 4005 := by decide +kernel
  have pw' := ic pw
  rw [Rat.intCast_sub, cw] at pw'
  obtain ⟨m, hm⟩ : ∃ m : Int, m = T - 1000000000 * j := ⟨_, rfl⟩
  have mr : (m : Rat) = (T : Rat) - 1000000000 * (j : Rat) := by rw [hm, Rat.intCast_sub, Rat.intCast_mul, cT]
  have g1 : 20000 ≤ m - p := by
    apply ci
    have c : ((20000 : Int) : Rat) = 20000 := by decide +kernel
    rw [c, Rat.intCast_sub, mr]; grind
  have g2 : m - p ≤ 999974005 := by
    apply ci
    have c : ((999974005 : Int) : Rat) = 999974005 := by decide +kernel
    rw [c, Rat.intCast_sub, mr]; grind
  have ml : m = if lon < p then lon + 1000000000 else lon := by split <;> omega
  obtain ⟨dy, hdy⟩ : ∃ dy : Int, dy = (m - p) * 1000 / 2737909 := ⟨_, rfl⟩
  have e1 : ((p - m : Int) : Rat) ≤ SR t0 - (T : Rat) := by rw [Rat.intCast_sub, mr]; grind
  have e2 : SR t0 - (T : Rat) ≤ ((p - m : Int) : Rat) + 4005 := by rw [Rat.intCast_sub, mr]; grind
  have dyb : 0 ≤ dy ∧ dy ≤ 365300 := by omega
  -- the ends
  obtain ⟨b, hb⟩ : ∃ b : Int, b = t0 + dy * 86400 + 864000000 := ⟨_, rfl⟩
  obtain ⟨a, ha⟩ : ∃ a : Int, a = mx t0 (t0 + dy * 86400 - 864000000) := ⟨_, rfl⟩
  have sb := SR_step t0 (dy * 86400 + 864000000)
  rw [show t0 + (dy * 86400 + 864000000) = b by omega] at sb
  have ub : m - p + 27376000 ≤ 2737909333333 * (dy * 86400 + 864000000) / 86400000000000 ∧ 2737909333333 * (dy * 86400 + 864000000) / 86400000000000 + 1 ≤ m - p + 27380000 := by omega
  have ub1 := ic ub.1
  have ub2 := ic ub.2
  have c1 : ((27376000 : Int) : Rat) = 27376000 := by decide +kernel
  have c2 : ((27380000 : Int) : Rat) = 27380000 := by decide +kernel
  rw [Rat.intCast_add, c1] at ub1
  rw [Rat.intCast_add (m - p), c2] at ub2
  have neg : ((p - m : Int) : Rat) = -((m - p : Int) : Rat) := by rw [← Rat.intCast_neg]; congr 1; omega
  rw [neg] at e1 e2
  have B1 : 4005 < SR b - (T : Rat) := by grind
  have B2 : SR b - (T : Rat) ≤ 400000000 := by grind
  have A : SR a - (T : Rat) < -4005 ∧ -400000000 ≤ SR a - (T : Rat) ∧ t0 ≤ a ∧ a < b := by
    by_cases c : t0 < t0 + dy * 86400 - 864000000
    · have ea : a = t0 + (dy * 86400 - 864000000) := by rw [ha]; simp only [mx]; rw [if_pos c]; omega
      have sa := SR_step t0 (dy * 86400 - 864000000)
      rw [← ea] at sa
      have ua_ : m - p - 27382000 ≤ 2737909333333 * (dy * 86400 - 864000000) / 86400000000000 ∧ 2737909333333 * (dy * 86400 - 864000000) / 86400000000000 + 1 ≤ m - p - 27378000 := by omega
      have ua1 := ic ua_.1
      have ua2 := ic ua_.2
      have c3 : ((27382000 : Int) : Rat) = 27382000 := by decide +kernel
      have c4 : ((27378000 : Int) : Rat) = 27378000 := by decide +kernel
      rw [Rat.intCast_sub (m - p), c3] at ua1
      rw [Rat.intCast_sub (m - p), c4] at ua2
      refine ⟨by grind, by grind, by omega, by omega⟩
    · have ea : a = t0 := by rw [ha]; simp only [mx]; rw [if_neg c]
      have g1' := ic g1
      have g3 := ic (show m - p ≤ 30000000 by omega)
      have c3 : ((20000 : Int) : Rat) = 20000 := by decide +kernel
      have c4 : ((30000000 : Int) : Rat) = 30000000 := by decide +kernel
      rw [c3] at g1'
      rw [c4] at g3
      rw [ea]
      refine ⟨by grind, by grind, Int.le_refl _, by omega⟩
  obtain ⟨L, R, K1, a1, a2, a3, a4, a5, a6, s7, s8, a7⟩ := cross_f (T := T) (a := a) (b := b) (by omega) (by omega) A.2.2.2 A.2.1 A.1 B2 B1 (x2 := 600000) (by omega) (by omega)
  obtain ⟨v1, v2, vp, K2, hv⟩ := slope_sun
  refine ⟨L, R, K1 + K2 + 70, by omega, ⟨a2, a4, a5, a6, s7, s8⟩, by omega, fun k hk => ?_⟩
  have cr : ∀ k, K1 + K2 + 60 ≤ k → series_Cross.f k 775342092 2737909333333 sunL 2000 lon a b 600000 = some (L, R, 0) := fun k hk => by
    obtain ⟨n1, n2, n3, n4, n5⟩ := a7 k (by omega)
    rw [hT] at n1 n2 n3 n4 n5
    unfold series_Cross.f series_Valid.f
    rw [chk_f (by decide) sunL_ok (by omega) (by omega) (by omega) (by omega) (by omega) (by omega) k (by omega)]
    simp only [Option.bind_some, if_true]
    rw [if_pos (by omega), if_pos (by omega), decide_eq_true (show a < 345600086400000 by omega), decide_eq_true (show b < 345600086400000 by omega)]
    simp only [Option.bind_some]
    rw [if_pos ⟨by trivial, by trivial, l0, l1, by omega, by omega⟩, hv k (by omega)]
    simp only [Option.bind_some]
    rw [if_pos vp, n2]
    simp only [Option.bind_some]
    rw [if_pos n4, n3]
    simp only [Option.bind_some]
    rw [if_pos n5, n1]
  obtain ⟨k, rfl⟩ : ∃ n, k = n + 1 + 1 + 1 + 1 := ⟨k - 4, by omega⟩
  -- behind the loop
  have fin : ∀ k, K1 + K2 + 61 ≤ k → season_Next.l0 k m t0 p q = some (L, R, 0) := fun k hk => by
    obtain ⟨k, rfl⟩ : ∃ n, k = n + 1 := ⟨k - 1, by omega⟩
    simp only [season_Next.l0]
    rw [if_neg (by omega), if_neg (by omega)]
    unfold sun_Series.f
    simp only [Option.bind_some]
    have mm : Int.tmod m 1000000000 = lon := by rw [tmod_nn (by omega)]; omega
    rw [wrap_in (n := m - p) (by omega) (by omega), wrap_in (n := (m - p) * 1000) (by omega) (by omega), tdiv_nn (by omega), ← hdy, wrap_in (n := dy) (by omega) (by omega), wrap_in (n := dy * 86400) (by omega) (by omega), wrap_in (n := t0 + dy * 86400) (by omega) (by omega), wrap_in (n := t0 + dy * 86400 - 864000000) (by omega) (by omega), wrap_in (n := t0 + dy * 86400 + 864000000) (by omega) (by omega), ← ha, ← hb, mm]
    have := cr k (by omega)
    unfold sunL at this
    rw [this]
    rfl
  unfold season_Next.f
  rw [if_neg (by omega), decide_eq_false (by omega)]
  simp only [season_Next.j0, Bool.false_eq_true, if_false]
  unfold series_Valid.f
  rw [wrap_in (n := t0 - 1728000000) (by omega) (by omega), wrap_in (n := t0 + 34560000000) (by omega) (by omega), if_pos (by omega), if_pos (by omega), decide_eq_true (by omega), decide_eq_true (by omega)]
  simp only [Option.bind_some, if_true, Bool.not_true, season_Next.j1, Bool.false_eq_true, if_false]
  rw [hp _ (by omega)]
  simp only [Option.bind_some]
  by_cases c : lon < p
  · rw [if_pos c] at ml
    have step : ∀ j, season_Next.l0 (j + 1) lon t0 p q = season_Next.l0 j (wrap64 (lon + 1000000000)) t0 p q := fun j => by
      simp only [season_Next.l0]
      rw [if_pos c]
    rw [step, wrap_in (n := lon + 1000000000) (by omega) (by omega), ← ml]
    refine fin _ ?_
    omega
  · rw [if_neg c] at ml
    rw [← ml]
    refine fin _ ?_
    omega

/-- the day of the new year -/
def ny (y : Int) : Int := 365 * (y - 1) + (y - 1) / 4 - (y - 1) / 100 + (y - 1) / 400 + 1
theorem SR_ny {y : Int} (h1 : -9001 ≤ y) (h2 : y ≤ 9001) : 190000000 ≤ 1000000000 * (y : Rat) - SR (ny y * 86400000) ∧ 1000000000 * (y : Rat) - SR (ny y * 86400000) ≤ 249000000 := by
  have a1 := rl_am sunL (ny y * 86400000)
  have n : am sunL = 5373875 := by decide +kernel
  rw [n] at a1
  have u : 196000000 ≤ 1000000000 * y - 775342092 - ua 2737909333333 (ny y * 86400000) ∧ 1000000000 * y - 775342092 - ua 2737909333333 (ny y * 86400000) ≤ 243000000 := by
    unfold ua ny; omega
  have u1 := ic u.1
  have u2 := ic u.2
  have cT : ((1000000000 : Int) : Rat) = 1000000000 := by decide +kernel
  have c1 : ((196000000 : Int) : Rat) = 196000000 := by decide +kernel
  have c2 : ((243000000 : Int) : Rat) = 243000000 := by decide +kernel
  rw [Rat.intCast_sub, Rat.intCast_sub, Rat.intCast_mul, cT] at u1 u2
  rw [c1] at u1
  rw [c2] at u2
  unfold SR RR
  constructor <;> grind
theorem sfind_f {q y : Int} (q0 : 0 ≤ q) (q3 : q ≤ 3) (h1 : -9001 ≤ y) (h2 : y ≤ 9001) : ∃ L R K1, Se (1000000000 * y + 250000000 * q) L R ∧ -290000000000000 ≤ L ∧ R ≤ 290000000000000 ∧ ∀ k, K1 ≤ k → season_Find.f k q y = some (L, R, 0) := by
  have s := SR_ny h1 h2
  have cT : ((1000000000 : Int) : Rat) = 1000000000 := by decide +kernel
  have cQ : ((250000000 : Int) : Rat) = 250000000 := by decide +kernel
  have c3 : ((3 : Int) : Rat) = 3 := by decide +kernel
  have z0 : ((0 : Int) : Rat) = 0 := by decide +kernel
  have qa := ic q0
  have qb := ic q3
  rw [z0] at qa
  rw [c3] at qb
  have nb : -3290000 ≤ ny y ∧ ny y ≤ 3290000 := by unfold ny; omega
  obtain ⟨L, R, K1, a1, a2, a3, a4⟩ := next_f (lon := q * 250000000) (t0 := ny y * 86400000) (T := 1000000000 * y + 250000000 * q) (by omega) (by omega) (by omega) (by omega) (by omega) (by rw [Rat.intCast_add, Rat.intCast_mul, Rat.intCast_mul, cT, cQ]; grind) (by rw [Rat.intCast_add, Rat.intCast_mul, Rat.intCast_mul, cT, cQ]; grind)
  refine ⟨L, R, K1 + 2, a2, by omega, by omega, fun k hk => ?_⟩
  obtain ⟨k, rfl⟩ : ∃ n, k = n + 1 + 1 := ⟨k - 2, by omega⟩
  unfold season_Find.f
  rw [if_neg (by omega), decide_eq_false (by omega)]
  simp only [season_Find.j0, Bool.false_eq_true, if_false]
  rw [if_neg (by omega), decide_eq_false (by omega)]
  simp only [season_Find.j1, Bool.false_eq_true, if_false]
  unfold season_newYear.f
  rw [if_pos (by omega)]
  simp only [Option.bind_some]
  have e : 365 * (y - 1) + (y - 1) / 4 - (y - 1) / 100 + (y - 1) / 400 + 1 = ny y := rfl
  rw [e, wrap_in (n := q * 250000000) (by omega) (by omega), wrap_in (n := ny y * 86400000) (by omega) (by omega), a4 k (by omega)]
  rfl
theorem SR_mono {a b : Int} (h : a ≤ b) : SR a - 2 ≤ SR b := by
  have l := SR_lin (t := a) (d := b - a) (by omega)
  rw [show a + (b - a) = b by omega] at l
  have d := ic (show 0 ≤ b - a by omega)
  have z0 : ((0 : Int) : Rat) = 0 := by decide +kernel
  rw [z0] at d
  generalize ((b - a : Int) : Rat) = D at *
  grind
theorem SR_within {a b A : Int} (h : a ≤ b) (h' : b - a ≤ A) : SR b ≤ SR a + 32780 / 1000000 * (A : Rat) + 2 := by
  have l := SR_lin (t := a) (d := b - a) (by omega)
  rw [show a + (b - a) = b by omega] at l
  have d := ic h'
  generalize ((b - a : Int) : Rat) = D at *
  grind
theorem season_apart {T L R L' R' : Int} (A : Se T L R) (B : Se (T + 250000000) L' R') : 7603200000 ≤ L' - R ∧ R' - L ≤ 8208000000 := by
  obtain ⟨a1, a2, a3, a4, _, _⟩ := A
  obtain ⟨b1, b2, b3, b4, _, _⟩ := B
  have cQ : ((250000000 : Int) : Rat) = 250000000 := by decide +kernel
  rw [Rat.intCast_add, cQ] at b3 b4
  have o : L ≤ R' := by
    rcases Int.lt_or_le R' L with g | g
    · exfalso
      have := SR_mono (a := R') (b := L) (by omega)
      grind
    · exact g
  have d1 : 7620000000 ≤ R' - L := by
    rcases Int.lt_or_le (R' - L) 7620000000 with g | g
    · exfalso
      have w := SR_within (a := L) (b := R') (A := 7620000000) o (by omega)
      have c : ((7620000000 : Int) : Rat) = 7620000000 := by decide +kernel
      rw [c] at w
      grind
    · exact g
  refine ⟨by omega, ?_⟩
  rcases Int.lt_or_le 8208000000 (R' - L) with g | g
  · exfalso
    have l := SR_lin (t := R) (d := L' - R) (by omega)
    rw [show R + (L' - R) = L' by omega] at l
    have d := ic (show 8206800000 ≤ L' - R by omega)
    have c : ((8206800000 : Int) : Rat) = 8206800000 := by decide +kernel
    rw [c] at d
    generalize ((L' - R : Int) : Rat) = D at *
    grind
  · exact g
end Go.Proofs.Ytdolgbcmihpfnaa.JN
