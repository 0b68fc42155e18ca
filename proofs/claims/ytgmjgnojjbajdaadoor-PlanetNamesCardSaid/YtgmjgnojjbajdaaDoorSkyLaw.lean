/- Intervals of angles about their true numbers, how wide they are, and how fast sums change. No condition on a program. -/
import Derived.Test.YtgmjgnojjbajdaaDoorJGx1
import Derived.Test.YtgmjgnojjbajdaaDoorSkyReal
namespace Go.Proofs.YtgmjgnojjbajdaaDoor.JG
open Go.Proofs.YtgmjgnojjbajdaaDoor.Own Go.Proofs.YtgmjgnojjbajdaaDoor.Tp Go.RowKit Go.Proofs.YtgmjgnojjbajdaaDoorW.PrintWords Go.Proofs.YtgmjgnojjbajdaaDoorW.PrintLast

theorem so_w (a : Int) : (so a).2 - (so a).1 ≤ 10 := by
  have s := sin_tg a
  have s' := sin_tg (a + 1)
  have l := zlip a (d := 1) (by omega)
  have e : lip 1 ≤ 63 / 10000000000 := by decide +kernel
  have q1 : zs 250000000 = 1 := by decide +kernel
  have q3 : zs 750000000 = -1 := by decide +kernel
  have cT : ((1000000000 : Int) : Rat) = 1000000000 := by decide +kernel
  have cN : ((-1000000000 : Int) : Rat) = -1000000000 := by decide +kernel
  have c10 : ((10 : Int) : Rat) = 10 := by decide +kernel
  have c11 : ((11 : Int) : Rat) = 11 := by decide +kernel
  have b1 := sv_b (a % 1000000000)
  have b2 := sv_b ((a + 1) % 1000000000)
  have top : ∀ b : Int, b % 1000000000 = 250000000 → zs b = 1 := fun b h => by rw [← (z_mod b).1, h, q1]
  have bot : ∀ b : Int, b % 1000000000 = 750000000 → zs b = -1 := fun b h => by rw [← (z_mod b).1, h, q3]
  have p1 : pas a 250000000 = true → a % 1000000000 = 250000000 ∨ (a + 1) % 1000000000 = 250000000 := fun h => by
    have := of_decide_eq_true h; omega
  have p3 : pas a 750000000 = true → a % 1000000000 = 750000000 ∨ (a + 1) % 1000000000 = 750000000 := fun h => by
    have := of_decide_eq_true h; omega
  unfold Tg at s s'
  have key : ∀ x : Int, (x : Rat) < 11 → x ≤ 10 := fun x h => by
    rw [← c11] at h
    have := Rat.intCast_lt_intCast.1 h
    omega
  unfold so
  simp only
  cases g1 : pas a 250000000 <;> cases g3 : pas a 750000000
  · simp only [Bool.false_eq_true, if_false]
    apply key
    rw [Rat.intCast_sub]
    simp only [mx, mn]
    split <;> split <;> grind
  · simp only [Bool.false_eq_true, if_false, if_true]
    apply key
    rw [Rat.intCast_sub, cN]
    simp only [mx]
    rcases p3 g3 with h | h
    · have := bot _ h
      split <;> grind
    · have := bot _ h
      split <;> grind
  · simp only [Bool.false_eq_true, if_false, if_true]
    apply key
    rw [Rat.intCast_sub, cT]
    simp only [mn]
    rcases p1 g1 with h | h
    · have := top _ h
      split <;> grind
    · have := top _ h
      split <;> grind
  · exfalso
    have h1 := p1 g1
    have h3 := p3 g3
    omega

/-- the most that an interval of terms is wide -/
def wl : List S85 → Int
  | [] => 0
  | x :: l => abI x.f0 / 100000000 + 2 + wl l
theorem tv_w {x : S85} (t : Int) : (tv x t).2 - (tv x t).1 ≤ abI x.f0 / 100000000 + 2 := by
  have w := so_w (tan x t)
  have b := so_b (tan x t)
  unfold tv interval_Scale.lo interval_Scale.hi abI
  simp only
  generalize so (tan x t) = p at *
  by_cases c : x.f0 < 0
  · rw [if_pos c, if_pos c, if_pos c]
    have u := Int.mul_le_mul_of_nonneg_right w (show 0 ≤ -x.f0 by omega)
    rw [Int.sub_mul] at u
    rw [Int.neg_mul]
    generalize p.2 * -x.f0 = B at *
    generalize p.1 * -x.f0 = A at *
    omega
  · rw [if_neg c, if_neg c, if_neg c]
    have u := Int.mul_le_mul_of_nonneg_right w (show 0 ≤ x.f0 by omega)
    rw [Int.sub_mul] at u
    rw [Int.neg_mul]
    generalize p.2 * x.f0 = B at *
    generalize p.1 * x.f0 = A at *
    omega
theorem sl_w : ∀ (l : List S85) (t : Int), (sl l t).2 - (sl l t).1 ≤ wl l
  | [], t => by simp [sl, wl]
  | x :: l, t => by
    have h := tv_w (x := x) t
    have ih := sl_w l t
    simp only [sl, wl]
    omega

/-- an interval of an angle about a true number, not wider than w -/
def Ang (p q : Int) (R : Rat) (w : Int) : Prop := 0 ≤ p ∧ p < 1000000000 ∧ p ≤ q ∧ q - p ≤ w ∧ ∃ k : Int, (p : Rat) ≤ R - 1000000000 * (k : Rat) ∧ R - 1000000000 * (k : Rat) ≤ (q : Rat)

theorem sred_f {a b : Int} (h1 : -4000000000000000000 ≤ a) (h2 : a ≤ 4000000000000000000) (h3 : -4000000000000000000 ≤ b) (h4 : b ≤ 4000000000000000000) (h5 : b - a ≤ 4000000000000000000) (h6 : a ≤ b) :
    series_Reduced.f a b = some (a % 1000000000, b - a / 1000000000 * 1000000000) := by
  unfold series_Reduced.f
  rw [sfloor_ (by omega) (by omega) (by omega) (by omega)]
  simp only [Option.bind_some]
  rw [wrap_in (n := a / 1000000000 * 1000000000) (by omega) (by omega), wrap_in (by omega) (by omega), wrap_in (by omega) (by omega)]
  congr 2; omega

theorem Ang_red {a b : Int} {R : Rat} {w : Int} (h6 : a ≤ b) (hw : b - a ≤ w) (k : Int) (g1 : (a : Rat) ≤ R - 1000000000 * (k : Rat)) (g2 : R - 1000000000 * (k : Rat) ≤ (b : Rat)) : Ang (a % 1000000000) (b - a / 1000000000 * 1000000000) R w := by
  have cT : ((1000000000 : Int) : Rat) = 1000000000 := by decide +kernel
  refine ⟨by omega, by omega, by omega, by omega, k + a / 1000000000, ?_, ?_⟩
  · have e : a % 1000000000 = a - 1000000000 * (a / 1000000000) := by omega
    rw [e, Rat.intCast_sub, Rat.intCast_mul, cT, Rat.intCast_add]; grind
  · rw [Rat.intCast_sub, Rat.intCast_mul, cT, Rat.intCast_add]; grind

/-- the true number of a sum as an angle -/
def RR (mean rate : Int) (l : List S85) (t : Int) : Rat := (mean : Rat) + rl l t + (ua rate t : Rat)

theorem angle_f {l : List S85} (hl : l.length ≤ 40) (ho : ∀ x ∈ l, tok x) {t : Int} (h3 : -345600000000000 ≤ t) (h4 : t < 345600086400000) {mean rate rest : Int}
    (m1 : -1000000000 ≤ mean) (m2 : mean ≤ 1000000000) (g1 : -4000000000000000 ≤ rate) (g2 : rate ≤ 4000000000000000) (r1 : 0 ≤ rest) (r2 : rest ≤ 100000000) :
    ∃ p q, (∀ k, 53 ≤ k → series_Angle.f k mean rate l rest t = some (p, q, 0)) ∧ Ang p q (RR mean rate l t) (2 * rest + 1 + wl l) := by
  have b := sl_b ho t
  have tb := tn_b rate t
  have w := sl_w l t
  have r := sl_rl l t
  obtain ⟨j, hj⟩ := tn_ua rate t
  have c0 : ((0 : Int) : Rat) ≤ (rest : Rat) := ic r1
  have z0 : ((0 : Int) : Rat) = 0 := by decide +kernel
  have c1 : ((1 : Int) : Rat) = 1 := by decide +kernel
  have cT : ((1000000000 : Int) : Rat) = 1000000000 := by decide +kernel
  rw [z0] at c0
  refine ⟨(mean - rest + (sl l t).1 + tn rate t / 1000000) % 1000000000, mean + rest + (sl l t).2 + tn rate t / 1000000 + 1 - (mean - rest + (sl l t).1 + tn rate t / 1000000) / 1000000000 * 1000000000, ?_, ?_⟩
  · intro k hk
    unfold series_Angle.f
    rw [check_f hl ho h3 h4 m1 m2 g1 g2 r1 r2 k hk]
    simp only [Option.bind_some, if_true]
    rw [sum_f hl ho h3 h4 rate m1 m2 r1 r2 k hk, turned_f g1 g2 h3 h4 k (by omega)]
    simp only [Option.bind_some]
    rw [tdiv_nn tb.1, wrap_in (n := tn rate t / 1000000) (by omega) (by omega), wrap_in (n := mean - rest + (sl l t).1 + tn rate t / 1000000) (by omega) (by omega), wrap_in (n := mean + rest + (sl l t).2 + tn rate t / 1000000) (by omega) (by omega), wrap_in (n := mean + rest + (sl l t).2 + tn rate t / 1000000 + 1) (by omega) (by omega), sred_f (by omega) (by omega) (by omega) (by omega) (by omega) (by omega)]
    rfl
  · refine Ang_red (by omega) (by omega) (-j) ?_ ?_
    · rw [hj]
      unfold RR
      rw [Rat.intCast_add, Rat.intCast_add, Rat.intCast_add, Rat.intCast_sub, Rat.intCast_mul, cT, Rat.intCast_neg]; grind
    · rw [hj]
      unfold RR
      rw [Rat.intCast_add, Rat.intCast_add, Rat.intCast_add, Rat.intCast_add, Rat.intCast_add, Rat.intCast_mul, cT, c1, Rat.intCast_neg]; grind

/-- how fast a sum of terms changes: a unit of time, and at once -/
def KK : Rat := 7244019458077122842 / 1152921504606846976000000000 * (100006 / 100000)
def cA : List S85 → Rat
  | [] => 0
  | x :: l => (abI x.f0 : Rat) * (KK * (abI x.f2 : Rat) / 86400000000000) + cA l
def cB : List S85 → Rat
  | [] => 0
  | x :: l => (abI x.f0 : Rat) * (2 * KK + 1 / 100000000000) + cB l
theorem lip_lin {r d : Int} (hd : 0 ≤ d) : lip (abI (r * d / 86400000000000) + 1) ≤ KK * (abI r : Rat) / 86400000000000 * (d : Rat) + (2 * KK + 1 / 100000000000) := by
  have i : 86400000000000 * abI (r * d / 86400000000000) ≤ abI r * d + 86400000000000 := by
    have e : abI r * d = abI (r * d) := by
      unfold abI
      by_cases c : r < 0
      · rw [if_pos c]
        by_cases z : d = 0
        · subst z; simp
        · rw [if_pos (Int.mul_neg_of_neg_of_pos c (by omega)), Int.neg_mul]
      · rw [if_neg c, if_neg (by have := Int.mul_nonneg (show 0 ≤ r by omega) hd; omega)]
    rw [e]
    generalize r * d = x
    unfold abI
    split <;> split <;> omega
  have i' := ic i
  have cD : ((86400000000000 : Int) : Rat) = 86400000000000 := by decide +kernel
  have c1 : ((1 : Int) : Rat) = 1 := by decide +kernel
  rw [Rat.intCast_mul, Rat.intCast_add, Rat.intCast_mul, cD] at i'
  unfold lip arc KK
  rw [Rat.intCast_add, c1]
  generalize ((abI (r * d / 86400000000000) : Int) : Rat) = A at *
  generalize ((abI r : Int) : Rat) = B at *
  generalize (d : Rat) = D at *
  have e2 : 7244019458077122842 / 1152921504606846976000000000 * (100006 / 100000) * B / 86400000000000 * D = (7244019458077122842 / 1152921504606846976000000000 * (100006 / 100000) / 86400000000000) * (B * D) := by grind
  rw [e2]
  generalize B * D = X at *
  grind
theorem chg_lin {d : Int} (hd : 0 ≤ d) : ∀ l : List S85, chg l (fun r => abI (r * d / 86400000000000) + 1) ≤ cA l * (d : Rat) + cB l
  | [] => by simp only [chg, cA, cB]; grind
  | x :: l => by
    have h := lip_lin (r := x.f2) hd
    have ih := chg_lin hd l
    have a0 : (0 : Rat) ≤ (abI x.f0 : Rat) := by
      have z0 : ((0 : Int) : Rat) = 0 := by decide +kernel
      rw [← z0]; exact ic (abI_b x.f0).1
    have m := Rat.mul_nonneg a0 (show 0 ≤ KK * (abI x.f2 : Rat) / 86400000000000 * (d : Rat) + (2 * KK + 1 / 100000000000) - lip (abI (x.f2 * d / 86400000000000) + 1) by grind)
    simp only [chg, cA, cB]
    generalize lip (abI (x.f2 * d / 86400000000000) + 1) = L at *
    generalize (abI x.f0 : Rat) = A at *
    generalize KK * (abI x.f2 : Rat) / 86400000000000 = B at *
    grind
/-- the change of a sum's terms -/
theorem rl_lin (l : List S85) {t d : Int} (hd : 0 ≤ d) : -(cA l * (d : Rat) + cB l) ≤ rl l (t + d) - rl l t ∧ rl l (t + d) - rl l t ≤ cA l * (d : Rat) + cB l := by
  have h := rl_step (t := t) (d := d) (D := fun r => abI (r * d / 86400000000000) + 1) l (fun x _ => by
    have b := abI_b (x.f2 * d / 86400000000000)
    omega)
  have m := chg_lin hd l
  constructor <;> grind
/-- the change of a sum -/
theorem RR_lin {mean rate : Int} {l : List S85} {t d : Int} (hd : 0 ≤ d) :
    ((rate : Rat) / 86400000000000 - cA l) * (d : Rat) - (cB l + 1) ≤ RR mean rate l (t + d) - RR mean rate l t ∧ RR mean rate l (t + d) - RR mean rate l t ≤ ((rate : Rat) / 86400000000000 + cA l) * (d : Rat) + (cB l + 1) := by
  have h := rl_lin l (t := t) hd
  have u := ua_step (r := rate) (t := t) (d := d)
  have v1 : rate * d < 86400000000000 * (ua rate (t + d) - ua rate t) + 86400000000000 := by omega
  have v2 : 86400000000000 * (ua rate (t + d) - ua rate t) ≤ rate * d + 86400000000000 := by omega
  have w1 := ic (Int.le_of_lt v1)
  have w2 := ic v2
  have cD : ((86400000000000 : Int) : Rat) = 86400000000000 := by decide +kernel
  rw [Rat.intCast_mul, Rat.intCast_add, Rat.intCast_mul, Rat.intCast_sub, cD] at w1
  rw [Rat.intCast_mul, Rat.intCast_add, Rat.intCast_mul, Rat.intCast_sub, cD] at w2
  unfold RR
  generalize rl l (t + d) = A at *
  generalize rl l t = B at *
  generalize (ua rate (t + d) : Rat) = C at *
  generalize (ua rate t : Rat) = D at *
  generalize cA l = E at *
  generalize cB l = F at *
  have e1 : ((rate : Rat) / 86400000000000 - E) * (d : Rat) = (rate : Rat) * (d : Rat) / 86400000000000 - E * (d : Rat) := by grind
  have e2 : ((rate : Rat) / 86400000000000 + E) * (d : Rat) = (rate : Rat) * (d : Rat) / 86400000000000 + E * (d : Rat) := by grind
  rw [e1, e2]
  generalize (rate : Rat) * (d : Rat) = X at *
  generalize E * (d : Rat) = Y at *
  constructor <;> grind

/-- the sum of the amplitudes -/
def am : List S85 → Rat
  | [] => 0
  | x :: l => (abI x.f0 : Rat) + am l
theorem rl_am : ∀ (l : List S85) (t : Int), -(am l) ≤ rl l t ∧ rl l t ≤ am l
  | [], t => by simp only [rl, am]; constructor <;> grind
  | x :: l, t => by
    have ih := rl_am l t
    have b := cl_b (zs (tan x t))
    have ab := abI_b x.f0
    have a1 := ic ab.2.1
    have a2 := ic ab.2.2
    rw [Rat.intCast_neg] at a1
    have m := mul_ab a1 a2 b.1 b.2
    simp only [rl, am, rv, cz]
    constructor <;> grind
end Go.Proofs.YtgmjgnojjbajdaaDoor.JG
