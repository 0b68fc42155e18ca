-- Made by a program of this session (wip/hp.py, over the kit's print) out of the translation. Not trusted: Lean checks it.
import Derived.Test.YtigolfomfpmodaaJTx0
namespace Go.Proofs.Ytigolfomfpmodaa.JT
open Go.RowKit Go.Proofs.YtigolfomfpmodaaW.PrintWords Go.Proofs.YtigolfomfpmodaaW.PrintLast Go.Proofs.YtigolfomfpmodaaW.PrintMore
attribute [local go_sem] max2_int min2_int max_two min_two max_three min_three max_four min_four   -- for this text's walks alone
set_option linter.unusedVariables false
set_option linter.unusedSimpArgs false

theorem wrap_in_ {n : Int} (h : -9223372036854775808 ≤ n) (h' : n ≤ 9223372036854775807) : wrap64 n = n := by
  unfold wrap64; omega
/-- within the range of the bounds of intervals -/
def InR (x : Int) : Prop := -1000000000000000000 ≤ x ∧ x ≤ 1000000000000000000
instance (x : Int) : Decidable (InR x) := inferInstanceAs (Decidable (_ ∧ _))
theorem below_setg {B : Nat} {w W : World} {g j : Nat} {v : Value} (h : Below B w W) (hg : B ≤ g) : Below B w (W.setCell ⟨g, j, none⟩ v) := h.setCell hg _

/-! ### the Lean function ephemeriskeep2_at: function 20 -/
def ephemeriskeep2_at.f (a0 : Int) (a1 : Int) : Option (Int) := if a1 = 0 then (none) else (some (Int.tmod (wrap64 ((Int.tmod a0 a1) + a1)) a1))

/-! ### the Lean function trig_out: function 53 -/
def trig_out.f (a0 : Int) : Option (Bool) := if a0 < (-1000000000000000000) then (some true) else (some (decide (a0 > 1000000000000000000)))

/-! ### the Lean function interval_Floor: function 48 -/
def interval_Floor.f (a0 : Int) (a1 : Int) : Option (Int) := if a1 = 0 then (none) else (if (Int.tmod a0 a1) = 0 then (some (wrap64 (Int.tdiv a0 a1))) else (if ((decide (a0 < 0)) != (decide (a1 < 0))) = true then (some (wrap64 ((wrap64 (Int.tdiv a0 a1)) - 1))) else (some (wrap64 (Int.tdiv a0 a1)))))

/-! ### the Lean function trig_Reduced: function 54 -/
def trig_Reduced.f (a0 : Int) : Option (Int) := (interval_Floor.f a0 1000000000).bind fun t101 => (some (wrap64 (a0 - (wrap64 (t101 * 1000000000)))))

/-! ### the Lean function trig_mul: function 63 -/
def trig_mul.f (a0 : Int) (a1 : Int) : Option (Int) := some (wrap64 ((wrap64 ((a0 / 1073741824) * (a1 / 1073741824))) + ((wrap64 ((wrap64 ((wrap64 ((a0 / 1073741824) * (Go.bits .and .i64 a1 1073741823))) + (wrap64 ((Go.bits .and .i64 a0 1073741823) * (a1 / 1073741824))))) + ((wrap64 ((Go.bits .and .i64 a0 1073741823) * (Go.bits .and .i64 a1 1073741823))) / 1073741824))) / 1073741824)))

/-! ### the Lean function trig_octant: function 55 -/
def trig_octant.l0 : Nat → Int → Int → Int → Int → Int → Int → Option (Int × Int)
  | 0, _, _, _, _, _, _ => none
  | k + 1, x5, x6, x7, x8, x9, x10 => if x10 ≤ 9 then ((trig_mul.f x9 x5).bind fun t103 => (if (wrap64 ((wrap64 ((wrap64 ((wrap64 (2 * x10)) - 1)) * 2)) * x10)) = 0 then (none) else ((trig_mul.f x8 x5).bind fun t104 => (if (wrap64 ((wrap64 (2 * x10)) * (wrap64 ((wrap64 (2 * x10)) + 1)))) = 0 then (none) else (if (Int.tmod x10 2) = 1 then (trig_octant.l0 k x5 (wrap64 (x6 - (wrap64 (Int.tdiv t104 (wrap64 ((wrap64 (2 * x10)) * (wrap64 ((wrap64 (2 * x10)) + 1)))))))) (wrap64 (x7 - (wrap64 (Int.tdiv t103 (wrap64 ((wrap64 ((wrap64 ((wrap64 (2 * x10)) - 1)) * 2)) * x10)))))) (wrap64 (Int.tdiv t104 (wrap64 ((wrap64 (2 * x10)) * (wrap64 ((wrap64 (2 * x10)) + 1)))))) (wrap64 (Int.tdiv t103 (wrap64 ((wrap64 ((wrap64 ((wrap64 (2 * x10)) - 1)) * 2)) * x10)))) (wrap64 (x10 + 1))) else (trig_octant.l0 k x5 (wrap64 (x6 + (wrap64 (Int.tdiv t104 (wrap64 ((wrap64 (2 * x10)) * (wrap64 ((wrap64 (2 * x10)) + 1)))))))) (wrap64 (x7 + (wrap64 (Int.tdiv t103 (wrap64 ((wrap64 ((wrap64 ((wrap64 (2 * x10)) - 1)) * 2)) * x10)))))) (wrap64 (Int.tdiv t104 (wrap64 ((wrap64 (2 * x10)) * (wrap64 ((wrap64 (2 * x10)) + 1)))))) (wrap64 (Int.tdiv t103 (wrap64 ((wrap64 ((wrap64 ((wrap64 (2 * x10)) - 1)) * 2)) * x10)))) (wrap64 (x10 + 1)))))))) else (some (mx 0 x6, mn 1152921504606846976 x7))
def trig_octant.f (k : Nat) (a0 : Int) : Option (Int × Int) := (trig_mul.f (wrap64 ((wrap64 (a0 * 7244019458)) + (wrap64 (Int.tdiv (wrap64 (a0 * 77122842)) 1000000000)))) (wrap64 ((wrap64 (a0 * 7244019458)) + (wrap64 (Int.tdiv (wrap64 (a0 * 77122842)) 1000000000))))).bind fun t102 => (trig_octant.l0 k t102 (wrap64 ((wrap64 (a0 * 7244019458)) + (wrap64 (Int.tdiv (wrap64 (a0 * 77122842)) 1000000000)))) 1152921504606846976 (wrap64 ((wrap64 (a0 * 7244019458)) + (wrap64 (Int.tdiv (wrap64 (a0 * 77122842)) 1000000000)))) 1152921504606846976 1)
theorem trig_octant.mono_l : ∀ k, (∀ y0 y1 y2 y3 y4 y5, LeO (trig_octant.l0 k y0 y1 y2 y3 y4 y5) (trig_octant.l0 (k + 1) y0 y1 y2 y3 y4 y5))
  | 0 => fun _ _ _ _ _ _ r h => by simp [trig_octant.l0] at h
  | k + 1 => by
    have ih0 := trig_octant.mono_l k
    · intro y0 y1 y2 y3 y4 y5
      unfold trig_octant.l0
      repeat' first
      | (with_reducible exact ih0 _ _ _ _ _ _)
      | (with_reducible exact LeO.refl _)
      | (with_reducible exact LeO.none _)
      | (with_reducible refine LeO.ite ?_ ?_)
      | (with_reducible refine LeO.bind ?_ (fun _ => ?_))
      | exact ih0 _ _ _ _ _ _
      | exact LeO.none _
      | refine LeO.ite ?_ ?_
      | refine LeO.bind ?_ (fun _ => ?_)
theorem trig_octant.mono : ∀ a0 k, LeO (trig_octant.f k a0) (trig_octant.f (k + 1) a0) := by
  intro a0 k
  have ih0 := trig_octant.mono_l k
  unfold trig_octant.f
  repeat' first
      | (with_reducible exact ih0 _ _ _ _ _ _)
      | (with_reducible exact LeO.refl _)
      | (with_reducible exact LeO.none _)
      | (with_reducible refine LeO.ite ?_ ?_)
      | (with_reducible refine LeO.bind ?_ (fun _ => ?_))
      | exact ih0 _ _ _ _ _ _
      | exact LeO.none _
      | refine LeO.ite ?_ ?_
      | refine LeO.bind ?_ (fun _ => ?_)

/-! ### the Lean function trig_rounded: function 56 -/
def trig_rounded.f (a0 : Int) : Option (Int × Int) := some (mx (-1000000000) (wrap64 (((wrap64 ((wrap64 ((a0 / 1073741824) * 1000000000)) + ((wrap64 ((Go.bits .and .i64 a0 1073741823) * 1000000000)) / 1073741824))) / 1073741824) - 1)), mn 1000000000 (wrap64 (((wrap64 ((wrap64 ((a0 / 1073741824) * 1000000000)) + ((wrap64 ((Go.bits .and .i64 a0 1073741823) * 1000000000)) / 1073741824))) / 1073741824) + 2)))

/-! ### the Lean function trig_minus: function 57 -/
def trig_minus.f (a0_0 : Int) (a0_1 : Int) : Option (Int × Int) := some (wrap64 (-a0_1), wrap64 (-a0_0))

/-! ### the Lean function trig_Sin: function 34 -/
def trig_Sin.j0 : Nat → Int → Int → Int → Option (Int × Int × Int)
  | 0, _, _, _ => none
  | k + 1, x4, x6, x7 => if x4 = 0 then ((trig_rounded.f x6).bind fun bt115 => (some (bt115.1, bt115.2, 0))) else (if x4 = 1 then ((trig_rounded.f x7).bind fun bt117 => (some (bt117.1, bt117.2, 0))) else (if x4 = 2 then ((trig_rounded.f x6).bind fun bt119 => ((trig_minus.f bt119.1 bt119.2).bind fun bt121 => (some (bt121.1, bt121.2, 0)))) else ((trig_rounded.f x7).bind fun bt123 => ((trig_minus.f bt123.1 bt123.2).bind fun bt125 => (some (bt125.1, bt125.2, 0))))))
def trig_Sin.f (k : Nat) (a0 : Int) : Option (Int × Int × Int) := (trig_out.f a0).bind fun t109 => (if t109 = true then (some (0, 0, 3)) else ((trig_Reduced.f a0).bind fun t110 => (if (Int.tmod t110 250000000) ≤ 125000000 then ((trig_octant.f k (Int.tmod t110 250000000)).bind fun bt111 => (trig_Sin.j0 k (wrap64 (Int.tdiv t110 250000000)) bt111.1 bt111.2)) else ((trig_octant.f k (wrap64 (250000000 - (Int.tmod t110 250000000)))).bind fun bt113 => (trig_Sin.j0 k (wrap64 (Int.tdiv t110 250000000)) bt113.2 bt113.1)))))
theorem trig_Sin.mono_l : ∀ k, (∀ y0 y1 y2, LeO (trig_Sin.j0 k y0 y1 y2) (trig_Sin.j0 (k + 1) y0 y1 y2))
  | 0 => fun _ _ _ r h => by simp [trig_Sin.j0] at h
  | k + 1 => by
    have ih0 := trig_Sin.mono_l k
    · intro y0 y1 y2
      unfold trig_Sin.j0
      repeat' first
      | (with_reducible exact ih0 _ _ _)
      | (with_reducible exact trig_octant.mono _ _)
      | (with_reducible exact LeO.refl _)
      | (with_reducible exact LeO.none _)
      | (with_reducible refine LeO.ite ?_ ?_)
      | (with_reducible refine LeO.bind ?_ (fun _ => ?_))
      | exact ih0 _ _ _
      | exact trig_octant.mono _ _
      | exact LeO.none _
      | refine LeO.ite ?_ ?_
      | refine LeO.bind ?_ (fun _ => ?_)
theorem trig_Sin.mono : ∀ a0 k, LeO (trig_Sin.f k a0) (trig_Sin.f (k + 1) a0) := by
  intro a0 k
  have ih0 := trig_Sin.mono_l k
  unfold trig_Sin.f
  repeat' first
      | (with_reducible exact ih0 _ _ _)
      | (with_reducible exact trig_octant.mono _ _)
      | (with_reducible exact LeO.refl _)
      | (with_reducible exact LeO.none _)
      | (with_reducible refine LeO.ite ?_ ?_)
      | (with_reducible refine LeO.bind ?_ (fun _ => ?_))
      | exact ih0 _ _ _
      | exact trig_octant.mono _ _
      | exact LeO.none _
      | refine LeO.ite ?_ ?_
      | refine LeO.bind ?_ (fun _ => ?_)

/-! ### the Lean function trig_Cos: function 41 -/
def trig_Cos.f (k : Nat) (a0 : Int) : Option (Int × Int × Int) := (trig_out.f a0).bind fun t128 => (if t128 = true then (some (0, 0, 3)) else ((trig_Reduced.f a0).bind fun t129 => ((trig_Sin.f k (wrap64 (t129 + 250000000))).bind fun bt130 => (some (bt130.1, bt130.2.1, bt130.2.2)))))
theorem trig_Cos.mono : ∀ a0 k, LeO (trig_Cos.f k a0) (trig_Cos.f (k + 1) a0) := by
  intro a0 k
  unfold trig_Cos.f
  repeat' first
      | (with_reducible exact trig_Sin.mono _ _)
      | (with_reducible exact LeO.refl _)
      | (with_reducible exact LeO.none _)
      | (with_reducible refine LeO.ite ?_ ?_)
      | (with_reducible refine LeO.bind ?_ (fun _ => ?_))
      | exact trig_Sin.mono _ _
      | exact LeO.none _
      | refine LeO.ite ?_ ?_
      | refine LeO.bind ?_ (fun _ => ?_)

/-! ### the Lean function interval_out: function 61 -/
def interval_out.f (a0 : Int) : Option (Bool) := if a0 < (-1000000000000000000) then (some true) else (some (decide (a0 > 1000000000000000000)))

/-! ### the Lean function interval_Check: function 46 -/
def interval_Check.j0 : Nat → Bool → Int → Int → Option (Int)
  | 0, _, _, _ => none
  | k + 1, x10, x134000, x134001 => if x10 = true then (some 3) else (if x134000 > x134001 then (some 9) else (some 0))
def interval_Check.f (k : Nat) (a0_0 : Int) (a0_1 : Int) : Option (Int) := (interval_out.f a0_0).bind fun t134 => (if t134 = true then (interval_Check.j0 k true a0_0 a0_1) else ((interval_out.f a0_1).bind fun t135 => (interval_Check.j0 k t135 a0_0 a0_1)))
theorem interval_Check.mono_l : ∀ k, (∀ y0 y1 y2, LeO (interval_Check.j0 k y0 y1 y2) (interval_Check.j0 (k + 1) y0 y1 y2))
  | 0 => fun _ _ _ r h => by simp [interval_Check.j0] at h
  | k + 1 => by
    have ih0 := interval_Check.mono_l k
    · intro y0 y1 y2
      unfold interval_Check.j0
      repeat' first
      | (with_reducible exact ih0 _ _ _)
      | (with_reducible exact LeO.refl _)
      | (with_reducible exact LeO.none _)
      | (with_reducible refine LeO.ite ?_ ?_)
      | (with_reducible refine LeO.bind ?_ (fun _ => ?_))
      | exact ih0 _ _ _
      | exact LeO.none _
      | refine LeO.ite ?_ ?_
      | refine LeO.bind ?_ (fun _ => ?_)
theorem interval_Check.mono : ∀ a0 a1 k, LeO (interval_Check.f k a0 a1) (interval_Check.f (k + 1) a0 a1) := by
  intro a0 a1 k
  have ih0 := interval_Check.mono_l k
  unfold interval_Check.f
  repeat' first
      | (with_reducible exact ih0 _ _ _)
      | (with_reducible exact LeO.refl _)
      | (with_reducible exact LeO.none _)
      | (with_reducible refine LeO.ite ?_ ?_)
      | (with_reducible refine LeO.bind ?_ (fun _ => ?_))
      | exact ih0 _ _ _
      | exact LeO.none _
      | refine LeO.ite ?_ ?_
      | refine LeO.bind ?_ (fun _ => ?_)

/-! ### the Lean function interval_abs: function 62 -/
def interval_abs.f (a0 : Int) : Option (Int) := if a0 < 0 then (some (wrap64 (-a0))) else (some a0)

/-! ### the Lean function interval_part: function 47 -/
def interval_part.j0 : Nat → Int → Int → Int → Int → Bool → Option (Int × Bool)
  | 0, _, _, _, _, _ => none
  | k + 1, x0, x1, x2, x8, x21 => if x21 = true then (some (0, false)) else ((interval_Floor.f (wrap64 ((wrap64 (x0 - (wrap64 (x8 * x2)))) * x1)) x2).bind fun t138 => ((interval_out.f (wrap64 ((wrap64 (x8 * x1)) + t138))).bind fun t139 => (some (wrap64 ((wrap64 (x8 * x1)) + t138), !t139))))
def interval_part.f (k : Nat) (a0 : Int) (a1 : Int) (a2 : Int) : Option (Int × Bool) := (interval_Floor.f a0 a2).bind fun t136 => (if a1 = 0 then (interval_part.j0 k a0 a1 a2 t136 false) else ((interval_abs.f t136).bind fun t137 => (interval_part.j0 k a0 a1 a2 t136 (decide (t137 > (wrap64 (Int.tdiv (2000000000000000000 : Int) a1)))))))
theorem interval_part.mono_l : ∀ k, (∀ y0 y1 y2 y3 y4, LeO (interval_part.j0 k y0 y1 y2 y3 y4) (interval_part.j0 (k + 1) y0 y1 y2 y3 y4))
  | 0 => fun _ _ _ _ _ r h => by simp [interval_part.j0] at h
  | k + 1 => by
    have ih0 := interval_part.mono_l k
    · intro y0 y1 y2 y3 y4
      unfold interval_part.j0
      repeat' first
      | (with_reducible exact ih0 _ _ _ _ _)
      | (with_reducible exact LeO.refl _)
      | (with_reducible exact LeO.none _)
      | (with_reducible refine LeO.ite ?_ ?_)
      | (with_reducible refine LeO.bind ?_ (fun _ => ?_))
      | exact ih0 _ _ _ _ _
      | exact LeO.none _
      | refine LeO.ite ?_ ?_
      | refine LeO.bind ?_ (fun _ => ?_)
theorem interval_part.mono : ∀ a0 a1 a2 k, LeO (interval_part.f k a0 a1 a2) (interval_part.f (k + 1) a0 a1 a2) := by
  intro a0 a1 a2 k
  have ih0 := interval_part.mono_l k
  unfold interval_part.f
  repeat' first
      | (with_reducible exact ih0 _ _ _ _ _)
      | (with_reducible exact LeO.refl _)
      | (with_reducible exact LeO.none _)
      | (with_reducible refine LeO.ite ?_ ?_)
      | (with_reducible refine LeO.bind ?_ (fun _ => ?_))
      | exact ih0 _ _ _ _ _
      | exact LeO.none _
      | refine LeO.ite ?_ ?_
      | refine LeO.bind ?_ (fun _ => ?_)

/-! ### the Lean function interval_Scale: function 21 -/
def interval_Scale.lo (a0_0 a0_1 a1 a2 : Int) : Int := if a1 < 0 then (-a0_1) * (-a1) / a2 else a0_0 * a1 / a2
def interval_Scale.hi (a0_0 a0_1 a1 a2 : Int) : Int := if a1 < 0 then -(a0_0 * (-a1) / a2) else -((-a0_1) * a1 / a2)
def ScaleOk (a0_0 a0_1 a1 a2 : Int) : Prop := InR a0_0 ∧ a0_0 ≤ a0_1 ∧ InR a0_1 ∧ -1000000000 ≤ a1 ∧ a1 ≤ 1000000000 ∧ 1 ≤ a2 ∧ a2 ≤ 1000000000 ∧ InR (interval_Scale.lo a0_0 a0_1 a1 a2) ∧ InR (interval_Scale.hi a0_0 a0_1 a1 a2)
instance (a b c d : Int) : Decidable (ScaleOk a b c d) := inferInstanceAs (Decidable (_ ∧ _ ∧ _ ∧ _ ∧ _ ∧ _ ∧ _ ∧ _ ∧ _))
def interval_Scale.f (a0_0 : Int) (a0_1 : Int) (a1 : Int) (a2 : Int) : Option (Int × Int × Int) :=
  if ScaleOk a0_0 a0_1 a1 a2 then some (interval_Scale.lo a0_0 a0_1 a1 a2, interval_Scale.hi a0_0 a0_1 a1 a2, 0) else none
theorem sfloor_ {a b : Int} (hb : 0 < b) (hb' : b ≤ 9000000000000000000) (ha : -9000000000000000000 ≤ a) (ha' : a ≤ 9000000000000000000) : interval_Floor.f a b = some (a / b) := by
  have e := Int.emod_add_mul_ediv a b
  have m0 := Int.emod_nonneg a (show b ≠ 0 by omega)
  have m1 := Int.emod_lt_of_pos a hb
  unfold interval_Floor.f
  rw [if_neg (by omega)]
  rcases Int.le_total 0 a with h0 | h0
  · have d0 : 0 ≤ a / b := Int.ediv_nonneg h0 (by omega)
    have d1 : a / b ≤ a := Int.ediv_le_self _ h0
    rw [Int.tdiv_eq_ediv_of_nonneg h0, wrap_in_ (n := a / b) (by omega) (by omega), decide_eq_false (show ¬ a < 0 by omega), decide_eq_false (show ¬ b < 0 by omega)]
    simp
  · have hm : Int.tmod a b = -((-a) % b) := by rw [← Int.tmod_eq_emod_of_nonneg (by omega), Int.neg_tmod, Int.neg_neg]
    have hd : Int.tdiv a b = -((-a) / b) := by rw [← Int.tdiv_eq_ediv_of_nonneg (by omega), Int.neg_tdiv, Int.neg_neg]
    have e' := Int.emod_add_mul_ediv (-a) b
    have m0' := Int.emod_nonneg (-a) (show b ≠ 0 by omega)
    have m1' := Int.emod_lt_of_pos (-a) hb
    have d0 : 0 ≤ (-a) / b := Int.ediv_nonneg (by omega) (by omega)
    have d1 : (-a) / b ≤ -a := Int.ediv_le_self _ (by omega)
    rw [hm, hd, wrap_in_ (n := -((-a) / b)) (by omega) (by omega)]
    clear hm hd e m0 m1
    generalize (-a) / b = q at *
    generalize (-a) % b = m at *
    have n1 : b * (-q) = -(b * q) := Int.mul_neg b q
    have bq : 0 ≤ b * q := Int.mul_nonneg (by omega) d0
    have n2 : b * (-q - 1) = -(b * q) - b := by rw [Int.mul_sub, n1, Int.mul_one]
    by_cases z : m = 0
    · rw [if_pos (by omega)]
      congr 1
      rw [show a = b * (-q) by omega, Int.mul_ediv_cancel_left _ (by omega)]
    · rw [if_neg (by omega), decide_eq_true (show a < 0 by omega), decide_eq_false (show ¬ b < 0 by omega), wrap_in_ (by omega) (by omega)]
      simp only [Bool.true_bne, Bool.not_false, if_true]
      congr 1
      rw [show a = (b - m) + b * (-q - 1) by omega, Int.add_mul_ediv_left _ _ (by omega), Int.ediv_eq_zero_of_lt (by omega) (by omega)]; omega
theorem part_f_ {n m d : Int} (h1 : InR n) (h2 : 0 ≤ m) (h3 : m ≤ 1000000000) (h4 : 1 ≤ d) (h5 : d ≤ 1000000000) (h6 : InR (n * m / d)) : interval_part.f 1 n m d = some (n * m / d, true) := by
  obtain ⟨a1, a2⟩ := h1
  obtain ⟨b1, b2⟩ := h6
  have e := Int.emod_add_mul_ediv n d
  have m0 := Int.emod_nonneg n (show d ≠ 0 by omega)
  have m1 := Int.emod_lt_of_pos n (show 0 < d by omega)
  have q1 : n / d ≤ 1000000000000000000 := Int.ediv_le_of_le_mul (by omega) (by have : 1000000000000000000 * 1 ≤ 1000000000000000000 * d := Int.mul_le_mul_of_nonneg_left h4 (by omega); omega)
  have q0 : -1000000000000000000 ≤ n / d := Int.le_ediv_of_mul_le (by omega) (by have : 1000000000000000000 * 1 ≤ 1000000000000000000 * d := Int.mul_le_mul_of_nonneg_left h4 (by omega); rw [Int.neg_mul]; omega)
  -- the two parts of the quotient
  have key : n / d * m + (n - n / d * d) * m / d = n * m / d := by
    have : n * m = (n - n / d * d) * m + (n / d * m) * d := by
      rw [Int.sub_mul, Int.mul_right_comm (n / d) d m]; omega
    rw [this, Int.add_mul_ediv_right _ _ (by omega)]; omega
  have r : n - n / d * d = n % d := by rw [Int.mul_comm (n / d) d]; omega
  have p0 : 0 ≤ (n - n / d * d) * m := by rw [r]; exact Int.mul_nonneg m0 h2
  have p1 : (n - n / d * d) * m ≤ d * m := by rw [r]; exact Int.mul_le_mul_of_nonneg_right (by omega) h2
  have p2 : d * m ≤ 1000000000 * m := Int.mul_le_mul_of_nonneg_right h5 h2
  have t0 : 0 ≤ (n - n / d * d) * m / d := Int.ediv_nonneg p0 (by omega)
  have t1 : (n - n / d * d) * m / d ≤ m := Int.ediv_le_of_le_mul (by omega) (by rw [Int.mul_comm m d]; exact p1)
  have w1 : n / d * d = n - n % d := by omega
  unfold interval_part.f
  rw [sfloor_ (by omega) (by omega) (by omega) (by omega)]
  simp only [Option.bind_some]
  have last : interval_part.j0 1 n m d (n / d) false = some (n * m / d, true) := by
    simp only [interval_part.j0, Bool.false_eq_true, if_false]
    rw [wrap_in_ (n := n / d * d) (by omega) (by omega), wrap_in_ (n := n - n / d * d) (by omega) (by omega), wrap_in_ (n := (n - n / d * d) * m) (by omega) (by omega), sfloor_ (by omega) (by omega) (by omega) (by omega)]
    simp only [Option.bind_some]
    rw [wrap_in_ (n := n / d * m) (by omega) (by omega), key, wrap_in_ (n := n * m / d) (by omega) (by omega)]
    unfold interval_out.f
    rw [if_neg (by omega), decide_eq_false (by omega)]
    rfl
  by_cases z : m = 0
  · rw [if_pos z]; exact last
  · rw [if_neg z]
    have ab : interval_abs.f (n / d) = some (if n / d < 0 then -(n / d) else n / d) := by
      unfold interval_abs.f
      split
      · rw [wrap_in_ (by omega) (by omega)]
      · rfl
    rw [ab]
    simp only [Option.bind_some]
    have le : (if n / d < 0 then -(n / d) else n / d) ≤ Int.tdiv 2000000000000000000 m := by
      rw [Int.tdiv_eq_ediv_of_nonneg (by omega)]
      refine Int.le_ediv_of_mul_le (by omega) ?_
      split
      · rw [Int.neg_mul]; omega
      · omega
    have up : Int.tdiv 2000000000000000000 m ≤ 2000000000000000000 := by
      rw [Int.tdiv_eq_ediv_of_nonneg (by omega)]; exact Int.ediv_le_self _ (by omega)
    have lo : 0 ≤ Int.tdiv 2000000000000000000 m := by
      rw [Int.tdiv_eq_ediv_of_nonneg (by omega)]; exact Int.ediv_nonneg (by omega) h2
    rw [wrap_in_ (by omega) (by omega), decide_eq_false (by omega)]
    exact last

/-! ### the Lean function interval_both: function 43 -/
def interval_both.f (k : Nat) (a0_0 : Int) (a0_1 : Int) (a1_0 : Int) (a1_1 : Int) : Option (Int) := (interval_Check.f k a0_0 a0_1).bind fun t142 => (if t142 = 0 then ((interval_Check.f k a1_0 a1_1).bind fun t143 => (some t143)) else (some t142))
theorem interval_both.mono : ∀ a0 a1 a2 a3 k, LeO (interval_both.f k a0 a1 a2 a3) (interval_both.f (k + 1) a0 a1 a2 a3) := by
  intro a0 a1 a2 a3 k
  unfold interval_both.f
  repeat' first
      | (with_reducible exact interval_Check.mono _ _ _)
      | (with_reducible exact LeO.refl _)
      | (with_reducible exact LeO.none _)
      | (with_reducible refine LeO.ite ?_ ?_)
      | (with_reducible refine LeO.bind ?_ (fun _ => ?_))
      | exact interval_Check.mono _ _ _
      | exact LeO.none _
      | refine LeO.ite ?_ ?_
      | refine LeO.bind ?_ (fun _ => ?_)

/-! ### the Lean function interval_Ceil: function 49 -/
def interval_Ceil.f (a0 : Int) (a1 : Int) : Option (Int) := (interval_Floor.f (wrap64 (-a0)) a1).bind fun t144 => (some (wrap64 (-t144)))

/-! ### the Lean function interval_Div: function 22 -/
section
variable {P : Program} {ops : Array Oper} {Q : Exit → Act → World → Prop} {md : Region.Mode}
/-- as 'wpAny', with a condition on the world that hangs on which operations have come up -/
def wpAnyL (P : Program) (md : Region.Mode) (ops : Array Oper) (Q : Exit → Act → World → Prop) (S : Array Bool → World → Prop) : Nat → Array Bool → Act → World → Prop
  | 0, l, a, w => Region.ready md ops l = [] ∧ Q .normal a w
  | f + 1, l, a, w => (Region.ready md ops l = [] → Q .normal a w) ∧
      ∀ i ∈ Region.ready md ops l, wpOp P ops Q i (fun a' w' => S (l.setIfInBounds i true) w' ∧ wpAnyL P md ops Q S f (l.setIfInBounds i true) a' w') a w
theorem wpAnyL_any {S : Array Bool → World → Prop} : ∀ (f : Nat) (l : Array Bool) (a : Act) (w : World), wpAnyL P md ops Q S f l a w → wpAny P md ops Q f l a w
  | 0, _, _, _, h => h
  | f + 1, _, _, _, h => ⟨h.1, fun i hi => wpOp_mono (fun a' w' g => wpAnyL_any f _ a' w' g.2) (h.2 i hi)⟩
/-- number i is taken first: it yields v in every world that meets S while number n has not come up, and n waits for i (or is i) -/
theorem wpAnyL_first {S : Array Bool → World → Prop} {S1 : World → Prop} {i n : Nat} {oi : Oper} {v : Value} (hi : ops[i]? = some oi) (hsel : Region.noSelect ops = true)
    (hQ : ∀ c a w, Q (.panic c) (a.put oi.dst v) w → Q (.panic c) a w)
    (hset : ∀ l w, S (l.setIfInBounds i true) w → S l w)
    (hS1 : ∀ l w, l.getD n false = false → S l w → S1 w)
    (hn : n = i ∨ ∃ on, ops[n]? = some on ∧ ∃ e ∈ on.after, Region.binds md e = true ∧ e.on = i) :
    ∀ (f : Nat) (l : Array Bool) (a : Act) (w : World),
      (∀ j oj, ops[j]? = some oj → j ≠ i → l.getD j true = false → (∀ e ∈ oj.after, Region.binds md e = true → e.on ≠ i) → oi.apart ops oj = true) →
      i ∈ Region.ready md ops l → l.getD n false = false → YieldsIf P ops S1 oi v a → S l w →
      wpAnyL P md ops Q S f (l.setIfInBounds i true) (a.put oi.dst v) w → S (l.setIfInBounds i true) w → wpAnyL P md ops Q S (f + 1) l a w := by
  have hsel' := Region.noSelect_spec hsel
  intro f
  induction f with
  | zero =>
    intro l a w _ hr hun hy hS H hS'
    refine ⟨fun h => (by rw [h] at hr; cases hr), fun j hj => ?_⟩
    by_cases hji : j = i
    · subst hji; exact hy.wpOp hi (hS1 l w hun hS) ⟨hS', H⟩
    · have h0 := ready_mono hj hji
      rw [H.1] at h0; cases h0
  | succ f ih =>
    intro l a w hfree hr hun hy hS H hS'
    refine ⟨fun h => (by rw [h] at hr; cases hr), fun j hj => ?_⟩
    by_cases hji : j = i
    · subst hji; exact hy.wpOp hi (hS1 l w hun hS) ⟨hS', H⟩
    · obtain ⟨hjun, oj, hoj, hall⟩ := mem_ready.1 hj
      have nolist : l.getD i false = false := by
        have h0 := (mem_ready.1 hr).1
        rcases Nat.lt_or_ge i l.size with h' | h'
        · simpa [h'] using h0
        · simp [Array.getElem?_eq_none h'] at h0
      have hnot : ∀ e ∈ oj.after, Region.binds md e = true → e.on ≠ i := fun e he hb heq => by
        have h1 := hall e he hb
        rw [heq, nolist] at h1; cases h1
      have jn : j ≠ n := by
        rintro rfl
        rcases hn with rfl | ⟨on, hon, e, he, hb, heq⟩
        · exact hji rfl
        · rw [hoj] at hon; cases hon; exact hnot e he hb heq
      refine wpOp_mono (fun a' w' g => ?_) (wpOp_putIf hoj (hfree j oj hoj hji hjun hnot) (fun cs b => hsel' i oi cs b hi) (fun cs b => hsel' j oj cs b hoj) hQ hy (H.2 j (ready_mono hj hji)))
      obtain ⟨g1, g2, g3⟩ := g
      rw [Array.setIfInBounds_comm _ _ (Ne.symm hji)] at g2 g3
      have g4 : S (l.setIfInBounds j true) w' := hset _ _ g2
      refine ⟨g4, ih _ a' w' (fun k ok hk hki hkun hno => hfree k ok hk hki ?_ hno) (ready_mono hr (Ne.symm hji)) (by rw [getD_set_ne false jn]; exact hun) g1 g4 g3 g2⟩
      by_cases hjk : j = k
      · subst hjk; exact hjun
      · rw [getD_set_ne true hjk] at hkun; exact hkun
theorem wpAnyL_ready {S : Array Bool → World → Prop} {rs : List Nat} {f : Nat} {l : Array Bool} {a : Act} {w : World} (hr : Region.ready md ops l = rs) (hne : rs ≠ [])
    (h : ∀ i ∈ rs, wpOp P ops Q i (fun a' w' => S (l.setIfInBounds i true) w' ∧ wpAnyL P md ops Q S f (l.setIfInBounds i true) a' w') a w) : wpAnyL P md ops Q S (f + 1) l a w :=
  ⟨fun h0 => absurd (hr ▸ h0) hne, hr ▸ h⟩
end
section
variable {P : Program} {ops : Array Oper} {Q : Exit → Act → World → Prop} {md : Region.Mode}
def SAfter (n : Nat) (B C : World → Prop) (l : Array Bool) (w : World) : Prop := B w ∧ (l.getD n false = false → C w)
/-- n waits for i -/
def waitsFor (md : Region.Mode) (ops : Array Oper) (n i : Nat) : Bool := match ops[n]? with | some o => o.after.any (fun e => Region.binds md e && e.on == i) | none => false
theorem wpAnyL_takeB {n : Nat} {B C : World → Prop} {i : Nat} {oi : Oper} {v : Value} {f : Nat} {l : Array Bool} {a : Act} {w : World} (hi : ops[i]? = some oi) (hsel : Region.noSelect ops = true)
    (hf : Region.free md ops l i = true) (hr : (Region.ready md ops l).contains i = true) (hin : (i == n) = false)
    (hQ : ∀ c a w, Q (.panic c) (a.put oi.dst v) w → Q (.panic c) a w) (hy : YieldsIf P ops B oi v a) (hS : SAfter n B C l w)
    (h : SAfter n B C (l.setIfInBounds i true) w → wpAnyL P md ops Q (SAfter n B C) f (l.setIfInBounds i true) (a.put oi.dst v) w) : wpAnyL P md ops Q (SAfter n B C) (f + 1) l a w := by
  have hne : i ≠ n := by simpa using hin
  have hr' : i ∈ Region.ready md ops l := by simpa using hr
  have un : l.getD i false = false := by
    have h0 := (mem_ready.1 hr').1
    rcases Nat.lt_or_ge i l.size with h' | h'
    · simpa [h'] using h0
    · simp [Array.getElem?_eq_none h'] at h0
  have hs : SAfter n B C (l.setIfInBounds i true) w := ⟨hS.1, fun g => hS.2 (by rwa [getD_set_ne false hne] at g)⟩
  exact wpAnyL_first (S1 := B) (n := i) hi hsel hQ (fun l w g => ⟨g.1, fun k => g.2 (by rw [getD_set_ne false hne]; exact k)⟩) (fun _ _ _ g => g.1) (.inl rfl) f l a w (Region.free_spec hi hf) hr' un hy hS (h hs) hs
theorem wpAnyL_takeC {n : Nat} {B C : World → Prop} {i : Nat} {oi : Oper} {v : Value} {f : Nat} {l : Array Bool} {a : Act} {w : World} (hi : ops[i]? = some oi) (hsel : Region.noSelect ops = true)
    (hf : Region.free md ops l i = true) (hr : (Region.ready md ops l).contains i = true) (hin : (i == n) = false) (hwf : waitsFor md ops n i = true) (hun : l.getD n false = false)
    (hQ : ∀ c a w, Q (.panic c) (a.put oi.dst v) w → Q (.panic c) a w) (hy : YieldsIf P ops (fun w => B w ∧ C w) oi v a) (hS : SAfter n B C l w)
    (h : SAfter n B C (l.setIfInBounds i true) w → wpAnyL P md ops Q (SAfter n B C) f (l.setIfInBounds i true) (a.put oi.dst v) w) : wpAnyL P md ops Q (SAfter n B C) (f + 1) l a w := by
  have hne : i ≠ n := by simpa using hin
  have hr' : i ∈ Region.ready md ops l := by simpa using hr
  have hs : SAfter n B C (l.setIfInBounds i true) w := ⟨hS.1, fun g => hS.2 (by rwa [getD_set_ne false hne] at g)⟩
  refine wpAnyL_first (S1 := fun w => B w ∧ C w) (n := n) hi hsel hQ (fun l w g => ⟨g.1, fun k => g.2 (by rw [getD_set_ne false hne]; exact k)⟩) (fun _ _ k g => ⟨g.1, g.2 k⟩) (.inr ?_) f l a w (Region.free_spec hi hf) hr' hun hy hS (h hs) hs
  unfold waitsFor at hwf
  split at hwf
  · rename_i o ho
    refine ⟨o, ho, ?_⟩
    simp only [Array.any_eq_true', Bool.and_eq_true, beq_iff_eq] at hwf
    obtain ⟨e, he, h1, h2⟩ := hwf
    exact ⟨e, he, h1, h2⟩
  · cases hwf
theorem wpAnyL_only {n : Nat} {B C : World → Prop} {i : Nat} {oi : Oper} {f : Nat} {l : Array Bool} {a : Act} {w : World} (hi : ops[i]? = some oi) (hr : Region.ready md ops l = [i])
    (h : ∀ K' : Act → World → Prop, Shut (∀ a w, SAfter n B C (l.setIfInBounds i true) w → (SAfter n B C (l.setIfInBounds i true) w → wpAnyL P md ops Q (SAfter n B C) f (l.setIfInBounds i true) a w) → K' a w) →
      if Region.wanted oi (yielded ops a.tmps) = true then Oper.wp P oi a w K' Q else K' (a.put oi.dst undef) w) : wpAnyL P md ops Q (SAfter n B C) (f + 1) l a w := by
  refine wpAnyL_ready hr (by simp) fun j hj => ?_
  obtain rfl : j = i := by simpa using hj
  exact wpOp_step hi fun K' hK => h K' (fun a w hS hW => hK a w ⟨hS, hW hS⟩)
theorem wpAnyL_done {S : Array Bool → World → Prop} {l : Array Bool} {a : Act} {w : World} (hr : Region.ready md ops l = []) (h : Q .normal a w) : ∀ f, wpAnyL P md ops Q S f l a w
  | 0 => ⟨hr, h⟩
  | _ + 1 => ⟨fun _ => h, by rw [hr]; simp⟩
theorem wp_region_anyL {n : Nat} {B C : World → Prop} {id : Nat} {a : Act} {w : World} (hm : P.follows .mixedOrders = true) (hB : B w.drew) (hC : C w.drew)
    (h : SAfter n B C (Array.replicate ops.size false) w.drew → wpAnyL P .any ops Q (SAfter n B C) ops.size (Array.replicate ops.size false) a w.drew) : (Code.region id ops true).wp P Q a w :=
  wp_region_any hm (wpAnyL_any _ _ _ _ (h ⟨hB, fun _ => hC⟩))
end

/-- a quotient rounded down, for a divisor of either sign -/
def flr (x y : Int) : Int := if 0 < y then x / y else (-x) / (-y)
/-- rounded up -/
def clg (x y : Int) : Int := -(flr (-x) y)
def interval_Div.P (a b c d : Int) : Nat → Int × Int
  | 0 => (a, d)
  | 1 => (b, c)
  | _ => (b, d)
def interval_Div.L (a b c d : Int) : Nat → Int
  | 0 => flr a c
  | k + 1 => if flr (interval_Div.P a b c d k).1 (interval_Div.P a b c d k).2 < interval_Div.L a b c d k then flr (interval_Div.P a b c d k).1 (interval_Div.P a b c d k).2 else interval_Div.L a b c d k
def interval_Div.H (a b c d : Int) : Nat → Int
  | 0 => clg a c
  | k + 1 => if interval_Div.H a b c d k < clg (interval_Div.P a b c d k).1 (interval_Div.P a b c d k).2 then clg (interval_Div.P a b c d k).1 (interval_Div.P a b c d k).2 else interval_Div.H a b c d k
def DivOk (a0_0 a0_1 a1_0 a1_1 : Int) : Prop := InR a0_0 ∧ a0_0 ≤ a0_1 ∧ InR a0_1 ∧ InR a1_0 ∧ a1_0 ≤ a1_1 ∧ InR a1_1
instance (a b c d : Int) : Decidable (DivOk a b c d) := inferInstanceAs (Decidable (_ ∧ _ ∧ _ ∧ _ ∧ _ ∧ _))
def interval_Div.f (a0_0 : Int) (a0_1 : Int) (a1_0 : Int) (a1_1 : Int) : Option (Int × Int × Int) :=
  if DivOk a0_0 a0_1 a1_0 a1_1 then (if a1_0 ≤ 0 ∧ 0 ≤ a1_1 then some (0, 0, 1) else some (interval_Div.L a0_0 a0_1 a1_0 a1_1 3, interval_Div.H a0_0 a0_1 a1_0 a1_1 3, 0)) else none
theorem flr_mul_ {x y : Int} (hy : y ≠ 0) : Int.tdiv x y * 1 = Int.tdiv x y := Int.mul_one _
theorem floor_any_ {a b : Int} (hb : b ≠ 0) (hb1 : -9000000000000000000 ≤ b) (hb2 : b ≤ 9000000000000000000) (ha : -9000000000000000000 ≤ a) (ha' : a ≤ 9000000000000000000) : interval_Floor.f a b = some (flr a b) ∧ -9000000000000000001 ≤ flr a b ∧ flr a b ≤ 9000000000000000001 := by
  have pos : ∀ a b : Int, 0 < b → b ≤ 9000000000000000000 → -9000000000000000000 ≤ a → a ≤ 9000000000000000000 → interval_Floor.f a b = some (a / b) ∧ -9000000000000000001 ≤ a / b ∧ a / b ≤ 9000000000000000001 := by
    intro a b hb hb' ha ha'
    have e := Int.emod_add_mul_ediv a b
    have m0 := Int.emod_nonneg a (show b ≠ 0 by omega)
    have m1 := Int.emod_lt_of_pos a hb
    unfold interval_Floor.f
    rw [if_neg (by omega)]
    rcases Int.le_total 0 a with h0 | h0
    · have d0 : 0 ≤ a / b := Int.ediv_nonneg h0 (by omega)
      have d1 : a / b ≤ a := Int.ediv_le_self _ h0
      rw [Int.tdiv_eq_ediv_of_nonneg h0, wrap_in_ (n := a / b) (by omega) (by omega), decide_eq_false (show ¬ a < 0 by omega), decide_eq_false (show ¬ b < 0 by omega)]
      exact ⟨by simp, by omega, by omega⟩
    · have hm : Int.tmod a b = -((-a) % b) := by rw [← Int.tmod_eq_emod_of_nonneg (by omega), Int.neg_tmod, Int.neg_neg]
      have hd : Int.tdiv a b = -((-a) / b) := by rw [← Int.tdiv_eq_ediv_of_nonneg (by omega), Int.neg_tdiv, Int.neg_neg]
      have e' := Int.emod_add_mul_ediv (-a) b
      have m0' := Int.emod_nonneg (-a) (show b ≠ 0 by omega)
      have m1' := Int.emod_lt_of_pos (-a) hb
      have d0 : 0 ≤ (-a) / b := Int.ediv_nonneg (by omega) (by omega)
      have d1 : (-a) / b ≤ -a := Int.ediv_le_self _ (by omega)
      rw [hm, hd, wrap_in_ (n := -((-a) / b)) (by omega) (by omega)]
      have res : a / b = if (-a) % b = 0 then -((-a) / b) else -((-a) / b) - 1 := by
        clear hm hd e m0 m1
        generalize (-a) / b = q at *
        generalize (-a) % b = m at *
        have n1 : b * (-q) = -(b * q) := Int.mul_neg b q
        have n2 : b * (-q - 1) = -(b * q) - b := by rw [Int.mul_sub, n1, Int.mul_one]
        by_cases z : m = 0
        · rw [if_pos z, show a = b * (-q) by omega, Int.mul_ediv_cancel_left _ (by omega)]
        · rw [if_neg z, show a = (b - m) + b * (-q - 1) by omega, Int.add_mul_ediv_left _ _ (by omega), Int.ediv_eq_zero_of_lt (by omega) (by omega)]; omega
      have bq : 0 ≤ b * ((-a) / b) := Int.mul_nonneg (by omega) d0
      rw [res]
      by_cases z : (-a) % b = 0
      · rw [if_pos (by omega), if_pos z]
        exact ⟨rfl, by omega, by omega⟩
      · rw [if_neg (by omega), if_neg z, decide_eq_true (show a < 0 by omega), decide_eq_false (show ¬ b < 0 by omega), wrap_in_ (by omega) (by omega)]
        exact ⟨by simp, by omega, by omega⟩
  unfold flr
  by_cases h : 0 < b
  · rw [if_pos h]; exact pos a b h hb2 ha ha'
  · rw [if_neg h]
    obtain ⟨h1, h2, h3⟩ := pos (-a) (-b) (by omega) (by omega) (by omega) (by omega)
    refine ⟨?_, h2, h3⟩
    rw [← h1]
    unfold interval_Floor.f
    rw [if_neg hb, if_neg (show ¬ -b = 0 by omega), Int.neg_tmod, Int.tmod_neg, Int.neg_tdiv, Int.tdiv_neg, Int.neg_neg]
    by_cases z : Int.tmod a b = 0
    · rw [if_pos z, if_pos (show -(Int.tmod a b) = 0 by omega)]
    · rw [if_neg z, if_neg (show ¬ -(Int.tmod a b) = 0 by omega)]
      have e : (decide (a < 0) != decide (b < 0)) = (decide (-a < 0) != decide (-b < 0)) := by
        have a0 : a ≠ 0 := by rintro rfl; exact z (by simp)
        rw [decide_eq_true (show b < 0 by omega), decide_eq_false (show ¬ -b < 0 by omega)]
        by_cases g : a < 0
        · rw [decide_eq_true g, decide_eq_false (show ¬ -a < 0 by omega)]; rfl
        · rw [decide_eq_false g, decide_eq_true (show -a < 0 by omega)]; rfl
      rw [e]
theorem ceil_any_ {a b : Int} (hb : b ≠ 0) (hb1 : -9000000000000000000 ≤ b) (hb2 : b ≤ 9000000000000000000) (ha : -9000000000000000000 ≤ a) (ha' : a ≤ 9000000000000000000) : interval_Ceil.f a b = some (clg a b) := by
  unfold interval_Ceil.f clg
  obtain ⟨h1, h2, h3⟩ := floor_any_ (a := -a) hb hb1 hb2 (by omega) (by omega)
  rw [wrap_in_ (n := -a) (by omega) (by omega), h1]
  simp only [Option.bind_some]
  rw [wrap_in_ (by omega) (by omega)]
theorem icheck_f2_ {x y : Int} (g1 : InR x) (g2 : x ≤ y) (g3 : InR y) : interval_Check.f 1 x y = some 0 := by
  obtain ⟨a1, a2⟩ := g1
  obtain ⟨b1, b2⟩ := g3
  unfold interval_Check.f interval_out.f
  rw [if_neg (by omega), if_neg (by omega)]
  simp only [Option.bind_some, interval_Check.j0]
  rw [decide_eq_false (by omega), decide_eq_false (by omega)]
  simp only [Bool.false_eq_true, if_false]
  rw [if_neg (by omega)]
theorem both_f2_ {a b c d : Int} (h1 : InR a) (h2 : a ≤ b) (h3 : InR b) (h4 : InR c) (h5 : c ≤ d) (h6 : InR d) : interval_both.f 1 a b c d = some 0 := by
  unfold interval_both.f
  rw [icheck_f2_ h1 h2 h3, icheck_f2_ h4 h5 h6]
  rfl
theorem blk_new_at {w : World} {o : Obj} {k : Nat} (h : w.heap.size = k) : (w.alloc o).heap[k]? = some o := h ▸ blk_new w o

/-! ### the Lean function astrolabe_ratio: function 51 -/
def astrolabe_ratio.f (a0_0 : Int) (a0_1 : Int) (a1_0 : Int) (a1_1 : Int) : Option (Int × Int) := (interval_Scale.f a0_0 a0_1 1000000 1).bind fun bt148 => ((interval_Div.f bt148.1 bt148.2.1 a1_0 a1_1).bind fun bt152 => (some (bt152.1, bt152.2.1)))

/-! ### the Lean function astrolabe_plus: function 52 -/
def astrolabe_plus.f (a0_0 : Int) (a0_1 : Int) (a1_0 : Int) (a1_1 : Int) : Option (Int × Int) := some (wrap64 (a0_0 + a1_0), wrap64 (a0_1 + a1_1))

/-! ### the Lean function astrolabe_Ring: function 29 -/
def astrolabe_Ring.j0 : Nat → Int → Bool → Option (Int × Int × Int)
  | 0, _, _ => none
  | k + 1, x0, x13 => if x13 = true then (some (0, 0, 3)) else ((trig_Sin.f k x0).bind fun bt160 => ((trig_Cos.f k x0).bind fun bt164 => ((astrolabe_plus.f 1000000000 1000000000 bt160.1 bt160.2.1).bind fun bt168 => ((astrolabe_ratio.f bt164.1 bt164.2.1 bt168.1 bt168.2).bind fun bt170 => (some (bt170.1, bt170.2, 0))))))
def astrolabe_Ring.f (k : Nat) (a0 : Int) : Option (Int × Int × Int) := if a0 < (-195000000) then (astrolabe_Ring.j0 k a0 true) else (astrolabe_Ring.j0 k a0 (decide (a0 > 250000000)))
theorem astrolabe_Ring.mono_l : ∀ k, (∀ y0 y1, LeO (astrolabe_Ring.j0 k y0 y1) (astrolabe_Ring.j0 (k + 1) y0 y1))
  | 0 => fun _ _ r h => by simp [astrolabe_Ring.j0] at h
  | k + 1 => by
    have ih0 := astrolabe_Ring.mono_l k
    · intro y0 y1
      unfold astrolabe_Ring.j0
      repeat' first
      | (with_reducible exact ih0 _ _)
      | (with_reducible exact trig_Cos.mono _ _)
      | (with_reducible exact trig_Sin.mono _ _)
      | (with_reducible exact LeO.refl _)
      | (with_reducible exact LeO.none _)
      | (with_reducible refine LeO.ite ?_ ?_)
      | (with_reducible refine LeO.bind ?_ (fun _ => ?_))
      | exact ih0 _ _
      | exact trig_Cos.mono _ _
      | exact trig_Sin.mono _ _
      | exact LeO.none _
      | refine LeO.ite ?_ ?_
      | refine LeO.bind ?_ (fun _ => ?_)
theorem astrolabe_Ring.mono : ∀ a0 k, LeO (astrolabe_Ring.f k a0) (astrolabe_Ring.f (k + 1) a0) := by
  intro a0 k
  have ih0 := astrolabe_Ring.mono_l k
  unfold astrolabe_Ring.f
  repeat' first
      | (with_reducible exact ih0 _ _)
      | (with_reducible exact trig_Cos.mono _ _)
      | (with_reducible exact trig_Sin.mono _ _)
      | (with_reducible exact LeO.refl _)
      | (with_reducible exact LeO.none _)
      | (with_reducible refine LeO.ite ?_ ?_)
      | (with_reducible refine LeO.bind ?_ (fun _ => ?_))
      | exact ih0 _ _
      | exact trig_Cos.mono _ _
      | exact trig_Sin.mono _ _
      | exact LeO.none _
      | refine LeO.ite ?_ ?_
      | refine LeO.bind ?_ (fun _ => ?_)

/-! ### the Lean function astrolabe_Almucantar: function 30 -/
mutual
def astrolabe_Almucantar.j0 : Nat → Int → Int → Bool → Option (Int × Int × Int × Int × Int)
  | 0, _, _, _ => none
  | k + 1, x0, x1, x21 => if x21 = true then (some (0, 0, 0, 0, 3)) else (if x1 < 0 then (astrolabe_Almucantar.j1 k x0 x1 true) else (astrolabe_Almucantar.j1 k x0 x1 (decide (x1 > 220000000))))
def astrolabe_Almucantar.j1 : Nat → Int → Int → Bool → Option (Int × Int × Int × Int × Int)
  | 0, _, _, _ => none
  | k + 1, x0, x1, x29 => if x29 = true then (some (0, 0, 0, 0, 1)) else ((trig_Sin.f k x0).bind fun bt174 => ((trig_Cos.f k x0).bind fun bt178 => ((trig_Sin.f k x1).bind fun bt182 => ((trig_Cos.f k x1).bind fun bt186 => ((astrolabe_plus.f bt174.1 bt174.2.1 bt182.1 bt182.2.1).bind fun bt190 => ((astrolabe_ratio.f bt178.1 bt178.2.1 bt190.1 bt190.2).bind fun bt193 => ((astrolabe_ratio.f bt186.1 bt186.2.1 bt190.1 bt190.2).bind fun bt195 => (some (bt193.1, bt193.2, bt195.1, bt195.2, 0)))))))))
end
def astrolabe_Almucantar.f (k : Nat) (a0 : Int) (a1 : Int) : Option (Int × Int × Int × Int × Int) := if a0 < 10000000 then (astrolabe_Almucantar.j0 k a0 a1 true) else (astrolabe_Almucantar.j0 k a0 a1 (decide (a0 > 220000000)))
theorem astrolabe_Almucantar.mono_l : ∀ k, (∀ y0 y1 y2, LeO (astrolabe_Almucantar.j0 k y0 y1 y2) (astrolabe_Almucantar.j0 (k + 1) y0 y1 y2)) ∧ (∀ y0 y1 y2, LeO (astrolabe_Almucantar.j1 k y0 y1 y2) (astrolabe_Almucantar.j1 (k + 1) y0 y1 y2))
  | 0 => ⟨fun _ _ _ r h => by simp [astrolabe_Almucantar.j0] at h, fun _ _ _ r h => by simp [astrolabe_Almucantar.j1] at h⟩
  | k + 1 => by
    obtain ⟨ih0, ih1⟩ := astrolabe_Almucantar.mono_l k
    refine ⟨?_, ?_⟩
    · intro y0 y1 y2
      unfold astrolabe_Almucantar.j0
      repeat' first
      | (with_reducible exact ih0 _ _ _)
      | (with_reducible exact ih1 _ _ _)
      | (with_reducible exact trig_Cos.mono _ _)
      | (with_reducible exact trig_Sin.mono _ _)
      | (with_reducible exact LeO.refl _)
      | (with_reducible exact LeO.none _)
      | (with_reducible refine LeO.ite ?_ ?_)
      | (with_reducible refine LeO.bind ?_ (fun _ => ?_))
      | exact ih0 _ _ _
      | exact ih1 _ _ _
      | exact trig_Cos.mono _ _
      | exact trig_Sin.mono _ _
      | exact LeO.none _
      | refine LeO.ite ?_ ?_
      | refine LeO.bind ?_ (fun _ => ?_)
    · intro y0 y1 y2
      unfold astrolabe_Almucantar.j1
      repeat' first
      | (with_reducible exact ih0 _ _ _)
      | (with_reducible exact ih1 _ _ _)
      | (with_reducible exact trig_Cos.mono _ _)
      | (with_reducible exact trig_Sin.mono _ _)
      | (with_reducible exact LeO.refl _)
      | (with_reducible exact LeO.none _)
      | (with_reducible refine LeO.ite ?_ ?_)
      | (with_reducible refine LeO.bind ?_ (fun _ => ?_))
      | exact ih0 _ _ _
      | exact ih1 _ _ _
      | exact trig_Cos.mono _ _
      | exact trig_Sin.mono _ _
      | exact LeO.none _
      | refine LeO.ite ?_ ?_
      | refine LeO.bind ?_ (fun _ => ?_)
theorem astrolabe_Almucantar.mono : ∀ a0 a1 k, LeO (astrolabe_Almucantar.f k a0 a1) (astrolabe_Almucantar.f (k + 1) a0 a1) := by
  intro a0 a1 k
  obtain ⟨ih0, ih1⟩ := astrolabe_Almucantar.mono_l k
  unfold astrolabe_Almucantar.f
  repeat' first
      | (with_reducible exact ih0 _ _ _)
      | (with_reducible exact ih1 _ _ _)
      | (with_reducible exact trig_Cos.mono _ _)
      | (with_reducible exact trig_Sin.mono _ _)
      | (with_reducible exact LeO.refl _)
      | (with_reducible exact LeO.none _)
      | (with_reducible refine LeO.ite ?_ ?_)
      | (with_reducible refine LeO.bind ?_ (fun _ => ?_))
      | exact ih0 _ _ _
      | exact ih1 _ _ _
      | exact trig_Cos.mono _ _
      | exact trig_Sin.mono _ _
      | exact LeO.none _
      | refine LeO.ite ?_ ?_
      | refine LeO.bind ?_ (fun _ => ?_)

/-! ### the Lean function ephemeriskeep2_has: function 50 -/
def ephemeriskeep2_has.f (a0_0 : Int) (a0_1 : Int) (a1 : Int) (a2 : Int) : Option (Bool) := if a0_0 ≤ a1 then (if a1 ≤ a0_1 then (some (decide ((wrap64 (a0_1 - a0_0)) ≤ a2))) else (some false)) else (some false)

/-! ### the Lean function ephemeriskeep2_astrolabeWorks: function 28 -/
def ephemeriskeep2_astrolabeWorks.f (k : Nat)  : Option (Bool) := (astrolabe_Ring.f k 0).bind fun bt198 => ((astrolabe_Almucantar.f k 125000000 0).bind fun bt202 => (if bt198.2.2 = 0 then ((ephemeriskeep2_has.f bt198.1 bt198.2.1 1000000 4).bind fun t209 => (if t209 = true then (if bt202.2.2.2.2 = 0 then ((ephemeriskeep2_has.f bt202.1 bt202.2.1 1000000 10).bind fun t210 => (some t210)) else (none)) else (none))) else (none)))
theorem ephemeriskeep2_astrolabeWorks.mono : ∀ k, LeO (ephemeriskeep2_astrolabeWorks.f k ) (ephemeriskeep2_astrolabeWorks.f (k + 1) ) := by
  intro  k
  unfold ephemeriskeep2_astrolabeWorks.f
  repeat' first
      | (with_reducible exact astrolabe_Almucantar.mono _ _ _)
      | (with_reducible exact astrolabe_Ring.mono _ _)
      | (with_reducible exact LeO.refl _)
      | (with_reducible exact LeO.none _)
      | (with_reducible refine LeO.ite ?_ ?_)
      | (with_reducible refine LeO.bind ?_ (fun _ => ?_))
      | exact astrolabe_Almucantar.mono _ _ _
      | exact astrolabe_Ring.mono _ _
      | exact LeO.none _
      | refine LeO.ite ?_ ?_
      | refine LeO.bind ?_ (fun _ => ?_)

/-! ### the Lean function ephemeriskeep2_AstrolabeFalls: function 8 -/
def ephemeriskeep2_AstrolabeFalls.f (k : Nat) (a0 : Int) (a1 : Int) : Option (Bool) := (ephemeriskeep2_astrolabeWorks.f k).bind fun t211 => (if t211 = true then ((ephemeriskeep2_at.f a0 445000001).bind fun t212 => ((ephemeriskeep2_at.f a1 445000001).bind fun t213 => (if (wrap64 (t212 - 195000000)) > (wrap64 (t213 - 195000000)) then ((astrolabe_Ring.f k (wrap64 (t213 - 195000000))).bind fun bt214 => ((astrolabe_Ring.f k (wrap64 (t212 - 195000000))).bind fun bt218 => (if bt214.2.2 = 0 then (if bt218.2.2 = 0 then (if bt214.2.1 ≥ bt218.1 then (if (wrap64 ((wrap64 (t212 - 195000000)) - (wrap64 (t213 - 195000000)))) < 10000 then (some (decide (bt218.2.1 ≥ 0))) else (if bt214.1 > bt218.2.1 then (some (decide (bt218.2.1 ≥ 0))) else (none))) else (none)) else (none)) else (none)))) else ((astrolabe_Ring.f k (wrap64 (t212 - 195000000))).bind fun bt222 => ((astrolabe_Ring.f k (wrap64 (t213 - 195000000))).bind fun bt226 => (if bt222.2.2 = 0 then (if bt226.2.2 = 0 then (if bt222.2.1 ≥ bt226.1 then (if (wrap64 ((wrap64 (t213 - 195000000)) - (wrap64 (t212 - 195000000)))) < 10000 then (some (decide (bt226.2.1 ≥ 0))) else (if bt222.1 > bt226.2.1 then (some (decide (bt226.2.1 ≥ 0))) else (none))) else (none)) else (none)) else (none))))))) else (none))
theorem ephemeriskeep2_AstrolabeFalls.mono : ∀ a0 a1 k, LeO (ephemeriskeep2_AstrolabeFalls.f k a0 a1) (ephemeriskeep2_AstrolabeFalls.f (k + 1) a0 a1) := by
  intro a0 a1 k
  unfold ephemeriskeep2_AstrolabeFalls.f
  repeat' first
      | (with_reducible exact astrolabe_Ring.mono _ _)
      | (with_reducible exact ephemeriskeep2_astrolabeWorks.mono _)
      | (with_reducible exact LeO.refl _)
      | (with_reducible exact LeO.none _)
      | (with_reducible refine LeO.ite ?_ ?_)
      | (with_reducible refine LeO.bind ?_ (fun _ => ?_))
      | exact astrolabe_Ring.mono _ _
      | exact ephemeriskeep2_astrolabeWorks.mono _
      | exact LeO.none _
      | refine LeO.ite ?_ ?_
      | refine LeO.bind ?_ (fun _ => ?_)
/-- THE ONE PURE STATEMENT of ephemeriskeep2_AstrolabeFalls: yours. -/
def ephemeriskeep2_AstrolabeFalls.Pure : Prop := ∀ (a0 : Int) (a1 : Int), (Lit.int .i64 a0).wf = true → (Lit.int .i64 a1).wf = true → ∃ k, ephemeriskeep2_AstrolabeFalls.f k a0 a1 = some true

/-! ### the Lean function ephemeriskeep2_meets: function 31 -/
def ephemeriskeep2_meets.f (a0_0 : Int) (a0_1 : Int) (a1_0 : Int) (a1_1 : Int) : Option (Bool) := if a0_0 ≤ a1_1 then (some (decide (a1_0 ≤ a0_1))) else (some false)

/-! ### the Lean function ephemeriskeep2_plus: function 32 -/
def ephemeriskeep2_plus.f (a0_0 : Int) (a0_1 : Int) (a1_0 : Int) (a1_1 : Int) : Option (Int × Int) := some (wrap64 (a0_0 + a1_0), wrap64 (a0_1 + a1_1))

/-! ### the Lean function ephemeriskeep2_AstrolabeMeridian: function 9 -/
def ephemeriskeep2_AstrolabeMeridian.f (k : Nat) (a0 : Int) (a1 : Int) : Option (Bool) := (ephemeriskeep2_astrolabeWorks.f k).bind fun t235 => (if t235 = true then ((ephemeriskeep2_at.f a0 100000000).bind fun t236 => ((ephemeriskeep2_at.f a1 150000000).bind fun t237 => ((astrolabe_Almucantar.f k (wrap64 (60000000 + t236)) t237).bind fun bt238 => ((astrolabe_Ring.f k (wrap64 ((wrap64 ((wrap64 (60000000 + t236)) + t237)) - 250000000))).bind fun bt245 => (if bt238.2.2.2.2 = 0 then (if bt245.2.2 = 0 then ((ephemeriskeep2_plus.f bt238.1 bt238.2.1 bt238.2.2.1 bt238.2.2.2.1).bind fun bt249 => ((ephemeriskeep2_meets.f bt249.1 bt249.2 (wrap64 (bt245.1 - 1)) (wrap64 (bt245.2.1 + 1))).bind fun t251 => (some t251))) else (none)) else (none)))))) else (none))
theorem ephemeriskeep2_AstrolabeMeridian.mono : ∀ a0 a1 k, LeO (ephemeriskeep2_AstrolabeMeridian.f k a0 a1) (ephemeriskeep2_AstrolabeMeridian.f (k + 1) a0 a1) := by
  intro a0 a1 k
  unfold ephemeriskeep2_AstrolabeMeridian.f
  repeat' first
      | (with_reducible exact astrolabe_Almucantar.mono _ _ _)
      | (with_reducible exact astrolabe_Ring.mono _ _)
      | (with_reducible exact ephemeriskeep2_astrolabeWorks.mono _)
      | (with_reducible exact LeO.refl _)
      | (with_reducible exact LeO.none _)
      | (with_reducible refine LeO.ite ?_ ?_)
      | (with_reducible refine LeO.bind ?_ (fun _ => ?_))
      | exact astrolabe_Almucantar.mono _ _ _
      | exact astrolabe_Ring.mono _ _
      | exact ephemeriskeep2_astrolabeWorks.mono _
      | exact LeO.none _
      | refine LeO.ite ?_ ?_
      | refine LeO.bind ?_ (fun _ => ?_)
/-- THE ONE PURE STATEMENT of ephemeriskeep2_AstrolabeMeridian: yours. -/
def ephemeriskeep2_AstrolabeMeridian.Pure : Prop := ∀ (a0 : Int) (a1 : Int), (Lit.int .i64 a0).wf = true → (Lit.int .i64 a1).wf = true → ∃ k, ephemeriskeep2_AstrolabeMeridian.f k a0 a1 = some true

/-! ### the Lean function trig_root: function 58 -/
def trig_root.l0 : Nat → Int → Int → Int → Option (Int)
  | 0, _, _, _ => none
  | k + 1, x0, x3, x4 => if x3 < x4 then (if (wrap64 (Int.tdiv (wrap64 ((wrap64 (x3 + x4)) + 1)) 2)) = 0 then (none) else (if (wrap64 (Int.tdiv (wrap64 ((wrap64 (x3 + x4)) + 1)) 2)) ≤ (wrap64 (Int.tdiv x0 (wrap64 (Int.tdiv (wrap64 ((wrap64 (x3 + x4)) + 1)) 2)))) then (trig_root.l0 k x0 (wrap64 (Int.tdiv (wrap64 ((wrap64 (x3 + x4)) + 1)) 2)) x4) else (trig_root.l0 k x0 x3 (wrap64 ((wrap64 (Int.tdiv (wrap64 ((wrap64 (x3 + x4)) + 1)) 2)) - 1))))) else (some x3)
def trig_root.f (k : Nat) (a0 : Int) : Option (Int) := trig_root.l0 k a0 0 2147483648
theorem trig_root.mono_l : ∀ k, (∀ y0 y1 y2, LeO (trig_root.l0 k y0 y1 y2) (trig_root.l0 (k + 1) y0 y1 y2))
  | 0 => fun _ _ _ r h => by simp [trig_root.l0] at h
  | k + 1 => by
    have ih0 := trig_root.mono_l k
    · intro y0 y1 y2
      unfold trig_root.l0
      repeat' first
      | (with_reducible exact ih0 _ _ _)
      | (with_reducible exact LeO.refl _)
      | (with_reducible exact LeO.none _)
      | (with_reducible refine LeO.ite ?_ ?_)
      | (with_reducible refine LeO.bind ?_ (fun _ => ?_))
      | exact ih0 _ _ _
      | exact LeO.none _
      | refine LeO.ite ?_ ?_
      | refine LeO.bind ?_ (fun _ => ?_)
theorem trig_root.mono : ∀ a0 k, LeO (trig_root.f k a0) (trig_root.f (k + 1) a0) := by
  intro a0 k
  have ih0 := trig_root.mono_l k
  unfold trig_root.f
  repeat' first
      | (with_reducible exact ih0 _ _ _)
      | (with_reducible exact LeO.refl _)
      | (with_reducible exact LeO.none _)
      | (with_reducible refine LeO.ite ?_ ?_)
      | (with_reducible refine LeO.bind ?_ (fun _ => ?_))
      | exact ih0 _ _ _
      | exact LeO.none _
      | refine LeO.ite ?_ ?_
      | refine LeO.bind ?_ (fun _ => ?_)

/-! ### the Lean function trig_Root: function 35 -/
def trig_Root.f (k : Nat) (a0_0 : Int) (a0_1 : Int) : Option (Int × Int × Int) := (interval_Check.f k a0_0 a0_1).bind fun t254 => (if t254 = 0 then (if a0_0 < 0 then (some (0, 0, 1)) else ((trig_root.f k a0_0).bind fun t255 => ((trig_root.f k a0_1).bind fun t256 => (if (wrap64 (t256 * t256)) < a0_1 then (some (t255, wrap64 (t256 + 1), 0)) else (some (t255, t256, 0)))))) else (some (0, 0, t254)))
theorem trig_Root.mono : ∀ a0 a1 k, LeO (trig_Root.f k a0 a1) (trig_Root.f (k + 1) a0 a1) := by
  intro a0 a1 k
  unfold trig_Root.f
  repeat' first
      | (with_reducible exact interval_Check.mono _ _ _)
      | (with_reducible exact trig_root.mono _ _)
      | (with_reducible exact LeO.refl _)
      | (with_reducible exact LeO.none _)
      | (with_reducible refine LeO.ite ?_ ?_)
      | (with_reducible refine LeO.bind ?_ (fun _ => ?_))
      | exact interval_Check.mono _ _ _
      | exact trig_root.mono _ _
      | exact LeO.none _
      | refine LeO.ite ?_ ?_
      | refine LeO.bind ?_ (fun _ => ?_)

/-! ### the Lean function trig_reaches: function 65 -/
def trig_reaches.f (k : Nat) (a0 : Int) (a1 : Int) : Option (Bool) := (trig_octant.f k a1).bind fun bt258 => (some (decide ((wrap64 ((bt258.1 / 536870912) * 2147483648)) ≤ (wrap64 (a0 * (bt258.2 / 536870912))))))
theorem trig_reaches.mono : ∀ a0 a1 k, LeO (trig_reaches.f k a0 a1) (trig_reaches.f (k + 1) a0 a1) := by
  intro a0 a1 k
  unfold trig_reaches.f
  repeat' first
      | (with_reducible exact trig_octant.mono _ _)
      | (with_reducible exact LeO.refl _)
      | (with_reducible exact LeO.none _)
      | (with_reducible refine LeO.ite ?_ ?_)
      | (with_reducible refine LeO.bind ?_ (fun _ => ?_))
      | exact trig_octant.mono _ _
      | exact LeO.none _
      | refine LeO.ite ?_ ?_
      | refine LeO.bind ?_ (fun _ => ?_)

/-! ### the Lean function trig_acute: function 64 -/
mutual
def trig_acute.l0 : Nat → Int → Int → Option (Int)
  | 0, _, _ => none
  | k + 1, x0, x1 => if x1 ≥ 2147483648 then (trig_acute.l0 k (x0 / 2) (x1 / 2)) else (trig_acute.l1 k x0 x1)
def trig_acute.l1 : Nat → Int → Int → Option (Int)
  | 0, _, _ => none
  | k + 1, x0, x1 => if x1 < 1073741824 then (trig_acute.l1 k (wrap64 (x0 * 2)) (wrap64 (x1 * 2))) else (if x1 = 0 then (none) else (trig_acute.l2 k (wrap64 (Int.tdiv (wrap64 (x0 * 2147483648)) x1)) ((wrap64 ((wrap64 (Int.tdiv (wrap64 (x0 * 2147483648)) x1)) * 125000000)) / 2147483648) 0))
def trig_acute.l2 : Nat → Int → Int → Int → Option (Int)
  | 0, _, _, _ => none
  | k + 1, x5, x6, x30 => if x30 < 4 then ((trig_octant.f k x6).bind fun bt260 => (if (wrap64 (Int.tdiv (wrap64 ((wrap64 ((bt260.2 / 1073741824) * 2147483648)) + (wrap64 (x5 * (bt260.1 / 1073741824))))) 159154943)) = 0 then (none) else (trig_acute.l2 k x5 (mx 0 (mn 125000000 (wrap64 (x6 - (wrap64 (Int.tdiv (wrap64 ((wrap64 ((bt260.1 / 1073741824) * 2147483648)) - (wrap64 (x5 * (bt260.2 / 1073741824))))) (wrap64 (Int.tdiv (wrap64 ((wrap64 ((bt260.2 / 1073741824) * 2147483648)) + (wrap64 (x5 * (bt260.1 / 1073741824))))) 159154943)))))))) (wrap64 (x30 + 1))))) else (trig_acute.l3 k x5 x6)
def trig_acute.j4 : Nat → Int → Int → Option (Int)
  | 0, _, _ => none
  | k + 1, x5, x6 => trig_acute.l4 k x5 x6
def trig_acute.l4 : Nat → Int → Int → Option (Int)
  | 0, _, _ => none
  | k + 1, x5, x6 => if x6 < 125000000 then ((trig_reaches.f k x5 (wrap64 (x6 + 1))).bind fun t263 => (if t263 = true then (trig_acute.l4 k x5 (wrap64 (x6 + 1))) else (some x6))) else (some x6)
def trig_acute.l3 : Nat → Int → Int → Option (Int)
  | 0, _, _ => none
  | k + 1, x5, x6 => if x6 > 0 then ((trig_reaches.f k x5 x6).bind fun t262 => (if t262 = true then (trig_acute.j4 k x5 x6) else (trig_acute.l3 k x5 (wrap64 (x6 - 1))))) else (trig_acute.j4 k x5 x6)
end
def trig_acute.f (k : Nat) (a0 : Int) (a1 : Int) : Option (Int) := trig_acute.l0 k a0 a1
theorem trig_acute.mono_l : ∀ k, (∀ y0 y1, LeO (trig_acute.l0 k y0 y1) (trig_acute.l0 (k + 1) y0 y1)) ∧ (∀ y0 y1, LeO (trig_acute.l1 k y0 y1) (trig_acute.l1 (k + 1) y0 y1)) ∧ (∀ y0 y1 y2, LeO (trig_acute.l2 k y0 y1 y2) (trig_acute.l2 (k + 1) y0 y1 y2)) ∧ (∀ y0 y1, LeO (trig_acute.j4 k y0 y1) (trig_acute.j4 (k + 1) y0 y1)) ∧ (∀ y0 y1, LeO (trig_acute.l4 k y0 y1) (trig_acute.l4 (k + 1) y0 y1)) ∧ (∀ y0 y1, LeO (trig_acute.l3 k y0 y1) (trig_acute.l3 (k + 1) y0 y1))
  | 0 => ⟨fun _ _ r h => by simp [trig_acute.l0] at h, fun _ _ r h => by simp [trig_acute.l1] at h, fun _ _ _ r h => by simp [trig_acute.l2] at h, fun _ _ r h => by simp [trig_acute.j4] at h, fun _ _ r h => by simp [trig_acute.l4] at h, fun _ _ r h => by simp [trig_acute.l3] at h⟩
  | k + 1 => by
    obtain ⟨ih0, ih1, ih2, ih3, ih4, ih5⟩ := trig_acute.mono_l k
    refine ⟨?_, ?_, ?_, ?_, ?_, ?_⟩
    · intro y0 y1
      unfold trig_acute.l0
      repeat' first
      | (with_reducible exact ih0 _ _)
      | (with_reducible exact ih1 _ _)
      | (with_reducible exact ih2 _ _ _)
      | (with_reducible exact ih3 _ _)
      | (with_reducible exact ih4 _ _)
      | (with_reducible exact ih5 _ _)
      | (with_reducible exact trig_octant.mono _ _)
      | (with_reducible exact trig_reaches.mono _ _ _)
      | (with_reducible exact LeO.refl _)
      | (with_reducible exact LeO.none _)
      | (with_reducible refine LeO.ite ?_ ?_)
      | (with_reducible refine LeO.bind ?_ (fun _ => ?_))
      | exact ih0 _ _
      | exact ih1 _ _
      | exact ih2 _ _ _
      | exact ih3 _ _
      | exact ih4 _ _
      | exact ih5 _ _
      | exact trig_octant.mono _ _
      | exact trig_reaches.mono _ _ _
      | exact LeO.none _
      | refine LeO.ite ?_ ?_
      | refine LeO.bind ?_ (fun _ => ?_)
    · intro y0 y1
      unfold trig_acute.l1
      repeat' first
      | (with_reducible exact ih0 _ _)
      | (with_reducible exact ih1 _ _)
      | (with_reducible exact ih2 _ _ _)
      | (with_reducible exact ih3 _ _)
      | (with_reducible exact ih4 _ _)
      | (with_reducible exact ih5 _ _)
      | (with_reducible exact trig_octant.mono _ _)
      | (with_reducible exact trig_reaches.mono _ _ _)
      | (with_reducible exact LeO.refl _)
      | (with_reducible exact LeO.none _)
      | (with_reducible refine LeO.ite ?_ ?_)
      | (with_reducible refine LeO.bind ?_ (fun _ => ?_))
      | exact ih0 _ _
      | exact ih1 _ _
      | exact ih2 _ _ _
      | exact ih3 _ _
      | exact ih4 _ _
      | exact ih5 _ _
      | exact trig_octant.mono _ _
      | exact trig_reaches.mono _ _ _
      | exact LeO.none _
      | refine LeO.ite ?_ ?_
      | refine LeO.bind ?_ (fun _ => ?_)
    · intro y0 y1 y2
      unfold trig_acute.l2
      repeat' first
      | (with_reducible exact ih0 _ _)
      | (with_reducible exact ih1 _ _)
      | (with_reducible exact ih2 _ _ _)
      | (with_reducible exact ih3 _ _)
      | (with_reducible exact ih4 _ _)
      | (with_reducible exact ih5 _ _)
      | (with_reducible exact trig_octant.mono _ _)
      | (with_reducible exact trig_reaches.mono _ _ _)
      | (with_reducible exact LeO.refl _)
      | (with_reducible exact LeO.none _)
      | (with_reducible refine LeO.ite ?_ ?_)
      | (with_reducible refine LeO.bind ?_ (fun _ => ?_))
      | exact ih0 _ _
      | exact ih1 _ _
      | exact ih2 _ _ _
      | exact ih3 _ _
      | exact ih4 _ _
      | exact ih5 _ _
      | exact trig_octant.mono _ _
      | exact trig_reaches.mono _ _ _
      | exact LeO.none _
      | refine LeO.ite ?_ ?_
      | refine LeO.bind ?_ (fun _ => ?_)
    · intro y0 y1
      unfold trig_acute.j4
      repeat' first
      | (with_reducible exact ih0 _ _)
      | (with_reducible exact ih1 _ _)
      | (with_reducible exact ih2 _ _ _)
      | (with_reducible exact ih3 _ _)
      | (with_reducible exact ih4 _ _)
      | (with_reducible exact ih5 _ _)
      | (with_reducible exact trig_octant.mono _ _)
      | (with_reducible exact trig_reaches.mono _ _ _)
      | (with_reducible exact LeO.refl _)
      | (with_reducible exact LeO.none _)
      | (with_reducible refine LeO.ite ?_ ?_)
      | (with_reducible refine LeO.bind ?_ (fun _ => ?_))
      | exact ih0 _ _
      | exact ih1 _ _
      | exact ih2 _ _ _
      | exact ih3 _ _
      | exact ih4 _ _
      | exact ih5 _ _
      | exact trig_octant.mono _ _
      | exact trig_reaches.mono _ _ _
      | exact LeO.none _
      | refine LeO.ite ?_ ?_
      | refine LeO.bind ?_ (fun _ => ?_)
    · intro y0 y1
      unfold trig_acute.l4
      repeat' first
      | (with_reducible exact ih0 _ _)
      | (with_reducible exact ih1 _ _)
      | (with_reducible exact ih2 _ _ _)
      | (with_reducible exact ih3 _ _)
      | (with_reducible exact ih4 _ _)
      | (with_reducible exact ih5 _ _)
      | (with_reducible exact trig_octant.mono _ _)
      | (with_reducible exact trig_reaches.mono _ _ _)
      | (with_reducible exact LeO.refl _)
      | (with_reducible exact LeO.none _)
      | (with_reducible refine LeO.ite ?_ ?_)
      | (with_reducible refine LeO.bind ?_ (fun _ => ?_))
      | exact ih0 _ _
      | exact ih1 _ _
      | exact ih2 _ _ _
      | exact ih3 _ _
      | exact ih4 _ _
      | exact ih5 _ _
      | exact trig_octant.mono _ _
      | exact trig_reaches.mono _ _ _
      | exact LeO.none _
      | refine LeO.ite ?_ ?_
      | refine LeO.bind ?_ (fun _ => ?_)
    · intro y0 y1
      unfold trig_acute.l3
      repeat' first
      | (with_reducible exact ih0 _ _)
      | (with_reducible exact ih1 _ _)
      | (with_reducible exact ih2 _ _ _)
      | (with_reducible exact ih3 _ _)
      | (with_reducible exact ih4 _ _)
      | (with_reducible exact ih5 _ _)
      | (with_reducible exact trig_octant.mono _ _)
      | (with_reducible exact trig_reaches.mono _ _ _)
      | (with_reducible exact LeO.refl _)
      | (with_reducible exact LeO.none _)
      | (with_reducible refine LeO.ite ?_ ?_)
      | (with_reducible refine LeO.bind ?_ (fun _ => ?_))
      | exact ih0 _ _
      | exact ih1 _ _
      | exact ih2 _ _ _
      | exact ih3 _ _
      | exact ih4 _ _
      | exact ih5 _ _
      | exact trig_octant.mono _ _
      | exact trig_reaches.mono _ _ _
      | exact LeO.none _
      | refine LeO.ite ?_ ?_
      | refine LeO.bind ?_ (fun _ => ?_)
theorem trig_acute.mono : ∀ a0 a1 k, LeO (trig_acute.f k a0 a1) (trig_acute.f (k + 1) a0 a1) := by
  intro a0 a1 k
  obtain ⟨ih0, ih1, ih2, ih3, ih4, ih5⟩ := trig_acute.mono_l k
  unfold trig_acute.f
  repeat' first
      | (with_reducible exact ih0 _ _)
      | (with_reducible exact ih1 _ _)
      | (with_reducible exact ih2 _ _ _)
      | (with_reducible exact ih3 _ _)
      | (with_reducible exact ih4 _ _)
      | (with_reducible exact ih5 _ _)
      | (with_reducible exact trig_octant.mono _ _)
      | (with_reducible exact trig_reaches.mono _ _ _)
      | (with_reducible exact LeO.refl _)
      | (with_reducible exact LeO.none _)
      | (with_reducible refine LeO.ite ?_ ?_)
      | (with_reducible refine LeO.bind ?_ (fun _ => ?_))
      | exact ih0 _ _
      | exact ih1 _ _
      | exact ih2 _ _ _
      | exact ih3 _ _
      | exact ih4 _ _
      | exact ih5 _ _
      | exact trig_octant.mono _ _
      | exact trig_reaches.mono _ _ _
      | exact LeO.none _
      | refine LeO.ite ?_ ?_
      | refine LeO.bind ?_ (fun _ => ?_)

/-! ### the Lean function trig_direction: function 60 -/
mutual
def trig_direction.j0 : Nat → Int → Int → Int → Int → Option (Int × Int)
  | 0, _, _, _, _ => none
  | k + 1, x0, x1, x5, x6 => if x6 < 0 then (trig_direction.j1 k x0 x1 x5 (wrap64 (-x6))) else (trig_direction.j1 k x0 x1 x5 x6)
def trig_direction.j1 : Nat → Int → Int → Int → Int → Option (Int × Int)
  | 0, _, _, _, _ => none
  | k + 1, x0, x1, x5, x6 => if x5 ≤ x6 then ((trig_acute.f k x5 x6).bind fun t266 => (trig_direction.j2 k x0 x1 (wrap64 (t266 - 1)) (wrap64 (t266 + 2)))) else ((trig_acute.f k x6 x5).bind fun t267 => (trig_direction.j2 k x0 x1 (wrap64 ((wrap64 (250000000 - t267)) - 2)) (wrap64 ((wrap64 (250000000 - t267)) + 1))))
def trig_direction.j2 : Nat → Int → Int → Int → Int → Option (Int × Int)
  | 0, _, _, _, _ => none
  | k + 1, x0, x1, x266000, x266001 => if x1 < 0 then (if x0 < 0 then ((trig_minus.f (wrap64 (500000000 - x266001)) (wrap64 (500000000 - x266000))).bind fun bt268 => (some (bt268.1, bt268.2))) else (some (wrap64 (500000000 - x266001), wrap64 (500000000 - x266000)))) else (if x0 < 0 then ((trig_minus.f x266000 x266001).bind fun bt270 => (some (bt270.1, bt270.2))) else (some (x266000, x266001)))
end
def trig_direction.f (k : Nat) (a0 : Int) (a1 : Int) : Option (Int × Int) := if a0 < 0 then (trig_direction.j0 k a0 a1 (wrap64 (-a0)) a1) else (trig_direction.j0 k a0 a1 a0 a1)
theorem trig_direction.mono_l : ∀ k, (∀ y0 y1 y2 y3, LeO (trig_direction.j0 k y0 y1 y2 y3) (trig_direction.j0 (k + 1) y0 y1 y2 y3)) ∧ (∀ y0 y1 y2 y3, LeO (trig_direction.j1 k y0 y1 y2 y3) (trig_direction.j1 (k + 1) y0 y1 y2 y3)) ∧ (∀ y0 y1 y2 y3, LeO (trig_direction.j2 k y0 y1 y2 y3) (trig_direction.j2 (k + 1) y0 y1 y2 y3))
  | 0 => ⟨fun _ _ _ _ r h => by simp [trig_direction.j0] at h, fun _ _ _ _ r h => by simp [trig_direction.j1] at h, fun _ _ _ _ r h => by simp [trig_direction.j2] at h⟩
  | k + 1 => by
    obtain ⟨ih0, ih1, ih2⟩ := trig_direction.mono_l k
    refine ⟨?_, ?_, ?_⟩
    · intro y0 y1 y2 y3
      unfold trig_direction.j0
      repeat' first
      | (with_reducible exact ih0 _ _ _ _)
      | (with_reducible exact ih1 _ _ _ _)
      | (with_reducible exact ih2 _ _ _ _)
      | (with_reducible exact trig_acute.mono _ _ _)
      | (with_reducible exact LeO.refl _)
      | (with_reducible exact LeO.none _)
      | (with_reducible refine LeO.ite ?_ ?_)
      | (with_reducible refine LeO.bind ?_ (fun _ => ?_))
      | exact ih0 _ _ _ _
      | exact ih1 _ _ _ _
      | exact ih2 _ _ _ _
      | exact trig_acute.mono _ _ _
      | exact LeO.none _
      | refine LeO.ite ?_ ?_
      | refine LeO.bind ?_ (fun _ => ?_)
    · intro y0 y1 y2 y3
      unfold trig_direction.j1
      repeat' first
      | (with_reducible exact ih0 _ _ _ _)
      | (with_reducible exact ih1 _ _ _ _)
      | (with_reducible exact ih2 _ _ _ _)
      | (with_reducible exact trig_acute.mono _ _ _)
      | (with_reducible exact LeO.refl _)
      | (with_reducible exact LeO.none _)
      | (with_reducible refine LeO.ite ?_ ?_)
      | (with_reducible refine LeO.bind ?_ (fun _ => ?_))
      | exact ih0 _ _ _ _
      | exact ih1 _ _ _ _
      | exact ih2 _ _ _ _
      | exact trig_acute.mono _ _ _
      | exact LeO.none _
      | refine LeO.ite ?_ ?_
      | refine LeO.bind ?_ (fun _ => ?_)
    · intro y0 y1 y2 y3
      unfold trig_direction.j2
      repeat' first
      | (with_reducible exact ih0 _ _ _ _)
      | (with_reducible exact ih1 _ _ _ _)
      | (with_reducible exact ih2 _ _ _ _)
      | (with_reducible exact trig_acute.mono _ _ _)
      | (with_reducible exact LeO.refl _)
      | (with_reducible exact LeO.none _)
      | (with_reducible refine LeO.ite ?_ ?_)
      | (with_reducible refine LeO.bind ?_ (fun _ => ?_))
      | exact ih0 _ _ _ _
      | exact ih1 _ _ _ _
      | exact ih2 _ _ _ _
      | exact trig_acute.mono _ _ _
      | exact LeO.none _
      | refine LeO.ite ?_ ?_
      | refine LeO.bind ?_ (fun _ => ?_)
theorem trig_direction.mono : ∀ a0 a1 k, LeO (trig_direction.f k a0 a1) (trig_direction.f (k + 1) a0 a1) := by
  intro a0 a1 k
  obtain ⟨ih0, ih1, ih2⟩ := trig_direction.mono_l k
  unfold trig_direction.f
  repeat' first
      | (with_reducible exact ih0 _ _ _ _)
      | (with_reducible exact ih1 _ _ _ _)
      | (with_reducible exact ih2 _ _ _ _)
      | (with_reducible exact trig_acute.mono _ _ _)
      | (with_reducible exact LeO.refl _)
      | (with_reducible exact LeO.none _)
      | (with_reducible refine LeO.ite ?_ ?_)
      | (with_reducible refine LeO.bind ?_ (fun _ => ?_))
      | exact ih0 _ _ _ _
      | exact ih1 _ _ _ _
      | exact ih2 _ _ _ _
      | exact trig_acute.mono _ _ _
      | exact LeO.none _
      | refine LeO.ite ?_ ?_
      | refine LeO.bind ?_ (fun _ => ?_)

/-! ### the Lean function trig_Arc: function 39 -/
/-- one corner more: its direction is taken into the interval -/
def trig_Arc.stp (k : Nat) (y x f0 : Int) (s : Int × Int) : Option (Int × Int) :=
  (trig_direction.f k y x).bind fun d => (interval_Floor.f (wrap64 ((wrap64 (d.1 - f0)) + 500000000)) 1000000000).bind fun q => some (mn s.1 (wrap64 (d.1 - wrap64 (q * 1000000000))), mx s.2 (wrap64 (d.2 - wrap64 (q * 1000000000))))
def ArcOk (a0_0 a0_1 a1_0 a1_1 : Int) : Prop := InR a0_0 ∧ a0_0 ≤ a0_1 ∧ InR a0_1 ∧ InR a1_0 ∧ a1_0 ≤ a1_1 ∧ InR a1_1 ∧ ¬ (a0_0 ≤ 0 ∧ 0 ≤ a0_1 ∧ a1_0 ≤ 0 ∧ 0 ≤ a1_1)
instance (a b c d : Int) : Decidable (ArcOk a b c d) := inferInstanceAs (Decidable (_ ∧ _ ∧ _ ∧ _ ∧ _ ∧ _ ∧ _))
def trig_Arc.f (k : Nat) (a0_0 : Int) (a0_1 : Int) (a1_0 : Int) (a1_1 : Int) : Option (Int × Int × Int) :=
  if ArcOk a0_0 a0_1 a1_0 a1_1 then
    (trig_direction.f k a0_0 a1_0).bind fun d => (trig_Arc.stp k a0_0 a1_1 d.1 d).bind fun s1 => (trig_Arc.stp k a0_1 a1_0 d.1 s1).bind fun s2 => (trig_Arc.stp k a0_1 a1_1 d.1 s2).bind fun s3 =>
      if 400000000 < wrap64 (s3.2 - s3.1) then none else (interval_Floor.f s3.1 1000000000).bind fun q => some (wrap64 (s3.1 - wrap64 (q * 1000000000)), wrap64 (s3.2 - wrap64 (q * 1000000000)), 0)
  else none
theorem trig_Arc.stp_mono (k : Nat) (y x f0 : Int) (s : Int × Int) : LeO (trig_Arc.stp k y x f0 s) (trig_Arc.stp (k + 1) y x f0 s) := by
  unfold trig_Arc.stp
  exact LeO.bind (trig_direction.mono _ _ _) (fun _ _ h => h)
theorem trig_Arc.mono : ∀ a0 a1 a2 a3 k, LeO (trig_Arc.f k a0 a1 a2 a3) (trig_Arc.f (k + 1) a0 a1 a2 a3) := by
  intro a0 a1 a2 a3 k
  unfold trig_Arc.f
  refine LeO.ite ?_ (fun _ h => h)
  refine LeO.bind (trig_direction.mono _ _ _) (fun _ => ?_)
  refine LeO.bind (trig_Arc.stp_mono _ _ _ _ _) (fun _ => ?_)
  refine LeO.bind (trig_Arc.stp_mono _ _ _ _ _) (fun _ => ?_)
  exact LeO.bind (trig_Arc.stp_mono _ _ _ _ _) (fun _ _ h => h)
theorem acheck_ {x y : Int} (g1 : InR x) (g2 : x ≤ y) (g3 : InR y) : interval_Check.f 1 x y = some 0 := by
  obtain ⟨a1, a2⟩ := g1
  obtain ⟨b1, b2⟩ := g3
  unfold interval_Check.f interval_out.f
  rw [if_neg (by omega), if_neg (by omega)]
  simp only [Option.bind_some, interval_Check.j0]
  rw [decide_eq_false (by omega), decide_eq_false (by omega)]
  simp only [Bool.false_eq_true, if_false]
  rw [if_neg (by omega)]

/-! ### the Lean function ephemeriskeep2_trigWorks: function 33 -/
def ephemeriskeep2_trigWorks.f (k : Nat)  : Option (Bool) := (trig_Sin.f k 125000000).bind fun bt272 => ((trig_Arc.f k 5 5 (-5) (-5)).bind fun bt276 => ((trig_Root.f k 2 9).bind fun bt280 => ((trig_Cos.f k 0).bind fun bt284 => (if bt272.2.2 = 0 then ((ephemeriskeep2_has.f bt272.1 bt272.2.1 707106781 3).bind fun t288 => (if t288 = true then (if bt276.2.2 = 0 then ((ephemeriskeep2_has.f bt276.1 bt276.2.1 375000000 3).bind fun t289 => (if t289 = true then (if bt280.2.2 = 0 then (if (bt280.1 == 1 && (bt280.2.1 == 3)) = true then (if bt284.2.2 = 0 then ((ephemeriskeep2_has.f bt284.1 bt284.2.1 1000000000 3).bind fun t290 => (some t290)) else (none)) else (none)) else (none)) else (none))) else (none)) else (none))) else (none)))))
theorem ephemeriskeep2_trigWorks.mono : ∀ k, LeO (ephemeriskeep2_trigWorks.f k ) (ephemeriskeep2_trigWorks.f (k + 1) ) := by
  intro  k
  unfold ephemeriskeep2_trigWorks.f
  repeat' first
      | (with_reducible exact trig_Arc.mono _ _ _ _ _)
      | (with_reducible exact trig_Cos.mono _ _)
      | (with_reducible exact trig_Root.mono _ _ _)
      | (with_reducible exact trig_Sin.mono _ _)
      | (with_reducible exact LeO.refl _)
      | (with_reducible exact LeO.none _)
      | (with_reducible refine LeO.ite ?_ ?_)
      | (with_reducible refine LeO.bind ?_ (fun _ => ?_))
      | exact trig_Arc.mono _ _ _ _ _
      | exact trig_Cos.mono _ _
      | exact trig_Root.mono _ _ _
      | exact trig_Sin.mono _ _
      | exact LeO.none _
      | refine LeO.ite ?_ ?_
      | refine LeO.bind ?_ (fun _ => ?_)

/-! ### the Lean function ephemeriskeep2_TrigTurns: function 10 -/
def ephemeriskeep2_TrigTurns.f (k : Nat) (a0 : Int) (a1 : Int) : Option (Bool) := (ephemeriskeep2_trigWorks.f k).bind fun t291 => (if t291 = true then ((trig_Sin.f k (Int.tmod a0 1000000000000)).bind fun bt292 => ((trig_Sin.f k (wrap64 ((Int.tmod a0 1000000000000) + (wrap64 (1000000000 * (Int.tmod a1 1000)))))).bind fun bt296 => ((trig_Sin.f k (wrap64 (-(Int.tmod a0 1000000000000)))).bind fun bt300 => ((trig_Sin.f k (wrap64 ((Int.tmod a0 1000000000000) + 500000000))).bind fun bt304 => (if bt292.2.2 = 0 then (if bt296.2.2 = 0 then (if bt300.2.2 = 0 then (if bt304.2.2 = 0 then ((ephemeriskeep2_meets.f bt292.1 bt292.2.1 bt296.1 bt296.2.1).bind fun t309 => (if t309 = true then ((ephemeriskeep2_meets.f bt300.1 bt300.2.1 (wrap64 (-bt292.2.1)) (wrap64 (-bt292.1))).bind fun t310 => (if t310 = true then ((ephemeriskeep2_meets.f bt304.1 bt304.2.1 (wrap64 (-bt292.2.1)) (wrap64 (-bt292.1))).bind fun t311 => (some t311)) else (none))) else (none))) else (none)) else (none)) else (none)) else (none)))))) else (none))
theorem ephemeriskeep2_TrigTurns.mono : ∀ a0 a1 k, LeO (ephemeriskeep2_TrigTurns.f k a0 a1) (ephemeriskeep2_TrigTurns.f (k + 1) a0 a1) := by
  intro a0 a1 k
  unfold ephemeriskeep2_TrigTurns.f
  repeat' first
      | (with_reducible exact ephemeriskeep2_trigWorks.mono _)
      | (with_reducible exact trig_Sin.mono _ _)
      | (with_reducible exact LeO.refl _)
      | (with_reducible exact LeO.none _)
      | (with_reducible refine LeO.ite ?_ ?_)
      | (with_reducible refine LeO.bind ?_ (fun _ => ?_))
      | exact ephemeriskeep2_trigWorks.mono _
      | exact trig_Sin.mono _ _
      | exact LeO.none _
      | refine LeO.ite ?_ ?_
      | refine LeO.bind ?_ (fun _ => ?_)
/-- THE ONE PURE STATEMENT of ephemeriskeep2_TrigTurns: yours. -/
def ephemeriskeep2_TrigTurns.Pure : Prop := ∀ (a0 : Int) (a1 : Int), (Lit.int .i64 a0).wf = true → (Lit.int .i64 a1).wf = true → ∃ k, ephemeriskeep2_TrigTurns.f k a0 a1 = some true

/-! ### the Lean function ephemeriskeep2_TrigRootSquares: function 11 -/
def ephemeriskeep2_TrigRootSquares.f (k : Nat) (a0 : Int) (a1 : Int) : Option (Bool) := (ephemeriskeep2_trigWorks.f k).bind fun t312 => (if t312 = true then ((ephemeriskeep2_at.f a0 1000000000).bind fun t313 => ((ephemeriskeep2_at.f a1 1000000000).bind fun t314 => ((trig_Root.f k (wrap64 ((mn t313 t314) * (mn t313 t314))) (wrap64 ((mx t313 t314) * (mx t313 t314)))).bind fun bt315 => (if bt315.2.2 = 0 then (some (bt315.1 == (mn t313 t314) && (bt315.2.1 == (mx t313 t314)))) else (none))))) else (none))
theorem ephemeriskeep2_TrigRootSquares.mono : ∀ a0 a1 k, LeO (ephemeriskeep2_TrigRootSquares.f k a0 a1) (ephemeriskeep2_TrigRootSquares.f (k + 1) a0 a1) := by
  intro a0 a1 k
  unfold ephemeriskeep2_TrigRootSquares.f
  repeat' first
      | (with_reducible exact ephemeriskeep2_trigWorks.mono _)
      | (with_reducible exact trig_Root.mono _ _ _)
      | (with_reducible exact LeO.refl _)
      | (with_reducible exact LeO.none _)
      | (with_reducible refine LeO.ite ?_ ?_)
      | (with_reducible refine LeO.bind ?_ (fun _ => ?_))
      | exact ephemeriskeep2_trigWorks.mono _
      | exact trig_Root.mono _ _ _
      | exact LeO.none _
      | refine LeO.ite ?_ ?_
      | refine LeO.bind ?_ (fun _ => ?_)
/-- THE ONE PURE STATEMENT of ephemeriskeep2_TrigRootSquares: yours. -/
def ephemeriskeep2_TrigRootSquares.Pure : Prop := ∀ (a0 : Int) (a1 : Int), (Lit.int .i64 a0).wf = true → (Lit.int .i64 a1).wf = true → ∃ k, ephemeriskeep2_TrigRootSquares.f k a0 a1 = some true

/-! ### the Lean function ephemeriskeep2_cut: function 16 -/
def ephemeriskeep2_cut.f (a0_0 : Int) (a0_1 : Int) (a1 : Int) : Option (Int × Int) := if (wrap64 (a1 + 1)) = 0 then (none) else (some (mn (Int.tmod a0_0 (wrap64 (a1 + 1))) (Int.tmod a0_1 (wrap64 (a1 + 1))), mx (Int.tmod a0_0 (wrap64 (a1 + 1))) (Int.tmod a0_1 (wrap64 (a1 + 1)))))

/-! ### the Lean function ephemeriskeep2_holds: function 19 -/
def ephemeriskeep2_holds.f (a0_0 : Int) (a0_1 : Int) (a1_0 : Int) (a1_1 : Int) : Option (Bool) := if a0_0 ≤ a1_0 then (some (decide (a1_1 ≤ a0_1))) else (some false)

/-! ### the Lean function trig_passes: function 59 -/
def trig_passes.f (a0_0 : Int) (a0_1 : Int) (a1 : Int) : Option (Bool) := (interval_Floor.f (wrap64 (a0_1 - a1)) 1000000000).bind fun t322 => (some (decide ((wrap64 (t322 * 1000000000)) ≥ (wrap64 (a0_0 - a1)))))

/-! ### the Lean function trig_SinOver: function 36 -/
def trig_SinOver.f (k : Nat) (a0_0 : Int) (a0_1 : Int) : Option (Int × Int × Int) := (interval_Check.f k a0_0 a0_1).bind fun t325 => (if t325 = 0 then ((trig_Sin.f k a0_0).bind fun bt326 => ((trig_Sin.f k a0_1).bind fun bt330 => ((trig_passes.f a0_0 a0_1 250000000).bind fun t335 => (if t335 = true then ((trig_passes.f a0_0 a0_1 750000000).bind fun t336 => (if t336 = true then (some ((-1000000000), 1000000000, 0)) else (some (mn bt326.1 bt330.1, 1000000000, 0)))) else ((trig_passes.f a0_0 a0_1 750000000).bind fun t337 => (if t337 = true then (some ((-1000000000), mx bt326.2.1 bt330.2.1, 0)) else (some (mn bt326.1 bt330.1, mx bt326.2.1 bt330.2.1, 0)))))))) else (some (0, 0, t325)))
theorem trig_SinOver.mono : ∀ a0 a1 k, LeO (trig_SinOver.f k a0 a1) (trig_SinOver.f (k + 1) a0 a1) := by
  intro a0 a1 k
  unfold trig_SinOver.f
  repeat' first
      | (with_reducible exact interval_Check.mono _ _ _)
      | (with_reducible exact trig_Sin.mono _ _)
      | (with_reducible exact LeO.refl _)
      | (with_reducible exact LeO.none _)
      | (with_reducible refine LeO.ite ?_ ?_)
      | (with_reducible refine LeO.bind ?_ (fun _ => ?_))
      | exact interval_Check.mono _ _ _
      | exact trig_Sin.mono _ _
      | exact LeO.none _
      | refine LeO.ite ?_ ?_
      | refine LeO.bind ?_ (fun _ => ?_)

/-! ### the Lean function trig_CosOver: function 37 -/
def trig_CosOver.f (k : Nat) (a0_0 : Int) (a0_1 : Int) : Option (Int × Int × Int) := (interval_Check.f k a0_0 a0_1).bind fun t340 => (if t340 = 0 then ((trig_Reduced.f a0_0).bind fun t341 => ((trig_SinOver.f k (wrap64 (a0_0 + (wrap64 ((wrap64 (t341 + 250000000)) - a0_0)))) (mn (wrap64 (a0_1 + (wrap64 ((wrap64 (t341 + 250000000)) - a0_0)))) (wrap64 ((wrap64 (a0_0 + (wrap64 ((wrap64 (t341 + 250000000)) - a0_0)))) + 1000000000)))).bind fun bt342 => (some (bt342.1, bt342.2.1, bt342.2.2)))) else (some (0, 0, t340)))
theorem trig_CosOver.mono : ∀ a0 a1 k, LeO (trig_CosOver.f k a0 a1) (trig_CosOver.f (k + 1) a0 a1) := by
  intro a0 a1 k
  unfold trig_CosOver.f
  repeat' first
      | (with_reducible exact interval_Check.mono _ _ _)
      | (with_reducible exact trig_SinOver.mono _ _ _)
      | (with_reducible exact LeO.refl _)
      | (with_reducible exact LeO.none _)
      | (with_reducible refine LeO.ite ?_ ?_)
      | (with_reducible refine LeO.bind ?_ (fun _ => ?_))
      | exact interval_Check.mono _ _ _
      | exact trig_SinOver.mono _ _ _
      | exact LeO.none _
      | refine LeO.ite ?_ ?_
      | refine LeO.bind ?_ (fun _ => ?_)

/-! ### the Lean function trig_ArcSin: function 38 -/
def trig_ArcSin.f (k : Nat) (a0_0 : Int) (a0_1 : Int) : Option (Int × Int × Int) := (interval_Check.f k a0_0 a0_1).bind fun t347 => (if t347 = 0 then ((trig_root.f k (wrap64 (1000000000000000000 - (wrap64 ((mx (-1000000000) (mn 1000000000 a0_0)) * (mx (-1000000000) (mn 1000000000 a0_0))))))).bind fun t348 => ((trig_direction.f k (mx (-1000000000) (mn 1000000000 a0_0)) t348).bind fun bt349 => ((trig_root.f k (wrap64 (1000000000000000000 - (wrap64 ((mx (-1000000000) (mn 1000000000 a0_1)) * (mx (-1000000000) (mn 1000000000 a0_1))))))).bind fun t352 => ((trig_direction.f k (mx (-1000000000) (mn 1000000000 a0_1)) t352).bind fun bt353 => (some (mx (-250000000) (wrap64 (bt349.1 - 1)), mn 250000000 (wrap64 (bt353.2 + 1)), 0)))))) else (some (0, 0, t347)))
theorem trig_ArcSin.mono : ∀ a0 a1 k, LeO (trig_ArcSin.f k a0 a1) (trig_ArcSin.f (k + 1) a0 a1) := by
  intro a0 a1 k
  unfold trig_ArcSin.f
  repeat' first
      | (with_reducible exact interval_Check.mono _ _ _)
      | (with_reducible exact trig_direction.mono _ _ _)
      | (with_reducible exact trig_root.mono _ _)
      | (with_reducible exact LeO.refl _)
      | (with_reducible exact LeO.none _)
      | (with_reducible refine LeO.ite ?_ ?_)
      | (with_reducible refine LeO.bind ?_ (fun _ => ?_))
      | exact interval_Check.mono _ _ _
      | exact trig_direction.mono _ _ _
      | exact trig_root.mono _ _
      | exact LeO.none _
      | refine LeO.ite ?_ ?_
      | refine LeO.bind ?_ (fun _ => ?_)

/-! ### the Lean function ephemeriskeep2_same: function 40 -/
def ephemeriskeep2_same.f (a0_0 : Int) (a0_1 : Int) (a1_0 : Int) (a1_1 : Int) : Option (Bool) := (ephemeriskeep2_at.f (wrap64 (a1_0 - a0_0)) 1000000000).bind fun t358 => (if t358 ≤ (wrap64 (a0_1 - a0_0)) then (some true) else (some (decide (t358 ≥ (wrap64 (1000000000 - (wrap64 (a1_1 - a1_0))))))))

/-! ### the Lean function ephemeriskeep2_TrigInverts: function 12 -/
def ephemeriskeep2_TrigInverts.f (k : Nat) (a0_0 : Int) (a0_1 : Int) : Option (Bool) := (ephemeriskeep2_trigWorks.f k).bind fun t360 => (if t360 = true then ((ephemeriskeep2_cut.f a0_0 a0_1 250000000).bind fun bt361 => ((trig_SinOver.f k bt361.1 (mn bt361.2 (wrap64 (bt361.1 + 100000000)))).bind fun bt363 => ((trig_CosOver.f k bt361.1 (mn bt361.2 (wrap64 (bt361.1 + 100000000)))).bind fun bt367 => ((trig_ArcSin.f k bt363.1 bt363.2.1).bind fun bt371 => ((trig_Arc.f k bt363.1 bt363.2.1 bt367.1 bt367.2.1).bind fun bt375 => (if bt363.2.2 = 0 then (if bt367.2.2 = 0 then (if bt371.2.2 = 0 then ((ephemeriskeep2_holds.f bt371.1 bt371.2.1 bt361.1 (mn bt361.2 (wrap64 (bt361.1 + 100000000)))).bind fun t379 => (if t379 = true then (if bt375.2.2 = 11 then (some true) else (if bt375.2.2 = 0 then ((ephemeriskeep2_same.f bt375.1 bt375.2.1 bt361.1 bt361.1).bind fun t380 => (if t380 = true then ((ephemeriskeep2_same.f bt375.1 bt375.2.1 (mn bt361.2 (wrap64 (bt361.1 + 100000000))) (mn bt361.2 (wrap64 (bt361.1 + 100000000)))).bind fun t381 => (some t381)) else (none))) else (none))) else (none))) else (none)) else (none)) else (none))))))) else (none))
theorem ephemeriskeep2_TrigInverts.mono : ∀ a0 a1 k, LeO (ephemeriskeep2_TrigInverts.f k a0 a1) (ephemeriskeep2_TrigInverts.f (k + 1) a0 a1) := by
  intro a0 a1 k
  unfold ephemeriskeep2_TrigInverts.f
  repeat' first
      | (with_reducible exact ephemeriskeep2_trigWorks.mono _)
      | (with_reducible exact trig_Arc.mono _ _ _ _ _)
      | (with_reducible exact trig_ArcSin.mono _ _ _)
      | (with_reducible exact trig_CosOver.mono _ _ _)
      | (with_reducible exact trig_SinOver.mono _ _ _)
      | (with_reducible exact LeO.refl _)
      | (with_reducible exact LeO.none _)
      | (with_reducible refine LeO.ite ?_ ?_)
      | (with_reducible refine LeO.bind ?_ (fun _ => ?_))
      | exact ephemeriskeep2_trigWorks.mono _
      | exact trig_Arc.mono _ _ _ _ _
      | exact trig_ArcSin.mono _ _ _
      | exact trig_CosOver.mono _ _ _
      | exact trig_SinOver.mono _ _ _
      | exact LeO.none _
      | refine LeO.ite ?_ ?_
      | refine LeO.bind ?_ (fun _ => ?_)

/-! ### the Lean function interval_times: function 45 -/
def interval_times.f (a0 : Int) (a1 : Int) : Option (Int × Bool) := if InR a0 ∧ InR a1 ∧ InR (a0 * a1) then some (a0 * a1, true) else none
theorem abs_f_ {x : Int} (h : InR x) : interval_abs.f x = some (if x < 0 then -x else x) := by
  obtain ⟨h1, h2⟩ := h
  unfold interval_abs.f
  split
  · rw [wrap_in_ (by omega) (by omega)]
  · rfl
theorem quo_ge_ {x y : Int} (y0 : y ≠ 0) (h : InR (x * y)) : (if x < 0 then -x else x) ≤ Int.tdiv 1000000000000000000 (if y < 0 then -y else y) ∧ Int.tdiv 1000000000000000000 (if y < 0 then -y else y) ≤ 1000000000000000000 := by
  obtain ⟨h1, h2⟩ := h
  rw [Int.tdiv_eq_ediv_of_nonneg (by omega)]
  constructor
  · refine Int.le_ediv_of_mul_le (by split <;> omega) ?_
    split <;> split
    · rw [Int.neg_mul_neg]; exact h2
    · rw [Int.neg_mul]; omega
    · rw [Int.mul_neg]; omega
    · exact h2
  · exact Int.ediv_le_self _ (by omega)

/-! ### the Lean function interval_Mul: function 18 -/
def interval_Mul.P (a b c d : Int) : Nat → Int
  | 0 => a * c
  | 1 => a * d
  | 2 => b * c
  | _ => b * d
def interval_Mul.L (a b c d : Int) : Nat → Int
  | 0 => 0
  | 1 => a * c
  | k + 2 => if interval_Mul.P a b c d (k + 1) < interval_Mul.L a b c d (k + 1) then interval_Mul.P a b c d (k + 1) else interval_Mul.L a b c d (k + 1)
def interval_Mul.H (a b c d : Int) : Nat → Int
  | 0 => 0
  | 1 => a * c
  | k + 2 => if interval_Mul.H a b c d (k + 1) < interval_Mul.P a b c d (k + 1) then interval_Mul.P a b c d (k + 1) else interval_Mul.H a b c d (k + 1)
def MulOk (a0_0 a0_1 a1_0 a1_1 : Int) : Prop := InR a0_0 ∧ a0_0 ≤ a0_1 ∧ InR a0_1 ∧ InR a1_0 ∧ a1_0 ≤ a1_1 ∧ InR a1_1 ∧ InR (a0_0 * a1_0) ∧ InR (a0_0 * a1_1) ∧ InR (a0_1 * a1_0) ∧ InR (a0_1 * a1_1)
instance (a b c d : Int) : Decidable (MulOk a b c d) := inferInstanceAs (Decidable (_ ∧ _ ∧ _ ∧ _ ∧ _ ∧ _ ∧ _ ∧ _ ∧ _ ∧ _))
def interval_Mul.f (a0_0 : Int) (a0_1 : Int) (a1_0 : Int) (a1_1 : Int) : Option (Int × Int × Int) :=
  if MulOk a0_0 a0_1 a1_0 a1_1 then some (interval_Mul.L a0_0 a0_1 a1_0 a1_1 4, interval_Mul.H a0_0 a0_1 a1_0 a1_1 4, 0) else none
theorem icheck_f_ {x y : Int} (g1 : InR x) (g2 : x ≤ y) (g3 : InR y) : interval_Check.f 1 x y = some 0 := by
  obtain ⟨a1, a2⟩ := g1
  obtain ⟨b1, b2⟩ := g3
  unfold interval_Check.f interval_out.f
  rw [if_neg (by omega), if_neg (by omega)]
  simp only [Option.bind_some, interval_Check.j0]
  rw [decide_eq_false (by omega), decide_eq_false (by omega)]
  simp only [Bool.false_eq_true, if_false]
  rw [if_neg (by omega)]
theorem both_f_ {a b c d : Int} (h1 : InR a) (h2 : a ≤ b) (h3 : InR b) (h4 : InR c) (h5 : c ≤ d) (h6 : InR d) : interval_both.f 1 a b c d = some 0 := by
  unfold interval_both.f
  rw [icheck_f_ h1 h2 h3, icheck_f_ h4 h5 h6]
  rfl
theorem times_f_ {x y : Int} (hx : InR x) (hy : InR y) (h : InR (x * y)) : interval_times.f x y = some (x * y, true) := by
  unfold interval_times.f
  rw [if_pos ⟨hx, hy, h⟩]
theorem MulOk.times_ {a b c d : Int} (h : MulOk a b c d) : interval_times.f a c = some (interval_Mul.P a b c d 0, true) ∧ interval_times.f a d = some (interval_Mul.P a b c d 1, true) ∧ interval_times.f b c = some (interval_Mul.P a b c d 2, true) ∧ interval_times.f b d = some (interval_Mul.P a b c d 3, true) := by
  obtain ⟨h1, h2, h3, h4, h5, h6, h7, h8, h9, h10⟩ := h
  exact ⟨times_f_ h1 h4 h7, times_f_ h1 h6 h8, times_f_ h3 h4 h9, times_f_ h3 h6 h10⟩

/-! ### the Lean function ephemeriskeep2_TrigPythagoras: function 13 -/
def ephemeriskeep2_TrigPythagoras.f (k : Nat) (a0 : Int) : Option (Bool) := (ephemeriskeep2_trigWorks.f k).bind fun t382 => (if t382 = true then ((trig_Sin.f k (Int.tmod a0 1000000000000)).bind fun bt383 => ((trig_Cos.f k (Int.tmod a0 1000000000000)).bind fun bt387 => ((interval_Mul.f bt383.1 bt383.2.1 bt383.1 bt383.2.1).bind fun bt391 => ((interval_Mul.f bt387.1 bt387.2.1 bt387.1 bt387.2.1).bind fun bt395 => (if bt383.2.2 = 0 then (if bt387.2.2 = 0 then (if bt391.2.2 = 0 then (if bt395.2.2 = 0 then (if (wrap64 (bt391.1 + bt395.1)) ≤ 1000000000000000000 then (some (decide ((wrap64 (bt391.2.1 + bt395.2.1)) ≥ 1000000000000000000))) else (none)) else (none)) else (none)) else (none)) else (none)))))) else (none))
theorem ephemeriskeep2_TrigPythagoras.mono : ∀ a0 k, LeO (ephemeriskeep2_TrigPythagoras.f k a0) (ephemeriskeep2_TrigPythagoras.f (k + 1) a0) := by
  intro a0 k
  unfold ephemeriskeep2_TrigPythagoras.f
  repeat' first
      | (with_reducible exact ephemeriskeep2_trigWorks.mono _)
      | (with_reducible exact trig_Cos.mono _ _)
      | (with_reducible exact trig_Sin.mono _ _)
      | (with_reducible exact LeO.refl _)
      | (with_reducible exact LeO.none _)
      | (with_reducible refine LeO.ite ?_ ?_)
      | (with_reducible refine LeO.bind ?_ (fun _ => ?_))
      | exact ephemeriskeep2_trigWorks.mono _
      | exact trig_Cos.mono _ _
      | exact trig_Sin.mono _ _
      | exact LeO.none _
      | refine LeO.ite ?_ ?_
      | refine LeO.bind ?_ (fun _ => ?_)
/-- THE ONE PURE STATEMENT of ephemeriskeep2_TrigPythagoras: yours. -/
def ephemeriskeep2_TrigPythagoras.Pure : Prop := ∀ (a0 : Int), (Lit.int .i64 a0).wf = true → ∃ k, ephemeriskeep2_TrigPythagoras.f k a0 = some true

/-! ### the Lean function ephemeriskeep2_unit: function 42 -/
def ephemeriskeep2_unit.f (a0_0 : Int) (a0_1 : Int) (a1_0 : Int) (a1_1 : Int) : Option (Int × Int) := (interval_Mul.f a0_0 a0_1 a1_0 a1_1).bind fun bt402 => ((interval_Scale.f bt402.1 bt402.2.1 1 1000000000).bind fun bt406 => (some (bt406.1, bt406.2.1)))

/-! ### the Lean function ephemeriskeep2_TrigAdds: function 14 -/
def ephemeriskeep2_TrigAdds.f (k : Nat) (a0 : Int) (a1 : Int) : Option (Bool) := (ephemeriskeep2_trigWorks.f k).bind fun t410 => (if t410 = true then ((trig_Sin.f k (wrap64 ((Int.tmod a0 1000000000000) + (Int.tmod a1 1000000000000)))).bind fun bt411 => ((trig_Sin.f k (Int.tmod a0 1000000000000)).bind fun bt415 => ((trig_Sin.f k (Int.tmod a1 1000000000000)).bind fun bt419 => ((trig_Cos.f k (Int.tmod a0 1000000000000)).bind fun bt423 => ((trig_Cos.f k (Int.tmod a1 1000000000000)).bind fun bt427 => (if bt411.2.2 = 0 then (if bt415.2.2 = 0 then (if bt419.2.2 = 0 then (if bt423.2.2 = 0 then (if bt427.2.2 = 0 then ((ephemeriskeep2_unit.f bt415.1 bt415.2.1 bt427.1 bt427.2.1).bind fun bt431 => ((ephemeriskeep2_unit.f bt423.1 bt423.2.1 bt419.1 bt419.2.1).bind fun bt433 => ((ephemeriskeep2_plus.f bt431.1 bt431.2 bt433.1 bt433.2).bind fun bt435 => ((ephemeriskeep2_meets.f bt411.1 bt411.2.1 bt435.1 bt435.2).bind fun t437 => (some t437))))) else (none)) else (none)) else (none)) else (none)) else (none))))))) else (none))
theorem ephemeriskeep2_TrigAdds.mono : ∀ a0 a1 k, LeO (ephemeriskeep2_TrigAdds.f k a0 a1) (ephemeriskeep2_TrigAdds.f (k + 1) a0 a1) := by
  intro a0 a1 k
  unfold ephemeriskeep2_TrigAdds.f
  repeat' first
      | (with_reducible exact ephemeriskeep2_trigWorks.mono _)
      | (with_reducible exact trig_Cos.mono _ _)
      | (with_reducible exact trig_Sin.mono _ _)
      | (with_reducible exact LeO.refl _)
      | (with_reducible exact LeO.none _)
      | (with_reducible refine LeO.ite ?_ ?_)
      | (with_reducible refine LeO.bind ?_ (fun _ => ?_))
      | exact ephemeriskeep2_trigWorks.mono _
      | exact trig_Cos.mono _ _
      | exact trig_Sin.mono _ _
      | exact LeO.none _
      | refine LeO.ite ?_ ?_
      | refine LeO.bind ?_ (fun _ => ?_)
/-- THE ONE PURE STATEMENT of ephemeriskeep2_TrigAdds: yours. -/
def ephemeriskeep2_TrigAdds.Pure : Prop := ∀ (a0 : Int) (a1 : Int), (Lit.int .i64 a0).wf = true → (Lit.int .i64 a1).wf = true → ∃ k, ephemeriskeep2_TrigAdds.f k a0 a1 = some true

/-- THE ONE PURE STATEMENT of ephemeriskeep2_TrigInverts. -/
def ephemeriskeep2_TrigInverts.Pure : Prop := ∀ (a0_0 : Int) (a0_1 : Int), (Lit.int .i64 a0_0).wf = true → (Lit.int .i64 a0_1).wf = true → ∃ k, ephemeriskeep2_TrigInverts.f k a0_0 a0_1 = some true

end Go.Proofs.Ytigolfomfpmodaa.JT
