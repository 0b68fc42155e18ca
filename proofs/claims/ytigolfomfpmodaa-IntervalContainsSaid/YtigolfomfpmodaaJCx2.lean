-- Made by a program of this session (wip/hp.py, over the kit's print) out of the translation. Not trusted: Lean checks it.
import Derived.Test.YtigolfomfpmodaaJCx0
namespace Go.Proofs.Ytigolfomfpmodaa.JC
open Go.RowKit Go.Proofs.YtigolfomfpmodaaW.PrintWords Go.Proofs.YtigolfomfpmodaaW.PrintLast Go.Proofs.YtigolfomfpmodaaW.PrintMore
attribute [local go_sem] max2_int min2_int max_two min_two max_three min_three max_four min_four   -- for this text's walks alone
set_option linter.unusedVariables false
set_option linter.unusedSimpArgs false

theorem wrap_in_ {n : Int} (h : -9223372036854775808 ≤ n) (h' : n ≤ 9223372036854775807) : wrap64 n = n := by
  unfold wrap64; omega
/-- within the range of the bounds of intervals -/
def InR (x : Int) : Prop := -1000000000000000000 ≤ x ∧ x ≤ 1000000000000000000
instance (x : Int) : Decidable (InR x) := inferInstanceAs (Decidable (_ ∧ _))
theorem below_setg {B : Nat} {w W : World} {g j : Nat} {v : Value} (h : Below B w W) (hg : B ≤ g) : Below B w (W.setCell ⟨g, j, none⟩ v) := h.setCell hg _

/-! ### the Lean function interval_out: function 61 -/
def interval_out.f (a0 : Int) : Option (Bool) := if a0 < (-1000000000000000000) then (some true) else (some (decide (a0 > 1000000000000000000)))

/-! ### the Lean function interval_Check: function 46 -/
def interval_Check.j0 : Nat → Bool → Int → Int → Option (Int)
  | 0, _, _, _ => none
  | k + 1, x10, x102000, x102001 => if x10 = true then (some 3) else (if x102000 > x102001 then (some 9) else (some 0))
def interval_Check.f (k : Nat) (a0_0 : Int) (a0_1 : Int) : Option (Int) := (interval_out.f a0_0).bind fun t102 => (if t102 = true then (interval_Check.j0 k true a0_0 a0_1) else ((interval_out.f a0_1).bind fun t103 => (interval_Check.j0 k t103 a0_0 a0_1)))
theorem interval_Check.mono_l : ∀ k, (∀ y0 y1 y2, LeO (interval_Check.j0 k y0 y1 y2) (interval_Check.j0 (k + 1) y0 y1 y2))
  | 0 => fun _ _ _ r h => by simp [interval_Check.j0] at h
  | k + 1 => by
    have ih0 := interval_Check.mono_l k
    · intro y0 y1 y2
      unfold interval_Check.j0
      repeat' first
      | (with_reducible exact ih0 _ _ _)
      | (with_reducible exact LeO.refl _)
      | (with_reducible exact LeO.none _)
      | (with_reducible refine LeO.ite ?_ ?_)
      | (with_reducible refine LeO.bind ?_ (fun _ => ?_))
      | exact ih0 _ _ _
      | exact LeO.none _
      | refine LeO.ite ?_ ?_
      | refine LeO.bind ?_ (fun _ => ?_)
theorem interval_Check.mono : ∀ a0 a1 k, LeO (interval_Check.f k a0 a1) (interval_Check.f (k + 1) a0 a1) := by
  intro a0 a1 k
  have ih0 := interval_Check.mono_l k
  unfold interval_Check.f
  repeat' first
      | (with_reducible exact ih0 _ _ _)
      | (with_reducible exact LeO.refl _)
      | (with_reducible exact LeO.none _)
      | (with_reducible refine LeO.ite ?_ ?_)
      | (with_reducible refine LeO.bind ?_ (fun _ => ?_))
      | exact ih0 _ _ _
      | exact LeO.none _
      | refine LeO.ite ?_ ?_
      | refine LeO.bind ?_ (fun _ => ?_)

/-! ### the Lean function interval_both: function 43 -/
def interval_both.f (k : Nat) (a0_0 : Int) (a0_1 : Int) (a1_0 : Int) (a1_1 : Int) : Option (Int) := (interval_Check.f k a0_0 a0_1).bind fun t106 => (if t106 = 0 then ((interval_Check.f k a1_0 a1_1).bind fun t107 => (some t107)) else (some t106))
theorem interval_both.mono : ∀ a0 a1 a2 a3 k, LeO (interval_both.f k a0 a1 a2 a3) (interval_both.f (k + 1) a0 a1 a2 a3) := by
  intro a0 a1 a2 a3 k
  unfold interval_both.f
  repeat' first
      | (with_reducible exact interval_Check.mono _ _ _)
      | (with_reducible exact LeO.refl _)
      | (with_reducible exact LeO.none _)
      | (with_reducible refine LeO.ite ?_ ?_)
      | (with_reducible refine LeO.bind ?_ (fun _ => ?_))
      | exact interval_Check.mono _ _ _
      | exact LeO.none _
      | refine LeO.ite ?_ ?_
      | refine LeO.bind ?_ (fun _ => ?_)

/-! ### the Lean function interval_fit: function 44 -/
def interval_fit.f (a0 : Int) (a1 : Int) : Option (Int × Int × Int) := (interval_out.f a0).bind fun t109 => (if t109 = true then (some (0, 0, 14)) else ((interval_out.f a1).bind fun t110 => (if t110 = true then (some (0, 0, 14)) else (some (a0, a1, 0)))))

/-! ### the Lean function interval_Add: function 17 -/
def interval_Add.f (k : Nat) (a0_0 : Int) (a0_1 : Int) (a1_0 : Int) (a1_1 : Int) : Option (Int × Int × Int) := (interval_both.f k a0_0 a0_1 a1_0 a1_1).bind fun t114 => (if t114 = 0 then ((interval_fit.f (wrap64 (a0_0 + a1_0)) (wrap64 (a0_1 + a1_1))).bind fun bt115 => (some (bt115.1, bt115.2.1, bt115.2.2))) else (some (0, 0, t114)))
theorem interval_Add.mono : ∀ a0 a1 a2 a3 k, LeO (interval_Add.f k a0 a1 a2 a3) (interval_Add.f (k + 1) a0 a1 a2 a3) := by
  intro a0 a1 a2 a3 k
  unfold interval_Add.f
  repeat' first
      | (with_reducible exact interval_both.mono _ _ _ _ _)
      | (with_reducible exact LeO.refl _)
      | (with_reducible exact LeO.none _)
      | (with_reducible refine LeO.ite ?_ ?_)
      | (with_reducible refine LeO.bind ?_ (fun _ => ?_))
      | exact interval_both.mono _ _ _ _ _
      | exact LeO.none _
      | refine LeO.ite ?_ ?_
      | refine LeO.bind ?_ (fun _ => ?_)

/-! ### the Lean function interval_abs: function 62 -/
def interval_abs.f (a0 : Int) : Option (Int) := if a0 < 0 then (some (wrap64 (-a0))) else (some a0)

/-! ### the Lean function interval_times: function 45 -/
def interval_times.f (a0 : Int) (a1 : Int) : Option (Int × Bool) := if InR a0 ∧ InR a1 ∧ InR (a0 * a1) then some (a0 * a1, true) else none
theorem abs_f_ {x : Int} (h : InR x) : interval_abs.f x = some (if x < 0 then -x else x) := by
  obtain ⟨h1, h2⟩ := h
  unfold interval_abs.f
  split
  · rw [wrap_in_ (by omega) (by omega)]
  · rfl
theorem quo_ge_ {x y : Int} (y0 : y ≠ 0) (h : InR (x * y)) : (if x < 0 then -x else x) ≤ Int.tdiv 1000000000000000000 (if y < 0 then -y else y) ∧ Int.tdiv 1000000000000000000 (if y < 0 then -y else y) ≤ 1000000000000000000 := by
  obtain ⟨h1, h2⟩ := h
  rw [Int.tdiv_eq_ediv_of_nonneg (by omega)]
  constructor
  · refine Int.le_ediv_of_mul_le (by split <;> omega) ?_
    split <;> split
    · rw [Int.neg_mul_neg]; exact h2
    · rw [Int.neg_mul]; omega
    · rw [Int.mul_neg]; omega
    · exact h2
  · exact Int.ediv_le_self _ (by omega)

/-! ### the Lean function interval_Mul: function 18 -/
def interval_Mul.P (a b c d : Int) : Nat → Int
  | 0 => a * c
  | 1 => a * d
  | 2 => b * c
  | _ => b * d
def interval_Mul.L (a b c d : Int) : Nat → Int
  | 0 => 0
  | 1 => a * c
  | k + 2 => if interval_Mul.P a b c d (k + 1) < interval_Mul.L a b c d (k + 1) then interval_Mul.P a b c d (k + 1) else interval_Mul.L a b c d (k + 1)
def interval_Mul.H (a b c d : Int) : Nat → Int
  | 0 => 0
  | 1 => a * c
  | k + 2 => if interval_Mul.H a b c d (k + 1) < interval_Mul.P a b c d (k + 1) then interval_Mul.P a b c d (k + 1) else interval_Mul.H a b c d (k + 1)
def MulOk (a0_0 a0_1 a1_0 a1_1 : Int) : Prop := InR a0_0 ∧ a0_0 ≤ a0_1 ∧ InR a0_1 ∧ InR a1_0 ∧ a1_0 ≤ a1_1 ∧ InR a1_1 ∧ InR (a0_0 * a1_0) ∧ InR (a0_0 * a1_1) ∧ InR (a0_1 * a1_0) ∧ InR (a0_1 * a1_1)
instance (a b c d : Int) : Decidable (MulOk a b c d) := inferInstanceAs (Decidable (_ ∧ _ ∧ _ ∧ _ ∧ _ ∧ _ ∧ _ ∧ _ ∧ _ ∧ _))
def interval_Mul.f (a0_0 : Int) (a0_1 : Int) (a1_0 : Int) (a1_1 : Int) : Option (Int × Int × Int) :=
  if MulOk a0_0 a0_1 a1_0 a1_1 then some (interval_Mul.L a0_0 a0_1 a1_0 a1_1 4, interval_Mul.H a0_0 a0_1 a1_0 a1_1 4, 0) else none
theorem icheck_f_ {x y : Int} (g1 : InR x) (g2 : x ≤ y) (g3 : InR y) : interval_Check.f 1 x y = some 0 := by
  obtain ⟨a1, a2⟩ := g1
  obtain ⟨b1, b2⟩ := g3
  unfold interval_Check.f interval_out.f
  rw [if_neg (by omega), if_neg (by omega)]
  simp only [Option.bind_some, interval_Check.j0]
  rw [decide_eq_false (by omega), decide_eq_false (by omega)]
  simp only [Bool.false_eq_true, if_false]
  rw [if_neg (by omega)]
theorem both_f_ {a b c d : Int} (h1 : InR a) (h2 : a ≤ b) (h3 : InR b) (h4 : InR c) (h5 : c ≤ d) (h6 : InR d) : interval_both.f 1 a b c d = some 0 := by
  unfold interval_both.f
  rw [icheck_f_ h1 h2 h3, icheck_f_ h4 h5 h6]
  rfl
theorem times_f_ {x y : Int} (hx : InR x) (hy : InR y) (h : InR (x * y)) : interval_times.f x y = some (x * y, true) := by
  unfold interval_times.f
  rw [if_pos ⟨hx, hy, h⟩]
theorem MulOk.times_ {a b c d : Int} (h : MulOk a b c d) : interval_times.f a c = some (interval_Mul.P a b c d 0, true) ∧ interval_times.f a d = some (interval_Mul.P a b c d 1, true) ∧ interval_times.f b c = some (interval_Mul.P a b c d 2, true) ∧ interval_times.f b d = some (interval_Mul.P a b c d 3, true) := by
  obtain ⟨h1, h2, h3, h4, h5, h6, h7, h8, h9, h10⟩ := h
  exact ⟨times_f_ h1 h4 h7, times_f_ h1 h6 h8, times_f_ h3 h4 h9, times_f_ h3 h6 h10⟩

/-! ### the Lean function interval_Floor: function 48 -/
def interval_Floor.f (a0 : Int) (a1 : Int) : Option (Int) := if a1 = 0 then (none) else (if (Int.tmod a0 a1) = 0 then (some (wrap64 (Int.tdiv a0 a1))) else (if ((decide (a0 < 0)) != (decide (a1 < 0))) = true then (some (wrap64 ((wrap64 (Int.tdiv a0 a1)) - 1))) else (some (wrap64 (Int.tdiv a0 a1)))))

/-! ### the Lean function interval_part: function 47 -/
def interval_part.j0 : Nat → Int → Int → Int → Int → Bool → Option (Int × Bool)
  | 0, _, _, _, _, _ => none
  | k + 1, x0, x1, x2, x8, x21 => if x21 = true then (some (0, false)) else ((interval_Floor.f (wrap64 ((wrap64 (x0 - (wrap64 (x8 * x2)))) * x1)) x2).bind fun t120 => ((interval_out.f (wrap64 ((wrap64 (x8 * x1)) + t120))).bind fun t121 => (some (wrap64 ((wrap64 (x8 * x1)) + t120), !t121))))
def interval_part.f (k : Nat) (a0 : Int) (a1 : Int) (a2 : Int) : Option (Int × Bool) := (interval_Floor.f a0 a2).bind fun t118 => (if a1 = 0 then (interval_part.j0 k a0 a1 a2 t118 false) else ((interval_abs.f t118).bind fun t119 => (interval_part.j0 k a0 a1 a2 t118 (decide (t119 > (wrap64 (Int.tdiv (2000000000000000000 : Int) a1)))))))
theorem interval_part.mono_l : ∀ k, (∀ y0 y1 y2 y3 y4, LeO (interval_part.j0 k y0 y1 y2 y3 y4) (interval_part.j0 (k + 1) y0 y1 y2 y3 y4))
  | 0 => fun _ _ _ _ _ r h => by simp [interval_part.j0] at h
  | k + 1 => by
    have ih0 := interval_part.mono_l k
    · intro y0 y1 y2 y3 y4
      unfold interval_part.j0
      repeat' first
      | (with_reducible exact ih0 _ _ _ _ _)
      | (with_reducible exact LeO.refl _)
      | (with_reducible exact LeO.none _)
      | (with_reducible refine LeO.ite ?_ ?_)
      | (with_reducible refine LeO.bind ?_ (fun _ => ?_))
      | exact ih0 _ _ _ _ _
      | exact LeO.none _
      | refine LeO.ite ?_ ?_
      | refine LeO.bind ?_ (fun _ => ?_)
theorem interval_part.mono : ∀ a0 a1 a2 k, LeO (interval_part.f k a0 a1 a2) (interval_part.f (k + 1) a0 a1 a2) := by
  intro a0 a1 a2 k
  have ih0 := interval_part.mono_l k
  unfold interval_part.f
  repeat' first
      | (with_reducible exact ih0 _ _ _ _ _)
      | (with_reducible exact LeO.refl _)
      | (with_reducible exact LeO.none _)
      | (with_reducible refine LeO.ite ?_ ?_)
      | (with_reducible refine LeO.bind ?_ (fun _ => ?_))
      | exact ih0 _ _ _ _ _
      | exact LeO.none _
      | refine LeO.ite ?_ ?_
      | refine LeO.bind ?_ (fun _ => ?_)

/-! ### the Lean function interval_Scale: function 21 -/
def interval_Scale.lo (a0_0 a0_1 a1 a2 : Int) : Int := if a1 < 0 then (-a0_1) * (-a1) / a2 else a0_0 * a1 / a2
def interval_Scale.hi (a0_0 a0_1 a1 a2 : Int) : Int := if a1 < 0 then -(a0_0 * (-a1) / a2) else -((-a0_1) * a1 / a2)
def ScaleOk (a0_0 a0_1 a1 a2 : Int) : Prop := InR a0_0 ∧ a0_0 ≤ a0_1 ∧ InR a0_1 ∧ -1000000000 ≤ a1 ∧ a1 ≤ 1000000000 ∧ 1 ≤ a2 ∧ a2 ≤ 1000000000 ∧ InR (interval_Scale.lo a0_0 a0_1 a1 a2) ∧ InR (interval_Scale.hi a0_0 a0_1 a1 a2)
instance (a b c d : Int) : Decidable (ScaleOk a b c d) := inferInstanceAs (Decidable (_ ∧ _ ∧ _ ∧ _ ∧ _ ∧ _ ∧ _ ∧ _ ∧ _))
def interval_Scale.f (a0_0 : Int) (a0_1 : Int) (a1 : Int) (a2 : Int) : Option (Int × Int × Int) :=
  if ScaleOk a0_0 a0_1 a1 a2 then some (interval_Scale.lo a0_0 a0_1 a1 a2, interval_Scale.hi a0_0 a0_1 a1 a2, 0) else none
theorem sfloor_ {a b : Int} (hb : 0 < b) (hb' : b ≤ 9000000000000000000) (ha : -9000000000000000000 ≤ a) (ha' : a ≤ 9000000000000000000) : interval_Floor.f a b = some (a / b) := by
  have e := Int.emod_add_mul_ediv a b
  have m0 := Int.emod_nonneg a (show b ≠ 0 by omega)
  have m1 := Int.emod_lt_of_pos a hb
  unfold interval_Floor.f
  rw [if_neg (by omega)]
  rcases Int.le_total 0 a with h0 | h0
  · have d0 : 0 ≤ a / b := Int.ediv_nonneg h0 (by omega)
    have d1 : a / b ≤ a := Int.ediv_le_self _ h0
    rw [Int.tdiv_eq_ediv_of_nonneg h0, wrap_in_ (n := a / b) (by omega) (by omega), decide_eq_false (show ¬ a < 0 by omega), decide_eq_false (show ¬ b < 0 by omega)]
    simp
  · have hm : Int.tmod a b = -((-a) % b) := by rw [← Int.tmod_eq_emod_of_nonneg (by omega), Int.neg_tmod, Int.neg_neg]
    have hd : Int.tdiv a b = -((-a) / b) := by rw [← Int.tdiv_eq_ediv_of_nonneg (by omega), Int.neg_tdiv, Int.neg_neg]
    have e' := Int.emod_add_mul_ediv (-a) b
    have m0' := Int.emod_nonneg (-a) (show b ≠ 0 by omega)
    have m1' := Int.emod_lt_of_pos (-a) hb
    have d0 : 0 ≤ (-a) / b := Int.ediv_nonneg (by omega) (by omega)
    have d1 : (-a) / b ≤ -a := Int.ediv_le_self _ (by omega)
    rw [hm, hd, wrap_in_ (n := -((-a) / b)) (by omega) (by omega)]
    clear hm hd e m0 m1
    generalize (-a) / b = q at *
    generalize (-a) % b = m at *
    have n1 : b * (-q) = -(b * q) := Int.mul_neg b q
    have bq : 0 ≤ b * q := Int.mul_nonneg (by omega) d0
    have n2 : b * (-q - 1) = -(b * q) - b := by rw [Int.mul_sub, n1, Int.mul_one]
    by_cases z : m = 0
    · rw [if_pos (by omega)]
      congr 1
      rw [show a = b * (-q) by omega, Int.mul_ediv_cancel_left _ (by omega)]
    · rw [if_neg (by omega), decide_eq_true (show a < 0 by omega), decide_eq_false (show ¬ b < 0 by omega), wrap_in_ (by omega) (by omega)]
      simp only [Bool.true_bne, Bool.not_false, if_true]
      congr 1
      rw [show a = (b - m) + b * (-q - 1) by omega, Int.add_mul_ediv_left _ _ (by omega), Int.ediv_eq_zero_of_lt (by omega) (by omega)]; omega
theorem part_f_ {n m d : Int} (h1 : InR n) (h2 : 0 ≤ m) (h3 : m ≤ 1000000000) (h4 : 1 ≤ d) (h5 : d ≤ 1000000000) (h6 : InR (n * m / d)) : interval_part.f 1 n m d = some (n * m / d, true) := by
  obtain ⟨a1, a2⟩ := h1
  obtain ⟨b1, b2⟩ := h6
  have e := Int.emod_add_mul_ediv n d
  have m0 := Int.emod_nonneg n (show d ≠ 0 by omega)
  have m1 := Int.emod_lt_of_pos n (show 0 < d by omega)
  have q1 : n / d ≤ 1000000000000000000 := Int.ediv_le_of_le_mul (by omega) (by have : 1000000000000000000 * 1 ≤ 1000000000000000000 * d := Int.mul_le_mul_of_nonneg_left h4 (by omega); omega)
  have q0 : -1000000000000000000 ≤ n / d := Int.le_ediv_of_mul_le (by omega) (by have : 1000000000000000000 * 1 ≤ 1000000000000000000 * d := Int.mul_le_mul_of_nonneg_left h4 (by omega); rw [Int.neg_mul]; omega)
  -- the two parts of the quotient
  have key : n / d * m + (n - n / d * d) * m / d = n * m / d := by
    have : n * m = (n - n / d * d) * m + (n / d * m) * d := by
      rw [Int.sub_mul, Int.mul_right_comm (n / d) d m]; omega
    rw [this, Int.add_mul_ediv_right _ _ (by omega)]; omega
  have r : n - n / d * d = n % d := by rw [Int.mul_comm (n / d) d]; omega
  have p0 : 0 ≤ (n - n / d * d) * m := by rw [r]; exact Int.mul_nonneg m0 h2
  have p1 : (n - n / d * d) * m ≤ d * m := by rw [r]; exact Int.mul_le_mul_of_nonneg_right (by omega) h2
  have p2 : d * m ≤ 1000000000 * m := Int.mul_le_mul_of_nonneg_right h5 h2
  have t0 : 0 ≤ (n - n / d * d) * m / d := Int.ediv_nonneg p0 (by omega)
  have t1 : (n - n / d * d) * m / d ≤ m := Int.ediv_le_of_le_mul (by omega) (by rw [Int.mul_comm m d]; exact p1)
  have w1 : n / d * d = n - n % d := by omega
  unfold interval_part.f
  rw [sfloor_ (by omega) (by omega) (by omega) (by omega)]
  simp only [Option.bind_some]
  have last : interval_part.j0 1 n m d (n / d) false = some (n * m / d, true) := by
    simp only [interval_part.j0, Bool.false_eq_true, if_false]
    rw [wrap_in_ (n := n / d * d) (by omega) (by omega), wrap_in_ (n := n - n / d * d) (by omega) (by omega), wrap_in_ (n := (n - n / d * d) * m) (by omega) (by omega), sfloor_ (by omega) (by omega) (by omega) (by omega)]
    simp only [Option.bind_some]
    rw [wrap_in_ (n := n / d * m) (by omega) (by omega), key, wrap_in_ (n := n * m / d) (by omega) (by omega)]
    unfold interval_out.f
    rw [if_neg (by omega), decide_eq_false (by omega)]
    rfl
  by_cases z : m = 0
  · rw [if_pos z]; exact last
  · rw [if_neg z]
    have ab : interval_abs.f (n / d) = some (if n / d < 0 then -(n / d) else n / d) := by
      unfold interval_abs.f
      split
      · rw [wrap_in_ (by omega) (by omega)]
      · rfl
    rw [ab]
    simp only [Option.bind_some]
    have le : (if n / d < 0 then -(n / d) else n / d) ≤ Int.tdiv 2000000000000000000 m := by
      rw [Int.tdiv_eq_ediv_of_nonneg (by omega)]
      refine Int.le_ediv_of_mul_le (by omega) ?_
      split
      · rw [Int.neg_mul]; omega
      · omega
    have up : Int.tdiv 2000000000000000000 m ≤ 2000000000000000000 := by
      rw [Int.tdiv_eq_ediv_of_nonneg (by omega)]; exact Int.ediv_le_self _ (by omega)
    have lo : 0 ≤ Int.tdiv 2000000000000000000 m := by
      rw [Int.tdiv_eq_ediv_of_nonneg (by omega)]; exact Int.ediv_nonneg (by omega) h2
    rw [wrap_in_ (by omega) (by omega), decide_eq_false (by omega)]
    exact last

/-! ### the Lean function interval_Ceil: function 49 -/
def interval_Ceil.f (a0 : Int) (a1 : Int) : Option (Int) := (interval_Floor.f (wrap64 (-a0)) a1).bind fun t122 => (some (wrap64 (-t122)))

/-! ### the Lean function interval_Div: function 22 -/
section
variable {P : Program} {ops : Array Oper} {Q : Exit → Act → World → Prop} {md : Region.Mode}
/-- as 'wpAny', with a condition on the world that hangs on which operations have come up -/
def wpAnyL (P : Program) (md : Region.Mode) (ops : Array Oper) (Q : Exit → Act → World → Prop) (S : Array Bool → World → Prop) : Nat → Array Bool → Act → World → Prop
  | 0, l, a, w => Region.ready md ops l = [] ∧ Q .normal a w
  | f + 1, l, a, w => (Region.ready md ops l = [] → Q .normal a w) ∧
      ∀ i ∈ Region.ready md ops l, wpOp P ops Q i (fun a' w' => S (l.setIfInBounds i true) w' ∧ wpAnyL P md ops Q S f (l.setIfInBounds i true) a' w') a w
theorem wpAnyL_any {S : Array Bool → World → Prop} : ∀ (f : Nat) (l : Array Bool) (a : Act) (w : World), wpAnyL P md ops Q S f l a w → wpAny P md ops Q f l a w
  | 0, _, _, _, h => h
  | f + 1, _, _, _, h => ⟨h.1, fun i hi => wpOp_mono (fun a' w' g => wpAnyL_any f _ a' w' g.2) (h.2 i hi)⟩
/-- number i is taken first: it yields v in every world that meets S while number n has not come up, and n waits for i (or is i) -/
theorem wpAnyL_first {S : Array Bool → World → Prop} {S1 : World → Prop} {i n : Nat} {oi : Oper} {v : Value} (hi : ops[i]? = some oi) (hsel : Region.noSelect ops = true)
    (hQ : ∀ c a w, Q (.panic c) (a.put oi.dst v) w → Q (.panic c) a w)
    (hset : ∀ l w, S (l.setIfInBounds i true) w → S l w)
    (hS1 : ∀ l w, l.getD n false = false → S l w → S1 w)
    (hn : n = i ∨ ∃ on, ops[n]? = some on ∧ ∃ e ∈ on.after, Region.binds md e = true ∧ e.on = i) :
    ∀ (f : Nat) (l : Array Bool) (a : Act) (w : World),
      (∀ j oj, ops[j]? = some oj → j ≠ i → l.getD j true = false → (∀ e ∈ oj.after, Region.binds md e = true → e.on ≠ i) → oi.apart ops oj = true) →
      i ∈ Region.ready md ops l → l.getD n false = false → YieldsIf P ops S1 oi v a → S l w →
      wpAnyL P md ops Q S f (l.setIfInBounds i true) (a.put oi.dst v) w → S (l.setIfInBounds i true) w → wpAnyL P md ops Q S (f + 1) l a w := by
  have hsel' := Region.noSelect_spec hsel
  intro f
  induction f with
  | zero =>
    intro l a w _ hr hun hy hS H hS'
    refine ⟨fun h => (by rw [h] at hr; cases hr), fun j hj => ?_⟩
    by_cases hji : j = i
    · subst hji; exact hy.wpOp hi (hS1 l w hun hS) ⟨hS', H⟩
    · have h0 := ready_mono hj hji
      rw [H.1] at h0; cases h0
  | succ f ih =>
    intro l a w hfree hr hun hy hS H hS'
    refine ⟨fun h => (by rw [h] at hr; cases hr), fun j hj => ?_⟩
    by_cases hji : j = i
    · subst hji; exact hy.wpOp hi (hS1 l w hun hS) ⟨hS', H⟩
    · obtain ⟨hjun, oj, hoj, hall⟩ := mem_ready.1 hj
      have nolist : l.getD i false = false := by
        have h0 := (mem_ready.1 hr).1
        rcases Nat.lt_or_ge i l.size with h' | h'
        · simpa [h'] using h0
        · simp [Array.getElem?_eq_none h'] at h0
      have hnot : ∀ e ∈ oj.after, Region.binds md e = true → e.on ≠ i := fun e he hb heq => by
        have h1 := hall e he hb
        rw [heq, nolist] at h1; cases h1
      have jn : j ≠ n := by
        rintro rfl
        rcases hn with rfl | ⟨on, hon, e, he, hb, heq⟩
        · exact hji rfl
        · rw [hoj] at hon; cases hon; exact hnot e he hb heq
      refine wpOp_mono (fun a' w' g => ?_) (wpOp_putIf hoj (hfree j oj hoj hji hjun hnot) (fun cs b => hsel' i oi cs b hi) (fun cs b => hsel' j oj cs b hoj) hQ hy (H.2 j (ready_mono hj hji)))
      obtain ⟨g1, g2, g3⟩ := g
      rw [Array.setIfInBounds_comm _ _ (Ne.symm hji)] at g2 g3
      have g4 : S (l.setIfInBounds j true) w' := hset _ _ g2
      refine ⟨g4, ih _ a' w' (fun k ok hk hki hkun hno => hfree k ok hk hki ?_ hno) (ready_mono hr (Ne.symm hji)) (by rw [getD_set_ne false jn]; exact hun) g1 g4 g3 g2⟩
      by_cases hjk : j = k
      · subst hjk; exact hjun
      · rw [getD_set_ne true hjk] at hkun; exact hkun
theorem wpAnyL_ready {S : Array Bool → World → Prop} {rs : List Nat} {f : Nat} {l : Array Bool} {a : Act} {w : World} (hr : Region.ready md ops l = rs) (hne : rs ≠ [])
    (h : ∀ i ∈ rs, wpOp P ops Q i (fun a' w' => S (l.setIfInBounds i true) w' ∧ wpAnyL P md ops Q S f (l.setIfInBounds i true) a' w') a w) : wpAnyL P md ops Q S (f + 1) l a w :=
  ⟨fun h0 => absurd (hr ▸ h0) hne, hr ▸ h⟩
end
section
variable {P : Program} {ops : Array Oper} {Q : Exit → Act → World → Prop} {md : Region.Mode}
def SAfter (n : Nat) (B C : World → Prop) (l : Array Bool) (w : World) : Prop := B w ∧ (l.getD n false = false → C w)
/-- n waits for i -/
def waitsFor (md : Region.Mode) (ops : Array Oper) (n i : Nat) : Bool := match ops[n]? with | some o => o.after.any (fun e => Region.binds md e && e.on == i) | none => false
theorem wpAnyL_takeB {n : Nat} {B C : World → Prop} {i : Nat} {oi : Oper} {v : Value} {f : Nat} {l : Array Bool} {a : Act} {w : World} (hi : ops[i]? = some oi) (hsel : Region.noSelect ops = true)
    (hf : Region.free md ops l i = true) (hr : (Region.ready md ops l).contains i = true) (hin : (i == n) = false)
    (hQ : ∀ c a w, Q (.panic c) (a.put oi.dst v) w → Q (.panic c) a w) (hy : YieldsIf P ops B oi v a) (hS : SAfter n B C l w)
    (h : SAfter n B C (l.setIfInBounds i true) w → wpAnyL P md ops Q (SAfter n B C) f (l.setIfInBounds i true) (a.put oi.dst v) w) : wpAnyL P md ops Q (SAfter n B C) (f + 1) l a w := by
  have hne : i ≠ n := by simpa using hin
  have hr' : i ∈ Region.ready md ops l := by simpa using hr
  have un : l.getD i false = false := by
    have h0 := (mem_ready.1 hr').1
    rcases Nat.lt_or_ge i l.size with h' | h'
    · simpa [h'] using h0
    · simp [Array.getElem?_eq_none h'] at h0
  have hs : SAfter n B C (l.setIfInBounds i true) w := ⟨hS.1, fun g => hS.2 (by rwa [getD_set_ne false hne] at g)⟩
  exact wpAnyL_first (S1 := B) (n := i) hi hsel hQ (fun l w g => ⟨g.1, fun k => g.2 (by rw [getD_set_ne false hne]; exact k)⟩) (fun _ _ _ g => g.1) (.inl rfl) f l a w (Region.free_spec hi hf) hr' un hy hS (h hs) hs
theorem wpAnyL_takeC {n : Nat} {B C : World → Prop} {i : Nat} {oi : Oper} {v : Value} {f : Nat} {l : Array Bool} {a : Act} {w : World} (hi : ops[i]? = some oi) (hsel : Region.noSelect ops = true)
    (hf : Region.free md ops l i = true) (hr : (Region.ready md ops l).contains i = true) (hin : (i == n) = false) (hwf : waitsFor md ops n i = true) (hun : l.getD n false = false)
    (hQ : ∀ c a w, Q (.panic c) (a.put oi.dst v) w → Q (.panic c) a w) (hy : YieldsIf P ops (fun w => B w ∧ C w) oi v a) (hS : SAfter n B C l w)
    (h : SAfter n B C (l.setIfInBounds i true) w → wpAnyL P md ops Q (SAfter n B C) f (l.setIfInBounds i true) (a.put oi.dst v) w) : wpAnyL P md ops Q (SAfter n B C) (f + 1) l a w := by
  have hne : i ≠ n := by simpa using hin
  have hr' : i ∈ Region.ready md ops l := by simpa using hr
  have hs : SAfter n B C (l.setIfInBounds i true) w := ⟨hS.1, fun g => hS.2 (by rwa [getD_set_ne false hne] at g)⟩
  refine wpAnyL_first (S1 := fun w => B w ∧ C w) (n := n) hi hsel hQ (fun l w g => ⟨g.1, fun k => g.2 (by rw [getD_set_ne false hne]; exact k)⟩) (fun _ _ k g => ⟨g.1, g.2 k⟩) (.inr ?_) f l a w (Region.free_spec hi hf) hr' hun hy hS (h hs) hs
  unfold waitsFor at hwf
  split at hwf
  · rename_i o ho
    refine ⟨o, ho, ?_⟩
    simp only [Array.any_eq_true', Bool.and_eq_true, beq_iff_eq] at hwf
    obtain ⟨e, he, h1, h2⟩ := hwf
    exact ⟨e, he, h1, h2⟩
  · cases hwf
theorem wpAnyL_only {n : Nat} {B C : World → Prop} {i : Nat} {oi : Oper} {f : Nat} {l : Array Bool} {a : Act} {w : World} (hi : ops[i]? = some oi) (hr : Region.ready md ops l = [i])
    (h : ∀ K' : Act → World → Prop, Shut (∀ a w, SAfter n B C (l.setIfInBounds i true) w → (SAfter n B C (l.setIfInBounds i true) w → wpAnyL P md ops Q (SAfter n B C) f (l.setIfInBounds i true) a w) → K' a w) →
      if Region.wanted oi (yielded ops a.tmps) = true then Oper.wp P oi a w K' Q else K' (a.put oi.dst undef) w) : wpAnyL P md ops Q (SAfter n B C) (f + 1) l a w := by
  refine wpAnyL_ready hr (by simp) fun j hj => ?_
  obtain rfl : j = i := by simpa using hj
  exact wpOp_step hi fun K' hK => h K' (fun a w hS hW => hK a w ⟨hS, hW hS⟩)
theorem wpAnyL_done {S : Array Bool → World → Prop} {l : Array Bool} {a : Act} {w : World} (hr : Region.ready md ops l = []) (h : Q .normal a w) : ∀ f, wpAnyL P md ops Q S f l a w
  | 0 => ⟨hr, h⟩
  | _ + 1 => ⟨fun _ => h, by rw [hr]; simp⟩
theorem wp_region_anyL {n : Nat} {B C : World → Prop} {id : Nat} {a : Act} {w : World} (hm : P.follows .mixedOrders = true) (hB : B w.drew) (hC : C w.drew)
    (h : SAfter n B C (Array.replicate ops.size false) w.drew → wpAnyL P .any ops Q (SAfter n B C) ops.size (Array.replicate ops.size false) a w.drew) : (Code.region id ops true).wp P Q a w :=
  wp_region_any hm (wpAnyL_any _ _ _ _ (h ⟨hB, fun _ => hC⟩))
end

/-- a quotient rounded down, for a divisor of either sign -/
def flr (x y : Int) : Int := if 0 < y then x / y else (-x) / (-y)
/-- rounded up -/
def clg (x y : Int) : Int := -(flr (-x) y)
def interval_Div.P (a b c d : Int) : Nat → Int × Int
  | 0 => (a, d)
  | 1 => (b, c)
  | _ => (b, d)
def interval_Div.L (a b c d : Int) : Nat → Int
  | 0 => flr a c
  | k + 1 => if flr (interval_Div.P a b c d k).1 (interval_Div.P a b c d k).2 < interval_Div.L a b c d k then flr (interval_Div.P a b c d k).1 (interval_Div.P a b c d k).2 else interval_Div.L a b c d k
def interval_Div.H (a b c d : Int) : Nat → Int
  | 0 => clg a c
  | k + 1 => if interval_Div.H a b c d k < clg (interval_Div.P a b c d k).1 (interval_Div.P a b c d k).2 then clg (interval_Div.P a b c d k).1 (interval_Div.P a b c d k).2 else interval_Div.H a b c d k
def DivOk (a0_0 a0_1 a1_0 a1_1 : Int) : Prop := InR a0_0 ∧ a0_0 ≤ a0_1 ∧ InR a0_1 ∧ InR a1_0 ∧ a1_0 ≤ a1_1 ∧ InR a1_1
instance (a b c d : Int) : Decidable (DivOk a b c d) := inferInstanceAs (Decidable (_ ∧ _ ∧ _ ∧ _ ∧ _ ∧ _))
def interval_Div.f (a0_0 : Int) (a0_1 : Int) (a1_0 : Int) (a1_1 : Int) : Option (Int × Int × Int) :=
  if DivOk a0_0 a0_1 a1_0 a1_1 then (if a1_0 ≤ 0 ∧ 0 ≤ a1_1 then some (0, 0, 1) else some (interval_Div.L a0_0 a0_1 a1_0 a1_1 3, interval_Div.H a0_0 a0_1 a1_0 a1_1 3, 0)) else none
theorem flr_mul_ {x y : Int} (hy : y ≠ 0) : Int.tdiv x y * 1 = Int.tdiv x y := Int.mul_one _
theorem floor_any_ {a b : Int} (hb : b ≠ 0) (hb1 : -9000000000000000000 ≤ b) (hb2 : b ≤ 9000000000000000000) (ha : -9000000000000000000 ≤ a) (ha' : a ≤ 9000000000000000000) : interval_Floor.f a b = some (flr a b) ∧ -9000000000000000001 ≤ flr a b ∧ flr a b ≤ 9000000000000000001 := by
  have pos : ∀ a b : Int, 0 < b → b ≤ 9000000000000000000 → -9000000000000000000 ≤ a → a ≤ 9000000000000000000 → interval_Floor.f a b = some (a / b) ∧ -9000000000000000001 ≤ a / b ∧ a / b ≤ 9000000000000000001 := by
    intro a b hb hb' ha ha'
    have e := Int.emod_add_mul_ediv a b
    have m0 := Int.emod_nonneg a (show b ≠ 0 by omega)
    have m1 := Int.emod_lt_of_pos a hb
    unfold interval_Floor.f
    rw [if_neg (by omega)]
    rcases Int.le_total 0 a with h0 | h0
    · have d0 : 0 ≤ a / b := Int.ediv_nonneg h0 (by omega)
      have d1 : a / b ≤ a := Int.ediv_le_self _ h0
      rw [Int.tdiv_eq_ediv_of_nonneg h0, wrap_in_ (n := a / b) (by omega) (by omega), decide_eq_false (show ¬ a < 0 by omega), decide_eq_false (show ¬ b < 0 by omega)]
      exact ⟨by simp, by omega, by omega⟩
    · have hm : Int.tmod a b = -((-a) % b) := by rw [← Int.tmod_eq_emod_of_nonneg (by omega), Int.neg_tmod, Int.neg_neg]
      have hd : Int.tdiv a b = -((-a) / b) := by rw [← Int.tdiv_eq_ediv_of_nonneg (by omega), Int.neg_tdiv, Int.neg_neg]
      have e' := Int.emod_add_mul_ediv (-a) b
      have m0' := Int.emod_nonneg (-a) (show b ≠ 0 by omega)
      have m1' := Int.emod_lt_of_pos (-a) hb
      have d0 : 0 ≤ (-a) / b := Int.ediv_nonneg (by omega) (by omega)
      have d1 : (-a) / b ≤ -a := Int.ediv_le_self _ (by omega)
      rw [hm, hd, wrap_in_ (n := -((-a) / b)) (by omega) (by omega)]
      have res : a / b = if (-a) % b = 0 then -((-a) / b) else -((-a) / b) - 1 := by
        clear hm hd e m0 m1
        generalize (-a) / b = q at *
        generalize (-a) % b = m at *
        have n1 : b * (-q) = -(b * q) := Int.mul_neg b q
        have n2 : b * (-q - 1) = -(b * q) - b := by rw [Int.mul_sub, n1, Int.mul_one]
        by_cases z : m = 0
        · rw [if_pos z, show a = b * (-q) by omega, Int.mul_ediv_cancel_left _ (by omega)]
        · rw [if_neg z, show a = (b - m) + b * (-q - 1) by omega, Int.add_mul_ediv_left _ _ (by omega), Int.ediv_eq_zero_of_lt (by omega) (by omega)]; omega
      have bq : 0 ≤ b * ((-a) / b) := Int.mul_nonneg (by omega) d0
      rw [res]
      by_cases z : (-a) % b = 0
      · rw [if_pos (by omega), if_pos z]
        exact ⟨rfl, by omega, by omega⟩
      · rw [if_neg (by omega), if_neg z, decide_eq_true (show a < 0 by omega), decide_eq_false (show ¬ b < 0 by omega), wrap_in_ (by omega) (by omega)]
        exact ⟨by simp, by omega, by omega⟩
  unfold flr
  by_cases h : 0 < b
  · rw [if_pos h]; exact pos a b h hb2 ha ha'
  · rw [if_neg h]
    obtain ⟨h1, h2, h3⟩ := pos (-a) (-b) (by omega) (by omega) (by omega) (by omega)
    refine ⟨?_, h2, h3⟩
    rw [← h1]
    unfold interval_Floor.f
    rw [if_neg hb, if_neg (show ¬ -b = 0 by omega), Int.neg_tmod, Int.tmod_neg, Int.neg_tdiv, Int.tdiv_neg, Int.neg_neg]
    by_cases z : Int.tmod a b = 0
    · rw [if_pos z, if_pos (show -(Int.tmod a b) = 0 by omega)]
    · rw [if_neg z, if_neg (show ¬ -(Int.tmod a b) = 0 by omega)]
      have e : (decide (a < 0) != decide (b < 0)) = (decide (-a < 0) != decide (-b < 0)) := by
        have a0 : a ≠ 0 := by rintro rfl; exact z (by simp)
        rw [decide_eq_true (show b < 0 by omega), decide_eq_false (show ¬ -b < 0 by omega)]
        by_cases g : a < 0
        · rw [decide_eq_true g, decide_eq_false (show ¬ -a < 0 by omega)]; rfl
        · rw [decide_eq_false g, decide_eq_true (show -a < 0 by omega)]; rfl
      rw [e]
theorem ceil_any_ {a b : Int} (hb : b ≠ 0) (hb1 : -9000000000000000000 ≤ b) (hb2 : b ≤ 9000000000000000000) (ha : -9000000000000000000 ≤ a) (ha' : a ≤ 9000000000000000000) : interval_Ceil.f a b = some (clg a b) := by
  unfold interval_Ceil.f clg
  obtain ⟨h1, h2, h3⟩ := floor_any_ (a := -a) hb hb1 hb2 (by omega) (by omega)
  rw [wrap_in_ (n := -a) (by omega) (by omega), h1]
  simp only [Option.bind_some]
  rw [wrap_in_ (by omega) (by omega)]
theorem icheck_f2_ {x y : Int} (g1 : InR x) (g2 : x ≤ y) (g3 : InR y) : interval_Check.f 1 x y = some 0 := by
  obtain ⟨a1, a2⟩ := g1
  obtain ⟨b1, b2⟩ := g3
  unfold interval_Check.f interval_out.f
  rw [if_neg (by omega), if_neg (by omega)]
  simp only [Option.bind_some, interval_Check.j0]
  rw [decide_eq_false (by omega), decide_eq_false (by omega)]
  simp only [Bool.false_eq_true, if_false]
  rw [if_neg (by omega)]
theorem both_f2_ {a b c d : Int} (h1 : InR a) (h2 : a ≤ b) (h3 : InR b) (h4 : InR c) (h5 : c ≤ d) (h6 : InR d) : interval_both.f 1 a b c d = some 0 := by
  unfold interval_both.f
  rw [icheck_f2_ h1 h2 h3, icheck_f2_ h4 h5 h6]
  rfl
theorem blk_new_at {w : World} {o : Obj} {k : Nat} (h : w.heap.size = k) : (w.alloc o).heap[k]? = some o := h ▸ blk_new w o

/-! ### the Lean function interval_Sign: function 25 -/
def interval_Sign.f (k : Nat) (a0_0 : Int) (a0_1 : Int) : Option (Int × Int) := (interval_Check.f k a0_0 a0_1).bind fun t124 => (if t124 = 0 then (if a0_0 > 0 then (some (1, 0)) else (if a0_1 < 0 then (some ((-1), 0)) else (if a0_0 = 0 then (if a0_1 = 0 then (some (0, 0)) else (some (0, 11))) else (some (0, 11))))) else (some (0, t124)))
theorem interval_Sign.mono : ∀ a0 a1 k, LeO (interval_Sign.f k a0 a1) (interval_Sign.f (k + 1) a0 a1) := by
  intro a0 a1 k
  unfold interval_Sign.f
  repeat' first
      | (with_reducible exact interval_Check.mono _ _ _)
      | (with_reducible exact LeO.refl _)
      | (with_reducible exact LeO.none _)
      | (with_reducible refine LeO.ite ?_ ?_)
      | (with_reducible refine LeO.bind ?_ (fun _ => ?_))
      | exact interval_Check.mono _ _ _
      | exact LeO.none _
      | refine LeO.ite ?_ ?_
      | refine LeO.bind ?_ (fun _ => ?_)

/-! ### the Lean function ephemeriskeep2_intervalWorks: function 15 -/
def ephemeriskeep2_intervalWorks.f (k : Nat)  : Option (Bool) := (interval_Mul.f (-2) 3 4 5).bind fun bt125 => ((interval_Div.f 7 10 2 4).bind fun bt129 => ((interval_Scale.f 1 2 (-3) 2).bind fun bt133 => ((interval_Sign.f k (-2) (-1)).bind fun bt137 => ((interval_Add.f k 1 2 3 5).bind fun bt139 => (if bt125.2.2 = 0 then (if (bt125.1 == (-10) && (bt125.2.1 == 15)) = true then (if bt129.2.2 = 0 then (if (bt129.1 == 1 && (bt129.2.1 == 5)) = true then (if bt133.2.2 = 0 then (if (bt133.1 == (-3) && (bt133.2.1 == (-1))) = true then (if bt137.2 = 0 then (if bt137.1 = (-1) then (if bt139.2.2 = 0 then (some (bt139.1 == 4 && (bt139.2.1 == 7))) else (none)) else (none)) else (none)) else (none)) else (none)) else (none)) else (none)) else (none)) else (none))))))
theorem ephemeriskeep2_intervalWorks.mono : ∀ k, LeO (ephemeriskeep2_intervalWorks.f k ) (ephemeriskeep2_intervalWorks.f (k + 1) ) := by
  intro  k
  unfold ephemeriskeep2_intervalWorks.f
  repeat' first
      | (with_reducible exact interval_Add.mono _ _ _ _ _)
      | (with_reducible exact interval_Sign.mono _ _ _)
      | (with_reducible exact LeO.refl _)
      | (with_reducible exact LeO.none _)
      | (with_reducible refine LeO.ite ?_ ?_)
      | (with_reducible refine LeO.bind ?_ (fun _ => ?_))
      | exact interval_Add.mono _ _ _ _ _
      | exact interval_Sign.mono _ _ _
      | exact LeO.none _
      | refine LeO.ite ?_ ?_
      | refine LeO.bind ?_ (fun _ => ?_)

/-! ### the Lean function ephemeriskeep2_cut: function 16 -/
def ephemeriskeep2_cut.f (a0_0 : Int) (a0_1 : Int) (a1 : Int) : Option (Int × Int) := if (wrap64 (a1 + 1)) = 0 then (none) else (some (mn (Int.tmod a0_0 (wrap64 (a1 + 1))) (Int.tmod a0_1 (wrap64 (a1 + 1))), mx (Int.tmod a0_0 (wrap64 (a1 + 1))) (Int.tmod a0_1 (wrap64 (a1 + 1)))))

/-! ### the Lean function ephemeriskeep2_holds: function 19 -/
def ephemeriskeep2_holds.f (a0_0 : Int) (a0_1 : Int) (a1_0 : Int) (a1_1 : Int) : Option (Bool) := if a0_0 ≤ a1_0 then (some (decide (a1_1 ≤ a0_1))) else (some false)

/-! ### the Lean function ephemeriskeep2_IntervalDistributes: function 3 -/
def ephemeriskeep2_IntervalDistributes.f (k : Nat) (a0_0 : Int) (a0_1 : Int) (a1_0 : Int) (a1_1 : Int) (a2_0 : Int) (a2_1 : Int) : Option (Bool) := (ephemeriskeep2_intervalWorks.f k).bind fun t148 => (if t148 = true then ((ephemeriskeep2_cut.f a0_0 a0_1 100000000).bind fun bt149 => ((ephemeriskeep2_cut.f a1_0 a1_1 100000000).bind fun bt151 => ((ephemeriskeep2_cut.f a2_0 a2_1 100000000).bind fun bt153 => ((interval_Add.f k bt151.1 bt151.2 bt153.1 bt153.2).bind fun bt155 => ((interval_Mul.f bt149.1 bt149.2 bt155.1 bt155.2.1).bind fun bt159 => ((interval_Mul.f bt149.1 bt149.2 bt151.1 bt151.2).bind fun bt163 => ((interval_Mul.f bt149.1 bt149.2 bt153.1 bt153.2).bind fun bt167 => ((interval_Add.f k bt163.1 bt163.2.1 bt167.1 bt167.2.1).bind fun bt171 => (if bt155.2.2 = 0 then (if bt159.2.2 = 0 then (if bt163.2.2 = 0 then (if bt167.2.2 = 0 then (if bt171.2.2 = 0 then ((ephemeriskeep2_holds.f bt171.1 bt171.2.1 bt159.1 bt159.2.1).bind fun t175 => (some t175)) else (none)) else (none)) else (none)) else (none)) else (none)))))))))) else (none))
theorem ephemeriskeep2_IntervalDistributes.mono : ∀ a0 a1 a2 a3 a4 a5 k, LeO (ephemeriskeep2_IntervalDistributes.f k a0 a1 a2 a3 a4 a5) (ephemeriskeep2_IntervalDistributes.f (k + 1) a0 a1 a2 a3 a4 a5) := by
  intro a0 a1 a2 a3 a4 a5 k
  unfold ephemeriskeep2_IntervalDistributes.f
  repeat' first
      | (with_reducible exact ephemeriskeep2_intervalWorks.mono _)
      | (with_reducible exact interval_Add.mono _ _ _ _ _)
      | (with_reducible exact LeO.refl _)
      | (with_reducible exact LeO.none _)
      | (with_reducible refine LeO.ite ?_ ?_)
      | (with_reducible refine LeO.bind ?_ (fun _ => ?_))
      | exact ephemeriskeep2_intervalWorks.mono _
      | exact interval_Add.mono _ _ _ _ _
      | exact LeO.none _
      | refine LeO.ite ?_ ?_
      | refine LeO.bind ?_ (fun _ => ?_)

/-! ### the Lean function ephemeriskeep2_at: function 20 -/
def ephemeriskeep2_at.f (a0 : Int) (a1 : Int) : Option (Int) := if a1 = 0 then (none) else (some (Int.tmod (wrap64 ((Int.tmod a0 a1) + a1)) a1))

/-! ### the Lean function ephemeriskeep2_IntervalUndoes: function 4 -/
def ephemeriskeep2_IntervalUndoes.j0 : Nat → Bool → Int → Int → Int → Int → Option (Bool)
  | 0, _, _, _, _, _ => none
  | k + 1, x54, x177000, x177001, x178000, x178001 => if x54 = true then (none) else ((interval_Div.f x177000 x177001 x178000 x178001).bind fun bt194 => (if bt194.2.2 = 0 then ((interval_Mul.f bt194.1 bt194.2.1 x178000 x178001).bind fun bt198 => (if bt198.2.2 = 0 then ((ephemeriskeep2_holds.f bt198.1 bt198.2.1 x177000 x177001).bind fun t202 => (some t202)) else (none))) else (if bt194.2.2 = 1 then (if x178000 ≤ 0 then (some (decide (x178001 ≥ 0))) else (none)) else (none))))
def ephemeriskeep2_IntervalUndoes.f (k : Nat) (a0_0 : Int) (a0_1 : Int) (a1_0 : Int) (a1_1 : Int) (a2 : Int) (a3 : Int) : Option (Bool) := (ephemeriskeep2_intervalWorks.f k).bind fun t178 => (if t178 = true then ((ephemeriskeep2_cut.f a0_0 a0_1 1000000000).bind fun bt179 => ((ephemeriskeep2_cut.f a1_0 a1_1 1000000).bind fun bt181 => ((ephemeriskeep2_at.f a2 1000).bind fun t183 => ((ephemeriskeep2_at.f a3 1000).bind fun t184 => ((interval_Scale.f bt179.1 bt179.2 (wrap64 (1 + t183)) (wrap64 (1 + t184))).bind fun bt185 => ((interval_Scale.f bt185.1 bt185.2.1 (wrap64 (1 + t184)) (wrap64 (1 + t183))).bind fun bt189 => (if bt185.2.2 = 0 then (if bt189.2.2 = 0 then ((ephemeriskeep2_holds.f bt189.1 bt189.2.1 bt179.1 bt179.2).bind fun t193 => (ephemeriskeep2_IntervalUndoes.j0 k (!t193) bt179.1 bt179.2 bt181.1 bt181.2)) else (ephemeriskeep2_IntervalUndoes.j0 k true bt179.1 bt179.2 bt181.1 bt181.2)) else (ephemeriskeep2_IntervalUndoes.j0 k true bt179.1 bt179.2 bt181.1 bt181.2)))))))) else (none))
theorem ephemeriskeep2_IntervalUndoes.mono_l : ∀ k, (∀ y0 y1 y2 y3 y4, LeO (ephemeriskeep2_IntervalUndoes.j0 k y0 y1 y2 y3 y4) (ephemeriskeep2_IntervalUndoes.j0 (k + 1) y0 y1 y2 y3 y4))
  | 0 => fun _ _ _ _ _ r h => by simp [ephemeriskeep2_IntervalUndoes.j0] at h
  | k + 1 => by
    have ih0 := ephemeriskeep2_IntervalUndoes.mono_l k
    · intro y0 y1 y2 y3 y4
      unfold ephemeriskeep2_IntervalUndoes.j0
      repeat' first
      | (with_reducible exact ih0 _ _ _ _ _)
      | (with_reducible exact ephemeriskeep2_intervalWorks.mono _)
      | (with_reducible exact LeO.refl _)
      | (with_reducible exact LeO.none _)
      | (with_reducible refine LeO.ite ?_ ?_)
      | (with_reducible refine LeO.bind ?_ (fun _ => ?_))
      | exact ih0 _ _ _ _ _
      | exact ephemeriskeep2_intervalWorks.mono _
      | exact LeO.none _
      | refine LeO.ite ?_ ?_
      | refine LeO.bind ?_ (fun _ => ?_)
theorem ephemeriskeep2_IntervalUndoes.mono : ∀ a0 a1 a2 a3 a4 a5 k, LeO (ephemeriskeep2_IntervalUndoes.f k a0 a1 a2 a3 a4 a5) (ephemeriskeep2_IntervalUndoes.f (k + 1) a0 a1 a2 a3 a4 a5) := by
  intro a0 a1 a2 a3 a4 a5 k
  have ih0 := ephemeriskeep2_IntervalUndoes.mono_l k
  unfold ephemeriskeep2_IntervalUndoes.f
  repeat' first
      | (with_reducible exact ih0 _ _ _ _ _)
      | (with_reducible exact ephemeriskeep2_intervalWorks.mono _)
      | (with_reducible exact LeO.refl _)
      | (with_reducible exact LeO.none _)
      | (with_reducible refine LeO.ite ?_ ?_)
      | (with_reducible refine LeO.bind ?_ (fun _ => ?_))
      | exact ih0 _ _ _ _ _
      | exact ephemeriskeep2_intervalWorks.mono _
      | exact LeO.none _
      | refine LeO.ite ?_ ?_
      | refine LeO.bind ?_ (fun _ => ?_)

/-! ### the Lean function ephemeriskeep2_inside: function 23 -/
def ephemeriskeep2_inside.f (a0_0 : Int) (a0_1 : Int) (a1 : Int) : Option (Int) := (ephemeriskeep2_at.f a1 (wrap64 ((wrap64 (a0_1 - a0_0)) + 1))).bind fun t204 => (some (wrap64 (a0_0 + t204)))

/-! ### the Lean function interval_Sub: function 24 -/
def interval_Sub.f (k : Nat) (a0_0 : Int) (a0_1 : Int) (a1_0 : Int) (a1_1 : Int) : Option (Int × Int × Int) := (interval_both.f k a0_0 a0_1 a1_0 a1_1).bind fun t208 => (if t208 = 0 then ((interval_fit.f (wrap64 (a0_0 - a1_1)) (wrap64 (a0_1 - a1_0))).bind fun bt209 => (some (bt209.1, bt209.2.1, bt209.2.2))) else (some (0, 0, t208)))
theorem interval_Sub.mono : ∀ a0 a1 a2 a3 k, LeO (interval_Sub.f k a0 a1 a2 a3) (interval_Sub.f (k + 1) a0 a1 a2 a3) := by
  intro a0 a1 a2 a3 k
  unfold interval_Sub.f
  repeat' first
      | (with_reducible exact interval_both.mono _ _ _ _ _)
      | (with_reducible exact LeO.refl _)
      | (with_reducible exact LeO.none _)
      | (with_reducible refine LeO.ite ?_ ?_)
      | (with_reducible refine LeO.bind ?_ (fun _ => ?_))
      | exact interval_both.mono _ _ _ _ _
      | exact LeO.none _
      | refine LeO.ite ?_ ?_
      | refine LeO.bind ?_ (fun _ => ?_)

/-! ### the Lean function ephemeriskeep2_IntervalContains: function 5 -/
def ephemeriskeep2_IntervalContains.f (k : Nat) (a0_0 : Int) (a0_1 : Int) (a1_0 : Int) (a1_1 : Int) (a2 : Int) (a3 : Int) (a4 : Int) : Option (Bool) := (ephemeriskeep2_intervalWorks.f k).bind fun t214 => (if t214 = true then ((ephemeriskeep2_cut.f a0_0 a0_1 1000000000).bind fun bt215 => ((ephemeriskeep2_cut.f a1_0 a1_1 1000000000).bind fun bt217 => ((ephemeriskeep2_inside.f bt215.1 bt215.2 a2).bind fun t219 => ((ephemeriskeep2_inside.f bt217.1 bt217.2 a3).bind fun t220 => ((interval_Add.f k bt215.1 bt215.2 bt217.1 bt217.2).bind fun bt221 => ((interval_Sub.f k bt215.1 bt215.2 bt217.1 bt217.2).bind fun bt225 => ((interval_Mul.f bt215.1 bt215.2 bt217.1 bt217.2).bind fun bt229 => ((interval_Scale.f bt215.1 bt215.2 (Int.tmod a4 1000) 1).bind fun bt233 => (if bt221.2.2 = 0 then (if bt225.2.2 = 0 then (if bt229.2.2 = 0 then (if bt233.2.2 = 0 then ((ephemeriskeep2_holds.f bt221.1 bt221.2.1 (wrap64 (t219 + t220)) (wrap64 (t219 + t220))).bind fun t237 => (if t237 = true then ((ephemeriskeep2_holds.f bt225.1 bt225.2.1 (wrap64 (t219 - t220)) (wrap64 (t219 - t220))).bind fun t238 => (if t238 = true then ((ephemeriskeep2_holds.f bt229.1 bt229.2.1 (wrap64 (t219 * t220)) (wrap64 (t219 * t220))).bind fun t239 => (if t239 = true then ((ephemeriskeep2_holds.f bt233.1 bt233.2.1 (wrap64 (t219 * (Int.tmod a4 1000))) (wrap64 (t219 * (Int.tmod a4 1000)))).bind fun t240 => (if t240 = true then ((interval_Div.f bt215.1 bt215.2 bt217.1 bt217.2).bind fun bt241 => (if bt241.2.2 = 1 then (some true) else (if bt241.2.2 = 0 then (if t220 > 0 then (if (wrap64 (bt241.1 * t220)) ≤ t219 then (if t219 ≤ (wrap64 (bt241.2.1 * t220)) then (some true) else (if t220 < 0 then (none) else (none))) else (if t220 < 0 then (none) else (none))) else (if t220 < 0 then (if (wrap64 (bt241.1 * t220)) ≥ t219 then (some (decide (t219 ≥ (wrap64 (bt241.2.1 * t220))))) else (none)) else (none))) else (none)))) else (none))) else (none))) else (none))) else (none))) else (none)) else (none)) else (none)) else (none)))))))))) else (none))
theorem ephemeriskeep2_IntervalContains.mono : ∀ a0 a1 a2 a3 a4 a5 a6 k, LeO (ephemeriskeep2_IntervalContains.f k a0 a1 a2 a3 a4 a5 a6) (ephemeriskeep2_IntervalContains.f (k + 1) a0 a1 a2 a3 a4 a5 a6) := by
  intro a0 a1 a2 a3 a4 a5 a6 k
  unfold ephemeriskeep2_IntervalContains.f
  repeat' first
      | (with_reducible exact ephemeriskeep2_intervalWorks.mono _)
      | (with_reducible exact interval_Add.mono _ _ _ _ _)
      | (with_reducible exact interval_Sub.mono _ _ _ _ _)
      | (with_reducible exact LeO.refl _)
      | (with_reducible exact LeO.none _)
      | (with_reducible refine LeO.ite ?_ ?_)
      | (with_reducible refine LeO.bind ?_ (fun _ => ?_))
      | exact ephemeriskeep2_intervalWorks.mono _
      | exact interval_Add.mono _ _ _ _ _
      | exact interval_Sub.mono _ _ _ _ _
      | exact LeO.none _
      | refine LeO.ite ?_ ?_
      | refine LeO.bind ?_ (fun _ => ?_)

/-! ### the Lean function ephemeriskeep2_IntervalOrders: function 6 -/
def ephemeriskeep2_IntervalOrders.f (k : Nat) (a0_0 : Int) (a0_1 : Int) (a1_0 : Int) (a1_1 : Int) : Option (Bool) := (ephemeriskeep2_intervalWorks.f k).bind fun t247 => (if t247 = true then ((ephemeriskeep2_cut.f a0_0 a0_1 1000000000).bind fun bt248 => ((ephemeriskeep2_cut.f a1_0 a1_1 1000000000).bind fun bt250 => ((interval_Sub.f k bt248.1 bt248.2 bt250.1 bt250.2).bind fun bt252 => ((interval_Sign.f k bt252.1 bt252.2.1).bind fun bt256 => (if bt252.2.2 = 0 then (if bt248.1 > bt250.2 then (if bt256.2 = 0 then (some (bt256.1 == 1)) else (none)) else (if bt248.2 < bt250.1 then (if bt256.2 = 0 then (some (bt256.1 == (-1))) else (none)) else (some (bt256.1 == 0)))) else (none)))))) else (none))
theorem ephemeriskeep2_IntervalOrders.mono : ∀ a0 a1 a2 a3 k, LeO (ephemeriskeep2_IntervalOrders.f k a0 a1 a2 a3) (ephemeriskeep2_IntervalOrders.f (k + 1) a0 a1 a2 a3) := by
  intro a0 a1 a2 a3 k
  unfold ephemeriskeep2_IntervalOrders.f
  repeat' first
      | (with_reducible exact ephemeriskeep2_intervalWorks.mono _)
      | (with_reducible exact interval_Sign.mono _ _ _)
      | (with_reducible exact interval_Sub.mono _ _ _ _ _)
      | (with_reducible exact LeO.refl _)
      | (with_reducible exact LeO.none _)
      | (with_reducible refine LeO.ite ?_ ?_)
      | (with_reducible refine LeO.bind ?_ (fun _ => ?_))
      | exact ephemeriskeep2_intervalWorks.mono _
      | exact interval_Sign.mono _ _ _
      | exact interval_Sub.mono _ _ _ _ _
      | exact LeO.none _
      | refine LeO.ite ?_ ?_
      | refine LeO.bind ?_ (fun _ => ?_)

/-! ### the Lean function interval_Meet: function 26 -/
def interval_Meet.f (k : Nat) (a0_0 : Int) (a0_1 : Int) (a1_0 : Int) (a1_1 : Int) : Option (Int × Int × Int) := (interval_both.f k a0_0 a0_1 a1_0 a1_1).bind fun t261 => (if t261 = 0 then (if (mx a0_0 a1_0) > (mn a0_1 a1_1) then (some (0, 0, 6)) else (some (mx a0_0 a1_0, mn a0_1 a1_1, 0))) else (some (0, 0, t261)))
theorem interval_Meet.mono : ∀ a0 a1 a2 a3 k, LeO (interval_Meet.f k a0 a1 a2 a3) (interval_Meet.f (k + 1) a0 a1 a2 a3) := by
  intro a0 a1 a2 a3 k
  unfold interval_Meet.f
  repeat' first
      | (with_reducible exact interval_both.mono _ _ _ _ _)
      | (with_reducible exact LeO.refl _)
      | (with_reducible exact LeO.none _)
      | (with_reducible refine LeO.ite ?_ ?_)
      | (with_reducible refine LeO.bind ?_ (fun _ => ?_))
      | exact interval_both.mono _ _ _ _ _
      | exact LeO.none _
      | refine LeO.ite ?_ ?_
      | refine LeO.bind ?_ (fun _ => ?_)

/-! ### the Lean function interval_Hull: function 27 -/
def interval_Hull.f (k : Nat) (a0_0 : Int) (a0_1 : Int) (a1_0 : Int) (a1_1 : Int) : Option (Int × Int × Int) := (interval_both.f k a0_0 a0_1 a1_0 a1_1).bind fun t266 => (if t266 = 0 then (some (mn a0_0 a1_0, mx a0_1 a1_1, 0)) else (some (0, 0, t266)))
theorem interval_Hull.mono : ∀ a0 a1 a2 a3 k, LeO (interval_Hull.f k a0 a1 a2 a3) (interval_Hull.f (k + 1) a0 a1 a2 a3) := by
  intro a0 a1 a2 a3 k
  unfold interval_Hull.f
  repeat' first
      | (with_reducible exact interval_both.mono _ _ _ _ _)
      | (with_reducible exact LeO.refl _)
      | (with_reducible exact LeO.none _)
      | (with_reducible refine LeO.ite ?_ ?_)
      | (with_reducible refine LeO.bind ?_ (fun _ => ?_))
      | exact interval_both.mono _ _ _ _ _
      | exact LeO.none _
      | refine LeO.ite ?_ ?_
      | refine LeO.bind ?_ (fun _ => ?_)

/-! ### the Lean function ephemeriskeep2_IntervalParts: function 7 -/
def ephemeriskeep2_IntervalParts.f (k : Nat) (a0_0 : Int) (a0_1 : Int) (a1_0 : Int) (a1_1 : Int) (a2_0 : Int) (a2_1 : Int) : Option (Bool) := (ephemeriskeep2_intervalWorks.f k).bind fun t270 => (if t270 = true then ((ephemeriskeep2_cut.f a0_0 a0_1 1000000000).bind fun bt271 => ((ephemeriskeep2_cut.f a1_0 a1_1 1000000000).bind fun bt273 => ((ephemeriskeep2_cut.f a2_0 a2_1 1000000000).bind fun bt275 => ((interval_Meet.f k bt271.1 bt271.2 bt275.1 bt275.2).bind fun bt277 => (if bt277.2.2 = 0 then ((interval_Mul.f bt277.1 bt277.2.1 bt273.1 bt273.2).bind fun bt281 => ((interval_Mul.f bt271.1 bt271.2 bt273.1 bt273.2).bind fun bt285 => ((interval_Hull.f k bt281.1 bt281.2.1 bt285.1 bt285.2.1).bind fun bt289 => (if bt281.2.2 = 0 then (if bt285.2.2 = 0 then (if bt289.2.2 = 0 then ((ephemeriskeep2_holds.f bt271.1 bt271.2 bt277.1 bt277.2.1).bind fun t293 => (if t293 = true then (some (bt289.1 == bt285.1 && (bt289.2.1 == bt285.2.1))) else (none))) else (none)) else (none)) else (none))))) else (if bt277.2.2 = 6 then (if bt271.2 < bt275.1 then (some true) else (some (decide (bt275.2 < bt271.1)))) else (none))))))) else (none))
theorem ephemeriskeep2_IntervalParts.mono : ∀ a0 a1 a2 a3 a4 a5 k, LeO (ephemeriskeep2_IntervalParts.f k a0 a1 a2 a3 a4 a5) (ephemeriskeep2_IntervalParts.f (k + 1) a0 a1 a2 a3 a4 a5) := by
  intro a0 a1 a2 a3 a4 a5 k
  unfold ephemeriskeep2_IntervalParts.f
  repeat' first
      | (with_reducible exact ephemeriskeep2_intervalWorks.mono _)
      | (with_reducible exact interval_Hull.mono _ _ _ _ _)
      | (with_reducible exact interval_Meet.mono _ _ _ _ _)
      | (with_reducible exact LeO.refl _)
      | (with_reducible exact LeO.none _)
      | (with_reducible refine LeO.ite ?_ ?_)
      | (with_reducible refine LeO.bind ?_ (fun _ => ?_))
      | exact ephemeriskeep2_intervalWorks.mono _
      | exact interval_Hull.mono _ _ _ _ _
      | exact interval_Meet.mono _ _ _ _ _
      | exact LeO.none _
      | refine LeO.ite ?_ ?_
      | refine LeO.bind ?_ (fun _ => ?_)

/-- THE ONE PURE STATEMENT of ephemeriskeep2_IntervalDistributes. -/
def ephemeriskeep2_IntervalDistributes.Pure : Prop := ∀ (a0_0 : Int) (a0_1 : Int) (a1_0 : Int) (a1_1 : Int) (a2_0 : Int) (a2_1 : Int), (Lit.int .i64 a0_0).wf = true → (Lit.int .i64 a0_1).wf = true → (Lit.int .i64 a1_0).wf = true → (Lit.int .i64 a1_1).wf = true → (Lit.int .i64 a2_0).wf = true → (Lit.int .i64 a2_1).wf = true → ∃ k, ephemeriskeep2_IntervalDistributes.f k a0_0 a0_1 a1_0 a1_1 a2_0 a2_1 = some true

/-- THE ONE PURE STATEMENT of ephemeriskeep2_IntervalUndoes. -/
def ephemeriskeep2_IntervalUndoes.Pure : Prop := ∀ (a0_0 : Int) (a0_1 : Int) (a1_0 : Int) (a1_1 : Int) (a2 : Int) (a3 : Int), (Lit.int .i64 a0_0).wf = true → (Lit.int .i64 a0_1).wf = true → (Lit.int .i64 a1_0).wf = true → (Lit.int .i64 a1_1).wf = true → (Lit.int .i64 a2).wf = true → (Lit.int .i64 a3).wf = true → ∃ k, ephemeriskeep2_IntervalUndoes.f k a0_0 a0_1 a1_0 a1_1 a2 a3 = some true

/-- THE ONE PURE STATEMENT of ephemeriskeep2_IntervalContains. -/
def ephemeriskeep2_IntervalContains.Pure : Prop := ∀ (a0_0 : Int) (a0_1 : Int) (a1_0 : Int) (a1_1 : Int) (a2 : Int) (a3 : Int) (a4 : Int), (Lit.int .i64 a0_0).wf = true → (Lit.int .i64 a0_1).wf = true → (Lit.int .i64 a1_0).wf = true → (Lit.int .i64 a1_1).wf = true → (Lit.int .i64 a2).wf = true → (Lit.int .i64 a3).wf = true → (Lit.int .i64 a4).wf = true → ∃ k, ephemeriskeep2_IntervalContains.f k a0_0 a0_1 a1_0 a1_1 a2 a3 a4 = some true

/-- THE ONE PURE STATEMENT of ephemeriskeep2_IntervalOrders. -/
def ephemeriskeep2_IntervalOrders.Pure : Prop := ∀ (a0_0 : Int) (a0_1 : Int) (a1_0 : Int) (a1_1 : Int), (Lit.int .i64 a0_0).wf = true → (Lit.int .i64 a0_1).wf = true → (Lit.int .i64 a1_0).wf = true → (Lit.int .i64 a1_1).wf = true → ∃ k, ephemeriskeep2_IntervalOrders.f k a0_0 a0_1 a1_0 a1_1 = some true

/-- THE ONE PURE STATEMENT of ephemeriskeep2_IntervalParts. -/
def ephemeriskeep2_IntervalParts.Pure : Prop := ∀ (a0_0 : Int) (a0_1 : Int) (a1_0 : Int) (a1_1 : Int) (a2_0 : Int) (a2_1 : Int), (Lit.int .i64 a0_0).wf = true → (Lit.int .i64 a0_1).wf = true → (Lit.int .i64 a1_0).wf = true → (Lit.int .i64 a1_1).wf = true → (Lit.int .i64 a2_0).wf = true → (Lit.int .i64 a2_1).wf = true → ∃ k, ephemeriskeep2_IntervalParts.f k a0_0 a0_1 a1_0 a1_1 a2_0 a2_1 = some true

end Go.Proofs.Ytigolfomfpmodaa.JC
