/- What the functions of package interval compute, on permitted intervals. No condition on a program. -/
import Derived.Test.YtigolfomfpmodaaJCx2
import Derived.Test.YtigolfomfpmodaaAbase
namespace Go.Proofs.Ytigolfomfpmodaa.JC
open Go.Proofs.Ytigolfomfpmodaa.Own Go.RowKit Go.Proofs.YtigolfomfpmodaaW.PrintWords Go.Proofs.YtigolfomfpmodaaW.PrintLast

theorem lin_lo {a b x t m : Int} (h1 : a ≤ x) (h2 : x ≤ b) (ha : m ≤ a * t) (hb : m ≤ b * t) : m ≤ x * t := by
  rcases Int.le_total 0 t with h | h
  · have := Int.mul_le_mul_of_nonneg_right h1 h; omega
  · have := Int.mul_le_mul_of_nonpos_right h2 h; omega
theorem lin_hi {a b x t m : Int} (h1 : a ≤ x) (h2 : x ≤ b) (ha : a * t ≤ m) (hb : b * t ≤ m) : x * t ≤ m := by
  rcases Int.le_total 0 t with h | h
  · have := Int.mul_le_mul_of_nonneg_right h2 h; omega
  · have := Int.mul_le_mul_of_nonpos_right h1 h; omega
/-- a product of numbers of two intervals is within the corners -/
theorem box_lo {a b c d x y m : Int} (h1 : a ≤ x) (h2 : x ≤ b) (h3 : c ≤ y) (h4 : y ≤ d) (g1 : m ≤ a * c) (g2 : m ≤ a * d) (g3 : m ≤ b * c) (g4 : m ≤ b * d) : m ≤ x * y := by
  have e1 := lin_lo h1 h2 g1 g3
  have e2 := lin_lo h1 h2 g2 g4
  rw [Int.mul_comm] at e1 e2 ⊢
  exact lin_lo h3 h4 e1 e2
theorem box_hi {a b c d x y m : Int} (h1 : a ≤ x) (h2 : x ≤ b) (h3 : c ≤ y) (h4 : y ≤ d) (g1 : a * c ≤ m) (g2 : a * d ≤ m) (g3 : b * c ≤ m) (g4 : b * d ≤ m) : x * y ≤ m := by
  have e1 := lin_hi h1 h2 g1 g3
  have e2 := lin_hi h1 h2 g2 g4
  rw [Int.mul_comm] at e1 e2 ⊢
  exact lin_hi h3 h4 e1 e2
/-- the size of a product -/
theorem abs_mul_le {x y A B : Int} (h1 : -A ≤ x) (h2 : x ≤ A) (h3 : -B ≤ y) (h4 : y ≤ B) : -(A * B) ≤ x * y ∧ x * y ≤ A * B := by
  have n1 : -A * -B = A * B := Int.neg_mul_neg A B
  have n2 : -A * B = -(A * B) := Int.neg_mul A B
  have n3 : A * -B = -(A * B) := Int.mul_neg A B
  have : 0 ≤ A * B := Int.mul_nonneg (by omega) (by omega)
  exact ⟨box_lo h1 h2 h3 h4 (by omega) (by omega) (by omega) (by omega), box_hi h1 h2 h3 h4 (by omega) (by omega) (by omega) (by omega)⟩
theorem flr_pos {x y : Int} (h : 0 < y) : flr x y * y ≤ x := by
  unfold flr; rw [if_pos h]; exact Int.ediv_mul_le x (by omega)
theorem flr_neg {x y : Int} (h : y < 0) : x ≤ flr x y * y := by
  unfold flr; rw [if_neg (by omega)]
  have := Int.ediv_mul_le (-x) (show -y ≠ 0 by omega)
  rw [Int.mul_neg] at this; omega
theorem clg_pos {x y : Int} (h : 0 < y) : x ≤ clg x y * y := by
  unfold clg; have := flr_pos (x := -x) h; rw [Int.neg_mul]; omega
theorem clg_neg {x y : Int} (h : y < 0) : clg x y * y ≤ x := by
  unfold clg; have := flr_neg (x := -x) h; rw [Int.neg_mul]; omega
theorem ediv_abs {x y : Int} (h : 0 < y) {B : Int} (h1 : -B ≤ x) (h2 : x ≤ B) : -B ≤ x / y ∧ x / y ≤ B := by
  constructor
  · refine Int.le_ediv_of_mul_le h ?_
    have : B * 1 ≤ B * y := Int.mul_le_mul_of_nonneg_left (by omega) (by omega)
    rw [Int.neg_mul]; omega
  · refine Int.ediv_le_of_le_mul h ?_
    have : B * 1 ≤ B * y := Int.mul_le_mul_of_nonneg_left (by omega) (by omega)
    omega
theorem flr_abs {x y : Int} (h : y ≠ 0) {B : Int} (h1 : -B ≤ x) (h2 : x ≤ B) : -B ≤ flr x y ∧ flr x y ≤ B := by
  unfold flr
  split
  · exact ediv_abs (by omega) h1 h2
  · exact ediv_abs (by omega) (by omega) (by omega)
theorem clg_abs {x y : Int} (h : y ≠ 0) {B : Int} (h1 : -B ≤ x) (h2 : x ≤ B) : -B ≤ clg x y ∧ clg x y ≤ B := by
  unfold clg
  have := flr_abs (x := -x) h (B := B) (by omega) (by omega)
  omega

theorem cut_f {a b m : Int} (h : 0 ≤ m) (h' : m ≤ 4000000000000000000) : ∃ x y, ephemeriskeep2_cut.f a b m = some (x, y) ∧ -m ≤ x ∧ x ≤ y ∧ y ≤ m := by
  have h1 := tmod_lt (a := a) (m := m + 1) (by omega)
  have h2 := tmod_lt (a := b) (m := m + 1) (by omega)
  unfold ephemeriskeep2_cut.f
  rw [wrap_in (n := m + 1) (by omega) (by omega), if_neg (by omega)]
  refine ⟨_, _, rfl, ?_, ?_, ?_⟩ <;> (simp only [mn, mx]; omega)

theorem at_f {a m : Int} (h : 0 < m) (h' : m ≤ 4000000000000000000) : ephemeriskeep2_at.f a m = some (a % m) := by
  unfold ephemeriskeep2_at.f
  rw [if_neg (by omega), at_val h h']

theorem inr {x : Int} (h : -1000000000000000000 ≤ x) (h' : x ≤ 1000000000000000000) : InR x := ⟨h, h'⟩

/-- the product, as its corners' least and greatest -/
theorem mul_f {a b c d A B : Int} (hA : 0 ≤ A) (hB : 0 ≤ B) (hAm : A ≤ 1000000000000000000) (hBm : B ≤ 1000000000000000000) (hAB : A * B ≤ 1000000000000000000) (h1 : -A ≤ a) (h2 : a ≤ b) (h3 : b ≤ A) (h4 : -B ≤ c) (h5 : c ≤ d) (h6 : d ≤ B) :
    ∃ lo hi, interval_Mul.f a b c d = some (lo, hi, 0) ∧ -(A * B) ≤ lo ∧ lo ≤ hi ∧ hi ≤ A * B ∧ lo ≤ a * c ∧ lo ≤ a * d ∧ lo ≤ b * c ∧ lo ≤ b * d ∧ (lo = a * c ∨ lo = a * d ∨ lo = b * c ∨ lo = b * d)
      ∧ a * c ≤ hi ∧ a * d ≤ hi ∧ b * c ≤ hi ∧ b * d ≤ hi ∧ (hi = a * c ∨ hi = a * d ∨ hi = b * c ∨ hi = b * d) := by
  have p1 := abs_mul_le (x := a) (y := c) (A := A) (B := B) h1 (by omega) h4 (by omega)
  have p2 := abs_mul_le (x := a) (y := d) (A := A) (B := B) h1 (by omega) (by omega) h6
  have p3 := abs_mul_le (x := b) (y := c) (A := A) (B := B) (by omega) h3 h4 (by omega)
  have p4 := abs_mul_le (x := b) (y := d) (A := A) (B := B) (by omega) h3 (by omega) h6
  unfold interval_Mul.f
  rw [if_pos ⟨inr (by omega) (by omega), h2, inr (by omega) (by omega), inr (by omega) (by omega), h5, inr (by omega) (by omega), inr (by omega) (by omega), inr (by omega) (by omega), inr (by omega) (by omega), inr (by omega) (by omega)⟩]
  refine ⟨_, _, rfl, ?_⟩
  simp only [interval_Mul.L, interval_Mul.H, interval_Mul.P]
  generalize a * c = q1 at *
  generalize a * d = q2 at *
  generalize b * c = q3 at *
  generalize b * d = q4 at *
  generalize A * B = M at *
  omega

/-- the quotient, its bounds below and above all corners' quotients -/
theorem div_f {a b c d A : Int} (hAm : A ≤ 1000000000000000000) (h1 : -A ≤ a) (h2 : a ≤ b) (h3 : b ≤ A) (h4 : -1000000000000000000 ≤ c) (h5 : c ≤ d) (h6 : d ≤ 1000000000000000000) (h7 : 0 < c ∨ d < 0) :
    ∃ lo hi, interval_Div.f a b c d = some (lo, hi, 0) ∧ -A ≤ lo ∧ lo ≤ hi ∧ hi ≤ A ∧ lo ≤ flr a c ∧ lo ≤ flr a d ∧ lo ≤ flr b c ∧ lo ≤ flr b d ∧ clg a c ≤ hi ∧ clg a d ≤ hi ∧ clg b c ≤ hi ∧ clg b d ≤ hi := by
  have hc : c ≠ 0 := by omega
  have hd : d ≠ 0 := by omega
  have p1 := flr_abs (x := a) (B := A) hc h1 (by omega)
  have p2 := flr_abs (x := a) (B := A) hd h1 (by omega)
  have p3 := flr_abs (x := b) (B := A) hc (by omega) h3
  have p4 := flr_abs (x := b) (B := A) hd (by omega) h3
  have r1 := clg_abs (x := a) (B := A) hc h1 (by omega)
  have r2 := clg_abs (x := a) (B := A) hd h1 (by omega)
  have r3 := clg_abs (x := b) (B := A) hc (by omega) h3
  have r4 := clg_abs (x := b) (B := A) hd (by omega) h3
  have le : flr a c ≤ clg a c := by
    rcases Int.lt_or_gt_of_ne hc with g | g
    · have e1 := flr_neg (x := a) g
      have e2 := clg_neg (x := a) g
      exact Int.le_of_mul_le_mul_right (a := -c) (by rw [Int.mul_neg, Int.mul_neg]; omega) (by omega)
    · have e1 := flr_pos (x := a) g
      have e2 := clg_pos (x := a) g
      exact Int.le_of_mul_le_mul_right (a := c) (by omega) g
  unfold interval_Div.f
  rw [if_pos ⟨inr (by omega) (by omega), h2, inr (by omega) (by omega), inr (by omega) (by omega), h5, inr (by omega) (by omega)⟩, if_neg (by omega)]
  refine ⟨_, _, rfl, ?_⟩
  simp only [interval_Div.L, interval_Div.H, interval_Div.P]
  generalize flr a c = q1 at *
  generalize flr a d = q2 at *
  generalize flr b c = q3 at *
  generalize flr b d = q4 at *
  generalize clg a c = t1 at *
  generalize clg a d = t2 at *
  generalize clg b c = t3 at *
  generalize clg b d = t4 at *
  omega

theorem div_arg {a b c d : Int} (h1 : -1000000000000000000 ≤ a) (h2 : a ≤ b) (h3 : b ≤ 1000000000000000000) (h4 : -1000000000000000000 ≤ c) (h5 : c ≤ d) (h6 : d ≤ 1000000000000000000) (h7 : c ≤ 0) (h8 : 0 ≤ d) : interval_Div.f a b c d = some (0, 0, 1) := by
  unfold interval_Div.f
  rw [if_pos ⟨inr (by omega) (by omega), h2, inr (by omega) (by omega), inr (by omega) (by omega), h5, inr (by omega) (by omega)⟩, if_pos ⟨h7, h8⟩]

theorem check_f {x y : Int} (g1 : -1000000000000000000 ≤ x) (g2 : x ≤ y) (g3 : y ≤ 1000000000000000000) (k : Nat) : interval_Check.f (k + 1) x y = some 0 := by
  unfold interval_Check.f interval_out.f
  rw [if_neg (by omega), if_neg (by omega)]
  simp only [Option.bind_some, interval_Check.j0]
  rw [decide_eq_false (by omega), decide_eq_false (by omega)]
  simp only [Bool.false_eq_true, if_false]
  rw [if_neg (by omega)]

theorem out_f {x : Int} (h : -1000000000000000000 ≤ x) (h' : x ≤ 1000000000000000000) : interval_out.f x = some false := by
  unfold interval_out.f
  rw [if_neg (by omega), decide_eq_false (by omega)]

theorem both_f {a b c d : Int} (h1 : -1000000000000000000 ≤ a) (h2 : a ≤ b) (h3 : b ≤ 1000000000000000000) (h4 : -1000000000000000000 ≤ c) (h5 : c ≤ d) (h6 : d ≤ 1000000000000000000) (k : Nat) : interval_both.f (k + 1) a b c d = some 0 := by
  unfold interval_both.f
  rw [check_f h1 h2 h3, check_f h4 h5 h6]
  rfl

theorem fit_f {a b : Int} (h1 : -1000000000000000000 ≤ a) (h2 : a ≤ 1000000000000000000) (h3 : -1000000000000000000 ≤ b) (h4 : b ≤ 1000000000000000000) : interval_fit.f a b = some (a, b, 0) := by
  unfold interval_fit.f
  rw [out_f h1 h2, out_f h3 h4]
  rfl

/-- a sum, for bounds of which the sums are permitted -/
theorem add_f {a b c d : Int} (h1 : -400000000000000000 ≤ a) (h2 : a ≤ b) (h3 : b ≤ 400000000000000000) (h4 : -400000000000000000 ≤ c) (h5 : c ≤ d) (h6 : d ≤ 400000000000000000) (k : Nat) : interval_Add.f (k + 1) a b c d = some (a + c, b + d, 0) := by
  unfold interval_Add.f
  rw [both_f (by omega) h2 (by omega) (by omega) h5 (by omega)]
  simp only [Option.bind_some, if_true]
  rw [wrap_in (n := a + c) (by omega) (by omega), wrap_in (n := b + d) (by omega) (by omega), fit_f (by omega) (by omega) (by omega) (by omega)]
  rfl

theorem sub_f {a b c d : Int} (h1 : -400000000000000000 ≤ a) (h2 : a ≤ b) (h3 : b ≤ 400000000000000000) (h4 : -400000000000000000 ≤ c) (h5 : c ≤ d) (h6 : d ≤ 400000000000000000) (k : Nat) : interval_Sub.f (k + 1) a b c d = some (a - d, b - c, 0) := by
  unfold interval_Sub.f
  rw [both_f (by omega) h2 (by omega) (by omega) h5 (by omega)]
  simp only [Option.bind_some, if_true]
  rw [wrap_in (n := a - d) (by omega) (by omega), wrap_in (n := b - c) (by omega) (by omega), fit_f (by omega) (by omega) (by omega) (by omega)]
  rfl

theorem scale_f {a b m d : Int} (h1 : -1000000000000000000 ≤ a) (h2 : a ≤ b) (h3 : b ≤ 1000000000000000000) (h4 : 0 ≤ m) (h5 : m ≤ 1000000000) (h6 : 1 ≤ d) (h7 : d ≤ 1000000000)
    (h8 : -1000000000000000000 ≤ a * m / d) (h9 : a * m / d ≤ 1000000000000000000) (h10 : -1000000000000000000 ≤ (-b) * m / d) (h11 : (-b) * m / d ≤ 1000000000000000000) :
    interval_Scale.f a b m d = some (a * m / d, -((-b) * m / d), 0) := by
  unfold interval_Scale.f
  have e1 : interval_Scale.lo a b m d = a * m / d := by unfold interval_Scale.lo; rw [if_neg (by omega)]
  have e2 : interval_Scale.hi a b m d = -((-b) * m / d) := by unfold interval_Scale.hi; rw [if_neg (by omega)]
  rw [if_pos ⟨inr h1 (by omega), h2, inr (by omega) h3, by omega, h5, h6, h7, inr (by omega) (by omega), inr (by omega) (by omega)⟩, e1, e2]

theorem works : ephemeriskeep2_intervalWorks.f 2 = some true := by decide +kernel

end Go.Proofs.Ytigolfomfpmodaa.JC
