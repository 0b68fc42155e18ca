/- The law TrigPythagoras: the squares of sine and cosine add up to 1. No condition. -/
import Derived.Test.YtigolfomfpmodaaJTx2
import Derived.Test.YtigolfomfpmodaaJTx2
import Derived.Test.YtigolfomfpmodaaAbase
import Derived.Test.YtigolfomfpmodaaJTx2
import Derived.Test.YtigolfomfpmodaaJTx2
import Derived.Test.YtigolfomfpmodaaTrigReal
namespace Go.Proofs.Ytigolfomfpmodaa.Iv
open Go.Proofs.Ytigolfomfpmodaa.JT Go.Proofs.Ytigolfomfpmodaa.Own Go.RowKit Go.Proofs.YtigolfomfpmodaaW.PrintWords Go.Proofs.YtigolfomfpmodaaW.PrintLast

theorem lin_lo {a b x t m : Int} (h1 : a ≤ x) (h2 : x ≤ b) (ha : m ≤ a * t) (hb : m ≤ b * t) : m ≤ x * t := by
  rcases Int.le_total 0 t with h | h
  · have := Int.mul_le_mul_of_nonneg_right h1 h; omega
  · have := Int.mul_le_mul_of_nonpos_right h2 h; omega
theorem lin_hi {a b x t m : Int} (h1 : a ≤ x) (h2 : x ≤ b) (ha : a * t ≤ m) (hb : b * t ≤ m) : x * t ≤ m := by
  rcases Int.le_total 0 t with h | h
  · have := Int.mul_le_mul_of_nonneg_right h2 h; omega
  · have := Int.mul_le_mul_of_nonpos_right h1 h; omega
/-- a product of numbers of two intervals is within the corners -/
theorem box_lo {a b c d x y m : Int} (h1 : a ≤ x) (h2 : x ≤ b) (h3 : c ≤ y) (h4 : y ≤ d) (g1 : m ≤ a * c) (g2 : m ≤ a * d) (g3 : m ≤ b * c) (g4 : m ≤ b * d) : m ≤ x * y := by
  have e1 := lin_lo h1 h2 g1 g3
  have e2 := lin_lo h1 h2 g2 g4
  rw [Int.mul_comm] at e1 e2 ⊢
  exact lin_lo h3 h4 e1 e2
theorem box_hi {a b c d x y m : Int} (h1 : a ≤ x) (h2 : x ≤ b) (h3 : c ≤ y) (h4 : y ≤ d) (g1 : a * c ≤ m) (g2 : a * d ≤ m) (g3 : b * c ≤ m) (g4 : b * d ≤ m) : x * y ≤ m := by
  have e1 := lin_hi h1 h2 g1 g3
  have e2 := lin_hi h1 h2 g2 g4
  rw [Int.mul_comm] at e1 e2 ⊢
  exact lin_hi h3 h4 e1 e2
/-- the size of a product -/
theorem abs_mul_le {x y A B : Int} (h1 : -A ≤ x) (h2 : x ≤ A) (h3 : -B ≤ y) (h4 : y ≤ B) : -(A * B) ≤ x * y ∧ x * y ≤ A * B := by
  have n1 : -A * -B = A * B := Int.neg_mul_neg A B
  have n2 : -A * B = -(A * B) := Int.neg_mul A B
  have n3 : A * -B = -(A * B) := Int.mul_neg A B
  have : 0 ≤ A * B := Int.mul_nonneg (by omega) (by omega)
  exact ⟨box_lo h1 h2 h3 h4 (by omega) (by omega) (by omega) (by omega), box_hi h1 h2 h3 h4 (by omega) (by omega) (by omega) (by omega)⟩
theorem inr {x : Int} (h : -1000000000000000000 ≤ x) (h' : x ≤ 1000000000000000000) : InR x := ⟨h, h'⟩

/-- the product, as its corners' least and greatest -/
theorem mul_f {a b c d A B : Int} (hA : 0 ≤ A) (hB : 0 ≤ B) (hAm : A ≤ 1000000000000000000) (hBm : B ≤ 1000000000000000000) (hAB : A * B ≤ 1000000000000000000) (h1 : -A ≤ a) (h2 : a ≤ b) (h3 : b ≤ A) (h4 : -B ≤ c) (h5 : c ≤ d) (h6 : d ≤ B) :
    ∃ lo hi, interval_Mul.f a b c d = some (lo, hi, 0) ∧ -(A * B) ≤ lo ∧ lo ≤ hi ∧ hi ≤ A * B ∧ lo ≤ a * c ∧ lo ≤ a * d ∧ lo ≤ b * c ∧ lo ≤ b * d ∧ (lo = a * c ∨ lo = a * d ∨ lo = b * c ∨ lo = b * d)
      ∧ a * c ≤ hi ∧ a * d ≤ hi ∧ b * c ≤ hi ∧ b * d ≤ hi ∧ (hi = a * c ∨ hi = a * d ∨ hi = b * c ∨ hi = b * d) := by
  have p1 := abs_mul_le (x := a) (y := c) (A := A) (B := B) h1 (by omega) h4 (by omega)
  have p2 := abs_mul_le (x := a) (y := d) (A := A) (B := B) h1 (by omega) (by omega) h6
  have p3 := abs_mul_le (x := b) (y := c) (A := A) (B := B) (by omega) h3 h4 (by omega)
  have p4 := abs_mul_le (x := b) (y := d) (A := A) (B := B) (by omega) h3 (by omega) h6
  unfold interval_Mul.f
  rw [if_pos ⟨inr (by omega) (by omega), h2, inr (by omega) (by omega), inr (by omega) (by omega), h5, inr (by omega) (by omega), inr (by omega) (by omega), inr (by omega) (by omega), inr (by omega) (by omega), inr (by omega) (by omega)⟩]
  refine ⟨_, _, rfl, ?_⟩
  simp only [interval_Mul.L, interval_Mul.H, interval_Mul.P]
  generalize a * c = q1 at *
  generalize a * d = q2 at *
  generalize b * c = q3 at *
  generalize b * d = q4 at *
  generalize A * B = M at *
  omega

theorem scale_f {a b m d : Int} (h1 : -1000000000000000000 ≤ a) (h2 : a ≤ b) (h3 : b ≤ 1000000000000000000) (h4 : 0 ≤ m) (h5 : m ≤ 1000000000) (h6 : 1 ≤ d) (h7 : d ≤ 1000000000)
    (h8 : -1000000000000000000 ≤ a * m / d) (h9 : a * m / d ≤ 1000000000000000000) (h10 : -1000000000000000000 ≤ (-b) * m / d) (h11 : (-b) * m / d ≤ 1000000000000000000) :
    interval_Scale.f a b m d = some (a * m / d, -((-b) * m / d), 0) := by
  unfold interval_Scale.f
  have e1 : interval_Scale.lo a b m d = a * m / d := by unfold interval_Scale.lo; rw [if_neg (by omega)]
  have e2 : interval_Scale.hi a b m d = -((-b) * m / d) := by unfold interval_Scale.hi; rw [if_neg (by omega)]
  rw [if_pos ⟨inr h1 (by omega), h2, inr (by omega) h3, by omega, h5, h6, h7, inr (by omega) (by omega), inr (by omega) (by omega)⟩, e1, e2]

end Go.Proofs.Ytigolfomfpmodaa.Iv

namespace Go.Proofs.Ytigolfomfpmodaa.Pure
open Go.Proofs.Ytigolfomfpmodaa.JT Go.Proofs.Ytigolfomfpmodaa.Own Go.Proofs.Ytigolfomfpmodaa.Tp Go.Proofs.Ytigolfomfpmodaa.Iv Go.RowKit Go.Proofs.YtigolfomfpmodaaW.PrintWords Go.Proofs.YtigolfomfpmodaaW.PrintLast

theorem red_f {a : Int} (h1 : -1000000000000000000 ≤ a) (h2 : a ≤ 1000000000000000000) : trig_Reduced.f a = some (a % 1000000000) := by
  have fl : interval_Floor.f a 1000000000 = some (a / 1000000000) := by
    unfold interval_Floor.f
    rw [if_neg (by omega)]
    rcases Int.le_total 0 a with h0 | h0
    · rw [tmod_nn h0, tdiv_nn h0, wrap_in (n := a / 1000000000) (by omega) (by omega), decide_eq_false (show ¬ a < 0 by omega)]
      simp
    · have hm : Int.tmod a 1000000000 = -((-a) % 1000000000) := by rw [← Int.tmod_eq_emod_of_nonneg (by omega), Int.neg_tmod, Int.neg_neg]
      have hd : Int.tdiv a 1000000000 = -((-a) / 1000000000) := by rw [← Int.tdiv_eq_ediv_of_nonneg (by omega), Int.neg_tdiv, Int.neg_neg]
      rw [hm, hd, wrap_in (n := -((-a) / 1000000000)) (by omega) (by omega)]
      by_cases z : (-a) % 1000000000 = 0
      · rw [if_pos (by omega)]; congr 1; omega
      · rw [if_neg (by omega), decide_eq_true (show a < 0 by omega), wrap_in (by omega) (by omega)]
        simp; omega
  unfold trig_Reduced.f
  rw [fl]
  simp only [Option.bind_some]
  rw [wrap_in (n := a / 1000000000 * 1000000000) (by omega) (by omega), wrap_in (by omega) (by omega)]
  congr 1; omega

theorem cos_f {a : Int} (h1 : -1000000000000000000 ≤ a) (h2 : a ≤ 1000000000000000000) (k : Nat) (hk : 11 ≤ k) :
    trig_Cos.f k a = some ((sv ((a + 250000000) % 1000000000)).1, (sv ((a + 250000000) % 1000000000)).2, 0) := by
  unfold trig_Cos.f
  have ou : trig_out.f a = some false := by
    unfold trig_out.f
    rw [if_neg (by omega), decide_eq_false (by omega)]
  rw [ou, red_f h1 h2]
  simp only [Option.bind_some, Bool.false_eq_true, if_false]
  rw [wrap_in (n := a % 1000000000 + 250000000) (by omega) (by omega), sin_f (by omega) (by omega) k hk, show (a % 1000000000 + 250000000) % 1000000000 = (a + 250000000) % 1000000000 by omega]
  rfl

theorem sin_in (a : Int) : In (sv (a % 1000000000)) (zs a) := by
  have := sv_in (r := a % 1000000000) (by omega) (by omega)
  rwa [(z_mod a).1] at this
theorem cos_in (a : Int) : In (sv ((a + 250000000) % 1000000000)) (zc a) := by
  have := sv_in (r := (a + 250000000) % 1000000000) (by omega) (by omega)
  rwa [(z_mod (a + 250000000)).1, z_quarter] at this

theorem pos_int {s : Int} (h : (0 : Rat) < (s : Rat)) : 0 < s := by
  rcases Int.lt_or_le 0 s with c | c
  · exact c
  · have := Rat.intCast_le_intCast.2 c
    have c0 : ((0 : Int) : Rat) = 0 := by decide +kernel
    grind
theorem neg_int {s : Int} (h : (s : Rat) < 0) : s < 0 := by
  rcases Int.lt_or_le s 0 with c | c
  · exact c
  · have := Rat.intCast_le_intCast.2 c
    have c0 : ((0 : Int) : Rat) = 0 := by decide +kernel
    grind

/-- the square's lower bound -/
theorem sq_lo {s : Int × Int} {xl : Int} {z : Rat} (h : In s z) (l1 : xl ≤ s.1 * s.1) (l2 : xl ≤ s.1 * s.2) (l3 : xl ≤ s.2 * s.2) :
    xl ≤ 0 ∨ ∃ u : Rat, 0 ≤ u ∧ u * u = 1000000000000000000 * (z * z) ∧ (xl : Rat) ≤ u * u - 198 / 100 * u + 1 := by
  obtain ⟨h1, h2⟩ := h
  have c0 : ((0 : Int) : Rat) = 0 := by decide +kernel
  rcases (Rat.le_total (a := 0) (b := z)) with c | c
  · have s2 : 0 < s.2 := by
      rcases h2 with h2 | h2
      · exact pos_int (by grind)
      · omega
    rcases Int.lt_or_le s.1 0 with d | d
    · left
      have := Int.mul_nonneg (show 0 ≤ -s.1 by omega) (show 0 ≤ s.2 by omega)
      rw [Int.neg_mul] at this; omega
    · right
      refine ⟨1000000000 * z, by grind, by grind, ?_⟩
      have h1' : (s.1 : Rat) ≤ 1000000000 * z - 99 / 100 := by
        rcases h1 with h1 | h1
        · exact h1
        · omega
      have d' : ((0 : Int) : Rat) ≤ (s.1 : Rat) := Rat.intCast_le_intCast.2 d
      have l1' := Rat.intCast_le_intCast.2 l1
      rw [Rat.intCast_mul] at l1'
      have := Rat.mul_nonneg (show 0 ≤ 1000000000 * z - 99 / 100 - (s.1 : Rat) by grind) (show 0 ≤ 1000000000 * z - 99 / 100 + (s.1 : Rat) by grind)
      grind
  · have s1 : s.1 < 0 := by
      rcases h1 with h1 | h1
      · exact neg_int (by grind)
      · omega
    rcases Int.lt_or_le 0 s.2 with d | d
    · left
      have := Int.mul_nonneg (show 0 ≤ -s.1 by omega) (show 0 ≤ s.2 by omega)
      rw [Int.neg_mul] at this; omega
    · right
      refine ⟨-(1000000000 * z), by grind, by grind, ?_⟩
      have h2' : 1000000000 * z + 99 / 100 ≤ (s.2 : Rat) := by
        rcases h2 with h2 | h2
        · exact h2
        · omega
      have d' : (s.2 : Rat) ≤ ((0 : Int) : Rat) := Rat.intCast_le_intCast.2 d
      have l3' := Rat.intCast_le_intCast.2 l3
      rw [Rat.intCast_mul] at l3'
      have := Rat.mul_nonneg (show 0 ≤ (s.2 : Rat) - (1000000000 * z + 99 / 100) by grind) (show 0 ≤ -(s.2 : Rat) - (1000000000 * z + 99 / 100) by grind)
      grind
theorem sq_hi {s : Int × Int} {xh : Int} {z : Rat} (h : In s z) (l1 : s.1 * s.1 ≤ xh) (l3 : s.2 * s.2 ≤ xh) :
    1000000000000000000 ≤ xh ∨ ∃ u : Rat, 0 ≤ u ∧ u * u = 1000000000000000000 * (z * z) ∧ u * u + 198 / 100 * u ≤ (xh : Rat) := by
  obtain ⟨h1, h2⟩ := h
  rcases (Rat.le_total (a := 0) (b := z)) with c | c
  · rcases h2 with h2 | h2
    · right
      refine ⟨1000000000 * z, by grind, by grind, ?_⟩
      have l3' := Rat.intCast_le_intCast.2 l3
      rw [Rat.intCast_mul] at l3'
      have := Rat.mul_nonneg (show 0 ≤ (s.2 : Rat) - (1000000000 * z + 99 / 100) by grind) (show 0 ≤ (s.2 : Rat) + (1000000000 * z + 99 / 100) by grind)
      grind
    · left; rw [h2] at l3; omega
  · rcases h1 with h1 | h1
    · right
      refine ⟨-(1000000000 * z), by grind, by grind, ?_⟩
      have l1' := Rat.intCast_le_intCast.2 l1
      rw [Rat.intCast_mul] at l1'
      have := Rat.mul_nonneg (show 0 ≤ 1000000000 * z - 99 / 100 - (s.1 : Rat) by grind) (show 0 ≤ -(1000000000 * z - 99 / 100) - (s.1 : Rat) by grind)
      grind
    · left; rw [h1] at l1; omega

/-- u and v from 0 on whose squares' sum is that of a circle -/
theorem uv {u v : Rat} (u0 : 0 ≤ u) (v0 : 0 ≤ v) (h : 900000000000000000 ≤ u * u + v * v) : 1000000 ≤ u + v := by
  rcases (Rat.le_total (a := 1000000) (b := u + v)) with c | c
  · exact c
  · have a := Rat.mul_nonneg (show 0 ≤ 1000000 - (u + v) by grind) (show 0 ≤ 1000000 + (u + v) by grind)
    have b := Rat.mul_nonneg u0 v0
    grind

theorem one_lo {u : Rat} (u0 : 0 ≤ u) (h : u * u ≤ 1000000000000100000) : u * u - 198 / 100 * u + 1 ≤ 1000000000000000000 := by
  rcases (Rat.le_total (a := 1000000) (b := u)) with c | c
  · grind
  · have := Rat.mul_nonneg (show 0 ≤ 1000000 - u by grind) (show 0 ≤ 1000000 + u by grind)
    grind

theorem circ {z w : Rat} (h1 : 1 - eps ≤ z * z + w * w) (h2 : z * z + w * w ≤ 1 + eps) (zz : 0 ≤ z * z) (ww : 0 ≤ w * w) : 1000000000000000000 * (z * z) ≤ 1000000000000100000 ∧ 1000000000000000000 * (w * w) ≤ 1000000000000100000 ∧
    999999999999900000 ≤ 1000000000000000000 * (z * z) + 1000000000000000000 * (w * w) ∧ 1000000000000000000 * (z * z) + 1000000000000000000 * (w * w) ≤ 1000000000000100000 := by
  have ep : eps = 1 / 10000000000000 := rfl
  rw [ep] at h1 h2
  generalize z * z = x at *
  generalize w * w = y at *
  refine ⟨?_, ?_, ?_, ?_⟩ <;> grind

theorem both_lo {u v x y : Rat} (h : u * u + v * v ≤ 1000000000000100000) (s : 1000000 ≤ u + v) (hx : x ≤ u * u - 198 / 100 * u + 1) (hy : y ≤ v * v - 198 / 100 * v + 1) : x + y ≤ 1000000000000000000 := by
  generalize u * u = p at *
  generalize v * v = q at *
  grind
theorem both_hi {u v x y : Rat} (h : 999999999999900000 ≤ u * u + v * v) (s : 1000000 ≤ u + v) (hx : u * u + 198 / 100 * u ≤ x) (hy : v * v + 198 / 100 * v ≤ y) : 1000000000000000000 ≤ x + y := by
  generalize u * u = p at *
  generalize v * v = q at *
  grind

theorem TrigPythagoras : ephemeriskeep2_TrigPythagoras.Pure := by
  intro a0 _
  obtain ⟨kw, hw⟩ := trig_works
  refine ⟨kw + 11, ?_⟩
  unfold ephemeriskeep2_TrigPythagoras.f
  have ha := tmod_lt (a := a0) (m := 1000000000000) (by omega)
  generalize Int.tmod a0 1000000000000 = a at *
  rw [hw _ (by omega), sin_f (a := a) (by omega) (by omega) _ (by omega), cos_f (a := a) (by omega) (by omega) _ (by omega)]
  simp only [Option.bind_some, if_true]
  have i1 := sin_in a
  have i2 := cos_in a
  have b1 := sv_b (a % 1000000000)
  have b2 := sv_b ((a + 250000000) % 1000000000)
  have py := z_pyth a
  generalize sv (a % 1000000000) = s at *
  generalize sv ((a + 250000000) % 1000000000) = c at *
  generalize zs a = z at *
  generalize zc a = w at *
  obtain ⟨xl, xh, e1, x0, x1, x2, p1, p2, _, p4, _, q1, q2, _, q4, _⟩ := mul_f (A := 1000000000) (B := 1000000000) (a := s.1) (b := s.2) (c := s.1) (d := s.2) (by omega) (by omega) (by omega) (by omega) (by omega) b1.2.1 b1.1 b1.2.2 b1.2.1 b1.1 b1.2.2
  obtain ⟨yl, yh, e2, y0, y1, y2, r1, r2, _, r4, _, t1, t2, _, t4, _⟩ := mul_f (A := 1000000000) (B := 1000000000) (a := c.1) (b := c.2) (c := c.1) (d := c.2) (by omega) (by omega) (by omega) (by omega) (by omega) b2.2.1 b2.1 b2.2.2 b2.2.1 b2.1 b2.2.2
  rw [e1, e2]
  simp only [Option.bind_some, if_true]
  rw [wrap_in (n := xl + yl) (by omega) (by omega), wrap_in (n := xh + yh) (by omega) (by omega)]
  have cT : ((1000000000000000000 : Int) : Rat) = 1000000000000000000 := by decide +kernel
  have zz : 0 ≤ z * z := by
    rcases (Rat.le_total (a := 0) (b := z)) with c | c
    · exact Rat.mul_nonneg c c
    · have := Rat.mul_nonneg (show 0 ≤ -z by grind) (show 0 ≤ -z by grind); grind
  have ww : 0 ≤ w * w := by
    rcases (Rat.le_total (a := 0) (b := w)) with c | c
    · exact Rat.mul_nonneg c c
    · have := Rat.mul_nonneg (show 0 ≤ -w by grind) (show 0 ≤ -w by grind); grind
  obtain ⟨C1, C2, C3, C4⟩ := circ py.1 py.2 zz ww
  have lo : xl + yl ≤ 1000000000000000000 := by
    rcases sq_lo i1 p1 p2 p4 with h | ⟨u, u0, u1, u2⟩
    · rcases sq_lo i2 r1 r2 r4 with g | ⟨v, v0, v1, v2⟩
      · omega
      · have o := one_lo v0 (by rw [v1]; exact C2)
        have : (yl : Rat) ≤ ((1000000000000000000 : Int) : Rat) := by rw [cT]; exact Rat.le_trans v2 o
        have := Rat.intCast_le_intCast.1 this
        omega
    · rcases sq_lo i2 r1 r2 r4 with g | ⟨v, v0, v1, v2⟩
      · have o := one_lo u0 (by rw [u1]; exact C1)
        have : (xl : Rat) ≤ ((1000000000000000000 : Int) : Rat) := by rw [cT]; exact Rat.le_trans u2 o
        have := Rat.intCast_le_intCast.1 this
        omega
      · have h3 : (900000000000000000 : Rat) ≤ 999999999999900000 := by decide +kernel
        have s0 := uv u0 v0 (by rw [u1, v1]; exact Rat.le_trans h3 C3)
        have : ((xl + yl : Int) : Rat) ≤ ((1000000000000000000 : Int) : Rat) := by rw [cT, Rat.intCast_add]; exact both_lo (by rw [u1, v1]; exact C4) s0 u2 v2
        exact Rat.intCast_le_intCast.1 this
  have nx : 0 ≤ xh := by
    have := Int.mul_nonneg (show 0 ≤ s.1 * s.1 from by rcases Int.le_total 0 s.1 with h | h; exact Int.mul_nonneg h h; exact Int.mul_nonneg_of_nonpos_of_nonpos h h) (show (0 : Int) ≤ 1 by omega)
    omega
  have ny : 0 ≤ yh := by
    have := Int.mul_nonneg (show 0 ≤ c.1 * c.1 from by rcases Int.le_total 0 c.1 with h | h; exact Int.mul_nonneg h h; exact Int.mul_nonneg_of_nonpos_of_nonpos h h) (show (0 : Int) ≤ 1 by omega)
    omega
  have hi : 1000000000000000000 ≤ xh + yh := by
    rcases sq_hi i1 q1 q4 with h | ⟨u, u0, u1, u2⟩
    · omega
    · rcases sq_hi i2 t1 t4 with g | ⟨v, v0, v1, v2⟩
      · omega
      · have h3 : (900000000000000000 : Rat) ≤ 999999999999900000 := by decide +kernel
        have s0 := uv u0 v0 (by rw [u1, v1]; exact Rat.le_trans h3 C3)
        have : ((1000000000000000000 : Int) : Rat) ≤ ((xh + yh : Int) : Rat) := by rw [cT, Rat.intCast_add]; exact both_hi (by rw [u1, v1]; exact C3) s0 u2 v2
        exact Rat.intCast_le_intCast.1 this
  rw [if_pos lo, decide_eq_true hi]

end Go.Proofs.Ytigolfomfpmodaa.Pure
