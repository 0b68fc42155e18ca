/- The law IntervalUndoes: a quotient times the divisor, and a scaled interval scaled back, contain the interval. No condition. -/
import Derived.Test.YtigolfomfpmodaaIntervalLaw
namespace Go.Proofs.Ytigolfomfpmodaa.Pure
open Go.Proofs.Ytigolfomfpmodaa.JC Go.Proofs.Ytigolfomfpmodaa.Own Go.RowKit Go.Proofs.YtigolfomfpmodaaW.PrintWords Go.Proofs.YtigolfomfpmodaaW.PrintLast

theorem IntervalUndoes : ephemeriskeep2_IntervalUndoes.Pure := by
  intro a0 a1 b0 b1 num den _ _ _ _ _ _
  refine ⟨2, ?_⟩
  unfold ephemeriskeep2_IntervalUndoes.f
  obtain ⟨al, ah, ha, p1, p2, p3⟩ := cut_f (a := a0) (b := a1) (m := 1000000000) (by omega) (by omega)
  obtain ⟨bl, bh, hb, q1, q2, q3⟩ := cut_f (a := b0) (b := b1) (m := 1000000) (by omega) (by omega)
  rw [works, ha, hb, at_f (by omega) (by omega), at_f (by omega) (by omega)]
  simp only [Option.bind_some, if_true]
  have hn : 0 ≤ num % 1000 ∧ num % 1000 < 1000 := by omega
  have hd : 0 ≤ den % 1000 ∧ den % 1000 < 1000 := by omega
  rw [wrap_in (n := 1 + num % 1000) (by omega) (by omega), wrap_in (n := 1 + den % 1000) (by omega) (by omega)]
  obtain ⟨n, en⟩ : ∃ n, 1 + num % 1000 = n := ⟨_, rfl⟩
  obtain ⟨d, ed⟩ : ∃ d, 1 + den % 1000 = d := ⟨_, rfl⟩
  have n1 : 1 ≤ n ∧ n ≤ 1000 := by omega
  have d1 : 1 ≤ d ∧ d ≤ 1000 := by omega
  rw [en, ed]
  clear en ed hn hd
  have m1 := abs_mul_le (x := al) (y := n) (A := 1000000000) (B := 1000) (by omega) (by omega) (by omega) (by omega)
  have m2 := abs_mul_le (x := -ah) (y := n) (A := 1000000000) (B := 1000) (by omega) (by omega) (by omega) (by omega)
  have m3 := Int.mul_le_mul_of_nonneg_right p2 (show 0 ≤ n by omega)
  have e1 := ediv_abs (x := al * n) (y := d) (B := 1000000000000) (by omega) (by omega) (by omega)
  have e2 := ediv_abs (x := -ah * n) (y := d) (B := 1000000000000) (by omega) (by omega) (by omega)
  have g1 := Int.ediv_mul_le (al * n) (show d ≠ 0 by omega)
  have g2 := Int.ediv_mul_le (-ah * n) (show d ≠ 0 by omega)
  have g3 : al * n / d ≤ -(-ah * n / d) := by
    refine Int.le_of_mul_le_mul_right (a := d) ?_ (by omega)
    rw [Int.neg_mul] at *
    rw [Int.neg_mul]
    omega
  rw [scale_f (by omega) p2 (by omega) (by omega) (by omega) d1.1 (by omega) (by omega) (by omega) (by omega) (by omega)]
  simp only [Option.bind_some]
  generalize al * n / d = s at *
  generalize -ah * n / d = t at *
  have m4 := abs_mul_le (x := s) (y := d) (A := 1000000000000) (B := 1000) (by omega) (by omega) (by omega) (by omega)
  have m5 := abs_mul_le (x := t) (y := d) (A := 1000000000000) (B := 1000) (by omega) (by omega) (by omega) (by omega)
  have e3 := ediv_abs (x := s * d) (y := n) (B := 1000000000000000) (by omega) (by omega) (by omega)
  have e4 := ediv_abs (x := t * d) (y := n) (B := 1000000000000000) (by omega) (by omega) (by omega)
  have g4 : s * d / n ≤ al := Int.ediv_le_of_le_mul (by omega) g1
  have g5 : t * d / n ≤ -ah := Int.ediv_le_of_le_mul (by omega) g2
  rw [scale_f (by omega) g3 (by omega) (by omega) (by omega) n1.1 (by omega) (by omega) (by omega) (by rw [Int.neg_neg]; omega) (by rw [Int.neg_neg]; omega), Int.neg_neg]
  simp only [Option.bind_some, if_true, ephemeriskeep2_holds.f]
  rw [if_pos (by omega)]
  simp only [Option.bind_some]
  rw [decide_eq_true (by omega)]
  simp only [ephemeriskeep2_IntervalUndoes.j0, Bool.not_true, Bool.false_eq_true, if_false]
  by_cases c : bl ≤ 0 ∧ 0 ≤ bh
  · rw [div_arg (by omega) p2 (by omega) (by omega) q2 (by omega) c.1 c.2]
    simp only [Option.bind_some]
    rw [if_neg (by omega), if_pos trivial, if_pos c.1, decide_eq_true (by omega)]
  · obtain ⟨ql, qh, h1, x1, x2, x3, x4, x5, x6, x7, y4, y5, y6, y7⟩ := div_f (A := 1000000000) (a := al) (b := ah) (c := bl) (d := bh) (by omega) (by omega) p2 (by omega) (by omega) q2 (by omega) (by omega)
    rw [h1]
    simp only [Option.bind_some, if_true]
    obtain ⟨ll, lh, h2, z1, z2, z3, u1, u2, u3, u4, _, v1, v2, v3, v4, _⟩ := mul_f (A := 1000000000) (B := 1000000) (a := ql) (b := qh) (c := bl) (d := bh) (by omega) (by omega) (by omega) (by omega) (by omega) (by omega) x2 (by omega) (by omega) q2 (by omega)
    rw [h2]
    simp only [Option.bind_some, if_true, ephemeriskeep2_holds.f]
    have key : ll ≤ al ∧ ah ≤ lh := by
      rcases (by omega : 0 < bl ∨ bh < 0) with g | g
      · have k1 := flr_pos (x := al) g
        have k2 := clg_pos (x := ah) g
        have k3 := Int.mul_le_mul_of_nonneg_right x4 (show 0 ≤ bl by omega)
        have k4 := Int.mul_le_mul_of_nonneg_right y6 (show 0 ≤ bl by omega)
        omega
      · have k1 := clg_neg (x := al) (show bl < 0 by omega)
        have k2 := flr_neg (x := ah) (show bl < 0 by omega)
        have k3 := Int.mul_le_mul_of_nonpos_right y4 (show bl ≤ 0 by omega)
        have k4 := Int.mul_le_mul_of_nonpos_right x6 (show bl ≤ 0 by omega)
        omega
    rw [if_pos key.1]
    simp only [Option.bind_some]
    rw [decide_eq_true key.2]

end Go.Proofs.Ytigolfomfpmodaa.Pure
