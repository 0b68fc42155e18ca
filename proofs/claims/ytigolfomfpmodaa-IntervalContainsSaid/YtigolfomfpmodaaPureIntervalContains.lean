/- The law IntervalContains: results contain the results for numbers of the intervals. No condition. -/
import Derived.Test.YtigolfomfpmodaaIntervalLaw
namespace Go.Proofs.Ytigolfomfpmodaa.Pure
open Go.Proofs.Ytigolfomfpmodaa.JC Go.Proofs.Ytigolfomfpmodaa.Own Go.RowKit Go.Proofs.YtigolfomfpmodaaW.PrintWords Go.Proofs.YtigolfomfpmodaaW.PrintLast

theorem inside_f {a b k : Int} (h1 : -1000000000 ≤ a) (h2 : a ≤ b) (h3 : b ≤ 1000000000) : ∃ x, ephemeriskeep2_inside.f a b k = some x ∧ a ≤ x ∧ x ≤ b := by
  unfold ephemeriskeep2_inside.f
  rw [wrap_in (n := b - a) (by omega) (by omega), wrap_in (n := b - a + 1) (by omega) (by omega), at_f (by omega) (by omega)]
  simp only [Option.bind_some]
  have := Int.emod_nonneg k (show b - a + 1 ≠ 0 by omega)
  have := Int.emod_lt_of_pos k (show 0 < b - a + 1 by omega)
  rw [wrap_in (by omega) (by omega)]
  exact ⟨_, rfl, by omega, by omega⟩

theorem scale1 {a b m : Int} (h1 : -1000000000 ≤ a) (h2 : a ≤ b) (h3 : b ≤ 1000000000) (h4 : -1000 < m) (h5 : m < 1000) : ∃ lo hi, interval_Scale.f a b m 1 = some (lo, hi, 0) ∧ ∀ x, a ≤ x → x ≤ b → lo ≤ x * m ∧ x * m ≤ hi := by
  have m1 := abs_mul_le (x := a) (y := m) (A := 1000000000) (B := 1000) (by omega) (by omega) (by omega) (by omega)
  have m2 := abs_mul_le (x := b) (y := m) (A := 1000000000) (B := 1000) (by omega) (by omega) (by omega) (by omega)
  have e1 : interval_Scale.lo a b m 1 = if m < 0 then b * m else a * m := by
    unfold interval_Scale.lo
    split
    · rw [Int.ediv_one, Int.neg_mul_neg]
    · rw [Int.ediv_one]
  have e2 : interval_Scale.hi a b m 1 = if m < 0 then a * m else b * m := by
    unfold interval_Scale.hi
    split
    · rw [Int.ediv_one, Int.mul_neg, Int.neg_neg]
    · rw [Int.ediv_one, Int.neg_mul, Int.neg_neg]
  unfold interval_Scale.f
  rw [if_pos ⟨inr (by omega) (by omega), h2, inr (by omega) (by omega), by omega, by omega, by omega, by omega, by rw [e1]; split <;> exact inr (by omega) (by omega), by rw [e2]; split <;> exact inr (by omega) (by omega)⟩, e1, e2]
  refine ⟨_, _, rfl, fun x g1 g2 => ?_⟩
  by_cases c : m < 0
  · rw [if_pos c, if_pos c]
    exact ⟨Int.mul_le_mul_of_nonpos_right g2 (by omega), Int.mul_le_mul_of_nonpos_right g1 (by omega)⟩
  · rw [if_neg c, if_neg c]
    exact ⟨Int.mul_le_mul_of_nonneg_right g1 (by omega), Int.mul_le_mul_of_nonneg_right g2 (by omega)⟩

theorem IntervalContains : ephemeriskeep2_IntervalContains.Pure := by
  intro a0 a1 b0 b1 ix iy num _ _ _ _ _ _ _
  refine ⟨2, ?_⟩
  unfold ephemeriskeep2_IntervalContains.f
  obtain ⟨al, ah, ha, p1, p2, p3⟩ := cut_f (a := a0) (b := a1) (m := 1000000000) (by omega) (by omega)
  obtain ⟨bl, bh, hb, q1, q2, q3⟩ := cut_f (a := b0) (b := b1) (m := 1000000000) (by omega) (by omega)
  obtain ⟨x, hx, x1, x2⟩ := inside_f (k := ix) p1 p2 p3
  obtain ⟨y, hy, y1, y2⟩ := inside_f (k := iy) q1 q2 q3
  have hm := tmod_lt (a := num) (m := 1000) (by omega)
  obtain ⟨n, hn⟩ : ∃ n, Int.tmod num 1000 = n := ⟨_, rfl⟩
  rw [hn] at hm ⊢
  obtain ⟨sl, sh, hs, hsc⟩ := scale1 (m := n) p1 p2 p3 (by omega) (by omega)
  obtain ⟨ml, mh, hml, m1, m2, m3, m4, m5, m6, m7, _, o4, o5, o6, o7, _⟩ := mul_f (A := 1000000000) (B := 1000000000) (a := al) (b := ah) (c := bl) (d := bh) (by omega) (by omega) (by omega) (by omega) (by omega) (by omega) p2 (by omega) (by omega) q2 (by omega)
  have t1 := abs_mul_le (x := x) (y := y) (A := 1000000000) (B := 1000000000) (by omega) (by omega) (by omega) (by omega)
  have t2 := abs_mul_le (x := x) (y := n) (A := 1000000000) (B := 1000) (by omega) (by omega) (by omega) (by omega)
  have t3 := hsc x x1 x2
  have t4 : ml ≤ x * y := box_lo x1 x2 y1 y2 m4 m5 m6 m7
  have t5 : x * y ≤ mh := box_hi x1 x2 y1 y2 o4 o5 o6 o7
  rw [works, ha, hb]
  simp only [Option.bind_some, if_true]
  rw [hx, hy, add_f (by omega) p2 (by omega) (by omega) q2 (by omega), sub_f (by omega) p2 (by omega) (by omega) q2 (by omega), hml, hs]
  simp only [Option.bind_some, if_true, ephemeriskeep2_holds.f]
  rw [wrap_in (n := x + y) (by omega) (by omega), wrap_in (n := x - y) (by omega) (by omega), wrap_in (n := x * y) (by omega) (by omega), wrap_in (n := x * n) (by omega) (by omega)]
  rw [if_pos (by omega), decide_eq_true (show x + y ≤ ah + bh by omega)]
  simp only [Option.bind_some, if_true]
  rw [if_pos (by omega), decide_eq_true (show x - y ≤ ah - bl by omega)]
  simp only [Option.bind_some, if_true]
  rw [if_pos t4, decide_eq_true t5]
  simp only [Option.bind_some, if_true]
  rw [if_pos t3.1, decide_eq_true t3.2]
  simp only [Option.bind_some, if_true]
  by_cases c : bl ≤ 0 ∧ 0 ≤ bh
  · rw [div_arg (by omega) p2 (by omega) (by omega) q2 (by omega) c.1 c.2]
    simp only [Option.bind_some, if_true]
  · obtain ⟨ql, qh, h1, w1, w2, w3, w4, w5, w6, w7, v4, v5, v6, v7⟩ := div_f (A := 1000000000) (a := al) (b := ah) (c := bl) (d := bh) (by omega) (by omega) p2 (by omega) (by omega) q2 (by omega) (by omega)
    rw [h1]
    simp only [Option.bind_some, if_true]
    rw [if_neg (by omega)]
    have t6 := abs_mul_le (x := ql) (y := y) (A := 1000000000) (B := 1000000000) (by omega) (by omega) (by omega) (by omega)
    have t7 := abs_mul_le (x := qh) (y := y) (A := 1000000000) (B := 1000000000) (by omega) (by omega) (by omega) (by omega)
    rw [wrap_in (n := ql * y) (by omega) (by omega), wrap_in (n := qh * y) (by omega) (by omega)]
    simp only [gt_iff_lt, ge_iff_le]
    rcases (by omega : 0 < bl ∨ bh < 0) with g | g
    · have k1 := flr_pos (x := al) g
      have k2 := flr_pos (x := al) (show 0 < bh by omega)
      have k3 := Int.mul_le_mul_of_nonneg_right w4 (show 0 ≤ bl by omega)
      have k4 := Int.mul_le_mul_of_nonneg_right w5 (show 0 ≤ bh by omega)
      have l1 := clg_pos (x := ah) g
      have l2 := clg_pos (x := ah) (show 0 < bh by omega)
      have l3 := Int.mul_le_mul_of_nonneg_right v6 (show 0 ≤ bl by omega)
      have l4 := Int.mul_le_mul_of_nonneg_right v7 (show 0 ≤ bh by omega)
      have f1 : ql * y ≤ al := by rw [Int.mul_comm]; exact lin_hi y1 y2 (by rw [Int.mul_comm]; omega) (by rw [Int.mul_comm]; omega)
      have f2 : ah ≤ qh * y := by rw [Int.mul_comm]; exact lin_lo y1 y2 (by rw [Int.mul_comm]; omega) (by rw [Int.mul_comm]; omega)
      rw [if_pos (by omega), if_pos (by omega), if_pos (by omega)]
    · have k1 := flr_neg (x := ah) g
      have k2 := flr_neg (x := ah) (show bl < 0 by omega)
      have k3 := Int.mul_le_mul_of_nonpos_right w7 (show bh ≤ 0 by omega)
      have k4 := Int.mul_le_mul_of_nonpos_right w6 (show bl ≤ 0 by omega)
      have l1 := clg_neg (x := al) g
      have l2 := clg_neg (x := al) (show bl < 0 by omega)
      have l3 := Int.mul_le_mul_of_nonpos_right v5 (show bh ≤ 0 by omega)
      have l4 := Int.mul_le_mul_of_nonpos_right v4 (show bl ≤ 0 by omega)
      have f1 : ah ≤ ql * y := by rw [Int.mul_comm]; exact lin_lo y1 y2 (by rw [Int.mul_comm]; omega) (by rw [Int.mul_comm]; omega)
      have f2 : qh * y ≤ al := by rw [Int.mul_comm]; exact lin_hi y1 y2 (by rw [Int.mul_comm]; omega) (by rw [Int.mul_comm]; omega)
      rw [if_neg (by omega), if_pos (by omega), if_pos (by omega), decide_eq_true (by omega)]

end Go.Proofs.Ytigolfomfpmodaa.Pure
