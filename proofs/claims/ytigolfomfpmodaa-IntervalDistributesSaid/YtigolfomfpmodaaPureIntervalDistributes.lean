/- The law IntervalDistributes: the product with a sum is within the sum of the products. No condition. -/
import Derived.Test.YtigolfomfpmodaaIntervalLaw
namespace Go.Proofs.Ytigolfomfpmodaa.Pure
open Go.Proofs.Ytigolfomfpmodaa.JC Go.Proofs.Ytigolfomfpmodaa.Own Go.RowKit Go.Proofs.YtigolfomfpmodaaW.PrintWords Go.Proofs.YtigolfomfpmodaaW.PrintLast

set_option maxHeartbeats 4000000 in
theorem IntervalDistributes : ephemeriskeep2_IntervalDistributes.Pure := by
  intro a0 a1 b0 b1 c0 c1 _ _ _ _ _ _
  refine ⟨2, ?_⟩
  unfold ephemeriskeep2_IntervalDistributes.f
  obtain ⟨al, ah, ha, p1, p2, p3⟩ := cut_f (a := a0) (b := a1) (m := 100000000) (by omega) (by omega)
  obtain ⟨bl, bh, hb, q1, q2, q3⟩ := cut_f (a := b0) (b := b1) (m := 100000000) (by omega) (by omega)
  obtain ⟨cl, ch, hc, r1, r2, r3⟩ := cut_f (a := c0) (b := c1) (m := 100000000) (by omega) (by omega)
  rw [works, ha, hb, hc]
  simp only [Option.bind_some, if_true]
  rw [add_f (by omega) q2 (by omega) (by omega) r2 (by omega)]
  simp only [Option.bind_some, if_true]
  obtain ⟨ll, lh, h1, x1, x2, x3, _, _, _, _, x4, _, _, _, _, x5⟩ := mul_f (A := 100000000) (B := 200000000) (a := al) (b := ah) (c := bl + cl) (d := bh + ch) (by omega) (by omega) (by omega) (by omega) (by omega) (by omega) p2 (by omega) (by omega) (by omega) (by omega)
  obtain ⟨xl, xh, h2, y1, y2, y3, y4, y5, y6, y7, _, z4, z5, z6, z7, _⟩ := mul_f (A := 100000000) (B := 100000000) (a := al) (b := ah) (c := bl) (d := bh) (by omega) (by omega) (by omega) (by omega) (by omega) (by omega) p2 (by omega) (by omega) (by omega) (by omega)
  obtain ⟨yl, yh, h3, u1, u2, u3, u4, u5, u6, u7, _, v4, v5, v6, v7, _⟩ := mul_f (A := 100000000) (B := 100000000) (a := al) (b := ah) (c := cl) (d := ch) (by omega) (by omega) (by omega) (by omega) (by omega) (by omega) p2 (by omega) (by omega) (by omega) (by omega)
  rw [h1, h2, h3]
  simp only [Option.bind_some, if_true]
  rw [add_f (by omega) y2 (by omega) (by omega) u2 (by omega)]
  simp only [Option.bind_some, if_true, ephemeriskeep2_holds.f]
  rw [Int.mul_add, Int.mul_add, Int.mul_add, Int.mul_add] at x4 x5
  rw [if_pos (by omega)]
  simp only [Option.bind_some]
  rw [decide_eq_true (by omega)]

end Go.Proofs.Ytigolfomfpmodaa.Pure
