/- The law IntervalParts: the product of a part of an interval is a part of the product. No condition. -/
import Derived.Test.YtigolfomfpmodaaIntervalLaw
namespace Go.Proofs.Ytigolfomfpmodaa.Pure
open Go.Proofs.Ytigolfomfpmodaa.JC Go.Proofs.Ytigolfomfpmodaa.Own Go.RowKit Go.Proofs.YtigolfomfpmodaaW.PrintWords Go.Proofs.YtigolfomfpmodaaW.PrintLast

theorem IntervalParts : ephemeriskeep2_IntervalParts.Pure := by
  intro a0 a1 b0 b1 c0 c1 _ _ _ _ _ _
  refine ⟨2, ?_⟩
  unfold ephemeriskeep2_IntervalParts.f
  obtain ⟨al, ah, ha, p1, p2, p3⟩ := cut_f (a := a0) (b := a1) (m := 1000000000) (by omega) (by omega)
  obtain ⟨bl, bh, hb, q1, q2, q3⟩ := cut_f (a := b0) (b := b1) (m := 1000000000) (by omega) (by omega)
  obtain ⟨cl, ch, hc, r1, r2, r3⟩ := cut_f (a := c0) (b := c1) (m := 1000000000) (by omega) (by omega)
  rw [works, ha, hb, hc]
  simp only [Option.bind_some, if_true, interval_Meet.f]
  rw [both_f (by omega) p2 (by omega) (by omega) r2 (by omega)]
  simp only [Option.bind_some, if_true]
  obtain ⟨x, hx⟩ : ∃ x, mx al cl = x := ⟨_, rfl⟩
  obtain ⟨y, hy⟩ : ∃ y, mn ah ch = y := ⟨_, rfl⟩
  have ex : al ≤ x ∧ cl ≤ x ∧ (x = al ∨ x = cl) := by rw [← hx]; simp only [mx]; omega
  have ey : y ≤ ah ∧ y ≤ ch ∧ (y = ah ∨ y = ch) := by rw [← hy]; simp only [mn]; omega
  rw [hx, hy]
  by_cases c : x > y
  · rw [if_pos c]
    simp only [Option.bind_some, if_true]
    rw [if_neg (by omega)]
    by_cases c2 : ah < cl
    · rw [if_pos c2]
    · rw [if_neg c2, decide_eq_true (by omega)]
  · rw [if_neg c]
    simp only [Option.bind_some, if_true]
    obtain ⟨ul, uh, h1, x1, x2, x3, _, _, _, _, x4, _, _, _, _, x5⟩ := mul_f (A := 1000000000) (B := 1000000000) (a := x) (b := y) (c := bl) (d := bh) (by omega) (by omega) (by omega) (by omega) (by omega) (by omega) (by omega) (by omega) (by omega) (by omega) (by omega)
    obtain ⟨vl, vh, h2, y1, y2, y3, y4, y5, y6, y7, _, z4, z5, z6, z7, _⟩ := mul_f (A := 1000000000) (B := 1000000000) (a := al) (b := ah) (c := bl) (d := bh) (by omega) (by omega) (by omega) (by omega) (by omega) (by omega) p2 (by omega) (by omega) (by omega) (by omega)
    have lo : ∀ s t, al ≤ s → s ≤ ah → bl ≤ t → t ≤ bh → vl ≤ s * t ∧ s * t ≤ vh := fun s t g1 g2 g3 g4 => ⟨box_lo g1 g2 g3 g4 y4 y5 y6 y7, box_hi g1 g2 g3 g4 z4 z5 z6 z7⟩
    have l1 := lo x bl (by omega) (by omega) (by omega) (by omega)
    have l2 := lo x bh (by omega) (by omega) (by omega) (by omega)
    have l3 := lo y bl (by omega) (by omega) (by omega) (by omega)
    have l4 := lo y bh (by omega) (by omega) (by omega) (by omega)
    rw [h1, h2]
    simp only [Option.bind_some, if_true, interval_Hull.f]
    rw [both_f (by omega) x2 (by omega) (by omega) y2 (by omega)]
    simp only [Option.bind_some, if_true, ephemeriskeep2_holds.f]
    rw [if_pos (by omega)]
    simp only [Option.bind_some]
    rw [decide_eq_true (by omega)]
    have e1 : mn ul vl = vl := by simp only [mn]; omega
    have e2 : mx uh vh = vh := by simp only [mx]; omega
    rw [e1, e2]
    simp

end Go.Proofs.Ytigolfomfpmodaa.Pure
