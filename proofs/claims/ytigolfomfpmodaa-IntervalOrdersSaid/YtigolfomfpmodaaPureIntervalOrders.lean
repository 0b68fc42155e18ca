/- The law IntervalOrders: the sign of a difference tells the order. No condition. -/
import Derived.Test.YtigolfomfpmodaaIntervalLaw
namespace Go.Proofs.Ytigolfomfpmodaa.Pure
open Go.Proofs.Ytigolfomfpmodaa.JC Go.Proofs.Ytigolfomfpmodaa.Own Go.RowKit Go.Proofs.YtigolfomfpmodaaW.PrintWords Go.Proofs.YtigolfomfpmodaaW.PrintLast

theorem sign_f {a b : Int} (h1 : -1000000000000000000 ≤ a) (h2 : a ≤ b) (h3 : b ≤ 1000000000000000000) (k : Nat) :
    interval_Sign.f (k + 1) a b = some (if 0 < a then 1 else if b < 0 then -1 else 0, if 0 < a then 0 else if b < 0 then 0 else if a = 0 ∧ b = 0 then 0 else 11) := by
  unfold interval_Sign.f
  rw [check_f h1 h2 h3]
  simp only [Option.bind_some, if_true, gt_iff_lt]
  by_cases c : 0 < a
  · simp only [if_pos c]
  · simp only [if_neg c]
    by_cases c2 : b < 0
    · simp only [if_pos c2]
    · simp only [if_neg c2]
      by_cases c3 : a = 0
      · by_cases c4 : b = 0
        · rw [if_pos c3, if_pos c4, if_pos ⟨c3, c4⟩]
        · rw [if_pos c3, if_neg c4, if_neg (by omega)]
      · rw [if_neg c3, if_neg (by omega)]

theorem IntervalOrders : ephemeriskeep2_IntervalOrders.Pure := by
  intro a0 a1 b0 b1 _ _ _ _
  refine ⟨2, ?_⟩
  unfold ephemeriskeep2_IntervalOrders.f
  obtain ⟨al, ah, ha, p1, p2, p3⟩ := cut_f (a := a0) (b := a1) (m := 1000000000) (by omega) (by omega)
  obtain ⟨bl, bh, hb, q1, q2, q3⟩ := cut_f (a := b0) (b := b1) (m := 1000000000) (by omega) (by omega)
  rw [works, ha, hb]
  simp only [Option.bind_some, if_true]
  rw [sub_f (by omega) p2 (by omega) (by omega) q2 (by omega)]
  simp only [Option.bind_some, if_true]
  rw [sign_f (by omega) (by omega) (by omega)]
  simp only [Option.bind_some, gt_iff_lt]
  by_cases c : bh < al
  · rw [if_pos c, if_pos (by omega)]
    simp only [if_pos (show 0 < al - bh by omega)]
    rfl
  · rw [if_neg c]
    by_cases c2 : ah < bl
    · rw [if_pos c2]
      simp only [if_neg (show ¬ 0 < al - bh by omega), if_pos (show ah - bl < 0 by omega), if_true]
      rfl
    · rw [if_neg c2]
      simp only [if_neg (show ¬ 0 < al - bh by omega), if_neg (show ¬ ah - bl < 0 by omega)]
      rfl

end Go.Proofs.Ytigolfomfpmodaa.Pure
