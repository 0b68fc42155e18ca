/- The law LinkHonest: whatever the delays, the offset is in the interval that link.Offset tells. No condition. -/
import Derived.Test.YtmoeeneekcbdeaaPLinkHonestx2
import Derived.Test.YtmoeeneekcbdeaaAbase
namespace Go.Proofs.Ytmoeeneekcbdeaa.Pure
open Go.Proofs.Ytmoeeneekcbdeaa.Own Go.RowKit Go.Proofs.Ytmoeeneekcbdeaa.PLinkHonest Go.Proofs.YtmoeeneekcbdeaaW.PrintWords Go.Proofs.YtmoeeneekcbdeaaW.PrintLast

theorem at_eq {a m : Int} (h : 0 < m) (h' : m ≤ 4000000000000000000) : ephemeriskeep2_at.f a m = some (a % m) := by
  unfold ephemeriskeep2_at.f
  rw [if_neg (by omega), at_val h h']

theorem check_ok {a b : Int} (k : Nat) (h1 : -1000000000000000000 ≤ a) (h2 : a ≤ b) (h3 : b ≤ 1000000000000000000) : interval_Check.f (k + 1) a b = some 0 := by
  unfold interval_Check.f interval_out.f
  rw [if_neg (by omega), if_neg (by omega)]
  simp only [Option.bind_some, interval_Check.j0]
  rw [decide_eq_false (by omega), decide_eq_false (by omega)]
  simp only [Bool.false_eq_true, if_false]
  rw [if_neg (by omega)]

theorem times_ok {a b : Int} (k : Nat) (h1 : -100000000000000000 ≤ a) (h2 : a ≤ b) (h3 : b ≤ 100000000000000000) : oscill_Times.f (k + 1) a b = some 0 := by
  unfold oscill_Times.f
  rw [if_neg (by omega), if_neg (by omega), check_ok k (by omega) h2 (by omega)]
  rfl

theorem offset_ok {a b c d : Int} (k : Nat) (h1 : -100000000000000000 ≤ a) (h2 : a ≤ b) (h3 : b ≤ 100000000000000000) (h4 : -100000000000000000 ≤ c) (h5 : c ≤ d) (h6 : d ≤ 100000000000000000) (h7 : d - b ≤ c - a) :
    link_Offset.f (k + 1) a b c d = some (d - b, c - a, 0) := by
  unfold link_Offset.f link_Check.f
  rw [times_ok k h1 h2 h3, times_ok k h4 h5 h6]
  simp only [Option.bind_some, if_true]
  rw [wrap_in (by omega) (by omega), wrap_in (by omega) (by omega), if_neg (by omega)]

theorem LinkHonest : ephemeriskeep2_LinkHonest.Pure := by
  intro a0 a1 a2 a3 a4 _ _ _ _ _
  refine ⟨1, ?_⟩
  unfold ephemeriskeep2_LinkHonest.f
  have hw : ephemeriskeep2_linkWorks.f 1 = some true := by decide +kernel
  rw [hw, at_eq (by omega) (by omega), at_eq (by omega) (by omega), at_eq (by omega) (by omega)]
  simp only [Option.bind_some, if_true]
  have b0 := tmod_lt (a := a0) (m := 1000000000) (by omega)
  have b1 := tmod_lt (a := a1) (m := 1000000000) (by omega)
  generalize Int.tmod a0 1000000000 = s at *
  generalize Int.tmod a1 1000000000 = o at *
  have c2 : 0 ≤ a2 % 100000 ∧ a2 % 100000 < 100000 := by omega
  have c3 : 0 ≤ a3 % 100000 ∧ a3 % 100000 < 100000 := by omega
  have c4 : 0 ≤ a4 % 100000 ∧ a4 % 100000 < 100000 := by omega
  generalize a2 % 100000 = x at *
  generalize a3 % 100000 = y at *
  generalize a4 % 100000 = z at *
  unfold link_Delay.f
  rw [wrap_in (n := s + x) (by omega) (by omega), wrap_in (n := s + x + y) (by omega) (by omega), wrap_in (n := s + x + y + z) (by omega) (by omega), wrap_in (n := s + x + o) (by omega) (by omega), wrap_in (n := s + x + y + o) (by omega) (by omega)]
  rw [offset_ok 0 (by omega) (by omega) (by omega) (by omega) (by omega) (by omega) (by omega)]
  simp only [Option.bind_some, if_true]
  rw [if_pos (by omega), if_pos (by omega), wrap_in (by omega) (by omega), wrap_in (by omega) (by omega)]
  congr 1
  rw [beq_iff_eq]; omega

end Go.Proofs.Ytmoeeneekcbdeaa.Pure
