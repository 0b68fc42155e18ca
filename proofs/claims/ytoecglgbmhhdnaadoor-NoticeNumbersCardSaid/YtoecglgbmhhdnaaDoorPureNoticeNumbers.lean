/- The law NoticeNumbers: a notice with another sum is not right. No condition. -/
import Derived.Test.YtoecglgbmhhdnaaDoorJNx1
import Derived.Test.YtoecglgbmhhdnaaDoorNoticeLaw
namespace Go.Proofs.YtoecglgbmhhdnaaDoor.Pure
open Go.Proofs.YtoecglgbmhhdnaaDoor.JN Go.Proofs.YtoecglgbmhhdnaaDoor.Own Go.RowKit Go.Proofs.YtoecglgbmhhdnaaDoorW.PrintWords
theorem works : Goes (fun k => ephemeriskeep2_noticeWorks.f k) true := Goes.of_mono_ (k0 := 300) ephemeriskeep2_noticeWorks.mono (by decide +kernel)
theorem NoticeNumbers : ephemeriskeep2_NoticeNumbers.Pure := by
  intro key a n t s m _ _ _ ht _ _
  unfold maxLen at ht
  obtain ⟨T, hT, ok⟩ := plain_goes (x := t) (by omega)
  have b1 : 0 ≤ key % 1000000000 ∧ key % 1000000000 < 1000000000 := by omega
  have b2 : 0 ≤ a % 8 ∧ a % 8 < 8 := by omega
  have b3 : 0 ≤ n % 2147483647 ∧ n % 2147483647 < 2147483647 := by omega
  have b4 : 0 ≤ m % 2147483646 ∧ m % 2147483646 < 2147483646 := by omega
  have sb := sm_b (1 + key % 1000000000) (tx_ (a % 8) (1 + n % 2147483647) T)
  have : Goes (fun k => ephemeriskeep2_NoticeNumbers.f k key a n t s m) true := by
    unfold ephemeriskeep2_NoticeNumbers.f
    refine Goes.bind works ?_
    simp only [if_true, at_f (show (0 : Int) < 1000000000 by omega) (by omega), at_f (show (0 : Int) < 8 by omega) (by omega), at_f (show (0 : Int) < 2147483647 by omega) (by omega), at_f (show (0 : Int) < 2147483646 by omega) (by omega), Option.bind_some, hT, wrap_in (n := 1 + key % 1000000000) (by omega) (by omega), wrap_in (n := 1 + n % 2147483647) (by omega) (by omega)]
    refine Goes.bind (sign_goes ok (by omega) (by omega) b2.1 b2.2 (by omega) (by omega)) ?_
    simp only [if_true]
    rw [wrap_in (n := sm_ (1 + key % 1000000000) (tx_ (a % 8) (1 + n % 2147483647) T) + 1) (by omega) (by omega), wrap_in (n := sm_ (1 + key % 1000000000) (tx_ (a % 8) (1 + n % 2147483647) T) + 1 + m % 2147483646) (by omega) (by omega), tmod_nn (by omega)]
    refine Goes.bind (right_goes ok (by omega) (by omega) b2.1 b2.2 (by omega) (by omega) (by omega) (by omega)) (Goes.of fun _ => ?_)
    simp only [if_true]
    congr 1
    simp
    omega
  obtain ⟨k0, h0⟩ := this
  exact ⟨k0, h0 k0 (Nat.le_refl _)⟩
end Go.Proofs.YtoecglgbmhhdnaaDoor.Pure
