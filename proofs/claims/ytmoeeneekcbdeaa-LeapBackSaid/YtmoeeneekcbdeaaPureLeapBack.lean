/- The law LeapBack: leap.Instant inverts leap.Count, at every instant that is not in a gap. No condition. -/
import Derived.Test.YtmoeeneekcbdeaaLeapLaw
import Derived.Test.YtmoeeneekcbdeaaJAx2
namespace Go.Proofs.Ytmoeeneekcbdeaa.Pure
open Go.Proofs.Ytmoeeneekcbdeaa.JA Go.Proofs.Ytmoeeneekcbdeaa.Own Go.RowKit Go.Proofs.YtmoeeneekcbdeaaW.PrintWords Go.Proofs.YtmoeeneekcbdeaaW.PrintLast

theorem LeapBack : ephemeriskeep2_LeapBack.Pure := by
  intro l a _ hl _ _
  refine ⟨l.length + 100, ?_⟩
  obtain ⟨ho, hlen⟩ := leaps_ok l
  have hw : ephemeriskeep2_leapWorks.f (l.length + 100) = some true :=
    at_rounds (fun k => ephemeriskeep2_leapWorks.mono k) (k := 100) (by omega) (by decide +kernel)
  unfold ephemeriskeep2_LeapBack.f
  rw [hw, leaps_f l _ (by omega) (by omega), at_f (by omega) (by omega)]
  simp only [Option.bind_some, if_true]
  have ha : 0 ≤ a % 777600000000 ∧ a % 777600000000 < 777600000000 := by omega
  generalize a % 777600000000 = t at *
  generalize leapsOf 0 (l.take 20) = T at *
  have hb := sumB_bd (t / 86400000) ho
  rw [count_f T t _ ho (by omega) (by omega) (by omega) (by omega)]
  simp only [Option.bind_some]
  by_cases g : gap t (t / 86400000) T = true
  · rw [if_pos g]; rfl
  · rw [if_neg g]
    have h := inst_back t (t / 86400000) (by omega) (by omega) (n := 0) ho (by simpa using g)
    rw [Int.zero_add] at h
    rw [instant_f T _ _ ho (by omega) (by omega) (by omega) (by omega), h]
    simp

end Go.Proofs.Ytmoeeneekcbdeaa.Pure
