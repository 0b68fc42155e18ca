/- The law AgreeNested: agree.Within of more intervals is within that of less. No condition. -/
import Derived.Test.YtmoeeneekcbdeaaSpansLaw
import Derived.Test.YtmoeeneekcbdeaaJAx2
namespace Go.Proofs.Ytmoeeneekcbdeaa.Pure
open Go.Proofs.Ytmoeeneekcbdeaa.JA Go.Proofs.Ytmoeeneekcbdeaa.Own Go.RowKit Go.Proofs.YtmoeeneekcbdeaaW.PrintWords Go.Proofs.YtmoeeneekcbdeaaW.PrintLast

theorem AgreeNested : ephemeriskeep2_AgreeNested.Pure := by
  intro l t hm _ _
  have hm2 : l.length ≤ 9223372036854775807 := by unfold maxLen at hm; omega
  refine ⟨l.length + 400, ?_⟩
  have hw : ephemeriskeep2_agreeWorks.f (l.length + 400) = some true :=
    at_rounds (fun k => ephemeriskeep2_agreeWorks.mono k) (k := 100) (by omega) (by decide +kernel)
  unfold ephemeriskeep2_AgreeNested.f
  obtain ⟨L, g1, g2, g3⟩ := spans_f l (l.length + 400) hm2 (by omega)
  rw [hw, g1]
  simp only [Option.bind_some, if_true]
  by_cases c : (L.length : Int) < 2
  · rw [if_pos c]
  · rw [if_neg c, wrap_in (n := (L.length : Int) - 1) (by omega) (by omega), at_f (by omega) (by omega)]
    simp only [Option.bind_some]
    have n0 := Int.emod_nonneg t (show (L.length : Int) - 1 ≠ 0 by omega)
    have n1 := Int.emod_lt_of_pos t (show (0 : Int) < (L.length : Int) - 1 by omega)
    generalize t % ((L.length : Int) - 1) = m at *
    have hne : L ≠ [] := by rintro rfl; simp at c
    have hok : ∀ s ∈ L, okS s := fun s hs => by obtain ⟨a, b, c⟩ := g2 s hs; exact ⟨by omega, b, by omega⟩
    rw [wrap_in (n := 1 + m) (by omega) (by omega), wrap_in (n := 1 + m + 1) (by omega) (by omega)]
    obtain ⟨lo, hi, e, w1, w2⟩ := within_f L (1 + m) (l.length + 400) hok hne (by omega) (by omega) (by omega) (by omega)
    obtain ⟨lo', hi', e', v1, v2⟩ := within_f L (1 + m + 1) (l.length + 400) hok hne (by omega) (by omega) (by omega) (by omega)
    rw [w1, v1]
    simp only [Option.bind_some]
    rcases v2 with ⟨rfl, _, _, _⟩ | ⟨rfl, ⟨s, hs, hc, hlo⟩, _, h4, h5, _⟩
    · rw [if_neg (by omega)]; rfl
    · rcases w2 with ⟨_, _, _, h⟩ | ⟨rfl, _, u2, _, u4, u5⟩
      · have := h s hs; omega
      · simp only [if_true, ephemeriskeep2_holds.f]
        have q1 := u2 s hs (by omega)
        have q2 : hi' ≤ hi := by
          rcases h4 with e | ⟨x, hx, hcx, e⟩
          · rw [e, hlo]
            have q := u5
            obtain ⟨b, hb, hbt, hbb⟩ := low_hi (t := s.f0) (l := L) ⟨s, hs, Int.le_refl _, (hok s hs).2.1⟩
            have cb : cnt s.f0 L ≤ cnt b.f1 L := cnt_le (fun z hz h => ⟨Int.le_trans h.1 hbt.2, hbb z hz h⟩)
            have := u5 b hb (by omega)
            exact Int.le_trans hbt.2 this
          · rw [e]; exact u5 x hx (by omega)
        rw [if_pos (by omega)]
        simp only [Option.bind_some]
        rw [decide_eq_true q2]

end Go.Proofs.Ytmoeeneekcbdeaa.Pure
