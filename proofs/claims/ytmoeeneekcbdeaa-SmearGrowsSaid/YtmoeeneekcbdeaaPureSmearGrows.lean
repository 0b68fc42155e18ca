/- The law SmearGrows: a smeared clock never goes back, and is never more than 1001 milliseconds from the one with leaps. No condition. -/
import Derived.Test.YtmoeeneekcbdeaaSmearLaw
import Derived.Test.YtmoeeneekcbdeaaJAx2
namespace Go.Proofs.Ytmoeeneekcbdeaa.Pure
open Go.Proofs.Ytmoeeneekcbdeaa.JA Go.Proofs.Ytmoeeneekcbdeaa.Own Go.RowKit Go.Proofs.YtmoeeneekcbdeaaW.PrintWords Go.Proofs.YtmoeeneekcbdeaaW.PrintLast

theorem SmearGrows : ephemeriskeep2_SmearGrows.Pure := by
  intro l h0 a b _ hl _ _ _ _
  refine ⟨l.length + 100, ?_⟩
  obtain ⟨ho, hlen⟩ := leaps_ok l
  have hw : ephemeriskeep2_smearWorks.f (l.length + 100) = some true :=
    at_rounds (fun k => ephemeriskeep2_smearWorks.mono k) (k := 100) (by omega) (by decide +kernel)
  unfold ephemeriskeep2_SmearGrows.f
  rw [hw, leaps_f l _ (by omega) (by omega), at_f (by omega) (by omega), at_f (by omega) (by omega), at_f (by omega) (by omega)]
  simp only [Option.bind_some, if_true]
  have hh : 0 ≤ h0 % 43199001 ∧ h0 % 43199001 < 43199001 := by omega
  have ha : 0 ≤ a % 777600000000 ∧ a % 777600000000 < 777600000000 := by omega
  have hb : 0 ≤ b % 100000 ∧ b % 100000 < 100000 := by omega
  generalize h0 % 43199001 = h at *
  generalize a % 777600000000 = t at *
  generalize b % 100000 = d at *
  generalize leapsOf 0 (l.take 20) = T at *
  rw [wrap_in (n := 1000 + h) (by omega) (by omega), wrap_in (n := t + d) (by omega) (by omega)]
  have g1 := sm_mono (h := 1000 + h) (x := t) (y := t + d) (by omega) (by omega) (by omega) (n := 0) ho
  have g2 := sm_inst (h := 1000 + h) (x := t) (by omega) (by omega) (n := 0) ho
  have b1 := inst_bd (x := t) (n := 0) ho (by omega) (by omega) (by omega) (by omega) (by omega)
  rw [smear_f T _ _ _ ho (by omega) (by omega) (by omega) (by omega) (by omega) (by omega), smear_f T _ _ _ ho (by omega) (by omega) (by omega) (by omega) (by omega) (by omega), instant_f T _ _ ho (by omega) (by omega) (by omega) (by omega)]
  simp only [Option.bind_some, if_true]
  rw [if_pos g1, wrap_in (by omega) (by omega), if_pos g2.1, wrap_in (by omega) (by omega), decide_eq_true g2.2]

end Go.Proofs.Ytmoeeneekcbdeaa.Pure
