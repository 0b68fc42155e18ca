/- The law EclipseSizes: total eclipses have greater magnitudes than partial ones. No condition. -/
import Derived.Test.YtdolgbcmihpfnaaJEx1
import Derived.Test.YtdolgbcmihpfnaaSeriesNorth
import Derived.Test.YtdolgbcmihpfnaaEclA
import Derived.Test.YtdolgbcmihpfnaaEclB
import Derived.Test.YtdolgbcmihpfnaaEclC
namespace Go.Proofs.Ytdolgbcmihpfnaa.Pure
open Go.Proofs.Ytdolgbcmihpfnaa.JE Go.Proofs.Ytdolgbcmihpfnaa.Own Go.Proofs.Ytdolgbcmihpfnaa.Tp Go.RowKit Go.Proofs.YtdolgbcmihpfnaaW.PrintWords Go.Proofs.YtdolgbcmihpfnaaW.PrintLast

theorem next_step {k : Nat} {l q i m : Int} {r : Int × Int × Int × Int × Int × Int × Int × Int} (hi : i < 24) (hm : wrap64 (l + i) = m) (hf : eclipse_Find.f k m q = some r) (h : r.2.2.2.2.2.2.2 = 0) (h0 : r.1 = 0) : eclipse_Next.l0 (k + 1) l q i = eclipse_Next.l0 k l q (wrap64 (i + 1)) := by
  simp only [eclipse_Next.l0]
  rw [if_pos hi, hm, hf]
  simp only [Option.bind_some]
  rw [if_pos h, if_pos h0]
theorem next_found {k : Nat} {l q i m : Int} {r : Int × Int × Int × Int × Int × Int × Int × Int} (hi : i < 24) (hm : wrap64 (l + i) = m) (hf : eclipse_Find.f k m q = some r) (h : r.2.2.2.2.2.2.2 = 0) (h0 : ¬ r.1 = 0) : eclipse_Next.l0 (k + 1) l q i = some (m, 0) := by
  simp only [eclipse_Next.l0]
  rw [if_pos hi, hm, hf]
  simp only [Option.bind_some]
  rw [if_pos h, if_neg h0]
theorem ecl_works : ∃ k0, ∀ k, k0 ≤ k → ephemeriskeep2_eclipseWorks.f k = some true := by
  obtain ⟨K4, e4⟩ := ec_24714
  obtain ⟨K5, e5⟩ := ec_24715
  obtain ⟨K6, e6⟩ := ec_24716
  obtain ⟨K7, e7⟩ := ec_24717
  obtain ⟨K8, e8⟩ := ec_24718
  obtain ⟨K9, e9⟩ := ec_24719
  refine of_mono (k0 := K4 + K5 + K6 + K7 + K8 + K9 + 10) ephemeriskeep2_eclipseWorks.mono ?_
  unfold ephemeriskeep2_eclipseWorks.f eclipse_Next.f
  rw [e9 _ (by omega)]
  simp only [Option.bind_some]
  rw [next_step (m := 24714) (by decide +kernel) (by decide +kernel) (e4 _ (by omega)) rfl rfl, show wrap64 (0 + 1) = 1 from by decide +kernel]
  rw [next_step (m := 24715) (by decide +kernel) (by decide +kernel) (e5 _ (by omega)) rfl rfl, show wrap64 (1 + 1) = 2 from by decide +kernel]
  rw [next_step (m := 24716) (by decide +kernel) (by decide +kernel) (e6 _ (by omega)) rfl rfl, show wrap64 (2 + 1) = 3 from by decide +kernel]
  rw [next_step (m := 24717) (by decide +kernel) (by decide +kernel) (e7 _ (by omega)) rfl rfl, show wrap64 (3 + 1) = 4 from by decide +kernel]
  rw [next_step (m := 24718) (by decide +kernel) (by decide +kernel) (e8 _ (by omega)) rfl rfl, show wrap64 (4 + 1) = 5 from by decide +kernel]
  rw [next_found (m := 24719) (by decide +kernel) (by decide +kernel) (e9 _ (by omega)) rfl (by simp)]
  simp only [Option.bind_some, if_true]
  have hh : ephemeriskeep2_has.f 1668615 1717514 1695151 91000 = some true := by decide +kernel
  rw [hh]
  rfl

theorem EclipseSizes : ephemeriskeep2_EclipseSizes.Pure := by
  intro a0 a1 _ _
  obtain ⟨kw, hw⟩ := ecl_works
  have m0 := Int.tmod_lt_of_pos a0 (show (0 : Int) < 90000 by omega)
  have m1 := Int.tmod_lt_of_pos a1 (show (0 : Int) < 90000 by omega)
  have n0 := tmod_lt (a := a0) (m := 90000) (by omega)
  have n1 := tmod_lt (a := a1) (m := 90000) (by omega)
  obtain ⟨r, K1, e1, t1, _, f1⟩ := efind_f (l := Int.tmod a0 90000) (by omega) (by omega)
  obtain ⟨s, K2, e2, _, p2, f2⟩ := efind_f (l := Int.tmod a1 90000) (by omega) (by omega)
  refine ⟨kw + K1 + K2, ?_⟩
  unfold ephemeriskeep2_EclipseSizes.f
  rw [hw _ (by omega), f1 _ (by omega), f2 _ (by omega)]
  simp only [Option.bind_some, if_true]
  rcases e1 with e1 | e1
  · rw [if_pos e1]
    rcases e2 with e2 | e2
    · rw [if_pos e2]
      by_cases c1 : r.1 = 2
      · rw [if_pos c1]
        by_cases c2 : s.1 = 1
        · rw [if_pos c2, decide_eq_true]
          have := t1 c1
          have := p2 c2
          omega
        · rw [if_neg c2]
      · rw [if_neg c1]
    · rw [if_neg (by omega), e2]
      rfl
  · rw [if_neg (by omega), if_pos e1]
    rcases e2 with e2 | e2
    · rw [if_pos e2]
    · rw [if_neg (by omega), e2]
      rfl
end Go.Proofs.Ytdolgbcmihpfnaa.Pure
