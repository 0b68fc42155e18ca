/- The law EclipseRare: no two lunations in a row have total eclipses of the sun. No condition. -/
import Derived.Test.YtmoffcpbmigngaaJEx1
import Derived.Test.YtmoffcpbmigngaaSeriesNorth
import Derived.Test.YtmoffcpbmigngaaPhaseOrder
import Derived.Test.YtmoffcpbmigngaaRareLaw
import Derived.Test.YtmoffcpbmigngaaEclA
import Derived.Test.YtmoffcpbmigngaaEclB
import Derived.Test.YtmoffcpbmigngaaEclC
namespace Go.Proofs.Ytmoffcpbmigngaa.Pure
open Go.Proofs.Ytmoffcpbmigngaa.JE Go.Proofs.Ytmoffcpbmigngaa.Own Go.Proofs.Ytmoffcpbmigngaa.Tp Go.RowKit Go.Proofs.YtmoffcpbmigngaaW.PrintWords Go.Proofs.YtmoffcpbmigngaaW.PrintLast

theorem next_step {k : Nat} {l q i m : Int} {r : Int × Int × Int × Int × Int × Int × Int × Int} (hi : i < 24) (hm : wrap64 (l + i) = m) (hf : eclipse_Find.f k m q = some r) (h : r.2.2.2.2.2.2.2 = 0) (h0 : r.1 = 0) : eclipse_Next.l0 (k + 1) l q i = eclipse_Next.l0 k l q (wrap64 (i + 1)) := by
  simp only [eclipse_Next.l0]
  rw [if_pos hi, hm, hf]
  simp only [Option.bind_some]
  rw [if_pos h, if_pos h0]
theorem next_found {k : Nat} {l q i m : Int} {r : Int × Int × Int × Int × Int × Int × Int × Int} (hi : i < 24) (hm : wrap64 (l + i) = m) (hf : eclipse_Find.f k m q = some r) (h : r.2.2.2.2.2.2.2 = 0) (h0 : ¬ r.1 = 0) : eclipse_Next.l0 (k + 1) l q i = some (m, 0) := by
  simp only [eclipse_Next.l0]
  rw [if_pos hi, hm, hf]
  simp only [Option.bind_some]
  rw [if_pos h, if_neg h0]
theorem ecl_works : ∃ k0, ∀ k, k0 ≤ k → ephemeriskeep2_eclipseWorks.f k = some true := by
  obtain ⟨K4, e4⟩ := ec_24714
  obtain ⟨K5, e5⟩ := ec_24715
  obtain ⟨K6, e6⟩ := ec_24716
  obtain ⟨K7, e7⟩ := ec_24717
  obtain ⟨K8, e8⟩ := ec_24718
  obtain ⟨K9, e9⟩ := ec_24719
  refine of_mono (k0 := K4 + K5 + K6 + K7 + K8 + K9 + 10) ephemeriskeep2_eclipseWorks.mono ?_
  unfold ephemeriskeep2_eclipseWorks.f eclipse_Next.f
  rw [e9 _ (by omega)]
  simp only [Option.bind_some]
  rw [next_step (m := 24714) (by decide +kernel) (by decide +kernel) (e4 _ (by omega)) rfl rfl, show wrap64 (0 + 1) = 1 from by decide +kernel]
  rw [next_step (m := 24715) (by decide +kernel) (by decide +kernel) (e5 _ (by omega)) rfl rfl, show wrap64 (1 + 1) = 2 from by decide +kernel]
  rw [next_step (m := 24716) (by decide +kernel) (by decide +kernel) (e6 _ (by omega)) rfl rfl, show wrap64 (2 + 1) = 3 from by decide +kernel]
  rw [next_step (m := 24717) (by decide +kernel) (by decide +kernel) (e7 _ (by omega)) rfl rfl, show wrap64 (3 + 1) = 4 from by decide +kernel]
  rw [next_step (m := 24718) (by decide +kernel) (by decide +kernel) (e8 _ (by omega)) rfl rfl, show wrap64 (4 + 1) = 5 from by decide +kernel]
  rw [next_found (m := 24719) (by decide +kernel) (by decide +kernel) (e9 _ (by omega)) rfl (by simp)]
  simp only [Option.bind_some, if_true]
  have hh : ephemeriskeep2_has.f 1668615 1717514 1695151 91000 = some true := by decide +kernel
  rw [hh]
  rfl

theorem EclipseRare : ephemeriskeep2_EclipseRare.Pure := by
  intro a0 _
  obtain ⟨kw, hw⟩ := ecl_works
  have m0 := Int.tmod_lt_of_pos a0 (show (0 : Int) < 90000 by omega)
  have n0 := tmod_lt (a := a0) (m := 90000) (by omega)
  obtain ⟨r, K1, L, R, ⟨e1, _, _, f1⟩, ⟨b1, b2, b3, b4, b5, b6⟩, t1⟩ := efind_r (l := Int.tmod a0 90000) (by omega) (by omega)
  obtain ⟨s, K2, L', R', ⟨e2, _, _, f2⟩, ⟨c1, c2, c3, c4, c5, c6⟩, t2⟩ := efind_r (l := Int.tmod a0 90000 + 1) (by omega) (by omega)
  refine ⟨kw + K1 + K2, ?_⟩
  have ma := month_apart (k := Int.tmod a0 90000) ⟨b2, b4, b5, b6⟩ ⟨c2, c4, c5, c6⟩
  have key : r.1 = 2 → (s.1 != 2) = true := by
    intro hr
    rw [bne_iff_ne]
    intro hs
    have u1 := t1 hr
    have u2 := t2 hs
    have e : L' = L + (L' - L) := by omega
    rw [e] at u2
    exact north_rare (t := L) (d := L' - L) (by omega) (by omega) u1.1 u1.2 u2.1 u2.2
  unfold ephemeriskeep2_EclipseRare.f
  rw [wrap_in (n := Int.tmod a0 90000 + 1) (by omega) (by omega), hw _ (by omega), f1 _ (by omega), f2 _ (by omega)]
  simp only [Option.bind_some, if_true]
  have fin : (if r.1 = 2 then some (s.1 != 2) else some true) = some true := by
    split
    · rename_i hr; rw [key hr]
    · rfl
  rw [fin]
  rcases e1 with e1 | e1 <;> rcases e2 with e2 | e2 <;> simp [e1, e2]
end Go.Proofs.Ytmoffcpbmigngaa.Pure
