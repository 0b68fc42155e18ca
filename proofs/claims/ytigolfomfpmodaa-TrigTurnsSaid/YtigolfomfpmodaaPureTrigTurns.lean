/- The law TrigTurns: sines repeat behind a turn, and change sign with the angle and behind half a turn. No condition. -/
import Derived.Test.YtigolfomfpmodaaJTx2
import Derived.Test.YtigolfomfpmodaaTrigLaw
namespace Go.Proofs.Ytigolfomfpmodaa.Pure
open Go.Proofs.Ytigolfomfpmodaa.JT Go.Proofs.Ytigolfomfpmodaa.Own Go.RowKit Go.Proofs.YtigolfomfpmodaaW.PrintWords Go.Proofs.YtigolfomfpmodaaW.PrintLast

theorem meets_t {a b : Int × Int} (h : mt a b) : ephemeriskeep2_meets.f a.1 a.2 b.1 b.2 = some true := by
  unfold ephemeriskeep2_meets.f
  rw [if_pos h.1, decide_eq_true h.2]

theorem TrigTurns : ephemeriskeep2_TrigTurns.Pure := by
  intro a0 a1 _ _
  obtain ⟨kw, hw⟩ := trig_works
  refine ⟨kw + 11, ?_⟩
  unfold ephemeriskeep2_TrigTurns.f
  have ha := tmod_lt (a := a0) (m := 1000000000000) (by omega)
  have hk := tmod_lt (a := a1) (m := 1000) (by omega)
  generalize Int.tmod a0 1000000000000 = a at *
  generalize Int.tmod a1 1000 = t at *
  rw [hw _ (by omega)]
  simp only [Option.bind_some, if_true]
  rw [wrap_in (n := 1000000000 * t) (by omega) (by omega), wrap_in (n := a + 1000000000 * t) (by omega) (by omega), wrap_in (n := -a) (by omega) (by omega), wrap_in (n := a + 500000000) (by omega) (by omega),
    sin_f (a := a) (by omega) (by omega) _ (by omega), sin_f (a := a + 1000000000 * t) (by omega) (by omega) _ (by omega), sin_f (a := -a) (by omega) (by omega) _ (by omega), sin_f (a := a + 500000000) (by omega) (by omega) _ (by omega)]
  have r0 : 0 ≤ a % 1000000000 ∧ a % 1000000000 < 1000000000 := by omega
  have e1 : (a + 1000000000 * t) % 1000000000 = a % 1000000000 := by omega
  have e2 : (-a) % 1000000000 = (1000000000 - a % 1000000000) % 1000000000 := by omega
  have e3 : (a + 500000000) % 1000000000 = (a % 1000000000 + 500000000) % 1000000000 := by omega
  rw [e1, e2, e3]
  have b := sv_b (a % 1000000000)
  have n := sv_neg r0.1 r0.2
  have h := sv_half r0.1 r0.2
  generalize a % 1000000000 = r at *
  simp only [Option.bind_some, if_true]
  have m1 : mt (sv r) (sv r) := ⟨b.1, b.1⟩
  have m3 : mt (sv ((r + 500000000) % 1000000000)) (ng (sv r)) := by
    rw [h]
    exact ⟨by show -(sv r).2 ≤ -(sv r).1; omega, by show -(sv r).2 ≤ -(sv r).1; omega⟩
  rw [meets_t m1]
  simp only [Option.bind_some, if_true]
  rw [wrap_in (n := -(sv r).2) (by omega) (by omega), wrap_in (n := -(sv r).1) (by omega) (by omega)]
  have n2 := meets_t n
  have m4 := meets_t m3
  rw [show ephemeriskeep2_meets.f (sv ((1000000000 - r) % 1000000000)).1 (sv ((1000000000 - r) % 1000000000)).2 (-(sv r).2) (-(sv r).1) = some true from n2]
  simp only [Option.bind_some, if_true]
  rw [show ephemeriskeep2_meets.f (sv ((r + 500000000) % 1000000000)).1 (sv ((r + 500000000) % 1000000000)).2 (-(sv r).2) (-(sv r).1) = some true from m4]
  rfl

end Go.Proofs.Ytigolfomfpmodaa.Pure
