/- The law OscillAdds: the time of ticks is within the sum of the times of two parts, and the ticks themselves are within it. No condition. -/
import Derived.Test.YtmoeeneekcbdeaaOscLaw
import Derived.Test.YtmoeeneekcbdeaaJAx2
namespace Go.Proofs.Ytmoeeneekcbdeaa.Pure
open Go.Proofs.Ytmoeeneekcbdeaa.JA Go.Proofs.Ytmoeeneekcbdeaa.Own Go.RowKit Go.Proofs.YtmoeeneekcbdeaaW.PrintWords Go.Proofs.YtmoeeneekcbdeaaW.PrintLast

theorem OscillAdds : ephemeriskeep2_OscillAdds.Pure := by
  intro a0 a1 a2 _ _ _
  refine ⟨2, ?_⟩
  unfold ephemeriskeep2_OscillAdds.f
  rw [show ephemeriskeep2_oscillWorks.f = some true from rfl, at_f (by omega) (by omega), at_f (by omega) (by omega), at_f (by omega) (by omega)]
  simp only [Option.bind_some, if_true]
  have h0 : 0 ≤ a0 % 100001 ∧ a0 % 100001 ≤ 100000 := by omega
  have h1 : 0 ≤ a1 % 100000000000 ∧ a1 % 100000000000 < 100000000000 := by omega
  have h2 : 0 ≤ a2 % 100000000000 ∧ a2 % 100000000000 < 100000000000 := by omega
  generalize a0 % 100001 = d at *
  generalize a1 % 100000000000 = x at *
  generalize a2 % 100000000000 = y at *
  rw [wrap_in (n := x + y) (by omega) (by omega), elapsed_f 0 h0.1 h0.2 (by omega) (by omega), elapsed_f 0 h0.1 h0.2 (by omega) (by omega), elapsed_f 0 h0.1 h0.2 (by omega) (by omega)]
  simp only [Option.bind_some, if_true, ephemeriskeep2_plus.f, ephemeriskeep2_holds.f]
  have f1 := fl_add (A := x * 1000000) (B := y * 1000000) (m := 1000000 + d) (by omega)
  have f2 := fl_add (A := -(x * 1000000)) (B := -(y * 1000000)) (m := 1000000 - d) (by omega)
  rw [← Int.add_mul] at f1
  rw [← Int.neg_add, ← Int.add_mul] at f2
  have l1 := fl_le (x := x) (m := 1000000 + d) (by omega) (by omega)
  have l2 := fl_le (x := y) (m := 1000000 + d) (by omega) (by omega)
  have l3 := fl_le (x := x + y) (m := 1000000 + d) (by omega) (by omega)
  have c1 := cl_ge (x := x) (m := 1000000 - d) (by omega) (by omega) (by omega)
  have c2 := cl_ge (x := y) (m := 1000000 - d) (by omega) (by omega) (by omega)
  have c3 := cl_ge (x := x + y) (m := 1000000 - d) (by omega) (by omega) (by omega)
  rw [wrap_in (by omega) (by omega), wrap_in (by omega) (by omega), if_pos f1]
  simp only [Option.bind_some]
  rw [decide_eq_true (by omega)]
  simp only [if_true]
  rw [if_pos l3.2]
  simp only [Option.bind_some]
  rw [decide_eq_true (by omega)]

end Go.Proofs.Ytmoeeneekcbdeaa.Pure
