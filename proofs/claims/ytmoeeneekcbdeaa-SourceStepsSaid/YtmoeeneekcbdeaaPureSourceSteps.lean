/- The law SourceSteps: a reading that is moved in two steps contains the one that is moved at once. No condition. -/
import Derived.Test.YtmoeeneekcbdeaaOscLaw
import Derived.Test.YtmoeeneekcbdeaaJAx2
namespace Go.Proofs.Ytmoeeneekcbdeaa.Pure
open Go.Proofs.Ytmoeeneekcbdeaa.JA Go.Proofs.Ytmoeeneekcbdeaa.Own Go.RowKit Go.Proofs.YtmoeeneekcbdeaaW.PrintWords Go.Proofs.YtmoeeneekcbdeaaW.PrintLast

theorem moved_f {d t lo hi u : Int} (h1 : 0 ≤ t) (h2 : t ≤ u) (h3 : u ≤ 1000000000000) (h4 : -50000000000000000 ≤ lo) (h5 : lo ≤ hi) (h6 : hi ≤ 50000000000000000) (h7 : 0 ≤ d) (h8 : d ≤ 100000) :
    source_Moved.f d t lo hi u = some (lo + (u - t) * 1000000 / (1000000 + d), hi + -((-((u - t) * 1000000)) / (1000000 - d)), 0) := by
  unfold source_Moved.f
  have l := fl_le (x := u - t) (m := 1000000 + d) (by omega) (by omega)
  have c := cl_ge (x := u - t) (m := 1000000 - d) (by omega) (by omega) (by omega)
  rw [if_pos (by omega), elapsed_f 7 h7 h8 (by omega) (by omega)]
  simp only [Option.bind_some, if_true]
  rw [wrap_in (by omega) (by omega), wrap_in (by omega) (by omega)]

theorem cut_f {a b m : Int} (h : 0 ≤ m) (h' : m ≤ 4000000000000000000) : ∃ x y, ephemeriskeep2_cut.f a b m = some (x, y) ∧ -m ≤ x ∧ x ≤ y ∧ y ≤ m := by
  have h1 := tmod_lt (a := a) (m := m + 1) (by omega)
  have h2 := tmod_lt (a := b) (m := m + 1) (by omega)
  unfold ephemeriskeep2_cut.f
  rw [wrap_in (n := m + 1) (by omega) (by omega), if_neg (by omega)]
  refine ⟨_, _, rfl, ?_, ?_, ?_⟩ <;> (simp only [mn, mx]; omega)

theorem SourceSteps : ephemeriskeep2_SourceSteps.Pure := by
  intro a0 a1 a2 a3 a4 a5 _ _ _ _ _ _
  unfold ephemeriskeep2_SourceSteps.f
  have hw : ephemeriskeep2_sourceWorks.f = some true := by decide +kernel
  rw [hw, at_f (by omega) (by omega), at_f (by omega) (by omega), at_f (by omega) (by omega), at_f (by omega) (by omega)]
  obtain ⟨lo, hi, hc, c1, c2, c3⟩ := cut_f (a := a2) (b := a3) (m := 1000000000) (by omega) (by omega)
  rw [hc]
  simp only [Option.bind_some, if_true]
  have h0 : 0 ≤ a0 % 100001 ∧ a0 % 100001 ≤ 100000 := by omega
  have h1 : 0 ≤ a1 % 1000000000 ∧ a1 % 1000000000 < 1000000000 := by omega
  have h2 : 0 ≤ a4 % 1000000000 ∧ a4 % 1000000000 < 1000000000 := by omega
  have h3 : 0 ≤ a5 % 1000000000 ∧ a5 % 1000000000 < 1000000000 := by omega
  generalize a0 % 100001 = d at *
  generalize a1 % 1000000000 = t at *
  generalize a4 % 1000000000 = x at *
  generalize a5 % 1000000000 = y at *
  rw [wrap_in (n := t + x) (by omega) (by omega), wrap_in (n := t + x + y) (by omega) (by omega)]
  have l1 := fl_le (x := x) (m := 1000000 + d) (by omega) (by omega)
  have k1 := cl_ge (x := x) (m := 1000000 - d) (by omega) (by omega) (by omega)
  rw [moved_f (by omega) (by omega) (by omega) (by omega) c2 (by omega) h0.1 h0.2]
  simp only [Option.bind_some]
  rw [show t + x - t = x by omega, moved_f (by omega) (by omega) (by omega) (by omega) (by omega) (by omega) h0.1 h0.2, moved_f (by omega) (by omega) (by omega) (by omega) c2 (by omega) h0.1 h0.2]
  simp only [Option.bind_some, if_true, ephemeriskeep2_holds.f]
  rw [show t + x + y - (t + x) = y by omega, show t + x + y - t = x + y by omega]
  have f1 := fl_add (A := x * 1000000) (B := y * 1000000) (m := 1000000 + d) (by omega)
  have f2 := fl_add (A := -(x * 1000000)) (B := -(y * 1000000)) (m := 1000000 - d) (by omega)
  rw [← Int.add_mul] at f1
  rw [← Int.neg_add, ← Int.add_mul] at f2
  rw [if_pos (by omega)]
  simp only [Option.bind_some]
  rw [decide_eq_true (by omega)]

end Go.Proofs.Ytmoeeneekcbdeaa.Pure
