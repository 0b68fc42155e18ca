/- Rows behind a place; the statements' number below another. No condition on a program. -/
import Derived.Test.YtoecglgbmhhdnaaJDx1
import Derived.Test.YtoecglgbmhhdnaaAbase
namespace Go.Proofs.Ytoecglgbmhhdnaa.JD
open Go.Proofs.Ytoecglgbmhhdnaa.Own Go.RowKit Go.Proofs.YtoecglgbmhhdnaaW.PrintWords Go.Proofs.YtoecglgbmhhdnaaW.PrintLast

theorem at_f {a m : Int} (h : 0 < m) (h' : m ≤ 4000000000000000000) : ephemeriskeep2_at.f a m = some (a % m) := by
  unfold ephemeriskeep2_at.f
  rw [if_neg (by omega), at_val h h']

theorem drop_step {α : Type} {l : List α} {i : Nat} {x : α} {r : List α} (h : l.drop i = x :: r) : i < l.length ∧ l.drop (i + 1) = r ∧ ∀ z, l.getD i z = x := by
  have hi : i < l.length := by
    rcases Nat.lt_or_ge i l.length with h1 | h1
    · exact h1
    · rw [List.drop_eq_nil_of_le h1] at h; cases h
  rw [List.drop_eq_getElem_cons hi] at h
  injection h with h1 h2
  exact ⟨hi, h2, fun z => by rw [List.getD_eq_getElem?_getD, List.getElem?_eq_getElem hi]; exact h1⟩

theorem drop_end {α : Type} {l : List α} {i : Nat} (h : l.drop i = []) : l.length ≤ i := List.drop_eq_nil_iff.1 h

end Go.Proofs.Ytoecglgbmhhdnaa.JD
