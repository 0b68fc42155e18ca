/- The law PlaceShifts: sidereal angles differ as longitudes do. No condition. -/
import Derived.Test.YtemfkcdhkmmbeaaJQx1
import Derived.Test.YtemfkcdhkmmbeaaJQx1
import Derived.Test.YtemfkcdhkmmbeaaJQx1
import Derived.Test.YtemfkcdhkmmbeaaSumLaw
namespace Go.Proofs.Ytemfkcdhkmmbeaa.Pure
open Go.Proofs.Ytemfkcdhkmmbeaa.JQ Go.Proofs.Ytemfkcdhkmmbeaa.Own Go.RowKit Go.Proofs.YtemfkcdhkmmbeaaW.PrintWords Go.Proofs.YtemfkcdhkmmbeaaW.PrintLast

theorem place_works : ∃ k0, ∀ k, k0 ≤ k → ephemeriskeep2_placeWorks.f k = some true :=
  of_mono (k0 := 60) ephemeriskeep2_placeWorks.mono (by decide +kernel)

theorem red1 {a : Int} (h1 : -4000000000000000000 ≤ a) (h2 : a ≤ 4000000000000000000) : series_Reduced.f a (a + 1) = some (a % 1000000000, a % 1000000000 + 1) := by
  unfold series_Reduced.f
  rw [sfloor_ (by omega) (by omega) (by omega) (by omega)]
  simp only [Option.bind_some]
  rw [wrap_in (n := a / 1000000000 * 1000000000) (by omega) (by omega), wrap_in (n := a - a / 1000000000 * 1000000000) (by omega) (by omega), wrap_in (n := a + 1 - a / 1000000000 * 1000000000) (by omega) (by omega)]
  congr 2 <;> omega

theorem sid_f {t : Int} (h3 : -345600000000000 ≤ t) (h4 : t < 345600086400000) : ∃ A, 0 ≤ A ∧ A < 1000000000 ∧ ∀ p0 p1, -500000000 ≤ p0 → p0 ≤ 500000000 → -220000000 ≤ p1 → p1 ≤ 220000000 → ∀ k, 60 ≤ k →
    place_Sidereal.f k p0 p1 t = some ((A + p0) % 1000000000, (A + p0) % 1000000000 + 1, 0) := by
  have b := tn_b 1002737909350806 t
  refine ⟨(275313108 + tn 1002737909350806 t / 1000000) % 1000000000, by omega, by omega, fun p0 p1 g1 g2 g3 g4 k hk => ?_⟩
  have c : place_Check.f p0 p1 = some 0 := by
    unfold place_Check.f
    rw [if_neg (by omega), if_neg (by omega), if_neg (by omega), if_neg (by omega)]
  have ck := check_f (l := []) (by decide) (by intro x hx; cases hx) h3 h4 (mean := 275313108) (rate := 1002737909350806) (rest := 0) (by omega) (by omega) (by omega) (by omega) (by omega) (by omega) k (by omega)
  have sm := sum_f (l := []) (by decide) (by intro x hx; cases hx) h3 h4 (mean := 275313108) (rest := 0) 1002737909350806 (by omega) (by omega) (by omega) (by omega) k (by omega)
  have tu := turned_f (rate := 1002737909350806) (t := t) (by omega) (by omega) h3 h4 k (by omega)
  generalize tn 1002737909350806 t = n at *
  have an : series_Angle.f k 275313108 1002737909350806 [] 0 t = some ((275313108 + n / 1000000) % 1000000000, (275313108 + n / 1000000) % 1000000000 + 1, 0) := by
    unfold series_Angle.f
    rw [ck]
    simp only [Option.bind_some, if_true]
    rw [sm, tu]
    simp only [Option.bind_some, sl]
    rw [tdiv_nn (by omega), wrap_in (n := n / 1000000) (by omega) (by omega), wrap_in (n := 275313108 - 0 + 0 + n / 1000000) (by omega) (by omega), wrap_in (n := 275313108 + 0 + 0 + n / 1000000) (by omega) (by omega), wrap_in (n := 275313108 + 0 + 0 + n / 1000000 + 1) (by omega) (by omega),
      show (275313108 - 0 + 0 + n / 1000000 : Int) = 275313108 + n / 1000000 by omega, show (275313108 + 0 + 0 + n / 1000000 + 1 : Int) = 275313108 + n / 1000000 + 1 by omega, red1 (by omega) (by omega)]
    rfl
  unfold place_Sidereal.f
  rw [c]
  simp only [Option.bind_some, if_true]
  rw [an]
  simp only [Option.bind_some, if_true]
  have m : 0 ≤ (275313108 + n / 1000000) % 1000000000 ∧ (275313108 + n / 1000000) % 1000000000 < 1000000000 := by omega
  generalize (275313108 + n / 1000000) % 1000000000 = A at *
  rw [wrap_in (n := A + p0) (by omega) (by omega), wrap_in (n := A + 1 + p0) (by omega) (by omega), show A + 1 + p0 = A + p0 + 1 by omega, red1 (by omega) (by omega)]
  rfl

theorem PlaceShifts : ephemeriskeep2_PlaceShifts.Pure := by
  intro a0 a1 b0 b1 c _ _ _ _ _
  obtain ⟨kw, hw⟩ := place_works
  have m0 := tmod_lt (a := a0) (m := 500000001) (by omega)
  have m1 := tmod_lt (a := a1) (m := 220000001) (by omega)
  have m2 := tmod_lt (a := b0) (m := 500000001) (by omega)
  have m3 := tmod_lt (a := b1) (m := 220000001) (by omega)
  have tt : ephemeriskeep2_instant.f c = some (c % 604800000000000 - 302400000000000) := by
    unfold ephemeriskeep2_instant.f
    rw [tat_f (by omega) (by omega)]
    simp only [Option.bind_some]
    rw [wrap_in (by omega) (by omega)]
  have tb : -302400000000000 ≤ c % 604800000000000 - 302400000000000 ∧ c % 604800000000000 - 302400000000000 < 302400000000000 := by omega
  refine ⟨kw + 60, ?_⟩
  unfold ephemeriskeep2_PlaceShifts.f ephemeriskeep2_site.f
  rw [hw _ (by omega), tt]
  generalize c % 604800000000000 - 302400000000000 = t at *
  generalize Int.tmod a0 500000001 = p at *
  generalize Int.tmod a1 220000001 = p' at *
  generalize Int.tmod b0 500000001 = q at *
  generalize Int.tmod b1 220000001 = q' at *
  obtain ⟨A, A0, A1, hs⟩ := sid_f (t := t) (by omega) (by omega)
  simp only [Option.bind_some, if_true]
  rw [hs p p' (by omega) (by omega) (by omega) (by omega) _ (by omega), hs q q' (by omega) (by omega) (by omega) (by omega) _ (by omega)]
  simp only [Option.bind_some, if_true]
  have u : 0 ≤ (A + p) % 1000000000 ∧ (A + p) % 1000000000 < 1000000000 := by omega
  have v : 0 ≤ (A + q) % 1000000000 ∧ (A + q) % 1000000000 < 1000000000 := by omega
  have z : ((A + q) % 1000000000 - ((A + p) % 1000000000 - p + q)) % 1000000000 = 0 := by omega
  generalize (A + p) % 1000000000 = S at *
  generalize (A + q) % 1000000000 = T at *
  unfold ephemeriskeep2_same.f
  rw [wrap_in (n := S - p) (by omega) (by omega), wrap_in (n := S + 1 - p) (by omega) (by omega), wrap_in (n := S - p + q) (by omega) (by omega), wrap_in (n := S + 1 - p + q) (by omega) (by omega), wrap_in (n := T - (S - p + q)) (by omega) (by omega), tat_f (by omega) (by omega), z]
  simp only [Option.bind_some]
  rw [wrap_in (n := S + 1 - p + q - (S - p + q)) (by omega) (by omega), if_pos (by omega)]
  rfl
end Go.Proofs.Ytemfkcdhkmmbeaa.Pure
