/- The law StarStays: the declination of a star does not change, and its right ascension grows evenly. No condition. -/
import Derived.Test.YtgmjgnojjbajdaaDoorJSx1
import Derived.Test.YtgmjgnojjbajdaaDoorStarLaw
namespace Go.Proofs.YtgmjgnojjbajdaaDoor.Pure
open Go.Proofs.YtgmjgnojjbajdaaDoor.JS Go.Proofs.YtgmjgnojjbajdaaDoor.Own Go.RowKit Go.Proofs.YtgmjgnojjbajdaaDoorW.PrintWords Go.Proofs.YtgmjgnojjbajdaaDoorW.PrintLast
theorem star_works : ∃ k0, ∀ k, k0 ≤ k → ephemeriskeep2_starWorks.f k = some true :=
  of_mono (k0 := 60) ephemeriskeep2_starWorks.mono (by decide +kernel)
theorem mm_step (mean t d : Int) : mm mean 97300000 100 (t + d * 864000000) % 1000000000 = (mm mean 97300000 100 t + 973 * d) % 1000000000 := by
  unfold mm tn
  have e : 97300000 * (t + d * 864000000) / 86400000 = 97300000 * t / 86400000 + 973000000 * d := by
    rw [show 97300000 * (t + d * 864000000) = 97300000 * t + (973000000 * d) * 86400000 by omega]
    exact Int.add_mul_ediv_right _ _ (by omega)
  rw [e]
  generalize 97300000 * t / 86400000 = X
  omega
theorem StarStays : ephemeriskeep2_StarStays.Pure := by
  intro n t d _ _ _
  obtain ⟨kw, hw⟩ := star_works
  refine ⟨kw + 60, ?_⟩
  unfold ephemeriskeep2_StarStays.f
  have bt : -302400000000000 ≤ t % 604800000000000 - 302400000000000 ∧ t % 604800000000000 - 302400000000000 < 302400000000000 := by omega
  have bd : 0 ≤ d % 1000 ∧ d % 1000 < 1000 := by omega
  have bn : 0 ≤ n % 8 ∧ n % 8 < 8 := by omega
  obtain ⟨i, hi⟩ : ∃ i : Nat, n % 8 = i := ⟨(n % 8).toNat, by omega⟩
  rw [hw _ (by omega), names_f]
  have nl : (nms_.length : Int) = 8 := rfl
  simp only [Option.bind_some, if_true]
  rw [tat_f (by omega) (by omega), show n % (nms_.length : Int) = i by rw [nl]; exact hi]
  simp only [Option.bind_some]
  rw [if_pos (by omega), if_pos (by omega), inst_f, tat_f (by omega) (by omega)]
  simp only [Option.bind_some]
  generalize t % 604800000000000 - 302400000000000 = u at *
  generalize d % 1000 = e at *
  have hs : wrap64 (u + wrap64 (Int.tdiv (wrap64 (wrap64 (e * 10000) * 86400000)) 1000)) = u + e * 864000000 := by
    rw [wrap_in (n := e * 10000) (by omega) (by omega), wrap_in (n := e * 10000 * 86400000) (by omega) (by omega), tdiv_nn (by omega), wrap_in (n := e * 10000 * 86400000 / 1000) (by omega) (by omega), wrap_in (by omega) (by omega)]
    omega
  rw [hs, at_star (by omega) (by omega) (by omega) _ (by omega), at_star (by omega) (by omega) (by omega) _ (by omega), mm_step]
  simp only [Option.bind_some, if_true]
  have b := lt_b i (by omega)
  rw [if_pos (by omega), if_pos (by omega)]
  generalize mm (lx_ i).2.1 97300000 100 u = A
  unfold ephemeriskeep2_same.f
  have q : (A % 1000000000 + 973 * e) % 1000000000 = (A + 973 * e) % 1000000000 := by omega
  have p0 : 0 ≤ A % 1000000000 ∧ A % 1000000000 < 1000000000 := by omega
  have p1 : 0 ≤ (A + 973 * e) % 1000000000 ∧ (A + 973 * e) % 1000000000 < 1000000000 := by omega
  generalize A % 1000000000 = B at *
  generalize (A + 973 * e) % 1000000000 = C at *
  rw [wrap_in (n := 973 * e) (by omega) (by omega), wrap_in (n := B + 973 * e) (by omega) (by omega), wrap_in (n := B + 973 * e - 1) (by omega) (by omega), wrap_in (n := B + 201 + 973 * e) (by omega) (by omega), wrap_in (n := B + 201 + 973 * e + 1) (by omega) (by omega), wrap_in (n := C - (B + 973 * e - 1)) (by omega) (by omega), tat_f (by omega) (by omega)]
  simp only [Option.bind_some]
  rw [wrap_in (n := B + 201 + 973 * e + 1 - (B + 973 * e - 1)) (by omega) (by omega), if_pos (by omega)]
  rfl
end Go.Proofs.YtgmjgnojjbajdaaDoor.Pure
