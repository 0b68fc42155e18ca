/- Small lemmas on whole numbers: wrap64, truncated division. -/
import Derived.RowKit
namespace Go.Proofs.YtgmjgnojjbajdaaDoor.Own
open Go.RowKit

theorem wrap_in {n : Int} (h : -9223372036854775808 ≤ n) (h' : n ≤ 9223372036854775807) : wrap64 n = n := by
  unfold wrap64; omega

theorem tmod_lt {a m : Int} (h : 0 < m) : -m < Int.tmod a m ∧ Int.tmod a m < m :=
  ⟨Int.lt_tmod_of_pos a h, Int.tmod_lt_of_pos a h⟩

theorem tdiv_nn {a b : Int} (h : 0 ≤ a) : Int.tdiv a b = a / b := Int.tdiv_eq_ediv_of_nonneg h
theorem tmod_nn {a b : Int} (h : 0 ≤ a) : Int.tmod a b = a % b := Int.tmod_eq_emod_of_nonneg h

/-- the Go expression (a % m + m) % m -/
theorem at_val {a m : Int} (h : 0 < m) (h' : m ≤ 4000000000000000000) : Int.tmod (wrap64 ((Int.tmod a m) + m)) m = a % m := by
  have hb := tmod_lt (a := a) h
  rw [wrap_in (by omega) (by omega)]
  rw [Int.tmod_eq_emod_of_nonneg (by omega)]
  rw [Int.add_emod_right]
  rcases Int.le_total 0 a with h0 | h0
  · rw [Int.tmod_eq_emod_of_nonneg h0]; exact Int.emod_emod _ _
  · have : Int.tmod a m = -((-a) % m) := by
      rw [← Int.tmod_eq_emod_of_nonneg (by omega), Int.neg_tmod, Int.neg_neg]
    rw [this]
    have e1 := Int.emod_add_mul_ediv (-a) m
    have : -((-a) % m) = a + m * ((-a) / m) := by omega
    rw [this, Int.add_mul_emod_self_left]

end Go.Proofs.YtgmjgnojjbajdaaDoor.Own
