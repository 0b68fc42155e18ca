/- Quotients rounded down and up, and what oscill.Elapsed computes. -/
import Derived.Test.YtmoeeneekcbdeaaJAx2
import Derived.Test.YtmoeeneekcbdeaaLeapLaw
namespace Go.Proofs.Ytmoeeneekcbdeaa.JA
open Go.Proofs.Ytmoeeneekcbdeaa.Own Go.RowKit Go.Proofs.YtmoeeneekcbdeaaW.PrintWords Go.Proofs.YtmoeeneekcbdeaaW.PrintLast

theorem fl_add {A B m : Int} (hm : 0 < m) : A / m + B / m ≤ (A + B) / m := by
  refine Int.le_ediv_of_mul_le hm ?_
  have h1 := Int.ediv_mul_le A (show m ≠ 0 by omega)
  have h2 := Int.ediv_mul_le B (show m ≠ 0 by omega)
  rw [Int.add_mul]; omega

theorem fl_le {x m : Int} (hx : 0 ≤ x) (hm : 1000000 ≤ m) : 0 ≤ x * 1000000 / m ∧ x * 1000000 / m ≤ x := by
  refine ⟨Int.ediv_nonneg (by omega) (by omega), Int.ediv_le_of_le_mul (by omega) (Int.mul_le_mul_of_nonneg_left hm hx)⟩

/-- rounded up, for a divisor of at most a million -/
theorem cl_ge {x m : Int} (hx : 0 ≤ x) (hm : 900000 ≤ m) (hm' : m ≤ 1000000) : x ≤ -((-(x * 1000000)) / m) ∧ -((-(x * 1000000)) / m) ≤ 2 * x := by
  constructor
  · have : (-(x * 1000000)) / m ≤ -x := by
      refine Int.ediv_le_of_le_mul (by omega) ?_
      have h := Int.mul_le_mul_of_nonneg_left hm' hx
      rw [Int.neg_mul]; omega
    omega
  · have : -(2 * x) ≤ (-(x * 1000000)) / m := by
      refine Int.le_ediv_of_mul_le (by omega) ?_
      have h := Int.mul_le_mul_of_nonneg_left (show 500000 ≤ m by omega) hx
      rw [Int.neg_mul, Int.mul_assoc]; omega
    omega

theorem ceil_f {a b : Int} (hb : 0 < b) (hb' : b ≤ 9000000000000000000) (ha : -9000000000000000000 ≤ a) (ha' : a ≤ 9000000000000000000) : interval_Ceil.f a b = some (-((-a) / b)) := by
  unfold interval_Ceil.f
  rw [wrap_in (n := -a) (by omega) (by omega), floor_f hb hb' (by omega) (by omega)]
  simp only [Option.bind_some]
  have h : -9000000000000000001 ≤ (-a) / b ∧ (-a) / b ≤ 9000000000000000001 := by
    constructor
    · refine Int.le_ediv_of_mul_le hb ?_
      have : b * 1 ≤ b * 9000000000000000001 := Int.mul_le_mul_of_nonneg_left (by omega) (by omega)
      rw [Int.neg_mul, Int.mul_comm]; omega
    · refine Int.ediv_le_of_le_mul hb ?_
      have : 9000000000000000001 * 1 ≤ 9000000000000000001 * b := Int.mul_le_mul_of_nonneg_left (by omega) (by omega)
      omega
  rw [wrap_in (by omega) (by omega)]

theorem elapsed_f {d x : Int} (k : Nat) (h0 : 0 ≤ d) (h1 : d ≤ 100000) (h2 : 0 ≤ x) (h3 : x ≤ 1000000000000) :
    oscill_Elapsed.f (k + 2) d x = some (x * 1000000 / (1000000 + d), -((-(x * 1000000)) / (1000000 - d)), 0) := by
  unfold oscill_Elapsed.f
  rw [if_neg (by omega), decide_eq_false (by omega)]
  simp only [oscill_Elapsed.j0, Bool.false_eq_true, if_false]
  rw [if_neg (by omega), decide_eq_false (by omega)]
  simp only [oscill_Elapsed.j1, Bool.false_eq_true, if_false]
  rw [wrap_in (n := x * 1000000) (by omega) (by omega), wrap_in (n := 1000000 + d) (by omega) (by omega), wrap_in (n := 1000000 - d) (by omega) (by omega), floor_f (by omega) (by omega) (by omega) (by omega), ceil_f (by omega) (by omega) (by omega) (by omega)]
  rfl

end Go.Proofs.Ytmoeeneekcbdeaa.JA
