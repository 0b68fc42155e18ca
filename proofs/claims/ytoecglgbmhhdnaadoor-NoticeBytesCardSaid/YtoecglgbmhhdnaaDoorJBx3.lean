-- Made by a program of this session (wip/hp.py, over the kit's print) out of the translation. Not trusted: Lean checks it.
import Derived.Test.YtoecglgbmhhdnaaDoorJBx0
import Derived.Test.YtoecglgbmhhdnaaDoorJBx1
import Derived.Lib.LaidTab
import Derived.Test.YtoecglgbmhhdnaaDoorShelf
import Derived.WalkSmall
namespace Go.Proofs.YtoecglgbmhhdnaaDoor.JB
open Go.RowKit Go.Proofs.YtoecglgbmhhdnaaDoorW.PrintWords Go.Proofs.YtoecglgbmhhdnaaDoorW.PrintLast Go.Proofs.YtoecglgbmhhdnaaDoorW.PrintMore
attribute [local go_sem] max2_int min2_int max_two min_two max_three min_three max_four min_four   -- for this text's walks alone
set_option linter.unusedVariables false
set_option linter.unusedSimpArgs false

/-! ### strconv_Itoa_25: function 25 -/
-- hand
-- body
-- IMPORT Derived.Test.YtoecglgbmhhdnaaDoorShelf
-- IMPORT Derived.WalkSmall
-- IMPORT Derived.Lib.LaidTab
/-- the library's table of powers of ten holds what it does -/
def Tab_ (w : World) : Prop := Lib.TabIs Tryd.prog w "internal/strconv.uint64pow10" .u64 Lib.pow10Tab
-- LAID internal/strconv.uint64pow10
theorem tab_head_ {W : World} {rest : List (String × DataW Unit)} (h : laidMet Tryd.prog (("internal/strconv.uint64pow10", Lib.tabData .u64 Lib.pow10Tab) :: rest) W) : Tab_ W :=
  Lib.tabIs_of_head (g := 0) (t := 69) (e := 62) (n := 20) (by kernel_rfl) (by kernel_rfl) Tryd.underlying69 Tryd.underlying62 (by kernel_rfl) (by kernel_rfl) h
theorem tabz_ {w W : World} (h : Aside0 (Tab_ w)) (hb : Below w.heap.size w W) : Aside0 (Tab_ W) := by
  refine ⟨?_⟩
  have hT : w.var? Tryd.prog "internal/strconv.uint64pow10" = some (Lib.pow10Tab.map fun z => Value.int .u64 z).toArray := h.out
  have hg : Tryd.prog.globalNamed "internal/strconv.uint64pow10" = some 0 := by kernel_rfl
  refine var?_below hb hg ?_ hT
  rcases Nat.lt_or_ge 0 w.heap.size with h' | h'
  · exact h'
  · exfalso
    unfold World.var? at hT
    simp [hg, Array.getElem?_eq_none h'] at hT
theorem dig_eq : ∀ (k n : Nat), n < 10 ^ (k + 1) → dig_ (k + 1) n = Lib.decDigits n
  | 0, n, h => by
    have h1 : n < 10 := by simpa using h
    unfold dig_
    rw [if_pos h1, Lib.decDigits_one h1]
  | k + 1, n, h => by
    by_cases h1 : n < 10
    · unfold dig_
      rw [if_pos h1, Lib.decDigits_one h1]
    · have e := dig_eq k (n / 10) (by rw [Nat.pow_succ] at h; omega)
      unfold dig_
      rw [if_neg h1, e]
      conv => rhs; rw [Lib.decDigits, dif_neg h1]
theorem strconv_Itoa_25.calls (a0 : Int) (r : ByteArray) (w : World) (h : strconv_Itoa_25.f a0 = some r) (ht_ : Aside0 (Tab_ w)) :
    Calls Tryd.prog 25 #[.int .i64 a0] w fun e w' => e = .returned (.string r) ∧ Below w.heap.size w w' := by
  unfold strconv_Itoa_25.f at h
  by_cases hp : 0 ≤ a0 ∧ a0 < 10000000000
  · rw [if_pos hp] at h
    obtain rfl := Option.some.inj h
    refine (Tryd.strconv_Itoa a0 (by omega) (by omega) w ht_.out).mono ?_
    rintro e w' ⟨rfl, k, os, rfl⟩
    have e1 : Lib.itoa a0 = dig_ 10 a0.toNat := by
      unfold Lib.itoa
      rw [if_neg (by omega), dig_eq 9 _ (by omega)]
    refine ⟨by rw [e1], ⟨rfl, rfl, rfl, ?_, fun j hj => ?_⟩⟩
    · show w.heap.size ≤ (w.heap ++ os).size
      simp
    · show (w.heap ++ os)[j]? = _
      rw [Array.getElem?_append_left hj]
  · rw [if_neg hp] at h
    cases h

end Go.Proofs.YtoecglgbmhhdnaaDoor.JB
