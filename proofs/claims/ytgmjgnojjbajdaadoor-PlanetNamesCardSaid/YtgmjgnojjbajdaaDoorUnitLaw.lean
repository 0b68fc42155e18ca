/- Products of intervals, and sun.Unit. No condition on a program. -/
import Derived.Test.YtgmjgnojjbajdaaDoorJGx1
import Derived.Test.YtgmjgnojjbajdaaDoorOverCore
namespace Go.Proofs.YtgmjgnojjbajdaaDoor.Iv
open Go.Proofs.YtgmjgnojjbajdaaDoor.JG Go.Proofs.YtgmjgnojjbajdaaDoor.Own Go.RowKit Go.Proofs.YtgmjgnojjbajdaaDoorW.PrintWords Go.Proofs.YtgmjgnojjbajdaaDoorW.PrintLast

theorem lin_lo {a b x t m : Int} (h1 : a ≤ x) (h2 : x ≤ b) (ha : m ≤ a * t) (hb : m ≤ b * t) : m ≤ x * t := by
  rcases Int.le_total 0 t with h | h
  · have := Int.mul_le_mul_of_nonneg_right h1 h; omega
  · have := Int.mul_le_mul_of_nonpos_right h2 h; omega
theorem lin_hi {a b x t m : Int} (h1 : a ≤ x) (h2 : x ≤ b) (ha : a * t ≤ m) (hb : b * t ≤ m) : x * t ≤ m := by
  rcases Int.le_total 0 t with h | h
  · have := Int.mul_le_mul_of_nonneg_right h2 h; omega
  · have := Int.mul_le_mul_of_nonpos_right h1 h; omega
/-- a product of numbers of two intervals is within the corners -/
theorem box_lo {a b c d x y m : Int} (h1 : a ≤ x) (h2 : x ≤ b) (h3 : c ≤ y) (h4 : y ≤ d) (g1 : m ≤ a * c) (g2 : m ≤ a * d) (g3 : m ≤ b * c) (g4 : m ≤ b * d) : m ≤ x * y := by
  have e1 := lin_lo h1 h2 g1 g3
  have e2 := lin_lo h1 h2 g2 g4
  rw [Int.mul_comm] at e1 e2 ⊢
  exact lin_lo h3 h4 e1 e2
theorem box_hi {a b c d x y m : Int} (h1 : a ≤ x) (h2 : x ≤ b) (h3 : c ≤ y) (h4 : y ≤ d) (g1 : a * c ≤ m) (g2 : a * d ≤ m) (g3 : b * c ≤ m) (g4 : b * d ≤ m) : x * y ≤ m := by
  have e1 := lin_hi h1 h2 g1 g3
  have e2 := lin_hi h1 h2 g2 g4
  rw [Int.mul_comm] at e1 e2 ⊢
  exact lin_hi h3 h4 e1 e2
/-- the size of a product -/
theorem abs_mul_le {x y A B : Int} (h1 : -A ≤ x) (h2 : x ≤ A) (h3 : -B ≤ y) (h4 : y ≤ B) : -(A * B) ≤ x * y ∧ x * y ≤ A * B := by
  have n1 : -A * -B = A * B := Int.neg_mul_neg A B
  have n2 : -A * B = -(A * B) := Int.neg_mul A B
  have n3 : A * -B = -(A * B) := Int.mul_neg A B
  have : 0 ≤ A * B := Int.mul_nonneg (by omega) (by omega)
  exact ⟨box_lo h1 h2 h3 h4 (by omega) (by omega) (by omega) (by omega), box_hi h1 h2 h3 h4 (by omega) (by omega) (by omega) (by omega)⟩
theorem inr {x : Int} (h : -1000000000000000000 ≤ x) (h' : x ≤ 1000000000000000000) : InR x := ⟨h, h'⟩

theorem scale_f {a b m d : Int} (h1 : -1000000000000000000 ≤ a) (h2 : a ≤ b) (h3 : b ≤ 1000000000000000000) (h4 : 0 ≤ m) (h5 : m ≤ 1000000000) (h6 : 1 ≤ d) (h7 : d ≤ 1000000000)
    (h8 : -1000000000000000000 ≤ a * m / d) (h9 : a * m / d ≤ 1000000000000000000) (h10 : -1000000000000000000 ≤ (-b) * m / d) (h11 : (-b) * m / d ≤ 1000000000000000000) :
    interval_Scale.f a b m d = some (a * m / d, -((-b) * m / d), 0) := by
  unfold interval_Scale.f
  have e1 : interval_Scale.lo a b m d = a * m / d := by unfold interval_Scale.lo; rw [if_neg (by omega)]
  have e2 : interval_Scale.hi a b m d = -((-b) * m / d) := by unfold interval_Scale.hi; rw [if_neg (by omega)]
  rw [if_pos ⟨inr h1 (by omega), h2, inr (by omega) h3, by omega, h5, h6, h7, inr (by omega) (by omega), inr (by omega) (by omega)⟩, e1, e2]

theorem rlin_lo {a b x t m : Rat} (h1 : a ≤ x) (h2 : x ≤ b) (ha : m ≤ a * t) (hb : m ≤ b * t) : m ≤ x * t := by
  rcases (Rat.le_total (a := 0) (b := t)) with c | c
  · have := Rat.mul_nonneg (show 0 ≤ x - a by grind) c; grind
  · have := Rat.mul_nonneg (show 0 ≤ b - x by grind) (show 0 ≤ -t by grind); grind
theorem rlin_hi {a b x t m : Rat} (h1 : a ≤ x) (h2 : x ≤ b) (ha : a * t ≤ m) (hb : b * t ≤ m) : x * t ≤ m := by
  rcases (Rat.le_total (a := 0) (b := t)) with c | c
  · have := Rat.mul_nonneg (show 0 ≤ b - x by grind) c; grind
  · have := Rat.mul_nonneg (show 0 ≤ x - a by grind) (show 0 ≤ -t by grind); grind
theorem rbox_lo {a b c d x y m : Rat} (h1 : a ≤ x) (h2 : x ≤ b) (h3 : c ≤ y) (h4 : y ≤ d) (g1 : m ≤ a * c) (g2 : m ≤ a * d) (g3 : m ≤ b * c) (g4 : m ≤ b * d) : m ≤ x * y := by
  have e1 := rlin_lo h1 h2 g1 g3
  have e2 := rlin_lo h1 h2 g2 g4
  rw [Rat.mul_comm] at e1 e2 ⊢
  exact rlin_lo h3 h4 e1 e2
theorem rbox_hi {a b c d x y m : Rat} (h1 : a ≤ x) (h2 : x ≤ b) (h3 : c ≤ y) (h4 : y ≤ d) (g1 : a * c ≤ m) (g2 : a * d ≤ m) (g3 : b * c ≤ m) (g4 : b * d ≤ m) : x * y ≤ m := by
  have e1 := rlin_hi h1 h2 g1 g3
  have e2 := rlin_hi h1 h2 g2 g4
  rw [Rat.mul_comm] at e1 e2 ⊢
  exact rlin_hi h3 h4 e1 e2

/-- an interval without what is beyond 1 -/
def cut1 (x : Int) : Int := mx (-1000000000) (mn 1000000000 x)
theorem cut1_b (x : Int) : -1000000000 ≤ cut1 x ∧ cut1 x ≤ 1000000000 := by unfold cut1; simp only [mx, mn]; omega
theorem cut1_id {x : Int} (h : -1000000000 ≤ x) (h' : x ≤ 1000000000) : cut1 x = x := by unfold cut1; simp only [mx, mn]; omega
theorem cut1_mono {x y : Int} (h : x ≤ y) : cut1 x ≤ cut1 y := by unfold cut1; simp only [mx, mn]; omega
end Go.Proofs.YtgmjgnojjbajdaaDoor.Iv
