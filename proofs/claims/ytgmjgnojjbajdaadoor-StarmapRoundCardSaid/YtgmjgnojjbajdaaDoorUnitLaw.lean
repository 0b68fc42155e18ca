/- Products of intervals, and sun.Unit. No condition on a program. -/
import Derived.Test.YtgmjgnojjbajdaaDoorJRx1
import Derived.Test.YtgmjgnojjbajdaaDoorJRx1
import Derived.Test.YtgmjgnojjbajdaaDoorJRx1
import Derived.Test.YtgmjgnojjbajdaaDoorOverCore
namespace Go.Proofs.YtgmjgnojjbajdaaDoor.Iv
open Go.Proofs.YtgmjgnojjbajdaaDoor.JR Go.Proofs.YtgmjgnojjbajdaaDoor.Own Go.RowKit Go.Proofs.YtgmjgnojjbajdaaDoorW.PrintWords Go.Proofs.YtgmjgnojjbajdaaDoorW.PrintLast

theorem lin_lo {a b x t m : Int} (h1 : a ≤ x) (h2 : x ≤ b) (ha : m ≤ a * t) (hb : m ≤ b * t) : m ≤ x * t := by
  rcases Int.le_total 0 t with h | h
  · have := Int.mul_le_mul_of_nonneg_right h1 h; omega
  · have := Int.mul_le_mul_of_nonpos_right h2 h; omega
theorem lin_hi {a b x t m : Int} (h1 : a ≤ x) (h2 : x ≤ b) (ha : a * t ≤ m) (hb : b * t ≤ m) : x * t ≤ m := by
  rcases Int.le_total 0 t with h | h
  · have := Int.mul_le_mul_of_nonneg_right h2 h; omega
  · have := Int.mul_le_mul_of_nonpos_right h1 h; omega
/-- a product of numbers of two intervals is within the corners -/
theorem box_lo {a b c d x y m : Int} (h1 : a ≤ x) (h2 : x ≤ b) (h3 : c ≤ y) (h4 : y ≤ d) (g1 : m ≤ a * c) (g2 : m ≤ a * d) (g3 : m ≤ b * c) (g4 : m ≤ b * d) : m ≤ x * y := by
  have e1 := lin_lo h1 h2 g1 g3
  have e2 := lin_lo h1 h2 g2 g4
  rw [Int.mul_comm] at e1 e2 ⊢
  exact lin_lo h3 h4 e1 e2
theorem box_hi {a b c d x y m : Int} (h1 : a ≤ x) (h2 : x ≤ b) (h3 : c ≤ y) (h4 : y ≤ d) (g1 : a * c ≤ m) (g2 : a * d ≤ m) (g3 : b * c ≤ m) (g4 : b * d ≤ m) : x * y ≤ m := by
  have e1 := lin_hi h1 h2 g1 g3
  have e2 := lin_hi h1 h2 g2 g4
  rw [Int.mul_comm] at e1 e2 ⊢
  exact lin_hi h3 h4 e1 e2
/-- the size of a product -/
theorem abs_mul_le {x y A B : Int} (h1 : -A ≤ x) (h2 : x ≤ A) (h3 : -B ≤ y) (h4 : y ≤ B) : -(A * B) ≤ x * y ∧ x * y ≤ A * B := by
  have n1 : -A * -B = A * B := Int.neg_mul_neg A B
  have n2 : -A * B = -(A * B) := Int.neg_mul A B
  have n3 : A * -B = -(A * B) := Int.mul_neg A B
  have : 0 ≤ A * B := Int.mul_nonneg (by omega) (by omega)
  exact ⟨box_lo h1 h2 h3 h4 (by omega) (by omega) (by omega) (by omega), box_hi h1 h2 h3 h4 (by omega) (by omega) (by omega) (by omega)⟩
theorem inr {x : Int} (h : -1000000000000000000 ≤ x) (h' : x ≤ 1000000000000000000) : InR x := ⟨h, h'⟩

/-- the product, as its corners' least and greatest -/
theorem mul_f {a b c d A B : Int} (hA : 0 ≤ A) (hB : 0 ≤ B) (hAm : A ≤ 1000000000000000000) (hBm : B ≤ 1000000000000000000) (hAB : A * B ≤ 1000000000000000000) (h1 : -A ≤ a) (h2 : a ≤ b) (h3 : b ≤ A) (h4 : -B ≤ c) (h5 : c ≤ d) (h6 : d ≤ B) :
    ∃ lo hi, interval_Mul.f a b c d = some (lo, hi, 0) ∧ -(A * B) ≤ lo ∧ lo ≤ hi ∧ hi ≤ A * B ∧ lo ≤ a * c ∧ lo ≤ a * d ∧ lo ≤ b * c ∧ lo ≤ b * d ∧ (lo = a * c ∨ lo = a * d ∨ lo = b * c ∨ lo = b * d)
      ∧ a * c ≤ hi ∧ a * d ≤ hi ∧ b * c ≤ hi ∧ b * d ≤ hi ∧ (hi = a * c ∨ hi = a * d ∨ hi = b * c ∨ hi = b * d) := by
  have p1 := abs_mul_le (x := a) (y := c) (A := A) (B := B) h1 (by omega) h4 (by omega)
  have p2 := abs_mul_le (x := a) (y := d) (A := A) (B := B) h1 (by omega) (by omega) h6
  have p3 := abs_mul_le (x := b) (y := c) (A := A) (B := B) (by omega) h3 h4 (by omega)
  have p4 := abs_mul_le (x := b) (y := d) (A := A) (B := B) (by omega) h3 (by omega) h6
  unfold interval_Mul.f
  rw [if_pos ⟨inr (by omega) (by omega), h2, inr (by omega) (by omega), inr (by omega) (by omega), h5, inr (by omega) (by omega), inr (by omega) (by omega), inr (by omega) (by omega), inr (by omega) (by omega), inr (by omega) (by omega)⟩]
  refine ⟨_, _, rfl, ?_⟩
  simp only [interval_Mul.L, interval_Mul.H, interval_Mul.P]
  generalize a * c = q1 at *
  generalize a * d = q2 at *
  generalize b * c = q3 at *
  generalize b * d = q4 at *
  generalize A * B = M at *
  omega

theorem scale_f {a b m d : Int} (h1 : -1000000000000000000 ≤ a) (h2 : a ≤ b) (h3 : b ≤ 1000000000000000000) (h4 : 0 ≤ m) (h5 : m ≤ 1000000000) (h6 : 1 ≤ d) (h7 : d ≤ 1000000000)
    (h8 : -1000000000000000000 ≤ a * m / d) (h9 : a * m / d ≤ 1000000000000000000) (h10 : -1000000000000000000 ≤ (-b) * m / d) (h11 : (-b) * m / d ≤ 1000000000000000000) :
    interval_Scale.f a b m d = some (a * m / d, -((-b) * m / d), 0) := by
  unfold interval_Scale.f
  have e1 : interval_Scale.lo a b m d = a * m / d := by unfold interval_Scale.lo; rw [if_neg (by omega)]
  have e2 : interval_Scale.hi a b m d = -((-b) * m / d) := by unfold interval_Scale.hi; rw [if_neg (by omega)]
  rw [if_pos ⟨inr h1 (by omega), h2, inr (by omega) h3, by omega, h5, h6, h7, inr (by omega) (by omega), inr (by omega) (by omega)⟩, e1, e2]

theorem rlin_lo {a b x t m : Rat} (h1 : a ≤ x) (h2 : x ≤ b) (ha : m ≤ a * t) (hb : m ≤ b * t) : m ≤ x * t := by
  rcases (Rat.le_total (a := 0) (b := t)) with c | c
  · have := Rat.mul_nonneg (show 0 ≤ x - a by grind) c; grind
  · have := Rat.mul_nonneg (show 0 ≤ b - x by grind) (show 0 ≤ -t by grind); grind
theorem rlin_hi {a b x t m : Rat} (h1 : a ≤ x) (h2 : x ≤ b) (ha : a * t ≤ m) (hb : b * t ≤ m) : x * t ≤ m := by
  rcases (Rat.le_total (a := 0) (b := t)) with c | c
  · have := Rat.mul_nonneg (show 0 ≤ b - x by grind) c; grind
  · have := Rat.mul_nonneg (show 0 ≤ x - a by grind) (show 0 ≤ -t by grind); grind
theorem rbox_lo {a b c d x y m : Rat} (h1 : a ≤ x) (h2 : x ≤ b) (h3 : c ≤ y) (h4 : y ≤ d) (g1 : m ≤ a * c) (g2 : m ≤ a * d) (g3 : m ≤ b * c) (g4 : m ≤ b * d) : m ≤ x * y := by
  have e1 := rlin_lo h1 h2 g1 g3
  have e2 := rlin_lo h1 h2 g2 g4
  rw [Rat.mul_comm] at e1 e2 ⊢
  exact rlin_lo h3 h4 e1 e2
theorem rbox_hi {a b c d x y m : Rat} (h1 : a ≤ x) (h2 : x ≤ b) (h3 : c ≤ y) (h4 : y ≤ d) (g1 : a * c ≤ m) (g2 : a * d ≤ m) (g3 : b * c ≤ m) (g4 : b * d ≤ m) : x * y ≤ m := by
  have e1 := rlin_hi h1 h2 g1 g3
  have e2 := rlin_hi h1 h2 g2 g4
  rw [Rat.mul_comm] at e1 e2 ⊢
  exact rlin_hi h3 h4 e1 e2

/-- an interval without what is beyond 1 -/
def cut1 (x : Int) : Int := mx (-1000000000) (mn 1000000000 x)
theorem cut1_b (x : Int) : -1000000000 ≤ cut1 x ∧ cut1 x ≤ 1000000000 := by unfold cut1; simp only [mx, mn]; omega
theorem cut1_id {x : Int} (h : -1000000000 ≤ x) (h' : x ≤ 1000000000) : cut1 x = x := by unfold cut1; simp only [mx, mn]; omega
theorem cut1_mono {x y : Int} (h : x ≤ y) : cut1 x ≤ cut1 y := by unfold cut1; simp only [mx, mn]; omega
/-- what Unit finds: the products with the unit 1 / Turn, and hardly more -/
theorem sunit_f {a b c d : Int} (h1 : a ≤ b) (h2 : c ≤ d) : ∃ lo hi, sun_Unit.f a b c d = some (lo, hi) ∧ -1000000000 ≤ lo ∧ lo ≤ hi ∧ hi ≤ 1000000000 ∧
    (∀ p q : Rat, (cut1 a : Rat) ≤ p → p ≤ (cut1 b : Rat) → (cut1 c : Rat) ≤ q → q ≤ (cut1 d : Rat) → (lo : Rat) ≤ p * q / 1000000000 ∧ p * q / 1000000000 ≤ (hi : Rat) ∧
      p * q / 1000000000 - (((cut1 b : Rat) - (cut1 a : Rat)) + ((cut1 d : Rat) - (cut1 c : Rat)) + 1) ≤ (lo : Rat) ∧ (hi : Rat) ≤ p * q / 1000000000 + (((cut1 b : Rat) - (cut1 a : Rat)) + ((cut1 d : Rat) - (cut1 c : Rat)) + 1)) := by
  have A := cut1_b a
  have B := cut1_b b
  have C := cut1_b c
  have D := cut1_b d
  have m1 := cut1_mono h1
  have m2 := cut1_mono h2
  have cl : ∀ x y : Int, sun_Clamp.f x y = some (cut1 x, cut1 y) := fun x y => rfl
  unfold sun_Unit.f
  rw [cl, cl]
  simp only [Option.bind_some]
  generalize cut1 a = a at *
  generalize cut1 b = b at *
  generalize cut1 c = c at *
  generalize cut1 d = d at *
  obtain ⟨xl, xh, e1, x0, x1, x2, l1, l2, l3, l4, lc, g1, g2, g3, g4, gc⟩ := mul_f (A := 1000000000) (B := 1000000000) (a := a) (b := b) (c := c) (d := d) (by omega) (by omega) (by omega) (by omega) (by omega) A.1 m1 B.2 C.1 m2 D.2
  rw [e1]
  simp only [Option.bind_some]
  rw [scale_f (by omega) x1 (by omega) (by omega) (by omega) (by omega) (by omega) (by omega) (by omega) (by omega) (by omega)]
  simp only [Option.bind_some]
  refine ⟨_, _, rfl, by omega, by omega, by omega, ?_⟩
  intro p q p1 p2 q1 q2
  have cT : ((1000000000 : Int) : Rat) = 1000000000 := by decide +kernel
  have c1 : ((1 : Int) : Rat) = 1 := by decide +kernel
  have k1 := Rat.intCast_le_intCast.2 l1
  have k2 := Rat.intCast_le_intCast.2 l2
  have k3 := Rat.intCast_le_intCast.2 l3
  have k4 := Rat.intCast_le_intCast.2 l4
  have n1 := Rat.intCast_le_intCast.2 g1
  have n2 := Rat.intCast_le_intCast.2 g2
  have n3 := Rat.intCast_le_intCast.2 g3
  have n4 := Rat.intCast_le_intCast.2 g4
  rw [Rat.intCast_mul] at k1 k2 k3 k4 n1 n2 n3 n4
  have lo := rbox_lo p1 p2 q1 q2 k1 k2 k3 k4
  have hi := rbox_hi p1 p2 q1 q2 n1 n2 n3 n4
  have r1 := Rat.intCast_le_intCast.2 (show xl * 1 / 1000000000 * 1000000000 ≤ xl by omega)
  have r2 := Rat.intCast_le_intCast.2 (show xh ≤ -((-xh) * 1 / 1000000000) * 1000000000 by omega)
  have r3 := Rat.intCast_le_intCast.2 (show xl ≤ (xl * 1 / 1000000000 + 1) * 1000000000 by omega)
  have r4 := Rat.intCast_le_intCast.2 (show (-((-xh) * 1 / 1000000000) - 1) * 1000000000 ≤ xh by omega)
  rw [Rat.intCast_mul, cT] at r1 r2 r3 r4
  rw [Rat.intCast_add, c1] at r3
  rw [Rat.intCast_sub, c1] at r4
  have cN : ((-1000000000 : Int) : Rat) = -1000000000 := by decide +kernel
  have A1 := Rat.intCast_le_intCast.2 A.1
  have A2 := Rat.intCast_le_intCast.2 A.2
  have B1 := Rat.intCast_le_intCast.2 B.1
  have B2 := Rat.intCast_le_intCast.2 B.2
  have C1 := Rat.intCast_le_intCast.2 C.1
  have C2 := Rat.intCast_le_intCast.2 C.2
  have D1 := Rat.intCast_le_intCast.2 D.1
  have D2 := Rat.intCast_le_intCast.2 D.2
  rw [cN] at A1 B1 C1 D1
  rw [cT] at A2 B2 C2 D2
  -- how far the products of two pairs are apart
  have far : ∀ u v : Rat, (a : Rat) ≤ u → u ≤ (b : Rat) → (c : Rat) ≤ v → v ≤ (d : Rat) → -(1000000000 * (((b : Rat) - (a : Rat)) + ((d : Rat) - (c : Rat)))) ≤ p * q - u * v ∧ p * q - u * v ≤ 1000000000 * (((b : Rat) - (a : Rat)) + ((d : Rat) - (c : Rat))) := by
    intro u v u1 u2 v1 v2
    have f1 := Go.Proofs.YtgmjgnojjbajdaaDoor.Tp.mul_ab (u := p - u) (v := q) (A := (b : Rat) - (a : Rat)) (B := 1000000000) (by grind) (by grind) (by grind) (by grind)
    have f2 := Go.Proofs.YtgmjgnojjbajdaaDoor.Tp.mul_ab (u := u) (v := q - v) (A := 1000000000) (B := (d : Rat) - (c : Rat)) (by grind) (by grind) (by grind) (by grind)
    constructor <;> grind
  have M1 : (a : Rat) ≤ b := Rat.intCast_le_intCast.2 m1
  have M2 : (c : Rat) ≤ d := Rat.intCast_le_intCast.2 m2
  have w1 := far a c (by grind) M1 (by grind) M2
  have w2 := far a d (by grind) M1 M2 (by grind)
  have w3 := far b c M1 (by grind) (by grind) M2
  have w4 := far b d M1 (by grind) M2 (by grind)
  have L : p * q - 1000000000 * (((b : Rat) - (a : Rat)) + ((d : Rat) - (c : Rat))) ≤ (xl : Rat) := by
    rcases lc with h | h | h | h <;> rw [h, Rat.intCast_mul]
    · exact (by grind)
    · exact (by grind)
    · exact (by grind)
    · exact (by grind)
  have H : (xh : Rat) ≤ p * q + 1000000000 * (((b : Rat) - (a : Rat)) + ((d : Rat) - (c : Rat))) := by
    rcases gc with h | h | h | h <;> rw [h, Rat.intCast_mul]
    · exact (by grind)
    · exact (by grind)
    · exact (by grind)
    · exact (by grind)
  clear w1 w2 w3 w4 far k1 k2 k3 k4 n1 n2 n3 n4
  generalize ((xl * 1 / 1000000000 : Int) : Rat) = U at *
  generalize ((-((-xh) * 1 / 1000000000) : Int) : Rat) = V at *
  generalize p * q = x at *
  refine ⟨?_, ?_, ?_, ?_⟩ <;> grind
/-- a bound of the products is one of what Unit finds -/
theorem sunit_m {a b c d M : Int} (h1 : a ≤ b) (h2 : c ≤ d) (hM : ∀ x y : Int, (x = cut1 a ∨ x = cut1 b) → (y = cut1 c ∨ y = cut1 d) → -(M * 1000000000) ≤ x * y ∧ x * y ≤ M * 1000000000) {lo hi : Int} (h : sun_Unit.f a b c d = some (lo, hi)) : -M ≤ lo ∧ hi ≤ M := by
  have A := cut1_b a
  have B := cut1_b b
  have C := cut1_b c
  have D := cut1_b d
  have m1 := cut1_mono h1
  have m2 := cut1_mono h2
  have cl : ∀ x y : Int, sun_Clamp.f x y = some (cut1 x, cut1 y) := fun x y => rfl
  unfold sun_Unit.f at h
  rw [cl, cl] at h
  simp only [Option.bind_some] at h
  have k1 := hM _ _ (Or.inl rfl) (Or.inl rfl)
  have k2 := hM _ _ (Or.inl rfl) (Or.inr rfl)
  have k3 := hM _ _ (Or.inr rfl) (Or.inl rfl)
  have k4 := hM _ _ (Or.inr rfl) (Or.inr rfl)
  clear hM
  generalize cut1 a = a at *
  generalize cut1 b = b at *
  generalize cut1 c = c at *
  generalize cut1 d = d at *
  obtain ⟨xl, xh, e1, x0, x1, x2, l1, l2, l3, l4, lc, g1, g2, g3, g4, gc⟩ := mul_f (A := 1000000000) (B := 1000000000) (a := a) (b := b) (c := c) (d := d) (by omega) (by omega) (by omega) (by omega) (by omega) A.1 m1 B.2 C.1 m2 D.2
  rw [e1] at h
  simp only [Option.bind_some] at h
  rw [scale_f (by omega) x1 (by omega) (by omega) (by omega) (by omega) (by omega) (by omega) (by omega) (by omega) (by omega)] at h
  simp only [Option.bind_some, Option.some.injEq, Prod.mk.injEq] at h
  obtain ⟨rfl, rfl⟩ := h
  generalize a * c = q1 at *
  generalize a * d = q2 at *
  generalize b * c = q3 at *
  generalize b * d = q4 at *
  have y1 : -(M * 1000000000) ≤ xl := by rcases lc with e | e | e | e <;> omega
  have y2 : xh ≤ M * 1000000000 := by rcases gc with e | e | e | e <;> omega
  constructor <;> omega
end Go.Proofs.YtgmjgnojjbajdaaDoor.Iv
