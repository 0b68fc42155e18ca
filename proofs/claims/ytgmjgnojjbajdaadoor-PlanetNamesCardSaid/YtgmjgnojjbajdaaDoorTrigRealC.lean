/- Sines and cosines as polynomials, trig.octant near them, the theorem of addition for whole angles, and trig.Sin's intervals. No condition on a program. -/
import Derived.Test.YtgmjgnojjbajdaaDoorTrigCore
namespace Go.Proofs.YtgmjgnojjbajdaaDoor.Tp

theorem mul_ab {u v A B : Rat} (h1 : -A ≤ u) (h2 : u ≤ A) (h3 : -B ≤ v) (h4 : v ≤ B) : -(A * B) ≤ u * v ∧ u * v ≤ A * B := by
  have a1 := Rat.mul_nonneg (show 0 ≤ A - u by grind) (show 0 ≤ B + v by grind)
  have a2 := Rat.mul_nonneg (show 0 ≤ A + u by grind) (show 0 ≤ B - v by grind)
  have a3 := Rat.mul_nonneg (show 0 ≤ A - u by grind) (show 0 ≤ B - v by grind)
  have a4 := Rat.mul_nonneg (show 0 ≤ A + u by grind) (show 0 ≤ B + v by grind)
  constructor <;> grind

theorem pow_ab {x X : Rat} (h1 : -X ≤ x) (h2 : x ≤ X) : ∀ n : Nat, -(X ^ n) ≤ x ^ n ∧ x ^ n ≤ X ^ n
  | 0 => by rw [Rat.pow_zero, Rat.pow_zero]; decide +kernel
  | n + 1 => by
    have ih := pow_ab h1 h2 n
    rw [Rat.pow_succ, Rat.pow_succ]
    exact mul_ab ih.1 ih.2 h1 h2

theorem pow_add (x : Rat) (m : Nat) : ∀ n : Nat, x ^ (m + n) = x ^ m * x ^ n
  | 0 => by rw [Nat.add_zero, Rat.pow_zero]; grind
  | n + 1 => by rw [← Nat.add_assoc, Rat.pow_succ, Rat.pow_succ, pow_add x m n]; grind

def ab (c : Rat) : Rat := if c < 0 then -c else c
theorem ab_le (c : Rat) : -(ab c) ≤ c ∧ c ≤ ab c := by unfold ab; split <;> constructor <;> grind

/-- polynomials in two variables: coefficient and exponents -/
abbrev Pol := List (Rat × Nat × Nat)
def ev (x y : Rat) : Pol → Rat
  | [] => 0
  | (c, i, j) :: p => c * (x ^ i * y ^ j) + ev x y p
def ins (c : Rat) (i j : Nat) : Pol → Pol
  | [] => [(c, i, j)]
  | (d, k, l) :: p => if k = i ∧ l = j then (c + d, i, j) :: p else (d, k, l) :: ins c i j p
theorem ev_ins (x y c : Rat) (i j : Nat) : ∀ p, ev x y (ins c i j p) = c * (x ^ i * y ^ j) + ev x y p
  | [] => rfl
  | (d, k, l) :: p => by
    unfold ins
    split
    · rename_i h; obtain ⟨rfl, rfl⟩ := h
      simp only [ev]; grind
    · simp only [ev]; rw [ev_ins x y c i j p]; grind
def add : Pol → Pol → Pol
  | [], q => q
  | (c, i, j) :: p, q => ins c i j (add p q)
theorem ev_add (x y : Rat) : ∀ p q, ev x y (add p q) = ev x y p + ev x y q
  | [], q => by simp only [add, ev]; grind
  | (c, i, j) :: p, q => by simp only [add, ev]; rw [ev_ins, ev_add x y p q]; grind
def mon (c : Rat) (i j : Nat) : Pol → Pol
  | [] => []
  | (d, k, l) :: p => (c * d, i + k, j + l) :: mon c i j p
theorem ev_mon (x y c : Rat) (i j : Nat) : ∀ p, ev x y (mon c i j p) = c * (x ^ i * y ^ j) * ev x y p
  | [] => by simp only [mon, ev]; grind
  | (d, k, l) :: p => by simp only [mon, ev]; rw [ev_mon x y c i j p, pow_add, pow_add]; grind
def mul : Pol → Pol → Pol
  | [], _ => []
  | (c, i, j) :: p, q => add (mon c i j q) (mul p q)
theorem ev_mul (x y : Rat) : ∀ p q, ev x y (mul p q) = ev x y p * ev x y q
  | [], q => by simp only [mul, ev]; grind
  | (c, i, j) :: p, q => by simp only [mul, ev]; rw [ev_add, ev_mon, ev_mul x y p q]; grind
def bd (X Y : Rat) : Pol → Rat
  | [] => 0
  | (c, i, j) :: p => ab c * (X ^ i * Y ^ j) + bd X Y p
theorem ev_bd {x y X Y : Rat} (h1 : -X ≤ x) (h2 : x ≤ X) (h3 : -Y ≤ y) (h4 : y ≤ Y) : ∀ p, -(bd X Y p) ≤ ev x y p ∧ ev x y p ≤ bd X Y p
  | [] => by simp only [ev, bd]; constructor <;> grind
  | (c, i, j) :: p => by
    have ih := ev_bd h1 h2 h3 h4 p
    have a := pow_ab h1 h2 i
    have b := pow_ab h3 h4 j
    have m := mul_ab a.1 a.2 b.1 b.2
    have t := mul_ab (ab_le c).1 (ab_le c).2 m.1 m.2
    simp only [ev, bd]
    constructor <;> grind

/-- polynomials in one variable -/
abbrev Uni := List (Rat × Nat)
def sm (x : Rat) : Uni → Rat
  | [] => 0
  | (c, i) :: p => c * x ^ i + sm x p
def inX : Uni → Pol
  | [] => []
  | (c, i) :: p => (c, i, 0) :: inX p
def inY : Uni → Pol
  | [] => []
  | (c, i) :: p => (c, 0, i) :: inY p
theorem ev_inX (x y : Rat) : ∀ p, ev x y (inX p) = sm x p
  | [] => rfl
  | (c, i) :: p => by simp only [inX, ev, sm]; rw [ev_inX x y p, Rat.pow_zero]; grind
theorem ev_inY (x y : Rat) : ∀ p, ev x y (inY p) = sm y p
  | [] => rfl
  | (c, i) :: p => by simp only [inY, ev, sm]; rw [ev_inY x y p, Rat.pow_zero]; grind
def pw : Nat → Pol
  | 0 => [(1, 0, 0)]
  | n + 1 => mul [(1, 1, 0), (1, 0, 1)] (pw n)
theorem ev_pw (x y : Rat) : ∀ n, ev x y (pw n) = (x + y) ^ n
  | 0 => by simp only [pw, ev]; rw [Rat.pow_zero, Rat.pow_zero, Rat.pow_zero]; grind
  | n + 1 => by
    simp only [pw]
    rw [ev_mul, ev_pw x y n, Rat.pow_succ]
    simp only [ev]
    rw [Rat.pow_zero, Rat.pow_zero, Rat.pow_succ, Rat.pow_succ, Rat.pow_zero, Rat.pow_zero]; grind
def inS : Uni → Pol
  | [] => []
  | (c, i) :: p => add (mon c 0 0 (pw i)) (inS p)
theorem ev_inS (x y : Rat) : ∀ p, ev x y (inS p) = sm (x + y) p
  | [] => rfl
  | (c, i) :: p => by simp only [inS, sm]; rw [ev_add, ev_mon, ev_pw, ev_inS x y p, Rat.pow_zero, Rat.pow_zero]; grind

def fac : Nat → Rat
  | 0 => 1
  | n + 1 => (n + 1 : Nat) * fac n
def SC : Uni := [(1, 1), (-1 / fac 3, 3), (1 / fac 5, 5), (-1 / fac 7, 7), (1 / fac 9, 9), (-1 / fac 11, 11), (1 / fac 13, 13), (-1 / fac 15, 15), (1 / fac 17, 17), (-1 / fac 19, 19)]
def CC : Uni := [(1, 0), (-1 / fac 2, 2), (1 / fac 4, 4), (-1 / fac 6, 6), (1 / fac 8, 8), (-1 / fac 10, 10), (1 / fac 12, 12), (-1 / fac 14, 14), (1 / fac 16, 16), (-1 / fac 18, 18)]
/-- the sine and the cosine -/
def sn (x : Rat) : Rat := sm x SC
def cn (x : Rat) : Rat := sm x CC
def neg (p : Pol) : Pol := mon (-1) 0 0 p
theorem ev_neg (x y : Rat) (p : Pol) : ev x y (neg p) = -(ev x y p) := by unfold neg; rw [ev_mon, Rat.pow_zero, Rat.pow_zero]; grind
def RS : Pol := add (mul (inX SC) (inY CC)) (add (mul (inX CC) (inY SC)) (neg (inS SC)))
def RC : Pol := add (mul (inX CC) (inY CC)) (add (neg (mul (inX SC) (inY SC))) (neg (inS CC)))
/-- what the theorem of addition lacks -/
def eps : Rat := 1 / 10000000000000
set_option maxRecDepth 100000 in
theorem bd_RS : bd (4 / 5) (4 / 5) RS ≤ eps := by decide +kernel
set_option maxRecDepth 100000 in
theorem bd_RC : bd (4 / 5) (4 / 5) RC ≤ eps := by decide +kernel

theorem add_s {x y : Rat} (h1 : -(4 / 5) ≤ x) (h2 : x ≤ 4 / 5) (h3 : -(4 / 5) ≤ y) (h4 : y ≤ 4 / 5) : -eps ≤ sn x * cn y + cn x * sn y - sn (x + y) ∧ sn x * cn y + cn x * sn y - sn (x + y) ≤ eps := by
  have e : ev x y RS = sn x * cn y + cn x * sn y - sn (x + y) := by
    unfold RS sn cn
    rw [ev_add, ev_add, ev_mul, ev_mul, ev_neg, ev_inX, ev_inX, ev_inY, ev_inY, ev_inS]; grind
  have b := ev_bd h1 h2 h3 h4 RS
  have := bd_RS
  rw [e] at b
  constructor <;> grind
theorem add_c {x y : Rat} (h1 : -(4 / 5) ≤ x) (h2 : x ≤ 4 / 5) (h3 : -(4 / 5) ≤ y) (h4 : y ≤ 4 / 5) : -eps ≤ cn x * cn y - sn x * sn y - cn (x + y) ∧ cn x * cn y - sn x * sn y - cn (x + y) ≤ eps := by
  have e : ev x y RC = cn x * cn y - sn x * sn y - cn (x + y) := by
    unfold RC sn cn
    rw [ev_add, ev_add, ev_mul, ev_neg, ev_neg, ev_mul, ev_inX, ev_inX, ev_inY, ev_inY, ev_inS]; grind
  have b := ev_bd h1 h2 h3 h4 RC
  have := bd_RC
  rw [e] at b
  constructor <;> grind

theorem sn_neg (x : Rat) : sn (-x) = -(sn x) := by unfold sn SC; simp only [sm]; grind
theorem cn_neg (x : Rat) : cn (-x) = cn x := by unfold cn CC; simp only [sm]; grind
theorem sn_zero : sn 0 = 0 := by decide +kernel
theorem cn_zero : cn 0 = 1 := by decide +kernel
/-- the theorem of Pythagoras -/
theorem pyth {x : Rat} (h1 : -(4 / 5) ≤ x) (h2 : x ≤ 4 / 5) : 1 - eps ≤ sn x * sn x + cn x * cn x ∧ sn x * sn x + cn x * cn x ≤ 1 + eps := by
  have a := add_c (x := x) (y := -x) h1 h2 (by grind) (by grind)
  rw [sn_neg, cn_neg, show x + -x = 0 by grind, cn_zero] at a
  constructor <;> grind

end Go.Proofs.YtgmjgnojjbajdaaDoor.Tp

namespace Go.Proofs.YtgmjgnojjbajdaaDoor.JG
open Go.Proofs.YtgmjgnojjbajdaaDoor.Own Go.Proofs.YtgmjgnojjbajdaaDoor.Tp Go.RowKit Go.Proofs.YtgmjgnojjbajdaaDoorW.PrintWords Go.Proofs.YtgmjgnojjbajdaaDoorW.PrintLast

/-- the unit of the calculation -/
abbrev U : Rat := 1152921504606846976

theorem div_le {z D b : Rat} (hD : 0 < D) (h : D * z ≤ D * b) : z ≤ b := by
  rcases (Rat.le_total (a := z) (b := b)) with c | c
  · exact c
  · have := Rat.mul_le_mul_of_nonneg_left c (show 0 ≤ D by grind)
    have e : D * (z - b) = 0 := by grind
    have : z - b = 0 := by
      rcases Rat.mul_eq_zero.1 e with h0 | h0
      · grind
      · exact h0
    grind

/-- one term from the one before -/
theorem step_ap {s v Q s' T T' q D e : Rat} (hD : (6 ≤ D ∧ e ≤ 4) ∨ (D = 2 ∧ e = 0)) (h1 : v * U ≤ s * Q) (h2 : s * Q ≤ (v + 1) * U) (h3 : s' * D ≤ v) (h4 : v ≤ s' * D + D)
    (t0 : 0 ≤ T) (t1 : T ≤ 1) (q0 : 0 ≤ Q) (q1 : Q ≤ U) (d0 : Q ≤ U * q) (d1 : U * q ≤ Q + 4) (hT : T' * D = T * q) (e0 : 0 ≤ e) (a1 : U * T - e ≤ s) (a2 : s ≤ U * T + e) :
    U * T' - 4 ≤ s' ∧ s' ≤ U * T' + 4 := by
  have m1 := Rat.mul_nonneg (show 0 ≤ e - (s - U * T) by grind) q0
  have m2 := Rat.mul_nonneg (show 0 ≤ e + (s - U * T) by grind) q0
  have m3 := Rat.mul_nonneg e0 (show 0 ≤ U - Q by grind)
  have m4 := Rat.mul_nonneg t0 (show 0 ≤ U * q - Q by grind)
  have m5 := Rat.mul_nonneg t0 (show 0 ≤ Q + 4 - U * q by grind)
  have up : U * (D * (s' - U * T')) ≤ U * (e + 4) := by grind
  have lo : U * (-(e + 5) - D) ≤ U * (D * (s' - U * T')) := by grind
  have up' := div_le (show (0 : Rat) < U by decide +kernel) up
  have lo' := div_le (show (0 : Rat) < U by decide +kernel) lo
  rcases hD with ⟨hD, he⟩ | ⟨rfl, rfl⟩
  · have g1 : D * (s' - U * T') ≤ D * 4 := by grind
    have g2 : D * (-4) ≤ D * (s' - U * T') := by grind
    have g3 := div_le (show 0 < D by grind) g1
    have g4 := div_le (show 0 < D by grind) g2
    constructor <;> grind
  · constructor <;> grind

theorem mul_ap {a b : Int} (a0 : 0 ≤ a) (a1 : a ≤ 1152921504606846976) (b0 : 0 ≤ b) (b1 : b ≤ 1152921504606846976) : ∃ v, trig_mul.f a b = some v ∧ 0 ≤ v ∧ v ≤ a ∧ v * 1152921504606846976 ≤ a * b ∧ a * b ≤ (v + 1) * 1152921504606846976 := by
  unfold trig_mul.f
  rw [and_low a a0 (by omega), and_low b b0 (by omega)]
  have ea : a = a / 1073741824 * 1073741824 + a % 1073741824 := by omega
  have eb : b = b / 1073741824 * 1073741824 + b % 1073741824 := by omega
  have A : 0 ≤ a / 1073741824 ∧ a / 1073741824 ≤ 1073741824 := by omega
  have B : 0 ≤ b / 1073741824 ∧ b / 1073741824 ≤ 1073741824 := by omega
  have A' : 0 ≤ a % 1073741824 ∧ a % 1073741824 < 1073741824 := by omega
  have B' : 0 ≤ b % 1073741824 ∧ b % 1073741824 < 1073741824 := by omega
  have ab : a * b ≤ a * 1152921504606846976 := Int.mul_le_mul_of_nonneg_left b1 a0
  generalize a / 1073741824 = x at *
  generalize b / 1073741824 = y at *
  generalize a % 1073741824 = s at *
  generalize b % 1073741824 = t at *
  have ex : a * b = x * y * 1152921504606846976 + x * t * 1073741824 + s * y * 1073741824 + s * t := by
    rw [ea, eb]; grind
  have p1 : 0 ≤ x * y ∧ x * y ≤ 1073741824 * 1073741824 := ⟨Int.mul_nonneg A.1 B.1, Int.mul_le_mul A.2 B.2 B.1 (by omega)⟩
  have p2 : 0 ≤ x * t ∧ x * t ≤ 1073741824 * 1073741824 := ⟨Int.mul_nonneg A.1 B'.1, Int.mul_le_mul A.2 (by omega) B'.1 (by omega)⟩
  have p3 : 0 ≤ s * y ∧ s * y ≤ 1073741824 * 1073741824 := ⟨Int.mul_nonneg A'.1 B.1, Int.mul_le_mul (by omega) B.2 B.1 (by omega)⟩
  have p4 : 0 ≤ s * t ∧ s * t ≤ 1073741824 * 1073741824 := ⟨Int.mul_nonneg A'.1 B'.1, Int.mul_le_mul (by omega) (by omega) B'.1 (by omega)⟩
  generalize x * y = p at *
  generalize x * t = q at *
  generalize s * y = r at *
  generalize s * t = u at *
  rw [wrap_in (n := p) (by omega) (by omega), wrap_in (n := q) (by omega) (by omega), wrap_in (n := r) (by omega) (by omega), wrap_in (n := u) (by omega) (by omega), wrap_in (n := q + r) (by omega) (by omega), wrap_in (n := q + r + u / 1073741824) (by omega) (by omega), wrap_in (n := p + (q + r + u / 1073741824) / 1073741824) (by omega) (by omega)]
  exact ⟨_, rfl, by omega, by omega, by omega, by omega⟩

theorem den_eq {i : Nat} (h1 : 1 ≤ i) (h2 : i ≤ 9) : wrap64 ((wrap64 ((wrap64 ((wrap64 (2 * (i : Int))) - 1)) * 2)) * (i : Int)) = (((2 * i - 1) * 2 * i : Nat) : Int) ∧ wrap64 ((wrap64 (2 * (i : Int))) * (wrap64 ((wrap64 (2 * (i : Int))) + 1))) = ((2 * i * (2 * i + 1) : Nat) : Int) := by
  rcases (by omega : i = 1 ∨ i = 2 ∨ i = 3 ∨ i = 4 ∨ i = 5 ∨ i = 6 ∨ i = 7 ∨ i = 8 ∨ i = 9) with h | h | h | h | h | h | h | h | h <;> subst h <;> decide +kernel

/-- the exact sums that the loop follows -/
def fin (q : Rat) : Nat → Nat → Rat → Rat → Rat → Rat → Rat × Rat
  | 0, _, Ss, Cs, _, _ => (Ss, Cs)
  | d + 1, i, Ss, Cs, Ts, Tc =>
    if i % 2 = 1 then fin q d (i + 1) (Ss - Ts * q / ((2 * i * (2 * i + 1) : Nat) : Rat)) (Cs - Tc * q / (((2 * i - 1) * 2 * i : Nat) : Rat)) (Ts * q / ((2 * i * (2 * i + 1) : Nat) : Rat)) (Tc * q / (((2 * i - 1) * 2 * i : Nat) : Rat))
    else fin q d (i + 1) (Ss + Ts * q / ((2 * i * (2 * i + 1) : Nat) : Rat)) (Cs + Tc * q / (((2 * i - 1) * 2 * i : Nat) : Rat)) (Ts * q / ((2 * i * (2 * i + 1) : Nat) : Rat)) (Tc * q / (((2 * i - 1) * 2 * i : Nat) : Rat))

theorem fin_eq (X : Rat) : fin (X * X) 9 1 X 1 X 1 = (sn X, cn X) := by
  have f1 : (sn X) = (fin (X * X) 9 1 X 1 X 1).1 := by
    unfold sn SC; simp only [sm, fin]; simp [fac]; grind
  have f2 : (cn X) = (fin (X * X) 9 1 X 1 X 1).2 := by
    unfold cn CC; simp only [sm, fin]; simp [fac]; grind
  rw [f1, f2]


/-- a whole number near a rational one -/
def Nr (s : Int) (T e : Rat) : Prop := T - e ≤ (s : Rat) ∧ (s : Rat) ≤ T + e

/-- one term of the loop -/
theorem term_ap {s sq : Int} {T q e : Rat} {D : Nat} (s0 : 0 ≤ s) (s1 : s ≤ 1152921504606846976) (q0 : 0 ≤ sq) (q1 : sq ≤ 1152921504606846976) (d0 : (sq : Rat) ≤ U * q) (d1 : U * q ≤ sq + 4) (q2 : 0 ≤ q) (q3 : q ≤ 1)
    (hD : (6 ≤ D ∧ e = 4) ∨ (D = 2 ∧ e = 0)) (t0 : 0 ≤ T) (t1 : T ≤ 1) (a : Nr s (U * T) e) :
    ∃ v, trig_mul.f s sq = some v ∧ 0 ≤ v ∧ v ≤ s ∧ Nr (v / (D : Int)) (U * (T * q / (D : Rat))) 4 ∧ 0 ≤ T * q / (D : Rat) ∧ T * q / (D : Rat) ≤ 1 := by
  obtain ⟨v, h, v0, v1, v2, v3⟩ := mul_ap s0 s1 q0 q1
  have Dp : (2 : Rat) ≤ (D : Rat) := by
    have : 2 ≤ D := by omega
    exact_mod_cast this
  have hT : T * q / (D : Rat) * (D : Rat) = T * q := Rat.div_mul_cancel (by grind)
  have tq := Rat.mul_nonneg t0 q2
  have tq1 := Rat.mul_nonneg (show 0 ≤ 1 - T by grind) q2
  have e1 := Int.ediv_mul_le v (show (D : Int) ≠ 0 by omega)
  have e2 := Int.lt_ediv_add_one_mul_self v (show (0 : Int) < (D : Int) by omega)
  generalize hw : v / (D : Int) = w at *
  generalize T * q / (D : Rat) = T' at *
  have p0 : 0 ≤ T' := by
    have : (D : Rat) * 0 ≤ D * T' := by grind
    exact div_le (by grind) this
  have p1 : T' ≤ 1 := by
    have : (D : Rat) * T' ≤ D * 1 := by grind
    exact div_le (by grind) this
  refine ⟨v, h, v0, v1, ?_, p0, p1⟩
  rw [hw]
  have r1 : ((v * 1152921504606846976 : Int) : Rat) ≤ ((s * sq : Int) : Rat) := Rat.intCast_le_intCast.2 v2
  have r2 : ((s * sq : Int) : Rat) ≤ (((v + 1) * 1152921504606846976 : Int) : Rat) := Rat.intCast_le_intCast.2 v3
  have r3 : ((w * (D : Int) : Int) : Rat) ≤ ((v : Int) : Rat) := Rat.intCast_le_intCast.2 e1
  have r4 : ((v : Int) : Rat) ≤ ((w * (D : Int) + (D : Int) : Int) : Rat) := Rat.intCast_le_intCast.2 (by rw [Int.add_mul] at e2; omega)
  have r5 : ((0 : Int) : Rat) ≤ ((sq : Int) : Rat) := Rat.intCast_le_intCast.2 q0
  have r6 : ((sq : Int) : Rat) ≤ ((1152921504606846976 : Int) : Rat) := Rat.intCast_le_intCast.2 q1
  simp only [Rat.intCast_mul, Rat.intCast_add, Rat.intCast_natCast] at r1 r2 r3 r4
  have cU : ((1152921504606846976 : Int) : Rat) = U := by decide +kernel
  have c1 : ((1 : Int) : Rat) = 1 := by decide +kernel
  have c0 : ((0 : Int) : Rat) = 0 := by decide +kernel
  rw [cU] at r1 r2 r6
  rw [c1] at r2
  rw [c0] at r5
  have hD' : (6 ≤ (D : Rat) ∧ e ≤ 4) ∨ ((D : Rat) = 2 ∧ e = 0) := by
    rcases hD with ⟨h1, h2⟩ | ⟨h1, h2⟩
    · exact .inl ⟨by exact_mod_cast h1, by grind⟩
    · exact .inr ⟨by exact_mod_cast h1, h2⟩
  have e0 : 0 ≤ e := by rcases hD with ⟨_, h2⟩ | ⟨_, h2⟩ <;> grind
  exact step_ap hD' r1 r2 r3 r4 t0 t1 r5 r6 d0 d1 hT e0 a.1 a.2

theorem oct_odd {sq sin cos s c i s' c' E1 E2 ss cc : Int} (hi : i ≤ 9) (i1 : 1 ≤ i) (odd : Int.tmod i 2 = 1) (hc : trig_mul.f c sq = some c') (hs : trig_mul.f s sq = some s') (hd1 : wrap64 ((wrap64 ((wrap64 ((wrap64 (2 * i)) - 1)) * 2)) * i) = E1) (hd2 : wrap64 ((wrap64 (2 * i)) * (wrap64 ((wrap64 (2 * i)) + 1))) = E2) (n1 : E1 ≠ 0) (n2 : E2 ≠ 0)
    (es : Int.tdiv s' E2 = ss) (ec : Int.tdiv c' E1 = cc) (w1 : wrap64 ss = ss) (w2 : wrap64 cc = cc) (w3 : wrap64 (sin - ss) = sin - ss) (w4 : wrap64 (cos - cc) = cos - cc) (k : Nat) :
    trig_octant.l0 (k + 1) sq sin cos s c i = trig_octant.l0 k sq (sin - ss) (cos - cc) ss cc (i + 1) := by
  simp only [trig_octant.l0]
  rw [if_pos hi, hc, hs]
  simp only [Option.bind_some]
  rw [hd1, hd2, if_neg n1, if_neg n2, if_pos odd, es, ec, w1, w2, w3, w4, wrap_in (n := i + 1) (by omega) (by omega)]
theorem oct_even {sq sin cos s c i s' c' E1 E2 ss cc : Int} (hi : i ≤ 9) (i1 : 1 ≤ i) (odd : ¬ Int.tmod i 2 = 1) (hc : trig_mul.f c sq = some c') (hs : trig_mul.f s sq = some s') (hd1 : wrap64 ((wrap64 ((wrap64 ((wrap64 (2 * i)) - 1)) * 2)) * i) = E1) (hd2 : wrap64 ((wrap64 (2 * i)) * (wrap64 ((wrap64 (2 * i)) + 1))) = E2) (n1 : E1 ≠ 0) (n2 : E2 ≠ 0)
    (es : Int.tdiv s' E2 = ss) (ec : Int.tdiv c' E1 = cc) (w1 : wrap64 ss = ss) (w2 : wrap64 cc = cc) (w3 : wrap64 (sin + ss) = sin + ss) (w4 : wrap64 (cos + cc) = cos + cc) (k : Nat) :
    trig_octant.l0 (k + 1) sq sin cos s c i = trig_octant.l0 k sq (sin + ss) (cos + cc) ss cc (i + 1) := by
  simp only [trig_octant.l0]
  rw [if_pos hi, hc, hs]
  simp only [Option.bind_some]
  rw [hd1, hd2, if_neg n1, if_neg n2, if_neg odd, es, ec, w1, w2, w3, w4, wrap_in (n := i + 1) (by omega) (by omega)]

theorem oct_ap {sq : Int} {q : Rat} (q0 : 0 ≤ sq) (q1 : sq ≤ 1152921504606846976) (d0 : (sq : Rat) ≤ U * q) (d1 : U * q ≤ sq + 4) (q2 : 0 ≤ q) (q3 : q ≤ 1) : ∀ (d i : Nat) (sin cos s c : Int) (Ss Cs Ts Tc : Rat), i + d = 10 → 1 ≤ i → 0 ≤ s → 0 ≤ c →
    (if i % 2 = 1 then s ≤ sin ∧ sin ≤ 1152921504606846976 ∧ c ≤ cos ∧ cos ≤ 1152921504606846976 else 0 ≤ sin ∧ sin + s ≤ 1152921504606846976 ∧ 0 ≤ cos ∧ cos + c ≤ 1152921504606846976) →
    0 ≤ Ts → Ts ≤ 1 → 0 ≤ Tc → Tc ≤ 1 → Nr s (U * Ts) 4 → (i = 1 ∧ Nr c (U * Tc) 0 ∨ 2 ≤ i ∧ Nr c (U * Tc) 4) → Nr sin (U * Ss) (4 * (i : Nat)) → Nr cos (U * Cs) (4 * (i : Nat)) →
    ∃ S C, (∀ k, d + 1 ≤ k → trig_octant.l0 k sq sin cos s c i = some (S, C)) ∧ Nr S (U * (fin q d i Ss Cs Ts Tc).1) 40 ∧ Nr C (U * (fin q d i Ss Cs Ts Tc).2) 40
  | 0, i, sin, cos, s, c, Ss, Cs, Ts, Tc, hi, i1, s0, c0, inv, a1, a2, a3, a4, b1, b2, b3, b4 => by
    obtain rfl : i = 10 := by omega
    rw [if_neg (by decide)] at inv
    refine ⟨mx 0 sin, mn 1152921504606846976 cos, fun k hk => ?_, ?_, ?_⟩
    · obtain ⟨k, rfl⟩ : ∃ m, k = m + 1 := ⟨k - 1, by omega⟩
      simp only [trig_octant.l0]
      rw [if_neg (by omega)]
    · rw [show mx 0 sin = sin by simp only [mx]; omega]
      have e : (4 : Rat) * ((10 : Nat) : Rat) = 40 := by decide +kernel
      rw [e] at b3
      exact b3
    · rw [show mn 1152921504606846976 cos = cos by simp only [mn]; omega]
      have e : (4 : Rat) * ((10 : Nat) : Rat) = 40 := by decide +kernel
      rw [e] at b4
      exact b4
  | d + 1, i, sin, cos, s, c, Ss, Cs, Ts, Tc, hi, i1, s0, c0, inv, a1, a2, a3, a4, b1, b2, b3, b4 => by
    have par : Int.tmod (i : Int) 2 = ((i % 2 : Nat) : Int) := by rw [tmod_nn (by omega)]; omega
    have sU : s ≤ 1152921504606846976 ∧ c ≤ 1152921504606846976 := by split at inv <;> omega
    obtain ⟨D1, D2⟩ := den_eq i1 (show i ≤ 9 by omega)
    have k2 : 6 ≤ 2 * i * (2 * i + 1) := by
      have := Nat.mul_le_mul (show 2 ≤ 2 * i by omega) (show 3 ≤ 2 * i + 1 by omega)
      omega
    have k1 : i = 1 ∧ (2 * i - 1) * 2 * i = 2 ∨ 2 ≤ i ∧ 6 ≤ (2 * i - 1) * 2 * i := by
      rcases (by omega : i = 1 ∨ 2 ≤ i) with h | h
      · left; subst h; exact ⟨rfl, rfl⟩
      · right
        have e1 := Nat.mul_le_mul (Nat.mul_le_mul (show 3 ≤ 2 * i - 1 by omega) (Nat.le_refl 2)) h
        exact ⟨h, by omega⟩
    have g1 : 1 ≤ (2 * i - 1) * 2 * i := by omega
    obtain ⟨s', hs, s0', s1', sn', st0, st1⟩ := term_ap (D := 2 * i * (2 * i + 1)) s0 sU.1 q0 q1 d0 d1 q2 q3 (.inl ⟨k2, rfl⟩) a1 a2 b1
    have cterm : ∃ v, trig_mul.f c sq = some v ∧ 0 ≤ v ∧ v ≤ c ∧ Nr (v / (((2 * i - 1) * 2 * i : Nat) : Int)) (U * (Tc * q / (((2 * i - 1) * 2 * i : Nat) : Rat))) 4 ∧ 0 ≤ Tc * q / (((2 * i - 1) * 2 * i : Nat) : Rat) ∧ Tc * q / (((2 * i - 1) * 2 * i : Nat) : Rat) ≤ 1 := by
      rcases b2 with ⟨h, b2⟩ | ⟨h, b2⟩
      · exact term_ap (D := (2 * i - 1) * 2 * i) c0 sU.2 q0 q1 d0 d1 q2 q3 (.inr ⟨by omega, rfl⟩) a3 a4 b2
      · exact term_ap (D := (2 * i - 1) * 2 * i) c0 sU.2 q0 q1 d0 d1 q2 q3 (.inl ⟨by omega, rfl⟩) a3 a4 b2
    obtain ⟨c', hc, c0', c1', cn', ct0, ct1⟩ := cterm
    have es : Int.tdiv s' ((2 * i * (2 * i + 1) : Nat) : Int) = s' / ((2 * i * (2 * i + 1) : Nat) : Int) := tdiv_nn s0'
    have ec : Int.tdiv c' (((2 * i - 1) * 2 * i : Nat) : Int) = c' / (((2 * i - 1) * 2 * i : Nat) : Int) := tdiv_nn c0'
    have ls0 : 0 ≤ s' / ((2 * i * (2 * i + 1) : Nat) : Int) := Int.ediv_nonneg s0' (by omega)
    have ls1 : s' / ((2 * i * (2 * i + 1) : Nat) : Int) ≤ s' := Int.ediv_le_self _ s0'
    have lc0 : 0 ≤ c' / (((2 * i - 1) * 2 * i : Nat) : Int) := Int.ediv_nonneg c0' (by omega)
    have lc1 : c' / (((2 * i - 1) * 2 * i : Nat) : Int) ≤ c' := Int.ediv_le_self _ c0'
    have n1 : ((2 * i * (2 * i + 1) : Nat) : Int) ≠ 0 := by omega
    have n2 : (((2 * i - 1) * 2 * i : Nat) : Int) ≠ 0 := by omega
    have ci : (4 : Rat) * ((i + 1 : Nat) : Rat) = 4 * (i : Rat) + 4 := by
      rw [Rat.natCast_add]; have : ((1 : Nat) : Rat) = 1 := by decide +kernel
      rw [this]; grind
    have ci2 : ((i + 1 : Nat) : Int) = (i : Int) + 1 := by omega
    generalize hE1 : (((2 * i - 1) * 2 * i : Nat) : Int) = E1 at *
    generalize hE2 : ((2 * i * (2 * i + 1) : Nat) : Int) = E2 at *
    generalize hss : s' / E2 = ss at *
    generalize hcc : c' / E1 = cc at *
    have sub : ∀ {x y : Int} {X Y e : Rat}, Nr x (U * X) e → Nr y (U * Y) 4 → Nr (x - y) (U * (X - Y)) (e + 4) := by
      intro x y X Y e h1 h2
      unfold Nr at *
      rw [Rat.intCast_sub]
      constructor <;> grind
    have add : ∀ {x y : Int} {X Y e : Rat}, Nr x (U * X) e → Nr y (U * Y) 4 → Nr (x + y) (U * (X + Y)) (e + 4) := by
      intro x y X Y e h1 h2
      unfold Nr at *
      rw [Rat.intCast_add]
      constructor <;> grind
    by_cases odd : i % 2 = 1
    · rw [if_pos odd] at inv
      obtain ⟨S, C, g1, g2⟩ := oct_ap q0 q1 d0 d1 q2 q3 d (i + 1) (sin - ss) (cos - cc) ss cc _ _ _ _ (by omega) (by omega) ls0 lc0 (by rw [if_neg (by omega)]; omega) st0 st1 ct0 ct1 sn' (.inr ⟨by omega, cn'⟩) (by rw [ci]; exact sub b3 sn') (by rw [ci]; exact sub b4 cn')
      have one : ∀ k, trig_octant.l0 (k + 1) sq sin cos s c i = trig_octant.l0 k sq (sin - ss) (cos - cc) ss cc ((i : Int) + 1) := fun k => oct_odd (by omega) (by omega) (by rw [par]; omega) hc hs D1 D2 n2 n1 es ec (wrap_in (by omega) (by omega)) (wrap_in (by omega) (by omega)) (wrap_in (by omega) (by omega)) (wrap_in (by omega) (by omega)) k
      refine ⟨S, C, fun k hk => ?_, ?_⟩
      · obtain ⟨k, rfl⟩ : ∃ m, k = m + 1 := ⟨k - 1, by omega⟩
        rw [one, ← ci2]; exact g1 k (by omega)
      · simp only [fin]; rw [if_pos odd]; exact g2
    · rw [if_neg odd] at inv
      obtain ⟨S, C, g1, g2⟩ := oct_ap q0 q1 d0 d1 q2 q3 d (i + 1) (sin + ss) (cos + cc) ss cc _ _ _ _ (by omega) (by omega) ls0 lc0 (by rw [if_pos (by omega)]; omega) st0 st1 ct0 ct1 sn' (.inr ⟨by omega, cn'⟩) (by rw [ci]; exact add b3 sn') (by rw [ci]; exact add b4 cn')
      have one : ∀ k, trig_octant.l0 (k + 1) sq sin cos s c i = trig_octant.l0 k sq (sin + ss) (cos + cc) ss cc ((i : Int) + 1) := fun k => oct_even (by omega) (by omega) (by rw [par]; omega) hc hs D1 D2 n2 n1 es ec (wrap_in (by omega) (by omega)) (wrap_in (by omega) (by omega)) (wrap_in (by omega) (by omega)) (wrap_in (by omega) (by omega)) k
      refine ⟨S, C, fun k hk => ?_, ?_⟩
      · obtain ⟨k, rfl⟩ : ∃ m, k = m + 1 := ⟨k - 1, by omega⟩
        rw [one, ← ci2]; exact g1 k (by omega)
      · simp only [fin]; rw [if_neg odd]; exact g2

/-- an angle as a rational number: the arc -/
def arc (a : Int) : Rat := (a : Rat) * (7244019458077122842 / 1152921504606846976000000000)

theorem oct_near {a : Int} (a0 : 0 ≤ a) (a1 : a ≤ 125000000) : Nr (oct a).1 (U * sn (arc a)) 40 ∧ Nr (oct a).2 (U * cn (arc a)) 40 ∧ 0 ≤ arc a ∧ arc a ≤ 4 / 5 := by
  have d0 : 0 ≤ a * 77122842 / 1000000000 ∧ a * 77122842 / 1000000000 ≤ 10000000 := by omega
  have x : wrap64 ((wrap64 (a * 7244019458)) + (wrap64 (Int.tdiv (wrap64 (a * 77122842)) 1000000000))) = a * 7244019458 + a * 77122842 / 1000000000 := by
    rw [wrap_in (n := a * 7244019458) (by omega) (by omega), wrap_in (n := a * 77122842) (by omega) (by omega), tdiv_nn (by omega), wrap_in (n := a * 77122842 / 1000000000) (by omega) (by omega), wrap_in (by omega) (by omega)]
  have x0 : 0 ≤ a * 7244019458 + a * 77122842 / 1000000000 ∧ a * 7244019458 + a * 77122842 / 1000000000 ≤ 922337203685477580 := by omega
  have x1 : (a * 7244019458 + a * 77122842 / 1000000000) * 1000000000 ≤ a * 7244019458077122842 ∧ a * 7244019458077122842 ≤ (a * 7244019458 + a * 77122842 / 1000000000 + 1) * 1000000000 := by omega
  obtain ⟨z, hz⟩ : ∃ z, a * 7244019458 + a * 77122842 / 1000000000 = z := ⟨_, rfl⟩
  rw [hz] at x x0 x1
  have e9 : ((1000000000 : Int) : Rat) = 1000000000 := by decide +kernel
  have eK : ((7244019458077122842 : Int) : Rat) = 7244019458077122842 := by decide +kernel
  have c1 : ((1 : Int) : Rat) = 1 := by decide +kernel
  have c0 : ((0 : Int) : Rat) = 0 := by decide +kernel
  have r1 : ((z * 1000000000 : Int) : Rat) ≤ ((a * 7244019458077122842 : Int) : Rat) := Rat.intCast_le_intCast.2 x1.1
  have r2 : ((a * 7244019458077122842 : Int) : Rat) ≤ (((z + 1) * 1000000000 : Int) : Rat) := Rat.intCast_le_intCast.2 x1.2
  simp only [Rat.intCast_mul, Rat.intCast_add, e9, eK, c1] at r1 r2
  have z0 : (0 : Rat) ≤ (z : Rat) := by rw [← c0]; exact Rat.intCast_le_intCast.2 x0.1
  have z1 : (z : Rat) ≤ 922337203685477580 := by
    have : ((922337203685477580 : Int) : Rat) = 922337203685477580 := by decide +kernel
    rw [← this]; exact Rat.intCast_le_intCast.2 x0.2
  have X1 : (z : Rat) ≤ U * arc a := by unfold arc; grind
  have X2 : U * arc a ≤ z + 1 := by unfold arc; grind
  have A0 : 0 ≤ arc a := by
    have : U * 0 ≤ U * arc a := by grind
    exact div_le (by decide +kernel) this
  have A1 : arc a ≤ 4 / 5 := by
    have : U * arc a ≤ U * (4 / 5) := by
      have : (922337203685477580 : Rat) + 1 ≤ U * (4 / 5) + 1 := by decide +kernel
      have aa : (a : Rat) ≤ 125000000 := by
        have : ((125000000 : Int) : Rat) = 125000000 := by decide +kernel
        rw [← this]; exact Rat.intCast_le_intCast.2 a1
      unfold arc; grind
    exact div_le (by decide +kernel) this
  obtain ⟨sq, h1, h2, h3, h4, h5⟩ := mul_ap x0.1 (show z ≤ 1152921504606846976 by omega) x0.1 (show z ≤ 1152921504606846976 by omega)
  have cU : ((1152921504606846976 : Int) : Rat) = U := by decide +kernel
  have r3 : ((sq * 1152921504606846976 : Int) : Rat) ≤ ((z * z : Int) : Rat) := Rat.intCast_le_intCast.2 h4
  have r4 : ((z * z : Int) : Rat) ≤ (((sq + 1) * 1152921504606846976 : Int) : Rat) := Rat.intCast_le_intCast.2 h5
  simp only [Rat.intCast_mul, Rat.intCast_add, cU, c1] at r3 r4
  have q0 : (0 : Rat) ≤ arc a * arc a := Rat.mul_nonneg A0 A0
  have q1 : arc a * arc a ≤ 1 := by
    have := Rat.mul_nonneg (show 0 ≤ 1 - arc a by grind) A0
    grind
  have m1 := Rat.mul_nonneg (show 0 ≤ U * arc a - z by grind) z0
  have m2 := Rat.mul_nonneg (show 0 ≤ U * arc a - z by grind) (show 0 ≤ U * arc a by grind)
  have m3 := Rat.mul_nonneg (show 0 ≤ z + 1 - U * arc a by grind) (show 0 ≤ U * arc a by grind)
  have m4 := Rat.mul_nonneg (show 0 ≤ z + 1 - U * arc a by grind) (show 0 ≤ (z : Rat) + 1 by grind)
  have d1 : (sq : Rat) ≤ U * (arc a * arc a) := by
    have : U * (sq : Rat) ≤ U * (U * (arc a * arc a)) := by grind
    exact div_le (by decide +kernel) this
  have d2 : U * (arc a * arc a) ≤ sq + 4 := by
    have : U * (U * (arc a * arc a)) ≤ U * (sq + 4) := by grind
    exact div_le (by decide +kernel) this
  have k1 : ((1 : Nat) : Rat) = 1 := by decide +kernel
  have u1 : Nr z (U * arc a) 4 := by unfold Nr; constructor <;> grind
  have u2 : Nr 1152921504606846976 (U * 1) 0 := by unfold Nr; rw [cU]; constructor <;> grind
  have u3 : Nr z (U * arc a) (4 * ((1 : Nat) : Rat)) := by unfold Nr; rw [k1]; constructor <;> grind
  have u4 : Nr 1152921504606846976 (U * 1) (4 * ((1 : Nat) : Rat)) := by unfold Nr; rw [cU, k1]; constructor <;> grind
  obtain ⟨S, C, g1, g2, g3⟩ := oct_ap h2 (show sq ≤ 1152921504606846976 by omega) d1 d2 q0 q1 9 1 z 1152921504606846976 z 1152921504606846976 (arc a) 1 (arc a) 1 (by omega) (by omega) x0.1 (by omega) (by rw [if_pos (by decide)]; omega) A0 (by grind) (by decide +kernel) (by decide +kernel) u1 (.inl ⟨rfl, u2⟩) u3 u4
  rw [fin_eq] at g2 g3
  have e : oct a = (S, C) := by
    unfold oct
    have e2 : ∀ k, 10 ≤ k → trig_octant.f k a = some (S, C) := by
      intro k hk
      have e : trig_octant.f k a = (trig_mul.f z z).bind fun t => trig_octant.l0 k t z 1152921504606846976 z 1152921504606846976 1 := by
        unfold trig_octant.f
        rw [x]
      rw [e, h1]
      exact g1 k hk
    rw [e2 10 (Nat.le_refl _)]
    rfl
  rw [e]
  exact ⟨g2, g3, A0, A1⟩

end Go.Proofs.YtgmjgnojjbajdaaDoor.JG

namespace Go.Proofs.YtgmjgnojjbajdaaDoor.JG
open Go.Proofs.YtgmjgnojjbajdaaDoor.Own Go.Proofs.YtgmjgnojjbajdaaDoor.Tp Go.RowKit Go.Proofs.YtgmjgnojjbajdaaDoorW.PrintWords Go.Proofs.YtgmjgnojjbajdaaDoorW.PrintLast

/-- quarters -/
def ks (Q : Int) : Rat := if Q % 4 = 1 then 1 else if Q % 4 = 3 then -1 else 0
def kc (Q : Int) : Rat := if Q % 4 = 0 then 1 else if Q % 4 = 2 then -1 else 0
theorem k_add (P Q : Int) : ks (P + Q) = ks P * kc Q + kc P * ks Q ∧ kc (P + Q) = kc P * kc Q - ks P * ks Q := by
  unfold ks kc
  rw [Int.add_emod]
  rcases (by omega : P % 4 = 0 ∨ P % 4 = 1 ∨ P % 4 = 2 ∨ P % 4 = 3) with h | h | h | h <;>
    rcases (by omega : Q % 4 = 0 ∨ Q % 4 = 1 ∨ Q % 4 = 2 ∨ Q % 4 = 3) with g | g | g | g <;>
    rw [h, g] <;> decide +kernel
theorem k_per (Q : Int) (k : Int) : ks (Q + 4 * k) = ks Q ∧ kc (Q + 4 * k) = kc Q := by
  unfold ks kc
  rw [show (Q + 4 * k) % 4 = Q % 4 by omega]
  exact ⟨rfl, rfl⟩
theorem k_b (Q : Int) : -1 ≤ ks Q ∧ ks Q ≤ 1 ∧ -1 ≤ kc Q ∧ kc Q ≤ 1 := by
  unfold ks kc
  rcases (by omega : Q % 4 = 0 ∨ Q % 4 = 1 ∨ Q % 4 = 2 ∨ Q % 4 = 3) with h | h | h | h <;> rw [h] <;> decide +kernel

def qd (a : Int) : Int := (a + 124999999) / 250000000
def dl (a : Int) : Int := a - 250000000 * qd a
theorem dl_b (a : Int) : -125000000 ≤ dl a ∧ dl a ≤ 125000000 := by unfold dl qd; omega
/-- sine and cosine -/
def zs (a : Int) : Rat := sn (arc (dl a)) * kc (qd a) + cn (arc (dl a)) * ks (qd a)
def zc (a : Int) : Rat := cn (arc (dl a)) * kc (qd a) - sn (arc (dl a)) * ks (qd a)

theorem arc_add (a b : Int) : arc (a + b) = arc a + arc b := by unfold arc; rw [Rat.intCast_add]; grind
theorem arc_neg (a : Int) : arc (-a) = -(arc a) := by unfold arc; rw [Rat.intCast_neg]; grind
theorem arc_b {a : Int} (h1 : -125000000 ≤ a) (h2 : a ≤ 125000000) : -(4 / 5) ≤ arc a ∧ arc a ≤ 4 / 5 := by
  have e1 : ((-125000000 : Int) : Rat) ≤ (a : Rat) := Rat.intCast_le_intCast.2 h1
  have e2 : (a : Rat) ≤ ((125000000 : Int) : Rat) := Rat.intCast_le_intCast.2 h2
  have c1 : ((-125000000 : Int) : Rat) = -125000000 := by decide +kernel
  have c2 : ((125000000 : Int) : Rat) = 125000000 := by decide +kernel
  rw [c1] at e1
  rw [c2] at e2
  unfold arc
  constructor <;> grind

theorem le_two {u : Rat} (h : u * u ≤ 2) : -2 ≤ u ∧ u ≤ 2 := by
  constructor
  · rcases (Rat.le_total (a := -2) (b := u)) with c | c
    · exact c
    · have := Rat.mul_nonneg (show 0 ≤ -2 - u by grind) (show 0 ≤ -2 - u by grind)
      grind
  · rcases (Rat.le_total (a := u) (b := 2)) with c | c
    · exact c
    · have := Rat.mul_nonneg (show 0 ≤ u - 2 by grind) (show 0 ≤ u - 2 by grind)
      grind
theorem sc_b {x : Rat} (h1 : -(4 / 5) ≤ x) (h2 : x ≤ 4 / 5) : -2 ≤ sn x ∧ sn x ≤ 2 ∧ -2 ≤ cn x ∧ cn x ≤ 2 := by
  have p := (pyth h1 h2).2
  have e : eps ≤ 1 := by decide +kernel
  have q1 : 0 ≤ sn x * sn x := by
    rcases (Rat.le_total (a := 0) (b := sn x)) with c | c
    · exact Rat.mul_nonneg c c
    · have := Rat.mul_nonneg (show 0 ≤ -(sn x) by grind) (show 0 ≤ -(sn x) by grind); grind
  have q2 : 0 ≤ cn x * cn x := by
    rcases (Rat.le_total (a := 0) (b := cn x)) with c | c
    · exact Rat.mul_nonneg c c
    · have := Rat.mul_nonneg (show 0 ≤ -(cn x) by grind) (show 0 ≤ -(cn x) by grind); grind
  have a := le_two (u := sn x) (by grind)
  have b := le_two (u := cn x) (by grind)
  exact ⟨a.1, a.2, b.1, b.2⟩

/-- an eighth of a turn -/
def h1 : Rat := arc 125000000
theorem q45 : -eps ≤ cn h1 * cn h1 - sn h1 * sn h1 ∧ cn h1 * cn h1 - sn h1 * sn h1 ≤ eps ∧ -eps ≤ 2 * (sn h1 * cn h1) - 1 ∧ 2 * (sn h1 * cn h1) - 1 ≤ eps := by decide +kernel
theorem h1_b : 0 ≤ h1 ∧ h1 ≤ 4 / 5 := by decide +kernel

theorem shift_up {x : Rat} (g1 : -h1 ≤ x) (g2 : x ≤ 0) : (-(10 * eps) ≤ sn (x + h1 + h1) - cn x ∧ sn (x + h1 + h1) - cn x ≤ 10 * eps) ∧ (-(10 * eps) ≤ cn (x + h1 + h1) + sn x ∧ cn (x + h1 + h1) + sn x ≤ 10 * eps) := by
  have hb := h1_b
  have x1 : -(4 / 5) ≤ x := by grind
  have x2 : x ≤ 4 / 5 := by grind
  have y1 : -(4 / 5) ≤ x + h1 := by grind
  have y2 : x + h1 ≤ 4 / 5 := by grind
  have a1 := add_s x1 x2 (show -(4 / 5) ≤ h1 by grind) hb.2
  have a2 := add_c x1 x2 (show -(4 / 5) ≤ h1 by grind) hb.2
  have b1 := add_s y1 y2 (show -(4 / 5) ≤ h1 by grind) hb.2
  have b2 := add_c y1 y2 (show -(4 / 5) ≤ h1 by grind) hb.2
  have q := q45
  have n := sc_b x1 x2
  have n1 := sc_b (show -(4 / 5) ≤ h1 by grind) hb.2
  generalize sn h1 = s1 at *
  generalize cn h1 = c1 at *
  generalize sn (x + h1 + h1) = T at *
  generalize cn (x + h1 + h1) = V at *
  generalize sn (x + h1) = S at *
  generalize cn (x + h1) = C at *
  generalize sn x = s at *
  generalize cn x = c at *
  have m1 := mul_ab a1.1 a1.2 n1.2.2.1 n1.2.2.2
  have m2 := mul_ab a2.1 a2.2 n1.1 n1.2.1
  have m3 := mul_ab a1.1 a1.2 n1.1 n1.2.1
  have m4 := mul_ab a2.1 a2.2 n1.2.2.1 n1.2.2.2
  have m5 := mul_ab q.1 q.2.1 n.1 n.2.1
  have m6 := mul_ab q.1 q.2.1 n.2.2.1 n.2.2.2
  have m7 := mul_ab q.2.2.1 q.2.2.2 n.1 n.2.1
  have m8 := mul_ab q.2.2.1 q.2.2.2 n.2.2.1 n.2.2.2
  refine ⟨⟨?_, ?_⟩, ?_, ?_⟩ <;> grind

theorem shift_dn {x : Rat} (g1 : 0 ≤ x) (g2 : x ≤ h1) : (-(10 * eps) ≤ sn (x - h1 - h1) + cn x ∧ sn (x - h1 - h1) + cn x ≤ 10 * eps) ∧ (-(10 * eps) ≤ cn (x - h1 - h1) - sn x ∧ cn (x - h1 - h1) - sn x ≤ 10 * eps) := by
  have u := shift_up (x := -x) (by grind) (by grind)
  have e : x - h1 - h1 = -(-x + h1 + h1) := by grind
  rw [e, sn_neg (-x + h1 + h1), cn_neg (-x + h1 + h1)]
  rw [cn_neg, sn_neg] at u
  refine ⟨⟨?_, ?_⟩, ?_, ?_⟩ <;> grind

/-- the angle D as a remainder and m quarters -/
theorem rotm {D m : Int} (h1' : -250000000 ≤ D) (h2' : D ≤ 250000000) (g1 : -125000000 ≤ D - 250000000 * m) (g2 : D - 250000000 * m ≤ 125000000) :
    (-(10 * eps) ≤ sn (arc D) - (sn (arc (D - 250000000 * m)) * kc m + cn (arc (D - 250000000 * m)) * ks m) ∧ sn (arc D) - (sn (arc (D - 250000000 * m)) * kc m + cn (arc (D - 250000000 * m)) * ks m) ≤ 10 * eps) ∧
    (-(10 * eps) ≤ cn (arc D) - (cn (arc (D - 250000000 * m)) * kc m - sn (arc (D - 250000000 * m)) * ks m) ∧ cn (arc D) - (cn (arc (D - 250000000 * m)) * kc m - sn (arc (D - 250000000 * m)) * ks m) ≤ 10 * eps) := by
  have e0 : 0 ≤ eps := by decide +kernel
  have two : arc 250000000 = h1 + h1 := by decide +kernel
  have mono : ∀ {x y : Int}, x ≤ y → arc x ≤ arc y := by
    intro x y h
    have := Rat.intCast_le_intCast.2 h
    unfold arc; grind
  rcases (by omega : m = 0 ∨ m = 1 ∨ m = -1) with rfl | rfl | rfl
  · have k0 : kc 0 = 1 ∧ ks 0 = 0 := by decide +kernel
    rw [k0.1, k0.2, show D - 250000000 * 0 = D by omega]
    refine ⟨⟨?_, ?_⟩, ?_, ?_⟩ <;> grind
  · have k0 : kc 1 = 0 ∧ ks 1 = 1 := by decide +kernel
    rw [k0.1, k0.2, show D - 250000000 * 1 = D - 250000000 by omega] at *
    have eD : arc D = arc (D - 250000000) + h1 + h1 := by
      have := arc_add (D - 250000000) 250000000
      rw [show D - 250000000 + 250000000 = D by omega, two] at this
      grind
    have l1 := mono (show -125000000 ≤ D - 250000000 by omega)
    have l2 := mono (show D - 250000000 ≤ 0 by omega)
    have z0 : arc 0 = 0 := by decide +kernel
    have zn : arc (-125000000) = -h1 := by decide +kernel
    have u := shift_up (x := arc (D - 250000000)) (by grind) (by grind)
    rw [← eD] at u
    refine ⟨⟨?_, ?_⟩, ?_, ?_⟩ <;> grind
  · have k0 : kc (-1) = 0 ∧ ks (-1) = -1 := by decide +kernel
    rw [k0.1, k0.2, show D - 250000000 * -1 = D + 250000000 by omega] at *
    have eD : arc D = arc (D + 250000000) - h1 - h1 := by
      have := arc_add D 250000000
      rw [two] at this
      grind
    have l1 := mono (show 0 ≤ D + 250000000 by omega)
    have l2 := mono (show D + 250000000 ≤ 125000000 by omega)
    have z0 : arc 0 = 0 := by decide +kernel
    have u := shift_dn (x := arc (D + 250000000)) (by grind) (by show _ ≤ arc 125000000; exact l2)
    rw [← eD] at u
    refine ⟨⟨?_, ?_⟩, ?_, ?_⟩ <;> grind

/-- the theorem of addition -/
theorem z_add (a b : Int) : (-(30 * eps) ≤ zs a * zc b + zc a * zs b - zs (a + b) ∧ zs a * zc b + zc a * zs b - zs (a + b) ≤ 30 * eps) ∧
    (-(30 * eps) ≤ zc a * zc b - zs a * zs b - zc (a + b) ∧ zc a * zc b - zs a * zs b - zc (a + b) ≤ 30 * eps) := by
  have da := dl_b a
  have db := dl_b b
  have dc := dl_b (a + b)
  obtain ⟨m, hm⟩ : ∃ m, qd (a + b) = qd a + qd b + m := ⟨qd (a + b) - qd a - qd b, by omega⟩
  have hd : dl (a + b) = (dl a + dl b) - 250000000 * m := by unfold dl at *; omega
  have A := arc_b da.1 da.2
  have B := arc_b db.1 db.2
  have s := add_s A.1 A.2 B.1 B.2
  have c := add_c A.1 A.2 B.1 B.2
  rw [← arc_add] at s c
  have r := rotm (D := dl a + dl b) (m := m) (by omega) (by omega) (by omega) (by omega)
  rw [← hd] at r
  have k1 := k_add (qd a) (qd b)
  have k2 := k_add (qd a + qd b) m
  have kb := k_b (qd a + qd b)
  unfold zs zc
  rw [hm]
  generalize sn (arc (dl a)) = sa at *
  generalize cn (arc (dl a)) = ca at *
  generalize sn (arc (dl b)) = sb at *
  generalize cn (arc (dl b)) = cb at *
  generalize sn (arc (dl a + dl b)) = sd at *
  generalize cn (arc (dl a + dl b)) = cd at *
  generalize sn (arc (dl (a + b))) = sc at *
  generalize cn (arc (dl (a + b))) = cc at *
  rw [k2.1, k2.2]
  have f1 : (sa * kc (qd a) + ca * ks (qd a)) * (cb * kc (qd b) - sb * ks (qd b)) + (ca * kc (qd a) - sa * ks (qd a)) * (sb * kc (qd b) + cb * ks (qd b)) = (sa * cb + ca * sb) * kc (qd a + qd b) + (ca * cb - sa * sb) * ks (qd a + qd b) := by
    rw [k1.1, k1.2]; grind
  have f2 : (ca * kc (qd a) - sa * ks (qd a)) * (cb * kc (qd b) - sb * ks (qd b)) - (sa * kc (qd a) + ca * ks (qd a)) * (sb * kc (qd b) + cb * ks (qd b)) = (ca * cb - sa * sb) * kc (qd a + qd b) - (sa * cb + ca * sb) * ks (qd a + qd b) := by
    rw [k1.1, k1.2]; grind
  rw [f1, f2]
  generalize sa * cb + ca * sb = P at *
  generalize ca * cb - sa * sb = R at *
  generalize kc (qd a + qd b) = x at *
  generalize ks (qd a + qd b) = y at *
  generalize kc m = p at *
  generalize ks m = q at *
  have m1 := mul_ab s.1 s.2 kb.2.2.1 kb.2.2.2
  have m2 := mul_ab c.1 c.2 kb.1 kb.2.1
  have m3 := mul_ab s.1 s.2 kb.1 kb.2.1
  have m4 := mul_ab c.1 c.2 kb.2.2.1 kb.2.2.2
  have n1 := mul_ab r.1.1 r.1.2 kb.2.2.1 kb.2.2.2
  have n2 := mul_ab r.2.1 r.2.2 kb.1 kb.2.1
  have n3 := mul_ab r.1.1 r.1.2 kb.1 kb.2.1
  have n4 := mul_ab r.2.1 r.2.2 kb.2.2.1 kb.2.2.2
  have e0 : 0 ≤ eps := by decide +kernel
  refine ⟨⟨?_, ?_⟩, ?_, ?_⟩ <;> grind

theorem z_per (a k : Int) : zs (a + 1000000000 * k) = zs a ∧ zc (a + 1000000000 * k) = zc a := by
  have e1 : qd (a + 1000000000 * k) = qd a + 4 * k := by unfold qd; omega
  have e2 : dl (a + 1000000000 * k) = dl a := by unfold dl; rw [e1]; omega
  unfold zs zc
  rw [e1, e2, (k_per _ _).1, (k_per _ _).2]
  exact ⟨rfl, rfl⟩
theorem z_mod (a : Int) : zs (a % 1000000000) = zs a ∧ zc (a % 1000000000) = zc a := by
  have := z_per (a % 1000000000) (a / 1000000000)
  rw [show a % 1000000000 + 1000000000 * (a / 1000000000) = a by omega] at this
  exact ⟨this.1.symm, this.2.symm⟩
/-- the cosine is the sine of a quarter more -/
theorem z_quarter (a : Int) : zs (a + 250000000) = zc a := by
  have e1 : qd (a + 250000000) = qd a + 1 := by unfold qd; omega
  have e2 : dl (a + 250000000) = dl a := by unfold dl; rw [e1]; omega
  have k := k_add (qd a) 1
  have k1 : kc 1 = 0 ∧ ks 1 = 1 := by decide +kernel
  unfold zs zc
  rw [e1, e2, k.1, k.2, k1.1, k1.2]; grind

theorem z_pyth (a : Int) : 1 - eps ≤ zs a * zs a + zc a * zc a ∧ zs a * zs a + zc a * zc a ≤ 1 + eps := by
  have d := dl_b a
  have A := arc_b d.1 d.2
  have p := pyth A.1 A.2
  have k : kc (qd a) * kc (qd a) + ks (qd a) * ks (qd a) = 1 := by
    unfold kc ks
    rcases (by omega : qd a % 4 = 0 ∨ qd a % 4 = 1 ∨ qd a % 4 = 2 ∨ qd a % 4 = 3) with h | h | h | h <;> rw [h] <;> decide +kernel
  unfold zs zc
  generalize sn (arc (dl a)) = s at *
  generalize cn (arc (dl a)) = c at *
  generalize kc (qd a) = x at *
  generalize ks (qd a) = y at *
  have e : (s * x + c * y) * (s * x + c * y) + (c * x - s * y) * (c * x - s * y) = (s * s + c * c) * (x * x + y * y) := by grind
  rw [e, k]
  constructor <;> grind

/-- an interval about a thousand millionth part's number, with room on both sides -/
def In (s : Int × Int) (z : Rat) : Prop := ((s.1 : Rat) ≤ 1000000000 * z - 99 / 100 ∨ s.1 = -1000000000) ∧ (1000000000 * z + 99 / 100 ≤ (s.2 : Rat) ∨ s.2 = 1000000000)

theorem In_rnd {v : Int} {z : Rat} (h : 0 ≤ v) (h' : v ≤ 1152921504606846976) (hz : Nr v (U * z) 40) : In (rnd v) z := by
  unfold rnd trig_rounded.f In
  rw [and_low v h (by omega)]
  simp only [Option.getD_some]
  have A : 0 ≤ v / 1073741824 ∧ v / 1073741824 ≤ 1073741824 := by omega
  have A' : 0 ≤ v % 1073741824 ∧ v % 1073741824 < 1073741824 := by omega
  have n1 : 0 ≤ ((v / 1073741824) * 1000000000 + (v % 1073741824) * 1000000000 / 1073741824) / 1073741824 ∧ ((v / 1073741824) * 1000000000 + (v % 1073741824) * 1000000000 / 1073741824) / 1073741824 ≤ 1000000000 := by omega
  have n2 : ((v / 1073741824) * 1000000000 + (v % 1073741824) * 1000000000 / 1073741824) / 1073741824 * 1152921504606846976 ≤ v * 1000000000 ∧ v * 1000000000 ≤ (((v / 1073741824) * 1000000000 + (v % 1073741824) * 1000000000 / 1073741824) / 1073741824 + 1) * 1152921504606846976 := by omega
  rw [wrap_in (n := (v / 1073741824) * 1000000000) (by omega) (by omega), wrap_in (n := (v % 1073741824) * 1000000000) (by omega) (by omega), wrap_in (n := (v / 1073741824) * 1000000000 + (v % 1073741824) * 1000000000 / 1073741824) (by omega) (by omega)]
  generalize ((v / 1073741824) * 1000000000 + (v % 1073741824) * 1000000000 / 1073741824) / 1073741824 = n at *
  rw [wrap_in (n := n - 1) (by omega) (by omega), wrap_in (n := n + 2) (by omega) (by omega)]
  have cU : ((1152921504606846976 : Int) : Rat) = U := by decide +kernel
  have cT : ((1000000000 : Int) : Rat) = 1000000000 := by decide +kernel
  have c1 : ((1 : Int) : Rat) = 1 := by decide +kernel
  have c2 : ((2 : Int) : Rat) = 2 := by decide +kernel
  have r1 : ((n * 1152921504606846976 : Int) : Rat) ≤ ((v * 1000000000 : Int) : Rat) := Rat.intCast_le_intCast.2 n2.1
  have r2 : ((v * 1000000000 : Int) : Rat) ≤ (((n + 1) * 1152921504606846976 : Int) : Rat) := Rat.intCast_le_intCast.2 n2.2
  simp only [Rat.intCast_mul, Rat.intCast_add, cU, cT, c1] at r1 r2
  unfold Nr at hz
  constructor
  · left
    rw [show mx (-1000000000) (n - 1) = n - 1 by simp only [mx]; omega, Rat.intCast_sub, c1]
    have : U * ((n : Rat) - 1) ≤ U * (1000000000 * z - 99 / 100) := by grind
    exact div_le (by decide +kernel) this
  · by_cases c : n + 2 ≤ 1000000000
    · left
      rw [show mn 1000000000 (n + 2) = n + 2 by simp only [mn]; omega, Rat.intCast_add, c2]
      have : U * (1000000000 * z + 99 / 100) ≤ U * ((n : Rat) + 2) := by grind
      exact div_le (by decide +kernel) this
    · right
      simp only [mn]; omega
theorem In_ng {s : Int × Int} {z : Rat} (h : In s z) : In (ng s) (-z) := by
  unfold In ng at *
  obtain ⟨h1, h2⟩ := h
  simp only [Rat.intCast_neg]
  constructor
  · rcases h2 with h2 | h2
    · left; grind
    · right; omega
  · rcases h1 with h1 | h1
    · left; grind
    · right; omega

theorem sv_in {r : Int} (h0 : 0 ≤ r) (h1 : r < 1000000000) : In (sv r) (zs r) := by
  have ro : 0 ≤ r % 250000000 ∧ r % 250000000 < 250000000 := by omega
  have kq : ∀ Q : Int, (Q % 4 = 0 → kc Q = 1 ∧ ks Q = 0) ∧ (Q % 4 = 1 → kc Q = 0 ∧ ks Q = 1) ∧ (Q % 4 = 2 → kc Q = -1 ∧ ks Q = 0) ∧ (Q % 4 = 3 → kc Q = 0 ∧ ks Q = -1) := by
    intro Q
    unfold kc ks
    refine ⟨fun h => ?_, fun h => ?_, fun h => ?_, fun h => ?_⟩ <;> rw [h] <;> decide +kernel
  by_cases c : r % 250000000 ≤ 125000000
  · obtain ⟨o1, o2, _, _⟩ := oct_near ro.1 c
    have ob := (oct_f ro.1 c 10 (Nat.le_refl _)).2
    have eq : qd r = r / 250000000 := by unfold qd; omega
    have ed : dl r = r % 250000000 := by unfold dl; rw [eq]; omega
    have ep : pr (r % 250000000) = oct (r % 250000000) := by unfold pr; rw [if_pos c]
    have i1 := In_rnd ob.1 ob.2.1 o1
    have i2 := In_rnd ob.2.2.1 ob.2.2.2 o2
    unfold sv zs
    rw [eq, ed, ep]
    rcases (by omega : r / 250000000 = 0 ∨ r / 250000000 = 1 ∨ r / 250000000 = 2 ∨ r / 250000000 = 3) with q | q | q | q
    · rw [if_pos q, ((kq _).1 (by omega)).1, ((kq _).1 (by omega)).2]
      rw [show sn (arc (r % 250000000)) * 1 + cn (arc (r % 250000000)) * 0 = sn (arc (r % 250000000)) by grind]; exact i1
    · rw [if_neg (by omega), if_pos q, ((kq _).2.1 (by omega)).1, ((kq _).2.1 (by omega)).2]
      rw [show sn (arc (r % 250000000)) * 0 + cn (arc (r % 250000000)) * 1 = cn (arc (r % 250000000)) by grind]; exact i2
    · rw [if_neg (by omega), if_neg (by omega), if_pos q, ((kq _).2.2.1 (by omega)).1, ((kq _).2.2.1 (by omega)).2]
      rw [show sn (arc (r % 250000000)) * -1 + cn (arc (r % 250000000)) * 0 = -(sn (arc (r % 250000000))) by grind]; exact In_ng i1
    · rw [if_neg (by omega), if_neg (by omega), if_neg (by omega), ((kq _).2.2.2 (by omega)).1, ((kq _).2.2.2 (by omega)).2]
      rw [show sn (arc (r % 250000000)) * 0 + cn (arc (r % 250000000)) * -1 = -(cn (arc (r % 250000000))) by grind]; exact In_ng i2
  · obtain ⟨o1, o2, _, _⟩ := oct_near (a := 250000000 - r % 250000000) (by omega) (by omega)
    have ob := (oct_f (a := 250000000 - r % 250000000) (by omega) (by omega) 10 (Nat.le_refl _)).2
    have eq : qd r = r / 250000000 + 1 := by unfold qd; omega
    have ed : dl r = -(250000000 - r % 250000000) := by unfold dl; rw [eq]; omega
    have ep : pr (r % 250000000) = ((oct (250000000 - r % 250000000)).2, (oct (250000000 - r % 250000000)).1) := by unfold pr; rw [if_neg c]
    have i1 := In_rnd ob.1 ob.2.1 o1
    have i2 := In_rnd ob.2.2.1 ob.2.2.2 o2
    unfold sv zs
    rw [eq, ed, ep, arc_neg, sn_neg, cn_neg]
    generalize sn (arc (250000000 - r % 250000000)) = s at *
    generalize cn (arc (250000000 - r % 250000000)) = t at *
    rcases (by omega : r / 250000000 = 0 ∨ r / 250000000 = 1 ∨ r / 250000000 = 2 ∨ r / 250000000 = 3) with q | q | q | q
    · rw [if_pos q, ((kq (r / 250000000 + 1)).2.1 (by omega)).1, ((kq (r / 250000000 + 1)).2.1 (by omega)).2]
      rw [show -s * 0 + t * 1 = t by grind]; exact i2
    · rw [if_neg (by omega), if_pos q, ((kq (r / 250000000 + 1)).2.2.1 (by omega)).1, ((kq (r / 250000000 + 1)).2.2.1 (by omega)).2]
      rw [show -s * -1 + t * 0 = s by grind]; exact i1
    · rw [if_neg (by omega), if_neg (by omega), if_pos q, ((kq (r / 250000000 + 1)).2.2.2 (by omega)).1, ((kq (r / 250000000 + 1)).2.2.2 (by omega)).2]
      rw [show -s * 0 + t * -1 = -t by grind]; exact In_ng i2
    · rw [if_neg (by omega), if_neg (by omega), if_neg (by omega), ((kq (r / 250000000 + 1)).1 (by omega)).1, ((kq (r / 250000000 + 1)).1 (by omega)).2]
      rw [show -s * 1 + t * 0 = -s by grind]; exact In_ng i1

end Go.Proofs.YtgmjgnojjbajdaaDoor.JG
