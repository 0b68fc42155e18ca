/- The chord of an angle, and what terms change over a time. No condition on a program. -/
import Derived.Test.YtimehbdleognkaaSkyLaw
namespace Go.Proofs.Ytimehbdleognkaa.JE
open Go.Proofs.Ytimehbdleognkaa.Own Go.Proofs.Ytimehbdleognkaa.Tp Go.RowKit Go.Proofs.YtimehbdleognkaaW.PrintWords Go.Proofs.YtimehbdleognkaaW.PrintLast

/-- the chord of any whole angle -/
theorem zchord (a q : Int) {b : Rat} (b0 : 0 ≤ b) (hb : (1 + eps) * (2 + eps - 2 * zc q) ≤ b * b) : -(b + 30 * eps) ≤ zs (a + q) - zs a ∧ zs (a + q) - zs a ≤ b + 30 * eps := by
  have z := (z_add a q).1
  have p := (z_pyth a).2
  have pq := (z_pyth q).2
  have ep : 0 ≤ eps := by decide +kernel
  have sq : 0 ≤ (zs a * zs q - zc a * (zc q - 1)) * (zs a * zs q - zc a * (zc q - 1)) := by
    rcases (Rat.le_total (a := 0) (b := zs a * zs q - zc a * (zc q - 1))) with e | e
    · exact Rat.mul_nonneg e e
    · have := Rat.mul_nonneg (show 0 ≤ -(zs a * zs q - zc a * (zc q - 1)) by grind) (show 0 ≤ -(zs a * zs q - zc a * (zc q - 1)) by grind); grind
  have nn : ∀ x : Rat, 0 ≤ x * x := fun x => by
    rcases (Rat.le_total (a := 0) (b := x)) with e | e
    · exact Rat.mul_nonneg e e
    · have := Rat.mul_nonneg (show 0 ≤ -x by grind) (show 0 ≤ -x by grind); grind
  have f0 : 0 ≤ (zc q - 1) * (zc q - 1) + zs q * zs q := by
    have := nn (zc q - 1)
    have := nn (zs q)
    grind
  have X : (zs a * (zc q - 1) + zc a * zs q) * (zs a * (zc q - 1) + zc a * zs q) ≤ b * b := by
    have id : (zs a * (zc q - 1) + zc a * zs q) * (zs a * (zc q - 1) + zc a * zs q) = (zs a * zs a + zc a * zc a) * ((zc q - 1) * (zc q - 1) + zs q * zs q) - (zs a * zs q - zc a * (zc q - 1)) * (zs a * zs q - zc a * (zc q - 1)) := by grind
    have f1 : (zc q - 1) * (zc q - 1) + zs q * zs q ≤ 2 + eps - 2 * zc q := by grind
    have m1 := Rat.mul_nonneg (show 0 ≤ 1 + eps - (zs a * zs a + zc a * zc a) by grind) f0
    have m2 := Rat.mul_nonneg (show 0 ≤ 1 + eps by grind) (show 0 ≤ 2 + eps - 2 * zc q - ((zc q - 1) * (zc q - 1) + zs q * zs q) by grind)
    rw [id]
    generalize (zs a * zs q - zc a * (zc q - 1)) * (zs a * zs q - zc a * (zc q - 1)) = S at *
    generalize (zc q - 1) * (zc q - 1) + zs q * zs q = F at *
    generalize zs a * zs a + zc a * zc a = Q at *
    generalize 2 + eps - 2 * zc q = G at *
    grind
  have st := abs_le_sq b0 X
  have id : zs (a + q) - zs a = (zs a * (zc q - 1) + zc a * zs q) - (zs a * zc q + zc a * zs q - zs (a + q)) := by grind
  rw [id]
  generalize zs a * zc q + zc a * zs q - zs (a + q) = E at *
  generalize zs a * (zc q - 1) + zc a * zs q = Y at *
  constructor <;> grind
/-- a term's change over a time whose angle's chord is at most b -/
theorem rv_chord (x : S51) (t d : Int) {b : Rat} (b0 : 0 ≤ b) (hb : (1 + eps) * (2 + eps - 2 * zc (x.f2 * d / 86400000000000)) ≤ b * b) :
    -((abI x.f0 : Rat) * (b + 7 / 1000000000)) ≤ rv x (t + d) - rv x t ∧ rv x (t + d) - rv x t ≤ (abI x.f0 : Rat) * (b + 7 / 1000000000) := by
  have st := ua_step (r := x.f2) (t := t) (d := d)
  have key : -(b + 7 / 1000000000) ≤ cz (ua x.f2 (t + d) + x.f1) - cz (ua x.f2 t + x.f1) ∧ cz (ua x.f2 (t + d) + x.f1) - cz (ua x.f2 t + x.f1) ≤ b + 7 / 1000000000 := by
    have zc1 := zchord (ua x.f2 t + x.f1) (x.f2 * d / 86400000000000) b0 hb
    have e30 : 30 * eps ≤ 1 / 10000000000 := by decide +kernel
    have l1 : lip 1 ≤ 63 / 10000000000 := by decide +kernel
    unfold cz
    refine cl_lip (by grind) ?_ ?_ <;> (rcases (by omega : ua x.f2 (t + d) = ua x.f2 t + x.f2 * d / 86400000000000 ∨ ua x.f2 (t + d) = ua x.f2 t + x.f2 * d / 86400000000000 + 1) with e | e)
    · rw [e, show ua x.f2 t + x.f2 * d / 86400000000000 + x.f1 = ua x.f2 t + x.f1 + x.f2 * d / 86400000000000 by omega]; grind
    · have z1 := zlip (ua x.f2 t + x.f1 + x.f2 * d / 86400000000000) (d := 1) (by omega)
      rw [e, show ua x.f2 t + x.f2 * d / 86400000000000 + 1 + x.f1 = ua x.f2 t + x.f1 + x.f2 * d / 86400000000000 + 1 by omega]; grind
    · rw [e, show ua x.f2 t + x.f2 * d / 86400000000000 + x.f1 = ua x.f2 t + x.f1 + x.f2 * d / 86400000000000 by omega]; grind
    · have z1 := zlip (ua x.f2 t + x.f1 + x.f2 * d / 86400000000000) (d := 1) (by omega)
      rw [e, show ua x.f2 t + x.f2 * d / 86400000000000 + 1 + x.f1 = ua x.f2 t + x.f1 + x.f2 * d / 86400000000000 + 1 by omega]; grind
  have ab := abI_b x.f0
  have a1 := ic ab.2.1
  have a2 := ic ab.2.2
  rw [Rat.intCast_neg] at a1
  have m := mul_ab a1 a2 key.1 key.2
  unfold rv
  rw [cz_tan, cz_tan]
  constructor <;> grind
/-- chords for all terms -/
def okB (d : Int) : List S51 → List Rat → Bool
  | [], [] => true
  | x :: l, b :: m => decide (0 ≤ b) && decide ((1 + eps) * (2 + eps - 2 * zc (x.f2 * d / 86400000000000)) ≤ b * b) && okB d l m
  | _, _ => false
def chB : List S51 → List Rat → Rat
  | x :: l, b :: m => (abI x.f0 : Rat) * (b + 7 / 1000000000) + chB l m
  | _, _ => 0
theorem rl_chord (t d : Int) : ∀ (l : List S51) (m : List Rat), okB d l m = true → -(chB l m) ≤ rl l (t + d) - rl l t ∧ rl l (t + d) - rl l t ≤ chB l m
  | [], [], _ => by simp only [rl, chB]; constructor <;> grind
  | x :: l, b :: m, h => by
    simp only [okB, Bool.and_eq_true, decide_eq_true_eq] at h
    have s := rv_chord x t d h.1.1 h.1.2
    have ih := rl_chord t d l m h.2
    simp only [rl, chB]
    constructor <;> grind
  | [], b :: m, h => by simp [okB] at h
  | x :: l, [], h => by simp [okB] at h

end Go.Proofs.Ytimehbdleognkaa.JE
