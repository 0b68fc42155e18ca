/- New moons: the latitude's change from one to the next. No condition on a program. -/
import Derived.Test.YtimehbdleognkaaNodeLaw
import Derived.Test.YtimehbdleognkaaMoonLaw
namespace Go.Proofs.Ytimehbdleognkaa.JE
open Go.Proofs.Ytimehbdleognkaa.Own Go.Proofs.Ytimehbdleognkaa.Tp Go.RowKit Go.Proofs.YtimehbdleognkaaW.PrintWords Go.Proofs.YtimehbdleognkaaW.PrintLast
def aS (t : Int) : Int := ua 2737778555556 t + 84888545
def aD (t : Int) : Int := ua 67726383944444 t + 233414580
/-- what the elongation departs by from the mean one -/
def PP (t : Int) : Rat := rl moonL t - rl sunL t
def mean (t : Int) : Int := ua 36601101305556 t - ua 2737909333333 t - 383293278
theorem EE_mean (t : Int) : EE t = (mean t : Rat) + PP t := by
  unfold EE MR SR RR PP mean
  rw [Rat.intCast_sub, Rat.intCast_sub]
  have c1 : ((392048814 : Int) : Rat) = 392048814 := by decide +kernel
  have c2 : ((775342092 : Int) : Rat) = 775342092 := by decide +kernel
  have c3 : ((383293278 : Int) : Rat) = 383293278 := by decide +kernel
  rw [c1, c2, c3]
  grind
theorem PP_b (t : Int) : -29720000 ≤ PP t ∧ PP t ≤ 29720000 := by
  have m := rl_am moonL t
  have s := rl_am sunL t
  have n : am moonL + am sunL ≤ 29720000 := by decide +kernel
  unfold PP
  constructor <;> grind
theorem PP_split (t : Int) : ∃ e : Rat, -3 ≤ e ∧ e ≤ 3 ∧ PP t = 17468817 * zs (aM t) + 3538964 * (zs (aD t) * zc (aM t) - zc (aD t) * zs (aM t)) + 1828650 * zs (aD t) + 1186766 * (zs (aM t) * zc (aM t)) - 5832550 * zs (aS t) - 317589 * zs (aF t + aF t) - 55536 * zs (aS t + aS t) + e := by
  have r1 := rv1 17468817 99384016 36291647083333 t (aM t) 0 (A := 17468817) (by decide +kernel) (by unfold aM; omega) (by unfold aM; omega)
  have r2 := rv1 3538964 134030564 31434736861111 t (aD t - aM t - 1) 0 (A := 3538964) (by decide +kernel) (by unfold aD aM ua; omega) (by unfold aD aM ua; omega)
  have r3 := rv1 1828650 233414580 67726383944444 t (aD t) 0 (A := 1828650) (by decide +kernel) (by unfold aD; omega) (by unfold aD; omega)
  have r4 := rv1 593383 198768032 72583294166666 t (aM t + aM t) 0 (A := 593383) (by decide +kernel) (by unfold aM ua; omega) (by unfold aM ua; omega)
  have r5 := rv1 (-514211) 84888545 2737778555556 t (aS t) 0 (A := 514211) (by decide +kernel) (by unfold aS; omega) (by unfold aS; omega)
  have r6 := rv1 (-317589) 297001062 73496390222222 t (aF t + aF t) (-1) (A := 317589) (by decide +kernel) (by unfold aF ua; omega) (by unfold aF ua; omega)
  have r7 := rv1 5318339 84888545 2737778555556 t (aS t) 0 (A := 5318339) (by decide +kernel) (by unfold aS; omega) (by unfold aS; omega)
  have r8 := rv1 55536 169777090 5475557111112 t (aS t + aS t) 0 (A := 55536) (by decide +kernel) (by unfold aS ua; omega) (by unfold aS ua; omega)
  have s2 := z_sub (aD t) (aM t)
  have s4 := (z_add (aM t) (aM t)).1
  have l := zlip (aD t - aM t - 1) (d := 1) (by omega)
  rw [show aD t - aM t - 1 + 1 = aD t - aM t by omega] at l
  have c1 : ((17468817 : Int) : Rat) = 17468817 := by decide +kernel
  have c2 : ((3538964 : Int) : Rat) = 3538964 := by decide +kernel
  have c3 : ((1828650 : Int) : Rat) = 1828650 := by decide +kernel
  have c4 : ((593383 : Int) : Rat) = 593383 := by decide +kernel
  have c5 : ((-514211 : Int) : Rat) = -514211 := by decide +kernel
  have c6 : ((-317589 : Int) : Rat) = -317589 := by decide +kernel
  have c7 : ((5318339 : Int) : Rat) = 5318339 := by decide +kernel
  have c8 : ((55536 : Int) : Rat) = 55536 := by decide +kernel
  simp only [c1, c2, c3, c4, c5, c6, c7, c8] at r1 r2 r3 r4 r5 r6 r7 r8
  have ep : eps = 1 / 10000000000000 := rfl
  have l1 : lip 1 ≤ 63 / 10000000000 := by decide +kernel
  rw [ep] at r1 r2 r3 r4 r5 r6 r7 r8 s2 s4
  rw [Rat.mul_comm (zc (aM t)) (zs (aM t))] at s4
  refine ⟨PP t - (17468817 * zs (aM t) + 3538964 * (zs (aD t) * zc (aM t) - zc (aD t) * zs (aM t)) + 1828650 * zs (aD t) + 1186766 * (zs (aM t) * zc (aM t)) - 5832550 * zs (aS t) - 317589 * zs (aF t + aF t) - 55536 * zs (aS t + aS t)), ?_, ?_, by grind⟩ <;>
  · simp only [PP, moonL, sunL, rl]
    generalize rv _ t = R1 at *
    generalize rv _ t = R2 at *
    generalize rv _ t = R3 at *
    generalize rv _ t = R4 at *
    generalize rv _ t = R5 at *
    generalize rv _ t = R6 at *
    generalize rv _ t = R7 at *
    generalize rv _ t = R8 at *
    generalize zs (aM t) * zc (aM t) = X1 at *
    generalize zs (aD t) * zc (aM t) = X2 at *
    generalize zc (aD t) * zs (aM t) = X3 at *
    generalize zs (aM t) = Y1 at *
    generalize zs (aD t) = Y2 at *
    generalize zs (aS t) = Y3 at *
    generalize zs (aF t + aF t) = Y4 at *
    generalize zs (aS t + aS t) = Y5 at *
    generalize zs (aM t + aM t) = Y6 at *
    generalize lip 1 = L at *
    grind
theorem z_u {z w : Rat} (h : z * z + w * w ≤ 1 + eps) : -(1000000001 / 1000000000) ≤ z ∧ z ≤ 1000000001 / 1000000000 := by
  have o := z_one h
  have ep : eps = 1 / 10000000000000 := rfl
  rw [ep] at o
  constructor <;> grind
theorem z_uu (a : Int) : (-(1000000001 / 1000000000) ≤ zs a ∧ zs a ≤ 1000000001 / 1000000000) ∧ (-(1000000001 / 1000000000) ≤ zc a ∧ zc a ≤ 1000000001 / 1000000000) := by
  have p := (z_pyth a).2
  exact ⟨z_u p, z_u (w := zs a) (by grind)⟩
/-- the departure at a new moon -/
theorem PP_at {t n : Int} (h3 : -345600000000000 ≤ t) (h4 : t < 345600086400000) (e1 : -280000 ≤ EE t - 1000000000 * (n : Rat)) (e2 : EE t - 1000000000 * (n : Rat) ≤ 0) :
    ∃ e : Rat, -431000 ≤ e ∧ e ≤ 431000 ∧ PP t = 13609751 * zs (aM t) - 5698521 * zs (aS t) + 567277 * (zs (aM t) * zc (aM t)) + 259385 * (zs (aS t) * zc (aM t)) - 317589 * zs (aF t + aF t) + e := by
  obtain ⟨e, q1, q2, hP⟩ := PP_split t
  have pb := PP_b t
  obtain ⟨y, hy⟩ : ∃ y : Int, y = aD t - 1000000000 * (2 * n + 1) := ⟨_, rfl⟩
  have zp := z_per y (2 * n + 1)
  rw [show y + 1000000000 * (2 * n + 1) = aD t by omega] at zp
  rw [zp.1, zp.2] at hP
  -- the double elongation
  have yb : 2 * (mean t - 1000000000 * n) + 1124 ≤ y ∧ y ≤ 2 * (mean t - 1000000000 * n) + 1148 := by
    rw [hy]; unfold aD mean ua; omega
  have em := EE_mean t
  have cT : ((1000000000 : Int) : Rat) = 1000000000 := by decide +kernel
  have ct : ((2 : Int) : Rat) = 2 := by decide +kernel
  have cv : ((1124 : Int) : Rat) = 1124 := by decide +kernel
  have cw : ((1148 : Int) : Rat) = 1148 := by decide +kernel
  have i1 := ic yb.1
  have i2 := ic yb.2
  rw [Rat.intCast_add, Rat.intCast_mul, Rat.intCast_sub, Rat.intCast_mul, cT, ct, cv] at i1
  rw [Rat.intCast_add, Rat.intCast_mul, Rat.intCast_sub, Rat.intCast_mul, cT, ct, cw] at i2
  have y1 : -562000 ≤ (y : Rat) + 2 * PP t := by grind
  have y2 : (y : Rat) + 2 * PP t ≤ 562000 := by grind
  have k1 : -61000000 ≤ y ∧ y ≤ 61000000 := by
    have c1 : ((-61000000 : Int) : Rat) = -61000000 := by decide +kernel
    have c2 : ((61000000 : Int) : Rat) = 61000000 := by decide +kernel
    exact ⟨ci (by rw [c1]; grind), ci (by rw [c2]; grind)⟩
  have uM := z_uu (aM t)
  have uS := z_uu (aS t)
  have uF := z_uu (aF t + aF t)
  have uT := z_uu (aS t + aS t)
  have mc : -(500001 / 1000000) ≤ zs (aM t) * zc (aM t) ∧ zs (aM t) * zc (aM t) ≤ 500001 / 1000000 := by
    have s4 := (z_add (aM t) (aM t)).1
    have u2 := z_uu (aM t + aM t)
    have ep : eps = 1 / 10000000000000 := rfl
    rw [ep] at s4
    rw [Rat.mul_comm (zc (aM t)) (zs (aM t))] at s4
    generalize zs (aM t) * zc (aM t) = X at *
    constructor <;> grind
  exact pp_alg hP q1 q2 uM.1.1 uM.1.2 uM.2.1 uM.2.2 uS.1.1 uS.1.2 uF.1.1 uF.1.2 uT.1.1 uT.1.2 mc.1 mc.2 pb.1 pb.2 y1 y2 (a := arc y) rfl (fun B b0 _ a1 a2 => z_small (by omega) (by omega) b0 a1 a2)
end Go.Proofs.Ytimehbdleognkaa.JE
