/- From one new moon to the next the latitude doesn't leap from one side of the limits to the other. No condition on a program. -/
import Derived.Test.YtimehbdleognkaaNewMoon
namespace Go.Proofs.Ytimehbdleognkaa.JE
open Go.Proofs.Ytimehbdleognkaa.Own Go.Proofs.Ytimehbdleognkaa.Tp Go.RowKit Go.Proofs.YtimehbdleognkaaW.PrintWords Go.Proofs.YtimehbdleognkaaW.PrintLast
theorem zclip2 {a b m k : Int} (h1 : -m ≤ b - a - 1000000000 * k) (h2 : b - a - 1000000000 * k ≤ m) : -(lip m) ≤ zc b - zc a ∧ zc b - zc a ≤ lip m := by
  have h := zlip2 (a := a + 250000000) (b := b + 250000000) (m := m) (k := k) (by omega) (by omega)
  rwa [z_quarter, z_quarter] at h
/-- how the moon's anomaly moves from one new moon to the next -/
theorem step_X {t d n m s f q : Int} (h3 : -345600000000000 ≤ t) (d0 : 0 ≤ d) (h4 : t + d < 345600086400000) (e1 : -280000 ≤ EE t - 1000000000 * (n : Rat)) (e2 : EE t - 1000000000 * (n : Rat) ≤ 0)
    (g1 : -280000 ≤ EE (t + d) - 1000000000 * ((n + 1 : Int) : Rat)) (g2 : EE (t + d) - 1000000000 * ((n + 1 : Int) : Rat) ≤ 0)
    (m1 : -m ≤ aM (t + d) - aM t - 1000000000) (m2 : aM (t + d) - aM t - 1000000000 ≤ m) (s1 : -s ≤ aS (t + d) - aS t) (s2 : aS (t + d) - aS t ≤ s) (f1 : -f ≤ aF (t + d) - aF t - 1000000000) (f2 : aF (t + d) - aF t - 1000000000 ≤ f)
    (hq : q ≤ mean (t + d) - mean t - 1000000000) :
    13609751 * (zs (aM (t + d)) - zs (aM t)) ≤ -(q : Rat) + 280000 + 5698521 * lip s + 283639 * lip (2 * m) + 259386 * (lip s + lip m) + 317589 * lip (2 * f) + 862100 := by
  obtain ⟨u, u1, u2, hu⟩ := PP_at (t := t) h3 (by omega) e1 e2
  obtain ⟨v, v1, v2, hv⟩ := PP_at (t := t + d) (by omega) h4 g1 g2
  have em := EE_mean t
  have en := EE_mean (t + d)
  have zS := zlip2 (a := aS t) (b := aS (t + d)) (m := s) (k := 0) (by omega) (by omega)
  have zM2 := zlip2 (a := aM t + aM t) (b := aM (t + d) + aM (t + d)) (m := 2 * m) (k := 2) (by omega) (by omega)
  have zM := zclip2 (a := aM t) (b := aM (t + d)) (m := m) (k := 1) (by omega) (by omega)
  have zF := zlip2 (a := aF t + aF t) (b := aF (t + d) + aF (t + d)) (m := 2 * f) (k := 2) (by omega) (by omega)
  have a1 := (z_add (aM t) (aM t)).1
  have a2 := (z_add (aM (t + d)) (aM (t + d))).1
  have ep : eps = 1 / 10000000000000 := rfl
  rw [ep] at a1 a2
  rw [Rat.mul_comm (zc (aM t)) (zs (aM t))] at a1
  rw [Rat.mul_comm (zc (aM (t + d))) (zs (aM (t + d)))] at a2
  have uM := z_uu (aM (t + d))
  have uS := z_uu (aS t)
  have k1 := mul_ab zS.1 zS.2 uM.2.1 uM.2.2
  have k2 := mul_ab uS.1.1 uS.1.2 zM.1 zM.2
  have id : zs (aS (t + d)) * zc (aM (t + d)) - zs (aS t) * zc (aM t) = (zs (aS (t + d)) - zs (aS t)) * zc (aM (t + d)) + zs (aS t) * (zc (aM (t + d)) - zc (aM t)) := by grind
  have ls : 0 ≤ lip s := by grind
  have lm : 0 ≤ lip m := by grind
  have l3 : lip s ≤ 100 ∨ 100 < lip s := by grind
  have cT : ((1000000000 : Int) : Rat) = 1000000000 := by decide +kernel
  have c1 : ((1 : Int) : Rat) = 1 := by decide +kernel
  have hq' := ic hq
  rw [Rat.intCast_sub, Rat.intCast_sub, cT] at hq'
  rw [Rat.intCast_add, c1] at g1 g2
  rw [em] at e1 e2
  rw [en] at g1 g2
  clear em en m1 m2 s1 s2 f1 f2 hq zM uM uS l3
  generalize (zs (aS (t + d)) - zs (aS t)) * zc (aM (t + d)) = K1 at *
  generalize zs (aS t) * (zc (aM (t + d)) - zc (aM t)) = K2 at *
  generalize zs (aS (t + d)) * zc (aM (t + d)) = K3 at *
  generalize zs (aS t) * zc (aM t) = K4 at *
  generalize zs (aM (t + d)) * zc (aM (t + d)) = K5 at *
  generalize zs (aM t) * zc (aM t) = K6 at *
  grind
/-- the numbers of the case i: the month is 29 days and i to i + 1 two-hundredths of a day long -/
def fd (r i : Int) : Int := r * (2505600000 + 432000 * i) / 86400000000000
def cf0 (i : Int) : Int := fd 36748195111111 i - 1000000000
def cf1 (i : Int) : Int := fd 36748195111111 (i + 1) - 999999999
def cm (i : Int) : Int := fd 36291647083333 (i + 1) - 999999999
def cs (i : Int) : Int := fd 2737778555556 (i + 1) + 1
def cq (i : Int) : Int := fd 33863191972223 i - 1000000003
def cXX (i : Int) : Rat := (-((cq i : Int) : Rat) + 280000 + 5698521 * lip (cs i) + 283639 * lip (2 * cm i) + 259386 * (lip (cs i) + lip (cm i)) + 317589 * lip (2 * cf1 i) + 862100) / 13609751
def cX (i : Int) : Rat := if cXX i ≤ lip (cm i) then cXX i else lip (cm i)
def cxl (i : Int) : Rat := (1 - arc (cf1 i / 2 - 28379998) * arc (cf1 i / 2 - 28379998) / 2) * (1 - arc (cf1 i / 2 + 1) * arc (cf1 i / 2 + 1) / 2) - 1 / 100000000
def cyy (i : Int) : Rat := (arc (cf1 i / 2 - 28379998) * arc (cf1 i / 2 + 1) + 1 / 100000000) * (arc (cf1 i / 2 - 28379998) * arc (cf1 i / 2 + 1) + 1 / 100000000)
def cff (i : Int) : Rat := zs (cf0 i) + lip (cf1 i - cf0 i) + 100 * eps
def cok (i : Int) : Bool := decide (cX i ≤ 1) && decide (0 ≤ cxl i) && (decide (0 ≤ cX i ∧ 14244783 * cff i + 1550819 * (cX i * (cxl i * cxl i)) < 8183834 * cxl i) || decide (cX i ≤ 0 ∧ 14244783 * cff i + 1550819 * (cX i * (cxl i * cxl i - cyy i)) < 8183834 * cxl i))
theorem cok_all : ∀ i : Nat, i < 200 → cok (i : Int) = true := by decide +kernel
end Go.Proofs.Ytimehbdleognkaa.JE
