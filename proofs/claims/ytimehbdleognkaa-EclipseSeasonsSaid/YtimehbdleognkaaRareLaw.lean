/- Two new moons in a row aren't both near a node. No condition on a program. -/
import Derived.Test.YtimehbdleognkaaSkyLaw
namespace Go.Proofs.Ytimehbdleognkaa.JE
open Go.Proofs.Ytimehbdleognkaa.Own Go.Proofs.Ytimehbdleognkaa.Tp Go.RowKit Go.Proofs.YtimehbdleognkaaW.PrintWords Go.Proofs.YtimehbdleognkaaW.PrintLast

def northQ : List S51 := [⟨14244783, 648500531, 36748195111111⟩, ⟨779450, 747884547, 73039842194444⟩, ⟨771369, 450883485, (-456548027778)⟩]
theorem rv1 (f p r : Int) (t b : Int) (k : Int) {A : Rat} (hA : (abI f : Rat) ≤ A) (h1 : 0 ≤ ua r t + p - b - 1000000000 * k) (h2 : ua r t + p - b - 1000000000 * k ≤ 1) :
    -(A * (lip 1 + eps)) ≤ rv ⟨f, p, r⟩ t - (f : Rat) * zs b ∧ rv ⟨f, p, r⟩ t - (f : Rat) * zs b ≤ A * (lip 1 + eps) := by
  have n := cz_near (ua r t + p)
  have ep : 0 ≤ eps := by decide +kernel
  have l0 := lip_pos (x := 1) (by omega)
  have z : -(lip 1) ≤ zs (ua r t + p) - zs b ∧ zs (ua r t + p) - zs b ≤ lip 1 := by
    rcases (by omega : ua r t + p = b + 1000000000 * k ∨ ua r t + p = b + 1 + 1000000000 * k) with e | e
    · rw [e, (z_per b k).1]; constructor <;> grind
    · rw [e, (z_per (b + 1) k).1]; exact zlip b (d := 1) (by omega)
  have ab := abI_b f
  have a1 := ic ab.2.1
  have a2 := ic ab.2.2
  rw [Rat.intCast_neg] at a1
  have key : -(lip 1 + eps) ≤ cz (ua r t + p) - zs b ∧ cz (ua r t + p) - zs b ≤ lip 1 + eps := by constructor <;> grind
  have m := mul_ab (show -A ≤ (f : Rat) by grind) (show (f : Rat) ≤ A by grind) key.1 key.2
  unfold rv
  rw [cz_tan]
  simp only
  constructor <;> grind
theorem z_sub (a b : Int) : -(100 * eps) ≤ zs a * zc b - zc a * zs b - zs (a - b) ∧ zs a * zc b - zc a * zs b - zs (a - b) ≤ 100 * eps := by
  have z := z_add (a - b) b
  rw [show a - b + b = a by omega] at z
  have p := z_pyth b
  have o1 := z_one (z := zs b) (w := zc b) p.2
  have o2 := z_one (z := zc b) (w := zs b) (by grind)
  have o3 := z_one (z := zs (a - b)) (w := zc (a - b)) (z_pyth (a - b)).2
  have ep : eps = 1 / 10000000000000 := rfl
  generalize zs (a - b) = u at *
  generalize zc (a - b) = v at *
  have e1 := mul_ab (A := 30 * eps) (B := 1 + eps) z.1.1 z.1.2 o2.1 o2.2
  have e2 := mul_ab (A := 30 * eps) (B := 1 + eps) z.2.1 z.2.2 o1.1 o1.2
  have e3 := mul_ab (A := 1 + eps) (B := eps) o3.1 o3.2 (show -eps ≤ zs b * zs b + zc b * zc b - 1 by grind) (show zs b * zs b + zc b * zc b - 1 ≤ eps by grind)
  rw [ep] at e1 e2 e3 ⊢
  have id : zs a * zc b - zc a * zs b - u = u * (zs b * zs b + zc b * zc b - 1) - (u * zc b + v * zs b - zs a) * zc b + (v * zc b - u * zs b - zc a) * zs b := by grind
  rw [id]
  generalize u * (zs b * zs b + zc b * zc b - 1) = X at *
  generalize (u * zc b + v * zs b - zs a) * zc b = Y at *
  generalize (v * zc b - u * zs b - zc a) * zs b = Z at *
  constructor <;> grind

/-- the angles: from the node, from the perigee -/
def aF (t : Int) : Int := ua 36748195111111 t + 648500531
def aM (t : Int) : Int := ua 36291647083333 t + 99384016
theorem north_split (t : Int) : ∃ e : Rat, -1 ≤ e ∧ e ≤ 1 ∧ rl northQ t = zs (aF t) * (14244783 + 8081 * zc (aM t)) + 1550819 * (zc (aF t) * zs (aM t)) + e := by
  have r1 := rv1 14244783 648500531 36748195111111 t (aF t) 0 (A := 14244783) (by decide +kernel) (by unfold aF; omega) (by unfold aF; omega)
  have r2 := rv1 779450 747884547 73039842194444 t (aF t + aM t) 0 (A := 779450) (by decide +kernel) (by unfold aF aM ua; omega) (by unfold aF aM ua; omega)
  have r3 := rv1 771369 450883485 (-456548027778) t (aM t - aF t - 1) 1 (A := 771369) (by decide +kernel) (by unfold aF aM ua; omega) (by unfold aF aM ua; omega)
  have s1 := (z_add (aF t) (aM t)).1
  have s2 := z_sub (aM t) (aF t)
  have l := zlip (aM t - aF t - 1) (d := 1) (by omega)
  rw [show aM t - aF t - 1 + 1 = aM t - aF t by omega] at l
  have c1 : ((14244783 : Int) : Rat) = 14244783 := by decide +kernel
  have c2 : ((779450 : Int) : Rat) = 779450 := by decide +kernel
  have c3 : ((771369 : Int) : Rat) = 771369 := by decide +kernel
  simp only [c1, c2, c3] at r1 r2 r3
  have ep : eps ≤ 1 / 10000000000000 := by decide +kernel
  have l1 : lip 1 ≤ 63 / 10000000000 := by decide +kernel
  refine ⟨rl northQ t - (zs (aF t) * (14244783 + 8081 * zc (aM t)) + 1550819 * (zc (aF t) * zs (aM t))), ?_, ?_, by grind⟩ <;>
  · simp only [northQ, rl]
    generalize rv _ t = R1 at *
    generalize rv _ t = R2 at *
    generalize rv _ t = R3 at *
    generalize zs (aF t) = A at *
    generalize zc (aF t) = B at *
    generalize zs (aM t) = C at *
    generalize zc (aM t) = D at *
    grind
theorem zlip2 {a b m k : Int} (h1 : -m ≤ b - a - 1000000000 * k) (h2 : b - a - 1000000000 * k ≤ m) : -(lip m) ≤ zs b - zs a ∧ zs b - zs a ≤ lip m := by
  rw [show b = b - 1000000000 * k + 1000000000 * k by omega, (z_per (b - 1000000000 * k) k).1]
  rcases (by omega : a ≤ b - 1000000000 * k ∨ b - 1000000000 * k ≤ a) with c | c
  · have h := zlip a (d := b - 1000000000 * k - a) (by omega)
    rw [show a + (b - 1000000000 * k - a) = b - 1000000000 * k by omega] at h
    have mo := lip_mono (show b - 1000000000 * k - a ≤ m by omega)
    constructor <;> grind
  · have h := zlip (b - 1000000000 * k) (d := a - (b - 1000000000 * k)) (by omega)
    rw [show b - 1000000000 * k + (a - (b - 1000000000 * k)) = a by omega] at h
    have mo := lip_mono (show a - (b - 1000000000 * k) ≤ m by omega)
    constructor <;> grind
theorem north_G (t : Int) (h1 : -2500000 ≤ rl northQ t) (h2 : rl northQ t ≤ 2500000) : -2508083 ≤ 14244783 * zs (aF t) + 1550819 * (zc (aF t) * zs (aM t)) ∧ 14244783 * zs (aF t) + 1550819 * (zc (aF t) * zs (aM t)) ≤ 2508083 := by
  obtain ⟨e, e1, e2, e3⟩ := north_split t
  have o1 := z_one (z := zs (aF t)) (w := zc (aF t)) (z_pyth (aF t)).2
  have o2 := z_one (z := zc (aM t)) (w := zs (aM t)) (by have := (z_pyth (aM t)).2; grind)
  have m := mul_ab o1.1 o1.2 o2.1 o2.2
  have ep : eps = 1 / 10000000000000 := rfl
  rw [ep] at m
  have id : zs (aF t) * (14244783 + 8081 * zc (aM t)) = 14244783 * zs (aF t) + 8081 * (zs (aF t) * zc (aM t)) := by grind
  rw [id] at e3
  generalize zs (aF t) * zc (aM t) = X at *
  generalize zc (aF t) * zs (aM t) = Y at *
  generalize rl northQ t = Z at *
  constructor <;> grind
theorem north_win {t d c h m : Int} (f1 : -h ≤ aF (t + d) - aF t - 1000000000 - c) (f2 : aF (t + d) - aF t - 1000000000 - c ≤ h) (g1 : -m ≤ aM (t + d) - aM t - 1000000000) (g2 : aM (t + d) - aM t - 1000000000 ≤ m)
    (num : 5016167 + 1550820 * lip m < 14244783 * (zs c - lip h)) (h1 : -2500000 ≤ rl northQ t) (h2 : rl northQ t ≤ 2500000) (h3 : -2500000 ≤ rl northQ (t + d)) (h4 : rl northQ (t + d) ≤ 2500000) : False := by
  have G1 := north_G t h1 h2
  have G2 := north_G (t + d) h3 h4
  have zb := z_sub (aF (t + d)) (aF t)
  have w1 := zlip2 (a := c) (b := aF (t + d) - aF t) (m := h) (k := 1) (by omega) (by omega)
  have w2 := zlip2 (a := aM t) (b := aM (t + d)) (m := m) (k := 1) (by omega) (by omega)
  have o1 := z_one (z := zc (aF t)) (w := zs (aF t)) (by have := (z_pyth (aF t)).2; grind)
  have o2 := z_one (z := zc (aF (t + d))) (w := zs (aF (t + d))) (by have := (z_pyth (aF (t + d))).2; grind)
  have ep : eps = 1 / 10000000000000 := rfl
  have p1 := mul_ab o1.1 o1.2 G2.1 G2.2
  have p2 := mul_ab o2.1 o2.2 G1.1 G1.2
  have p3 := mul_ab o1.1 o1.2 o2.1 o2.2
  have m0 : -10 ≤ lip m ∧ 0 ≤ lip m := by constructor <;> grind
  have p4 := mul_ab p3.1 p3.2 w2.1 w2.2
  have lb : zs c - lip h ≤ 2 := by
    have o3 := z_one (z := zs c) (w := zc c) (z_pyth c).2
    have lh : 0 ≤ lip h := lip_pos (by omega)
    rw [ep] at o3
    clear num h1 h2 h3 h4 G1 G2 zb w1 w2 o1 o2 p1 p2 p3 p4 m0
    generalize lip h = H at *
    generalize zs c = S at *
    grind
  rw [ep] at p1 p2 p4 zb
  have id : 14244783 * (zs (aF (t + d)) * zc (aF t) - zc (aF (t + d)) * zs (aF t)) = zc (aF t) * (14244783 * zs (aF (t + d)) + 1550819 * (zc (aF (t + d)) * zs (aM (t + d)))) - zc (aF (t + d)) * (14244783 * zs (aF t) + 1550819 * (zc (aF t) * zs (aM t))) - 1550819 * (zc (aF t) * zc (aF (t + d)) * (zs (aM (t + d)) - zs (aM t))) := by grind
  generalize zc (aF t) * (14244783 * zs (aF (t + d)) + 1550819 * (zc (aF (t + d)) * zs (aM (t + d)))) = X1 at *
  generalize zc (aF (t + d)) * (14244783 * zs (aF t) + 1550819 * (zc (aF t) * zs (aM t))) = X2 at *
  generalize zc (aF t) * zc (aF (t + d)) * (zs (aM (t + d)) - zs (aM t)) = X3 at *
  generalize zs (aF (t + d)) * zc (aF t) - zc (aF (t + d)) * zs (aF t) = X4 at *
  generalize zs (aF (t + d) - aF t) = X5 at *
  generalize lip m = L at *
  generalize lip h = H at *
  generalize zs c = S at *
  have lt : L ≤ 20 := by grind
  grind
/-- new moons 29 to 30 days apart -/
theorem north_rare {t d : Int} (d1 : 2505600000 ≤ d) (d2 : d ≤ 2592000000) (h1 : -2500000 ≤ rl northQ t) (h2 : rl northQ t ≤ 2500000) (h3 : -2500000 ≤ rl northQ (t + d)) (h4 : rl northQ (t + d) ≤ 2500000) : False := by
  have uF := ua_step (r := 36748195111111) (t := t) (d := d)
  have uM := ua_step (r := 36291647083333) (t := t) (d := d)
  rcases (by omega : d ≤ 2527200000 ∨ (2527200000 < d ∧ d ≤ 2548800000) ∨ 2548800000 < d) with c | c | c
  · exact north_win (c := 70291000) (h := 4600000) (m := 61540000) (by unfold aF; omega) (by unfold aF; omega) (by unfold aM; omega) (by unfold aM; omega) (by decide +kernel) h1 h2 h3 h4
  · exact north_win (c := 79478000) (h := 4600000) (m := 70610000) (by unfold aF; omega) (by unfold aF; omega) (by unfold aM; omega) (by unfold aM; omega) (by decide +kernel) h1 h2 h3 h4
  · exact north_win (c := 93259000) (h := 9200000) (m := 88760000) (by unfold aF; omega) (by unfold aF; omega) (by unfold aM; omega) (by unfold aM; omega) (by decide +kernel) h1 h2 h3 h4
end Go.Proofs.Ytimehbdleognkaa.JE
