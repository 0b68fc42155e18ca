/- Of eight new moons in a row one at least lies within the limits. No condition on a program. -/
import Derived.Test.YtimehbdleognkaaNodeStep
namespace Go.Proofs.Ytimehbdleognkaa.JE
open Go.Proofs.Ytimehbdleognkaa.Own Go.Proofs.Ytimehbdleognkaa.Tp Go.RowKit Go.Proofs.YtimehbdleognkaaW.PrintWords Go.Proofs.YtimehbdleognkaaW.PrintLast
theorem north_G4 (t : Int) : (rl northQ t < -4100000 → 14244783 * zs (aF t) + 1550819 * (zc (aF t) * zs (aM t)) ≤ -4091917) ∧ (4100000 < rl northQ t → 4091917 ≤ 14244783 * zs (aF t) + 1550819 * (zc (aF t) * zs (aM t))) := by
  obtain ⟨e, e1, e2, e3⟩ := north_split t
  have o1 := z_uu (aF t)
  have o2 := z_uu (aM t)
  have m := mul_ab o1.1.1 o1.1.2 o2.2.1 o2.2.2
  have id : zs (aF t) * (14244783 + 8081 * zc (aM t)) = 14244783 * zs (aF t) + 8081 * (zs (aF t) * zc (aM t)) := by grind
  rw [id] at e3
  generalize zs (aF t) * zc (aM t) = X at *
  generalize zc (aF t) * zs (aM t) = Y at *
  generalize rl northQ t = Z at *
  constructor <;> intro h <;> grind
theorem fd_mono {r x y : Int} (hr : 0 ≤ r) (h : x ≤ y) : r * x / 86400000000000 ≤ r * y / 86400000000000 := Int.ediv_le_ediv (by omega) (Int.mul_le_mul_of_nonneg_left h hr)
/-- a step's bounds, by those of its length -/
theorem step_b {r t d D E : Int} (hr : 0 ≤ r) (h1 : D ≤ d) (h2 : d ≤ E) : r * D / 86400000000000 ≤ ua r (t + d) - ua r t ∧ ua r (t + d) - ua r t ≤ r * E / 86400000000000 + 1 := by
  have u := ua_step (r := r) (t := t) (d := d)
  have a := fd_mono hr h1
  have b := fd_mono hr h2
  generalize r * D / 86400000000000 = x at *
  generalize r * E / 86400000000000 = y at *
  generalize r * d / 86400000000000 = z at *
  omega
theorem diff_fl (p q : Int) : (p - q) / 86400000000000 ≤ p / 86400000000000 - q / 86400000000000 + 1 := by omega
theorem sh_ (x y : Int) : x + 500000000 - (y + 500000000) - 1000000000 * 1 = x - y - 1000000000 := by omega
theorem z_bnd (a : Int) : -(101 / 100) ≤ zs a ∧ zs a ≤ 101 / 100 ∧ -(10000001 / 10000000) ≤ zs a ∧ zs a ≤ 10000001 / 10000000 := by
  have u := (z_uu a).1
  refine ⟨?_, ?_, ?_, ?_⟩ <;> grind
theorem neg_le {x y m : Rat} (h : 4091917 ≤ 14244783 * x + 1550819 * (y * m)) : 14244783 * -x + 1550819 * (-y * m) ≤ -4091917 := by grind
theorem neg_ge {x y m : Rat} (h : 14244783 * x + 1550819 * (y * m) ≤ -4091917) : 4091917 ≤ 14244783 * -x + 1550819 * (-y * m) := by grind
theorem X_le {Z V : Rat} (h : 13609751 * V ≤ Z) : V ≤ Z / 13609751 := by
  have : Z / 13609751 * 13609751 = Z := Rat.div_mul_cancel (by decide +kernel)
  generalize Z / 13609751 = W at *
  grind
theorem cX_le {i : Int} {V : Rat} (h1 : V ≤ cXX i) (h2 : V ≤ lip (cm i)) : V ≤ cX i := by unfold cX; split <;> assumption
theorem cxl_le (i : Int) : cxl i + 1 / 100000000 ≤ (1 - arc (cf1 i / 2 - 28379998) * arc (cf1 i / 2 - 28379998) / 2) * (1 - arc (cf1 i / 2 + 1) * arc (cf1 i / 2 + 1) / 2) := by
  unfold cxl
  generalize (1 - arc (cf1 i / 2 - 28379998) * arc (cf1 i / 2 - 28379998) / 2) * (1 - arc (cf1 i / 2 + 1) * arc (cf1 i / 2 + 1) / 2) = Z
  grind
theorem cok_at {i : Nat} (h : i < 200) : cX i ≤ 1 ∧ 0 ≤ cxl i ∧ ((0 ≤ cX i ∧ 14244783 * cff i + 1550819 * (cX i * (cxl i * cxl i)) < 8183834 * cxl i) ∨ (cX i ≤ 0 ∧ 14244783 * cff i + 1550819 * (cX i * (cxl i * cxl i - cyy i)) < 8183834 * cxl i)) := by
  have ok := cok_all i h
  unfold cok at ok
  simp only [Bool.and_eq_true, Bool.or_eq_true, decide_eq_true_eq] at ok
  exact ⟨ok.1.1, ok.1.2, ok.2⟩
section
variable {t d : Int}
/-- the case's bounds -/
theorem case_b {i : Nat} (i2 : i < 200) (D : 2505600000 + 432000 * (i : Int) ≤ d) (E : d ≤ 2505600000 + 432000 * ((i : Int) + 1)) : (cf0 i ≤ aF (t + d) - aF t - 1000000000 ∧ aF (t + d) - aF t - 1000000000 ≤ cf1 i) ∧ (60000000 ≤ cf0 i ∧ cf1 i ≤ 104000000) ∧
    (-(cm i) ≤ aM (t + d) - aM t - 1000000000 ∧ aM (t + d) - aM t - 1000000000 ≤ cm i) ∧ (-(cs i) ≤ aS (t + d) - aS t ∧ aS (t + d) - aS t ≤ cs i) ∧ cq i ≤ mean (t + d) - mean t - 1000000000 := by
  have bF := step_b (r := 36748195111111) (t := t) (by omega) D E
  have bM := step_b (r := 36291647083333) (t := t) (by omega) D E
  have bS := step_b (r := 2737778555556) (t := t) (by omega) D E
  have u1 := ua_step (r := 36601101305556) (t := t) (d := d)
  have u2 := ua_step (r := 2737909333333) (t := t) (d := d)
  have q1 := diff_fl (36601101305556 * d) (2737909333333 * d)
  rw [show 36601101305556 * d - 2737909333333 * d = 33863191972223 * d by omega] at q1
  have q2 := fd_mono (r := 33863191972223) (by omega) D
  have n1 := fd_mono (r := 36748195111111) (x := 2505600000) (y := 2505600000 + 432000 * (i : Int)) (by omega) (by omega)
  have n2 := fd_mono (r := 36748195111111) (x := 2505600000 + 432000 * ((i : Int) + 1)) (y := 2592000000) (by omega) (by omega)
  have n3 := fd_mono (r := 36291647083333) (x := 2505600000) (y := 2505600000 + 432000 * (i : Int)) (by omega) (by omega)
  have n4 := fd_mono (r := 36291647083333) (x := 2505600000 + 432000 * (i : Int)) (y := 2505600000 + 432000 * ((i : Int) + 1)) (by omega) (by omega)
  have n5 := fd_mono (r := 2737778555556) (x := 2505600000) (y := 2505600000 + 432000 * (i : Int)) (by omega) (by omega)
  have n6 := fd_mono (r := 2737778555556) (x := 2505600000 + 432000 * (i : Int)) (y := 2505600000 + 432000 * ((i : Int) + 1)) (by omega) (by omega)
  have k1 : (36748195111111 : Int) * 2505600000 / 86400000000000 = 1065697658 := by decide +kernel
  have k2 : (36748195111111 : Int) * 2592000000 / 86400000000000 = 1102445853 := by decide +kernel
  have k3 : (36291647083333 : Int) * 2505600000 / 86400000000000 = 1052457765 := by decide +kernel
  have k5 : (2737778555556 : Int) * 2505600000 / 86400000000000 = 79395578 := by decide +kernel
  rw [k1] at n1
  rw [k2] at n2
  rw [k3] at n3
  rw [k5] at n5
  unfold cf0 cf1 cm cs cq fd aF aM aS mean
  generalize 36748195111111 * (2505600000 + 432000 * (i : Int)) / 86400000000000 = A1 at *
  generalize 36748195111111 * (2505600000 + 432000 * ((i : Int) + 1)) / 86400000000000 = A2 at *
  generalize 36291647083333 * (2505600000 + 432000 * (i : Int)) / 86400000000000 = A3 at *
  generalize 36291647083333 * (2505600000 + 432000 * ((i : Int) + 1)) / 86400000000000 = A4 at *
  generalize 2737778555556 * (2505600000 + 432000 * (i : Int)) / 86400000000000 = A5 at *
  generalize 2737778555556 * (2505600000 + 432000 * ((i : Int) + 1)) / 86400000000000 = A6 at *
  generalize 33863191972223 * (2505600000 + 432000 * (i : Int)) / 86400000000000 = A7 at *
  generalize 33863191972223 * d / 86400000000000 = A8 at *
  generalize 36601101305556 * d / 86400000000000 = A9 at *
  generalize 2737909333333 * d / 86400000000000 = A0 at *
  generalize ua 36748195111111 (t + d) = B1 at *
  generalize ua 36748195111111 t = B2 at *
  generalize ua 36291647083333 (t + d) = B3 at *
  generalize ua 36291647083333 t = B4 at *
  generalize ua 2737778555556 (t + d) = B5 at *
  generalize ua 2737778555556 t = B6 at *
  generalize ua 36601101305556 (t + d) = B7 at *
  generalize ua 36601101305556 t = B8 at *
  generalize ua 2737909333333 (t + d) = B9 at *
  generalize ua 2737909333333 t = B0 at *
  clear k1 k2 k3 k5 D E i2
  refine ⟨⟨?_, ?_⟩, ⟨?_, ?_⟩, ⟨?_, ?_⟩, ⟨?_, ?_⟩, ?_⟩ <;> omega
variable {n : Int}
theorem no_leap (h3 : -345600000000000 ≤ t) (d1 : 2505600000 ≤ d) (d2 : d < 2592000000) (h4 : t + d < 345600086400000) (e1 : -280000 ≤ EE t - 1000000000 * (n : Rat)) (e2 : EE t - 1000000000 * (n : Rat) ≤ 0)
    (g1 : -280000 ≤ EE (t + d) - 1000000000 * ((n + 1 : Int) : Rat)) (g2 : EE (t + d) - 1000000000 * ((n + 1 : Int) : Rat) ≤ 0) :
    ¬ (rl northQ t < -4100000 ∧ 4100000 < rl northQ (t + d)) ∧ ¬ (4100000 < rl northQ t ∧ rl northQ (t + d) < -4100000) := by
  have nn : 0 ≤ (d - 2505600000) / 432000 := by omega
  obtain ⟨i, hi⟩ := Int.eq_ofNat_of_zero_le nn
  have i2 : i < 200 := by omega
  obtain ⟨⟨F1, F2⟩, ⟨F3, F4⟩, ⟨M1, M2⟩, ⟨S1, S2⟩, Q⟩ := case_b (t := t) (d := d) i2 (by omega) (by omega)
  have w1 : 0 ≤ d := by omega
  have w2 : -(cf1 i) ≤ aF (t + d) - aF t - 1000000000 := by omega
  have k1 : cf0 i ≤ aF (t + d) - aF t - 1000000000 * 1 := by rw [Int.mul_one]; exact F1
  have k2 : aF (t + d) - aF t - 1000000000 * 1 ≤ cf1 i := by rw [Int.mul_one]; exact F2
  have k3 : cf0 i ≤ aF (t + d) + 500000000 - (aF t + 500000000) - 1000000000 * 1 := by rw [sh_]; exact F1
  have k4 : aF (t + d) + 500000000 - (aF t + 500000000) - 1000000000 * 1 ≤ cf1 i := by rw [sh_]; exact F2
  have k5 : 40000000 ≤ cf0 i := Int.le_trans (by decide) F3
  have k6 : 60000000 ≤ cf1 i := Int.le_trans F3 (Int.le_trans F1 F2)
  have w3 : -(cm i) ≤ aM (t + d) - aM t - 1000000000 * 1 := by rw [Int.mul_one]; exact M1
  have w4 : aM (t + d) - aM t - 1000000000 * 1 ≤ cm i := by rw [Int.mul_one]; exact M2
  have sx := step_X (t := t) (d := d) (n := n) (m := cm i) (s := cs i) (f := cf1 i) (q := cq i) h3 w1 h4 e1 e2 g1 g2 M1 M2 S1 S2 w2 F2 Q
  have zM := zlip2 (a := aM t) (b := aM (t + d)) (m := cm i) (k := 1) w3 w4
  have hX := cX_le (i := (i : Int)) (by unfold cXX; exact X_le sx) zM.2
  have hf : zs (cf0 i) + lip (cf1 i - cf0 i) + 100 * eps ≤ cff i := by unfold cff; exact Rat.le_refl
  have hy : (arc (cf1 i / 2 - 28379998) * arc (cf1 i / 2 + 1) + 1 / 100000000) * (arc (cf1 i / 2 - 28379998) * arc (cf1 i / 2 + 1) + 1 / 100000000) ≤ cyy i := by unfold cyy; exact Rat.le_refl
  have G1 := north_G4 t
  have G2 := north_G4 (t + d)
  have hx := cxl_le (i : Int)
  have ma := z_bnd (aM t)
  have mb := (z_bnd (aM (t + d))).2.2
  obtain ⟨X1, x0, num⟩ := cok_at i2
  refine ⟨fun h => ?_, fun h => ?_⟩
  · exact flip_core k5 F4 1 k1 k2 k6 ma mb (G1.1 h.1) (G2.2 h.2) hX X1 hf hx x0 hy num
  · have A := neg_le (G1.2 h.1)
    have B := neg_ge (G2.1 h.2)
    rw [← (z_half (aF t)).1, ← (z_half (aF t)).2] at A
    rw [← (z_half (aF (t + d))).1, ← (z_half (aF (t + d))).2] at B
    exact flip_core k5 F4 1 k3 k4 k6 ma mb A B hX X1 hf hx x0 hy num
end
/-- where a sine is great -/
theorem lobe {a : Int} (h : 17837 / 100000 ≤ zs a) : ∃ j : Int, 28380000 < a - 1000000000 * j ∧ a - 1000000000 * j < 471620000 := by
  obtain ⟨j, hj⟩ : ∃ j : Int, j = (a + 500000000) / 1000000000 := ⟨_, rfl⟩
  obtain ⟨p, hp⟩ : ∃ p : Int, p = a - 1000000000 * j := ⟨_, rfl⟩
  have pa := (z_per p j).1
  rw [show p + 1000000000 * j = a by omega] at pa
  rw [pa] at h
  have pr : -500000000 ≤ p ∧ p < 500000000 := by omega
  have n0 : arc 28380000 ≤ 17835 / 100000 := by decide +kernel
  refine ⟨j, ?_⟩
  rw [← hp]
  rcases (by omega : p ≤ 0 ∨ (0 ≤ p ∧ p ≤ 28380000) ∨ (28380000 < p ∧ p < 471620000) ∨ 471620000 ≤ p) with c | c | c | c
  · have := zs_np (d := p) pr.1 c
    exfalso; grind
  · have s := z_small (y := p) (by omega) (by omega) (B := arc 28380000) (by decide +kernel) (by rw [← arc_neg]; exact arc_mono (by omega)) (arc_mono (by omega))
    have := s.1.2
    exfalso; grind
  · exact c
  · have s := z_small (y := p - 500000000) (by omega) (by omega) (B := arc 28380000) (by decide +kernel) (by rw [← arc_neg]; exact arc_mono (by omega)) (arc_mono (by omega))
    have z := (z_half (p - 500000000)).1
    rw [show p - 500000000 + 500000000 = p by omega] at z
    have := s.1.1
    exfalso; grind
/-- the latitude doesn't stay on one side for eight new moons -/
theorem lobe_chain {T : Nat → Int} {N : Nat} (hd : ∀ i, i + 1 ≤ N → 2505600000 ≤ T (i + 1) - T i ∧ T (i + 1) - T i < 2592000000) {H : Int} (hG : ∀ i, i ≤ N → 17837 / 100000 ≤ zs (aF (T i) + H)) :
    ∀ i : Nat, i ≤ N → ∃ j : Int, 28380000 + 65690000 * (i : Int) < aF (T i) + H - 1000000000 * j ∧ aF (T i) + H - 1000000000 * j < 471620000
  | 0, h => by
    obtain ⟨j, a, b⟩ := lobe (hG 0 h)
    exact ⟨j, by omega, b⟩
  | i + 1, h => by
    obtain ⟨j, a, b⟩ := lobe_chain hd hG i (by omega)
    obtain ⟨k, c, e⟩ := lobe (hG (i + 1) h)
    have s := hd i h
    have u := ua_step (r := 36748195111111) (t := T i) (d := T (i + 1) - T i)
    rw [show T i + (T (i + 1) - T i) = T (i + 1) by omega] at u
    have w : 1065690000 ≤ aF (T (i + 1)) - aF (T i) ∧ aF (T (i + 1)) - aF (T i) ≤ 1102500000 := by unfold aF; omega
    exact ⟨j + 1, by omega, by omega⟩
theorem big_sin {a b : Rat} (hb' : b ≤ 10000001 / 10000000) (h : 4091917 ≤ 14244783 * a + 1550819 * b) : 17837 / 100000 ≤ a := by grind
theorem prod_u (x y : Int) : -(10000001 / 10000000) ≤ zc x * zs y ∧ zc x * zs y ≤ 10000001 / 10000000 := by
  have a := z_uu x
  have b := z_uu y
  have m := mul_ab a.2.1 a.2.2 b.1.1 b.1.2
  constructor <;> grind
/-- eight new moons in a row -/
theorem eight {T : Nat → Int} {n : Int} (hr : ∀ i, i ≤ 7 → -345600000000000 ≤ T i ∧ T i < 345600086400000) (hd : ∀ i, i + 1 ≤ 7 → 2505600000 ≤ T (i + 1) - T i ∧ T (i + 1) - T i < 2592000000)
    (hE : ∀ i : Nat, i ≤ 7 → -280000 ≤ EE (T i) - 1000000000 * ((n + (i : Int) : Int) : Rat) ∧ EE (T i) - 1000000000 * ((n + (i : Int) : Int) : Rat) ≤ 0) (hl : ∀ i, i ≤ 7 → rl northQ (T i) < -4100000 ∨ 4100000 < rl northQ (T i)) : False := by
  have st : ∀ i : Nat, i + 1 ≤ 7 → ¬ (rl northQ (T i) < -4100000 ∧ 4100000 < rl northQ (T (i + 1))) ∧ ¬ (4100000 < rl northQ (T i) ∧ rl northQ (T (i + 1)) < -4100000) := by
    intro i h
    have d := hd i h
    have r := hr i (by omega)
    have r' := hr (i + 1) h
    have e := hE i (by omega)
    have g := hE (i + 1) h
    rw [show n + ((i + 1 : Nat) : Int) = n + (i : Int) + 1 by omega] at g
    have f := no_leap (t := T i) (d := T (i + 1) - T i) (n := n + (i : Int)) r.1 d.1 d.2 (by omega) e.1 e.2 (by rw [show T i + (T (i + 1) - T i) = T (i + 1) by omega]; exact g.1) (by rw [show T i + (T (i + 1) - T i) = T (i + 1) by omega]; exact g.2)
    rwa [show T i + (T (i + 1) - T i) = T (i + 1) by omega] at f
  rcases hl 0 (by omega) with c | c
  · have all : ∀ i : Nat, i ≤ 7 → rl northQ (T i) < -4100000 := by
      intro i
      induction i with
      | zero => exact fun _ => c
      | succ i ih =>
        intro h
        rcases hl (i + 1) h with k | k
        · exact k
        · exact absurd ⟨ih (by omega), k⟩ (st i h).1
    have L := lobe_chain (T := T) (N := 7) hd (H := 500000000) (fun i h => by
      have g := (north_G4 (T i)).1 (all i h)
      rw [(z_half _).1]
      have p := prod_u (aF (T i)) (aM (T i))
      exact big_sin (a := -(zs (aF (T i)))) (b := -(zc (aF (T i)) * zs (aM (T i)))) (by grind) (by grind)) 7 (by omega)
    obtain ⟨j, a, b⟩ := L
    omega
  · have all : ∀ i : Nat, i ≤ 7 → 4100000 < rl northQ (T i) := by
      intro i
      induction i with
      | zero => exact fun _ => c
      | succ i ih =>
        intro h
        rcases hl (i + 1) h with k | k
        · exact absurd ⟨ih (by omega), k⟩ (st i h).2
        · exact k
    have L := lobe_chain (T := T) (N := 7) hd (H := 0) (fun i h => by
      have g := (north_G4 (T i)).2 (all i h)
      rw [Int.add_zero]
      have p := prod_u (aF (T i)) (aM (T i))
      exact big_sin p.2 g) 7 (by omega)
    obtain ⟨j, a, b⟩ := L
    omega
end Go.Proofs.Ytimehbdleognkaa.JE
