/- Bounds of sine and cosine on ranges, and quotients of intervals, for the astrolabe's laws. No condition on a program. -/
import Derived.Test.YtigolfomfpmodaaJTx2
import Derived.Test.YtigolfomfpmodaaJTx2
import Derived.Test.YtigolfomfpmodaaPureTrigAdds
namespace Go.Proofs.Ytigolfomfpmodaa.JT
open Go.Proofs.Ytigolfomfpmodaa.Own Go.Proofs.Ytigolfomfpmodaa.Tp Go.Proofs.Ytigolfomfpmodaa.Iv Go.RowKit Go.Proofs.YtigolfomfpmodaaW.PrintWords Go.Proofs.YtigolfomfpmodaaW.PrintLast Go.Proofs.Ytigolfomfpmodaa.Pure

theorem br {q b D : Rat} (q0 : 0 ≤ q) (q1 : q ≤ 1) (hD : 1 ≤ D) (b0 : 0 ≤ b) (b1 : b ≤ 1) : 0 ≤ 1 - q / D * b ∧ 1 - q / D * b ≤ 1 := by
  have e : q / D * D = q := Rat.div_mul_cancel (by grind)
  have p0 : 0 ≤ q / D := div_le (D := D) (by grind) (by grind)
  have p1 : q / D ≤ 1 := div_le (D := D) (by grind) (by grind)
  have m1 := Rat.mul_nonneg p0 b0
  have m2 := Rat.mul_nonneg (show 0 ≤ 1 - q / D by grind) b0
  constructor <;> grind

theorem sn_b {x : Rat} (x0 : 0 ≤ x) (x1 : x ≤ 4 / 5) : 8 / 9 * x ≤ sn x ∧ sn x ≤ x := by
  have q0 := Rat.mul_nonneg x0 x0
  have q1 : x * x ≤ 16 / 25 := by
    have := Rat.mul_nonneg (show 0 ≤ 4 / 5 - x by grind) (show 0 ≤ 4 / 5 + x by grind); grind
  have e : sn x = x * (1 - x * x / 6 * (1 - x * x / 20 * (1 - x * x / 42 * (1 - x * x / 72 * (1 - x * x / 110 * (1 - x * x / 156 * (1 - x * x / 210 * (1 - x * x / 272 * (1 - x * x / 342 * 1))))))))) := by
    unfold sn SC; simp only [sm]; simp [fac]; grind
  generalize hq : x * x = q at *
  have q1' : q ≤ 1 := by grind
  have b1 := br q0 q1' (show (1 : Rat) ≤ 342 by decide +kernel) (show (0 : Rat) ≤ 1 by decide +kernel) (show (1 : Rat) ≤ 1 by decide +kernel)
  have b2 := br q0 q1' (show (1 : Rat) ≤ 272 by decide +kernel) b1.1 b1.2
  have b3 := br q0 q1' (show (1 : Rat) ≤ 210 by decide +kernel) b2.1 b2.2
  have b4 := br q0 q1' (show (1 : Rat) ≤ 156 by decide +kernel) b3.1 b3.2
  have b5 := br q0 q1' (show (1 : Rat) ≤ 110 by decide +kernel) b4.1 b4.2
  have b6 := br q0 q1' (show (1 : Rat) ≤ 72 by decide +kernel) b5.1 b5.2
  have b7 := br q0 q1' (show (1 : Rat) ≤ 42 by decide +kernel) b6.1 b6.2
  have b8 := br q0 q1' (show (1 : Rat) ≤ 20 by decide +kernel) b7.1 b7.2
  rw [e]
  generalize 1 - q / 20 * _ = b at *
  have m1 := Rat.mul_nonneg q0 b8.1
  have m2 := Rat.mul_nonneg q0 (show 0 ≤ 1 - b by grind)
  have y1 : 8 / 9 ≤ 1 - q / 6 * b := by grind
  have y2 : 1 - q / 6 * b ≤ 1 := by grind
  generalize 1 - q / 6 * b = y at *
  have n1 := Rat.mul_nonneg x0 (show 0 ≤ y - 8 / 9 by grind)
  have n2 := Rat.mul_nonneg x0 (show 0 ≤ 1 - y by grind)
  constructor <;> grind
theorem cn_b {x : Rat} (x0 : -(4 / 5) ≤ x) (x1 : x ≤ 4 / 5) : 1 - x * x / 2 ≤ cn x ∧ cn x ≤ 1 - x * x / 2 + x * x * (x * x) / 24 ∧ 2 / 3 ≤ cn x := by
  have q0 : 0 ≤ x * x := by
    rcases (Rat.le_total (a := 0) (b := x)) with c | c
    · exact Rat.mul_nonneg c c
    · have := Rat.mul_nonneg (show 0 ≤ -x by grind) (show 0 ≤ -x by grind); grind
  have q1 : x * x ≤ 16 / 25 := by
    have := Rat.mul_nonneg (show 0 ≤ 4 / 5 - x by grind) (show 0 ≤ 4 / 5 + x by grind); grind
  have e : cn x = 1 - x * x / 2 * (1 - x * x / 12 * (1 - x * x / 30 * (1 - x * x / 56 * (1 - x * x / 90 * (1 - x * x / 132 * (1 - x * x / 182 * (1 - x * x / 240 * (1 - x * x / 306 * 1)))))))) := by
    unfold cn CC; simp only [sm]; simp [fac]; grind
  generalize hq : x * x = q at *
  have q1' : q ≤ 1 := by grind
  have b1 := br q0 q1' (show (1 : Rat) ≤ 306 by decide +kernel) (show (0 : Rat) ≤ 1 by decide +kernel) (show (1 : Rat) ≤ 1 by decide +kernel)
  have b2 := br q0 q1' (show (1 : Rat) ≤ 240 by decide +kernel) b1.1 b1.2
  have b3 := br q0 q1' (show (1 : Rat) ≤ 182 by decide +kernel) b2.1 b2.2
  have b4 := br q0 q1' (show (1 : Rat) ≤ 132 by decide +kernel) b3.1 b3.2
  have b5 := br q0 q1' (show (1 : Rat) ≤ 90 by decide +kernel) b4.1 b4.2
  have b6 := br q0 q1' (show (1 : Rat) ≤ 56 by decide +kernel) b5.1 b5.2
  have b7 := br q0 q1' (show (1 : Rat) ≤ 30 by decide +kernel) b6.1 b6.2
  rw [e]
  generalize 1 - q / 30 * _ = b at *
  have m1 := Rat.mul_nonneg q0 b7.1
  have m2 := Rat.mul_nonneg q0 (show 0 ≤ 1 - b by grind)
  have m3 := Rat.mul_nonneg q0 m1
  have m4 := Rat.mul_nonneg q0 m2
  have m5 := Rat.mul_nonneg q0 (show 0 ≤ 1 - q by grind)
  refine ⟨?_, ?_, ?_⟩ <;> grind

theorem arc_mono {x y : Int} (h : x ≤ y) : arc x ≤ arc y := by
  have := Rat.intCast_le_intCast.2 h
  unfold arc; grind
theorem kq (Q : Int) : (Q % 4 = 0 → kc Q = 1 ∧ ks Q = 0) ∧ (Q % 4 = 1 → kc Q = 0 ∧ ks Q = 1) ∧ (Q % 4 = 2 → kc Q = -1 ∧ ks Q = 0) ∧ (Q % 4 = 3 → kc Q = 0 ∧ ks Q = -1) := by
  unfold kc ks
  refine ⟨fun h => ?_, fun h => ?_, fun h => ?_, fun h => ?_⟩ <;> rw [h] <;> decide +kernel

/-- the quarters about 0 and behind it -/
theorem z_q0 {a : Int} (h1 : -124999999 ≤ a) (h2 : a ≤ 125000000) : zs a = sn (arc a) ∧ zc a = cn (arc a) := by
  have e1 : qd a = 0 := by unfold qd; omega
  have e2 : dl a = a := by unfold dl; rw [e1]; omega
  have k := (kq 0).1 rfl
  unfold zs zc
  rw [e1, e2, k.1, k.2]
  constructor <;> grind
theorem z_q1 {a : Int} (h1 : 125000001 ≤ a) (h2 : a ≤ 375000000) : zs a = cn (arc (a - 250000000)) ∧ zc a = -(sn (arc (a - 250000000))) := by
  have e1 : qd a = 1 := by unfold qd; omega
  have e2 : dl a = a - 250000000 := by unfold dl; rw [e1]; omega
  have k := (kq 1).2.1 rfl
  unfold zs zc
  rw [e1, e2, k.1, k.2]
  constructor <;> grind
theorem z_q2 {a : Int} (h1 : 375000001 ≤ a) (h2 : a ≤ 625000000) : zs a = -(sn (arc (a - 500000000))) ∧ zc a = -(cn (arc (a - 500000000))) := by
  have e1 : qd a = 2 := by unfold qd; omega
  have e2 : dl a = a - 500000000 := by unfold dl; rw [e1]; omega
  have k := (kq 2).2.2.1 rfl
  unfold zs zc
  rw [e1, e2, k.1, k.2]
  constructor <;> grind
theorem z_qm {a : Int} (h1 : -374999999 ≤ a) (h2 : a ≤ -125000000) : zs a = -(cn (arc (a + 250000000))) ∧ zc a = sn (arc (a + 250000000)) := by
  have e1 : qd a = -1 := by unfold qd; omega
  have e2 : dl a = a + 250000000 := by unfold dl; rw [e1]; omega
  have k := (kq (-1)).2.2.2 rfl
  unfold zs zc
  rw [e1, e2, k.1, k.2]
  constructor <;> grind

/-- sines up to 445000000 -/
theorem zs_pos {d : Int} (h1 : 0 ≤ d) (h2 : d ≤ 445000000) : 0 ≤ zs d ∧ (10000 ≤ d → 5 / 100000 ≤ zs d) := by
  have z0 : arc 0 = 0 := by decide +kernel
  have z1 : 5 / 100000 ≤ 8 / 9 * arc 10000 := by decide +kernel
  have z2 : 5 / 100000 ≤ 8 / 9 * arc 55000000 := by decide +kernel
  rcases (by omega : d ≤ 125000000 ∨ (125000001 ≤ d ∧ d ≤ 375000000) ∨ 375000001 ≤ d) with c | c | c
  · have e := (z_q0 (a := d) (by omega) c).1
    have m := arc_mono h1
    have b := arc_b (a := d) (by omega) c
    have s := sn_b (x := arc d) (by grind) b.2
    rw [e]
    refine ⟨by grind, fun g => ?_⟩
    have m2 := arc_mono g
    grind
  · have e := (z_q1 c.1 c.2).1
    have b := arc_b (a := d - 250000000) (by omega) (by omega)
    have s := (cn_b b.1 b.2).2.2
    rw [e]
    exact ⟨by grind, fun _ => by grind⟩
  · have e := (z_q2 (a := d) c (by omega)).1
    have n : arc (d - 500000000) = -(arc (500000000 - d)) := by rw [← arc_neg, Int.neg_sub]
    have b := arc_b (a := 500000000 - d) (by omega) (by omega)
    have m := arc_mono (show 55000000 ≤ 500000000 - d by omega)
    have p : 0 ≤ arc 55000000 := by decide +kernel
    have s := sn_b (x := arc (500000000 - d)) (by grind) b.2
    rw [e, n, sn_neg]
    exact ⟨by grind, fun _ => by grind⟩

/-- the declinations of the astrolabe -/
theorem dec_b {a : Int} (h1 : -195000000 ≤ a) (h2 : a ≤ 250000000) : 0 ≤ zc a ∧ 5 / 100 ≤ 1 + zs a := by
  have z0 : arc 0 = 0 := by decide +kernel
  rcases (by omega : a ≤ -125000000 ∨ (-124999999 ≤ a ∧ a ≤ 125000000) ∨ 125000001 ≤ a) with c | c | c
  · have e := z_qm (a := a) (by omega) c
    have b := arc_b (a := a + 250000000) (by omega) (by omega)
    have m := arc_mono (show 55000000 ≤ a + 250000000 by omega)
    have p : 345 / 1000 ≤ arc 55000000 := by decide +kernel
    have s := sn_b (x := arc (a + 250000000)) (by grind) b.2
    have t := (cn_b b.1 b.2).2.1
    rw [e.1, e.2]
    generalize arc (a + 250000000) = x at *
    have q0 : 0 ≤ x * x := Rat.mul_nonneg (by grind) (by grind)
    have q1 : 119 / 1000 ≤ x * x := by
      have := Rat.mul_nonneg (show 0 ≤ x - 345 / 1000 by grind) (show 0 ≤ x + 345 / 1000 by grind); grind
    have q2 : x * x ≤ 16 / 25 := by
      have := Rat.mul_nonneg (show 0 ≤ 4 / 5 - x by grind) (show 0 ≤ 4 / 5 + x by grind); grind
    generalize x * x = q at *
    have w := Rat.mul_nonneg (show 0 ≤ q - 119 / 1000 by grind) (show 0 ≤ 16 / 25 - q by grind)
    constructor <;> grind
  · have e := z_q0 c.1 c.2
    have b := arc_b (a := a) (by omega) (by omega)
    have t := (cn_b b.1 b.2).2.2
    rw [e.1, e.2]
    refine ⟨by grind, ?_⟩
    rcases (Rat.le_total (a := 0) (b := arc a)) with g | g
    · have s := sn_b (x := arc a) g b.2; grind
    · have s := sn_b (x := -(arc a)) (by grind) (by grind)
      rw [sn_neg] at s; grind
  · have e := z_q1 (a := a) c (by omega)
    have b := arc_b (a := a - 250000000) (by omega) (by omega)
    have t := (cn_b b.1 b.2).2.2
    have n : arc (a - 250000000) = -(arc (250000000 - a)) := by rw [← arc_neg, Int.neg_sub]
    have m := arc_mono (show 0 ≤ 250000000 - a by omega)
    have s := sn_b (x := arc (250000000 - a)) (by grind) (by grind)
    rw [e.1, e.2]
    refine ⟨?_, by grind⟩
    rw [n, sn_neg]; grind

end Go.Proofs.Ytigolfomfpmodaa.JT
