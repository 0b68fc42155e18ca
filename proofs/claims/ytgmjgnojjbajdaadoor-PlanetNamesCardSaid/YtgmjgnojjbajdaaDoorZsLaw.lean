/- Bounds of sine and cosine, and trig.Sin's intervals about them. No condition on a program. -/
import Derived.Test.YtgmjgnojjbajdaaDoorTrigRealC
namespace Go.Proofs.YtgmjgnojjbajdaaDoor.JG
open Go.Proofs.YtgmjgnojjbajdaaDoor.Own Go.Proofs.YtgmjgnojjbajdaaDoor.Tp Go.RowKit Go.Proofs.YtgmjgnojjbajdaaDoorW.PrintWords Go.Proofs.YtgmjgnojjbajdaaDoorW.PrintLast

theorem br {q b D : Rat} (q0 : 0 ≤ q) (q1 : q ≤ 1) (hD : 1 ≤ D) (b0 : 0 ≤ b) (b1 : b ≤ 1) : 0 ≤ 1 - q / D * b ∧ 1 - q / D * b ≤ 1 := by
  have e : q / D * D = q := Rat.div_mul_cancel (by grind)
  have p0 : 0 ≤ q / D := div_le (D := D) (by grind) (by grind)
  have p1 : q / D ≤ 1 := div_le (D := D) (by grind) (by grind)
  have m1 := Rat.mul_nonneg p0 b0
  have m2 := Rat.mul_nonneg (show 0 ≤ 1 - q / D by grind) b0
  constructor <;> grind

theorem sn_b {x : Rat} (x0 : 0 ≤ x) (x1 : x ≤ 4 / 5) : 8 / 9 * x ≤ sn x ∧ sn x ≤ x := by
  have q0 := Rat.mul_nonneg x0 x0
  have q1 : x * x ≤ 16 / 25 := by
    have := Rat.mul_nonneg (show 0 ≤ 4 / 5 - x by grind) (show 0 ≤ 4 / 5 + x by grind); grind
  have e : sn x = x * (1 - x * x / 6 * (1 - x * x / 20 * (1 - x * x / 42 * (1 - x * x / 72 * (1 - x * x / 110 * (1 - x * x / 156 * (1 - x * x / 210 * (1 - x * x / 272 * (1 - x * x / 342 * 1))))))))) := by
    unfold sn SC; simp only [sm]; simp [fac]; grind
  generalize hq : x * x = q at *
  have q1' : q ≤ 1 := by grind
  have b1 := br q0 q1' (show (1 : Rat) ≤ 342 by decide +kernel) (show (0 : Rat) ≤ 1 by decide +kernel) (show (1 : Rat) ≤ 1 by decide +kernel)
  have b2 := br q0 q1' (show (1 : Rat) ≤ 272 by decide +kernel) b1.1 b1.2
  have b3 := br q0 q1' (show (1 : Rat) ≤ 210 by decide +kernel) b2.1 b2.2
  have b4 := br q0 q1' (show (1 : Rat) ≤ 156 by decide +kernel) b3.1 b3.2
  have b5 := br q0 q1' (show (1 : Rat) ≤ 110 by decide +kernel) b4.1 b4.2
  have b6 := br q0 q1' (show (1 : Rat) ≤ 72 by decide +kernel) b5.1 b5.2
  have b7 := br q0 q1' (show (1 : Rat) ≤ 42 by decide +kernel) b6.1 b6.2
  have b8 := br q0 q1' (show (1 : Rat) ≤ 20 by decide +kernel) b7.1 b7.2
  rw [e]
  generalize 1 - q / 20 * _ = b at *
  have m1 := Rat.mul_nonneg q0 b8.1
  have m2 := Rat.mul_nonneg q0 (show 0 ≤ 1 - b by grind)
  have y1 : 8 / 9 ≤ 1 - q / 6 * b := by grind
  have y2 : 1 - q / 6 * b ≤ 1 := by grind
  generalize 1 - q / 6 * b = y at *
  have n1 := Rat.mul_nonneg x0 (show 0 ≤ y - 8 / 9 by grind)
  have n2 := Rat.mul_nonneg x0 (show 0 ≤ 1 - y by grind)
  constructor <;> grind
theorem cn_b {x : Rat} (x0 : -(4 / 5) ≤ x) (x1 : x ≤ 4 / 5) : 1 - x * x / 2 ≤ cn x ∧ cn x ≤ 1 - x * x / 2 + x * x * (x * x) / 24 ∧ 2 / 3 ≤ cn x := by
  have q0 : 0 ≤ x * x := by
    rcases (Rat.le_total (a := 0) (b := x)) with c | c
    · exact Rat.mul_nonneg c c
    · have := Rat.mul_nonneg (show 0 ≤ -x by grind) (show 0 ≤ -x by grind); grind
  have q1 : x * x ≤ 16 / 25 := by
    have := Rat.mul_nonneg (show 0 ≤ 4 / 5 - x by grind) (show 0 ≤ 4 / 5 + x by grind); grind
  have e : cn x = 1 - x * x / 2 * (1 - x * x / 12 * (1 - x * x / 30 * (1 - x * x / 56 * (1 - x * x / 90 * (1 - x * x / 132 * (1 - x * x / 182 * (1 - x * x / 240 * (1 - x * x / 306 * 1)))))))) := by
    unfold cn CC; simp only [sm]; simp [fac]; grind
  generalize hq : x * x = q at *
  have q1' : q ≤ 1 := by grind
  have b1 := br q0 q1' (show (1 : Rat) ≤ 306 by decide +kernel) (show (0 : Rat) ≤ 1 by decide +kernel) (show (1 : Rat) ≤ 1 by decide +kernel)
  have b2 := br q0 q1' (show (1 : Rat) ≤ 240 by decide +kernel) b1.1 b1.2
  have b3 := br q0 q1' (show (1 : Rat) ≤ 182 by decide +kernel) b2.1 b2.2
  have b4 := br q0 q1' (show (1 : Rat) ≤ 132 by decide +kernel) b3.1 b3.2
  have b5 := br q0 q1' (show (1 : Rat) ≤ 90 by decide +kernel) b4.1 b4.2
  have b6 := br q0 q1' (show (1 : Rat) ≤ 56 by decide +kernel) b5.1 b5.2
  have b7 := br q0 q1' (show (1 : Rat) ≤ 30 by decide +kernel) b6.1 b6.2
  rw [e]
  generalize 1 - q / 30 * _ = b at *
  have m1 := Rat.mul_nonneg q0 b7.1
  have m2 := Rat.mul_nonneg q0 (show 0 ≤ 1 - b by grind)
  have m3 := Rat.mul_nonneg q0 m1
  have m4 := Rat.mul_nonneg q0 m2
  have m5 := Rat.mul_nonneg q0 (show 0 ≤ 1 - q by grind)
  refine ⟨?_, ?_, ?_⟩ <;> grind

theorem arc_mono {x y : Int} (h : x ≤ y) : arc x ≤ arc y := by
  have := Rat.intCast_le_intCast.2 h
  unfold arc; grind
theorem kq (Q : Int) : (Q % 4 = 0 → kc Q = 1 ∧ ks Q = 0) ∧ (Q % 4 = 1 → kc Q = 0 ∧ ks Q = 1) ∧ (Q % 4 = 2 → kc Q = -1 ∧ ks Q = 0) ∧ (Q % 4 = 3 → kc Q = 0 ∧ ks Q = -1) := by
  unfold kc ks
  refine ⟨fun h => ?_, fun h => ?_, fun h => ?_, fun h => ?_⟩ <;> rw [h] <;> decide +kernel

/-- the quarters about 0 and behind it -/
theorem z_q0 {a : Int} (h1 : -124999999 ≤ a) (h2 : a ≤ 125000000) : zs a = sn (arc a) ∧ zc a = cn (arc a) := by
  have e1 : qd a = 0 := by unfold qd; omega
  have e2 : dl a = a := by unfold dl; rw [e1]; omega
  have k := (kq 0).1 rfl
  unfold zs zc
  rw [e1, e2, k.1, k.2]
  constructor <;> grind
theorem z_q1 {a : Int} (h1 : 125000001 ≤ a) (h2 : a ≤ 375000000) : zs a = cn (arc (a - 250000000)) ∧ zc a = -(sn (arc (a - 250000000))) := by
  have e1 : qd a = 1 := by unfold qd; omega
  have e2 : dl a = a - 250000000 := by unfold dl; rw [e1]; omega
  have k := (kq 1).2.1 rfl
  unfold zs zc
  rw [e1, e2, k.1, k.2]
  constructor <;> grind
theorem z_q2 {a : Int} (h1 : 375000001 ≤ a) (h2 : a ≤ 625000000) : zs a = -(sn (arc (a - 500000000))) ∧ zc a = -(cn (arc (a - 500000000))) := by
  have e1 : qd a = 2 := by unfold qd; omega
  have e2 : dl a = a - 500000000 := by unfold dl; rw [e1]; omega
  have k := (kq 2).2.2.1 rfl
  unfold zs zc
  rw [e1, e2, k.1, k.2]
  constructor <;> grind
theorem z_qm {a : Int} (h1 : -374999999 ≤ a) (h2 : a ≤ -125000000) : zs a = -(cn (arc (a + 250000000))) ∧ zc a = sn (arc (a + 250000000)) := by
  have e1 : qd a = -1 := by unfold qd; omega
  have e2 : dl a = a + 250000000 := by unfold dl; rw [e1]; omega
  have k := (kq (-1)).2.2.2 rfl
  unfold zs zc
  rw [e1, e2, k.1, k.2]
  constructor <;> grind

theorem z_one {z w : Rat} (h : z * z + w * w ≤ 1 + eps) : -(1 + eps) ≤ z ∧ z ≤ 1 + eps := by
  have ep' : 0 < eps := by decide +kernel
  have ep : 0 ≤ eps := by grind
  have ww : 0 ≤ w * w := by
    rcases (Rat.le_total (a := 0) (b := w)) with c | c
    · exact Rat.mul_nonneg c c
    · have := Rat.mul_nonneg (show 0 ≤ -w by grind) (show 0 ≤ -w by grind); grind
  constructor
  · rcases (Rat.le_total (a := -(1 + eps)) (b := z)) with c | c
    · exact c
    · have a := Rat.mul_nonneg (show 0 ≤ -(1 + eps) - z by grind) (show 0 ≤ -z by grind)
      have b := Rat.mul_nonneg (show 0 ≤ -(1 + eps) - z by grind) (show 0 ≤ 1 + eps by grind)
      have c' := Rat.mul_nonneg ep ep
      generalize w * w = y at *
      grind
  · rcases (Rat.le_total (a := z) (b := 1 + eps)) with c | c
    · exact c
    · have a := Rat.mul_nonneg (show 0 ≤ z - (1 + eps) by grind) (show 0 ≤ z by grind)
      have b := Rat.mul_nonneg (show 0 ≤ z - (1 + eps) by grind) (show 0 ≤ 1 + eps by grind)
      have c' := Rat.mul_nonneg ep ep
      generalize w * w = y at *
      grind

/-- a number of the interval, near the true one -/
theorem near_pt {s : Int × Int} {z : Rat} (h : In s z) (b : s.1 ≤ s.2) (z1 : -(1 + eps) ≤ z) (z2 : z ≤ 1 + eps) : ∃ p : Rat, (s.1 : Rat) ≤ p ∧ p ≤ (s.2 : Rat) ∧ -(1 / 1000) ≤ p - 1000000000 * z ∧ p - 1000000000 * z ≤ 1 / 1000 := by
  have ep : eps = 1 / 10000000000000 := rfl
  rw [ep] at z1 z2
  have b' := Rat.intCast_le_intCast.2 b
  have cT : ((1000000000 : Int) : Rat) = 1000000000 := by decide +kernel
  have cN : ((-1000000000 : Int) : Rat) = -1000000000 := by decide +kernel
  obtain ⟨h1, h2⟩ := h
  rcases (Rat.le_total (a := (s.1 : Rat)) (b := 1000000000 * z)) with c | c
  · rcases (Rat.le_total (a := 1000000000 * z) (b := (s.2 : Rat))) with d | d
    · exact ⟨1000000000 * z, c, d, by grind, by grind⟩
    · have e : (s.2 : Rat) = 1000000000 := by
        rcases h2 with h2 | h2
        · exfalso; grind
        · rw [h2, cT]
      refine ⟨1000000000, by grind, by grind, by grind, by grind⟩
  · have e : (s.1 : Rat) = -1000000000 := by
      rcases h1 with h1 | h1
      · exfalso; grind
      · rw [h1, cN]
    refine ⟨-1000000000, by grind, by grind, by grind, by grind⟩

/-- an interval that is not wide -/
def Tg (s : Int × Int) (z : Rat) : Prop := 1000000000 * z - 201 / 100 ≤ (s.1 : Rat) ∧ (s.2 : Rat) ≤ 1000000000 * z + 201 / 100
theorem Tg_rnd {v : Int} {z : Rat} (h : 0 ≤ v) (h' : v ≤ 1152921504606846976) (hz : Nr v (U * z) 40) : Tg (rnd v) z := by
  unfold rnd trig_rounded.f Tg
  rw [and_low v h (by omega)]
  simp only [Option.getD_some]
  have A : 0 ≤ v / 1073741824 ∧ v / 1073741824 ≤ 1073741824 := by omega
  have A' : 0 ≤ v % 1073741824 ∧ v % 1073741824 < 1073741824 := by omega
  have n1 : 0 ≤ ((v / 1073741824) * 1000000000 + (v % 1073741824) * 1000000000 / 1073741824) / 1073741824 ∧ ((v / 1073741824) * 1000000000 + (v % 1073741824) * 1000000000 / 1073741824) / 1073741824 ≤ 1000000000 := by omega
  have n2 : ((v / 1073741824) * 1000000000 + (v % 1073741824) * 1000000000 / 1073741824) / 1073741824 * 1152921504606846976 ≤ v * 1000000000 ∧ v * 1000000000 ≤ (((v / 1073741824) * 1000000000 + (v % 1073741824) * 1000000000 / 1073741824) / 1073741824 + 1) * 1152921504606846976 := by omega
  rw [wrap_in (n := (v / 1073741824) * 1000000000) (by omega) (by omega), wrap_in (n := (v % 1073741824) * 1000000000) (by omega) (by omega), wrap_in (n := (v / 1073741824) * 1000000000 + (v % 1073741824) * 1000000000 / 1073741824) (by omega) (by omega)]
  generalize ((v / 1073741824) * 1000000000 + (v % 1073741824) * 1000000000 / 1073741824) / 1073741824 = n at *
  rw [wrap_in (n := n - 1) (by omega) (by omega), wrap_in (n := n + 2) (by omega) (by omega)]
  have cU : ((1152921504606846976 : Int) : Rat) = U := by decide +kernel
  have cT : ((1000000000 : Int) : Rat) = 1000000000 := by decide +kernel
  have c1 : ((1 : Int) : Rat) = 1 := by decide +kernel
  have c2 : ((2 : Int) : Rat) = 2 := by decide +kernel
  have r1 : ((n * 1152921504606846976 : Int) : Rat) ≤ ((v * 1000000000 : Int) : Rat) := Rat.intCast_le_intCast.2 n2.1
  have r2 : ((v * 1000000000 : Int) : Rat) ≤ (((n + 1) * 1152921504606846976 : Int) : Rat) := Rat.intCast_le_intCast.2 n2.2
  simp only [Rat.intCast_mul, Rat.intCast_add, cU, cT, c1] at r1 r2
  unfold Nr at hz
  have mm : mn 1000000000 (n + 2) ≤ n + 2 := by simp only [mn]; omega
  have mm' := Rat.intCast_le_intCast.2 mm
  rw [Rat.intCast_add, c2] at mm'
  constructor
  · rw [show mx (-1000000000) (n - 1) = n - 1 by simp only [mx]; omega, Rat.intCast_sub, c1]
    have : U * (1000000000 * z - 201 / 100) ≤ U * ((n : Rat) - 1) := by grind
    exact div_le (by decide +kernel) this
  · have : U * ((n : Rat) + 2) ≤ U * (1000000000 * z + 201 / 100) := by grind
    exact Rat.le_trans mm' (div_le (by decide +kernel) this)
theorem Tg_ng {s : Int × Int} {z : Rat} (h : Tg s z) : Tg (ng s) (-z) := by
  unfold Tg ng at *
  simp only [Rat.intCast_neg]
  constructor <;> grind
theorem sv_tg {r : Int} (h0 : 0 ≤ r) (h1 : r < 1000000000) : Tg (sv r) (zs r) := by
  have ro : 0 ≤ r % 250000000 ∧ r % 250000000 < 250000000 := by omega
  by_cases c : r % 250000000 ≤ 125000000
  · obtain ⟨o1, o2, _, _⟩ := oct_near ro.1 c
    have ob := (oct_f ro.1 c 10 (Nat.le_refl _)).2
    have eq : qd r = r / 250000000 := by unfold qd; omega
    have ed : dl r = r % 250000000 := by unfold dl; rw [eq]; omega
    have ep : pr (r % 250000000) = oct (r % 250000000) := by unfold pr; rw [if_pos c]
    have i1 := Tg_rnd ob.1 ob.2.1 o1
    have i2 := Tg_rnd ob.2.2.1 ob.2.2.2 o2
    unfold sv zs
    rw [eq, ed, ep]
    generalize sn (arc (r % 250000000)) = s at *
    generalize cn (arc (r % 250000000)) = t at *
    rcases (by omega : r / 250000000 = 0 ∨ r / 250000000 = 1 ∨ r / 250000000 = 2 ∨ r / 250000000 = 3) with q | q | q | q
    · rw [if_pos q, ((kq _).1 (by omega)).1, ((kq _).1 (by omega)).2, show s * 1 + t * 0 = s by grind]; exact i1
    · rw [if_neg (by omega), if_pos q, ((kq _).2.1 (by omega)).1, ((kq _).2.1 (by omega)).2, show s * 0 + t * 1 = t by grind]; exact i2
    · rw [if_neg (by omega), if_neg (by omega), if_pos q, ((kq _).2.2.1 (by omega)).1, ((kq _).2.2.1 (by omega)).2, show s * -1 + t * 0 = -s by grind]; exact Tg_ng i1
    · rw [if_neg (by omega), if_neg (by omega), if_neg (by omega), ((kq _).2.2.2 (by omega)).1, ((kq _).2.2.2 (by omega)).2, show s * 0 + t * -1 = -t by grind]; exact Tg_ng i2
  · obtain ⟨o1, o2, _, _⟩ := oct_near (a := 250000000 - r % 250000000) (by omega) (by omega)
    have ob := (oct_f (a := 250000000 - r % 250000000) (by omega) (by omega) 10 (Nat.le_refl _)).2
    have eq : qd r = r / 250000000 + 1 := by unfold qd; omega
    have ed : dl r = -(250000000 - r % 250000000) := by unfold dl; rw [eq]; omega
    have ep : pr (r % 250000000) = ((oct (250000000 - r % 250000000)).2, (oct (250000000 - r % 250000000)).1) := by unfold pr; rw [if_neg c]
    have i1 := Tg_rnd ob.1 ob.2.1 o1
    have i2 := Tg_rnd ob.2.2.1 ob.2.2.2 o2
    unfold sv zs
    rw [eq, ed, ep, arc_neg, sn_neg, cn_neg]
    generalize sn (arc (250000000 - r % 250000000)) = s at *
    generalize cn (arc (250000000 - r % 250000000)) = t at *
    rcases (by omega : r / 250000000 = 0 ∨ r / 250000000 = 1 ∨ r / 250000000 = 2 ∨ r / 250000000 = 3) with q | q | q | q
    · rw [if_pos q, ((kq (r / 250000000 + 1)).2.1 (by omega)).1, ((kq (r / 250000000 + 1)).2.1 (by omega)).2, show -s * 0 + t * 1 = t by grind]; exact i2
    · rw [if_neg (by omega), if_pos q, ((kq (r / 250000000 + 1)).2.2.1 (by omega)).1, ((kq (r / 250000000 + 1)).2.2.1 (by omega)).2, show -s * -1 + t * 0 = s by grind]; exact i1
    · rw [if_neg (by omega), if_neg (by omega), if_pos q, ((kq (r / 250000000 + 1)).2.2.2 (by omega)).1, ((kq (r / 250000000 + 1)).2.2.2 (by omega)).2, show -s * 0 + t * -1 = -t by grind]; exact Tg_ng i2
    · rw [if_neg (by omega), if_neg (by omega), if_neg (by omega), ((kq (r / 250000000 + 1)).1 (by omega)).1, ((kq (r / 250000000 + 1)).1 (by omega)).2, show -s * 1 + t * 0 = -s by grind]; exact Tg_ng i1
theorem sin_tg (a : Int) : Tg (sv (a % 1000000000)) (zs a) := by
  have := sv_tg (r := a % 1000000000) (by omega) (by omega)
  rwa [(z_mod a).1] at this
theorem cos_tg (a : Int) : Tg (sv ((a + 250000000) % 1000000000)) (zc a) := by
  have := sv_tg (r := (a + 250000000) % 1000000000) (by omega) (by omega)
  rwa [(z_mod (a + 250000000)).1, z_quarter] at this

/-- a quotient by positive numbers -/
theorem sin_in (a : Int) : In (sv (a % 1000000000)) (zs a) := by
  have := sv_in (r := a % 1000000000) (by omega) (by omega)
  rwa [(z_mod a).1] at this
theorem cos_in (a : Int) : In (sv ((a + 250000000) % 1000000000)) (zc a) := by
  have := sv_in (r := (a + 250000000) % 1000000000) (by omega) (by omega)
  rwa [(z_mod (a + 250000000)).1, z_quarter] at this

theorem mn_l (a b : Int) : mn a b ≤ a ∧ mn a b ≤ b := by simp only [mn]; omega
theorem mx_l (a b : Int) : a ≤ mx a b ∧ b ≤ mx a b := by simp only [mx]; omega
theorem ic {a b : Int} (h : a ≤ b) : (a : Rat) ≤ (b : Rat) := Rat.intCast_le_intCast.2 h
theorem ci {a b : Int} (h : (a : Rat) ≤ (b : Rat)) : a ≤ b := Rat.intCast_le_intCast.1 h
end Go.Proofs.YtgmjgnojjbajdaaDoor.JG
