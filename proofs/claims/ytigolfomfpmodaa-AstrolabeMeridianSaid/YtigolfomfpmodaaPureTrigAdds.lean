/- The law TrigAdds: the sine of a sum is what the theorem of addition says. No condition. -/
import Derived.Test.YtigolfomfpmodaaJTx2
import Derived.Test.YtigolfomfpmodaaPureTrigPythagoras
namespace Go.Proofs.Ytigolfomfpmodaa.Pure
open Go.Proofs.Ytigolfomfpmodaa.JT Go.Proofs.Ytigolfomfpmodaa.Own Go.Proofs.Ytigolfomfpmodaa.Tp Go.Proofs.Ytigolfomfpmodaa.Iv Go.RowKit Go.Proofs.YtigolfomfpmodaaW.PrintWords Go.Proofs.YtigolfomfpmodaaW.PrintLast

theorem z_one {z w : Rat} (h : z * z + w * w ≤ 1 + eps) : -(1 + eps) ≤ z ∧ z ≤ 1 + eps := by
  have ep' : 0 < eps := by decide +kernel
  have ep : 0 ≤ eps := by grind
  have ww : 0 ≤ w * w := by
    rcases (Rat.le_total (a := 0) (b := w)) with c | c
    · exact Rat.mul_nonneg c c
    · have := Rat.mul_nonneg (show 0 ≤ -w by grind) (show 0 ≤ -w by grind); grind
  constructor
  · rcases (Rat.le_total (a := -(1 + eps)) (b := z)) with c | c
    · exact c
    · have a := Rat.mul_nonneg (show 0 ≤ -(1 + eps) - z by grind) (show 0 ≤ -z by grind)
      have b := Rat.mul_nonneg (show 0 ≤ -(1 + eps) - z by grind) (show 0 ≤ 1 + eps by grind)
      have c' := Rat.mul_nonneg ep ep
      generalize w * w = y at *
      grind
  · rcases (Rat.le_total (a := z) (b := 1 + eps)) with c | c
    · exact c
    · have a := Rat.mul_nonneg (show 0 ≤ z - (1 + eps) by grind) (show 0 ≤ z by grind)
      have b := Rat.mul_nonneg (show 0 ≤ z - (1 + eps) by grind) (show 0 ≤ 1 + eps by grind)
      have c' := Rat.mul_nonneg ep ep
      generalize w * w = y at *
      grind

/-- a number of the interval, near the true one -/
theorem near_pt {s : Int × Int} {z : Rat} (h : In s z) (b : s.1 ≤ s.2) (z1 : -(1 + eps) ≤ z) (z2 : z ≤ 1 + eps) : ∃ p : Rat, (s.1 : Rat) ≤ p ∧ p ≤ (s.2 : Rat) ∧ -(1 / 1000) ≤ p - 1000000000 * z ∧ p - 1000000000 * z ≤ 1 / 1000 := by
  have ep : eps = 1 / 10000000000000 := rfl
  rw [ep] at z1 z2
  have b' := Rat.intCast_le_intCast.2 b
  have cT : ((1000000000 : Int) : Rat) = 1000000000 := by decide +kernel
  have cN : ((-1000000000 : Int) : Rat) = -1000000000 := by decide +kernel
  obtain ⟨h1, h2⟩ := h
  rcases (Rat.le_total (a := (s.1 : Rat)) (b := 1000000000 * z)) with c | c
  · rcases (Rat.le_total (a := 1000000000 * z) (b := (s.2 : Rat))) with d | d
    · exact ⟨1000000000 * z, c, d, by grind, by grind⟩
    · have e : (s.2 : Rat) = 1000000000 := by
        rcases h2 with h2 | h2
        · exfalso; grind
        · rw [h2, cT]
      refine ⟨1000000000, by grind, by grind, by grind, by grind⟩
  · have e : (s.1 : Rat) = -1000000000 := by
      rcases h1 with h1 | h1
      · exfalso; grind
      · rw [h1, cN]
    refine ⟨-1000000000, by grind, by grind, by grind, by grind⟩

theorem rlin_lo {a b x t m : Rat} (h1 : a ≤ x) (h2 : x ≤ b) (ha : m ≤ a * t) (hb : m ≤ b * t) : m ≤ x * t := by
  rcases (Rat.le_total (a := 0) (b := t)) with c | c
  · have := Rat.mul_nonneg (show 0 ≤ x - a by grind) c; grind
  · have := Rat.mul_nonneg (show 0 ≤ b - x by grind) (show 0 ≤ -t by grind); grind
theorem rlin_hi {a b x t m : Rat} (h1 : a ≤ x) (h2 : x ≤ b) (ha : a * t ≤ m) (hb : b * t ≤ m) : x * t ≤ m := by
  rcases (Rat.le_total (a := 0) (b := t)) with c | c
  · have := Rat.mul_nonneg (show 0 ≤ b - x by grind) c; grind
  · have := Rat.mul_nonneg (show 0 ≤ x - a by grind) (show 0 ≤ -t by grind); grind
theorem rbox_lo {a b c d x y m : Rat} (h1 : a ≤ x) (h2 : x ≤ b) (h3 : c ≤ y) (h4 : y ≤ d) (g1 : m ≤ a * c) (g2 : m ≤ a * d) (g3 : m ≤ b * c) (g4 : m ≤ b * d) : m ≤ x * y := by
  have e1 := rlin_lo h1 h2 g1 g3
  have e2 := rlin_lo h1 h2 g2 g4
  rw [Rat.mul_comm] at e1 e2 ⊢
  exact rlin_lo h3 h4 e1 e2
theorem rbox_hi {a b c d x y m : Rat} (h1 : a ≤ x) (h2 : x ≤ b) (h3 : c ≤ y) (h4 : y ≤ d) (g1 : a * c ≤ m) (g2 : a * d ≤ m) (g3 : b * c ≤ m) (g4 : b * d ≤ m) : x * y ≤ m := by
  have e1 := rlin_hi h1 h2 g1 g3
  have e2 := rlin_hi h1 h2 g2 g4
  rw [Rat.mul_comm] at e1 e2 ⊢
  exact rlin_hi h3 h4 e1 e2

/-- a product with the unit 1 / Turn contains the product of the true numbers, nearly -/
theorem unit_f {s c : Int × Int} {z w : Rat} (hs : In s z) (hc : In c w) (bs : s.1 ≤ s.2 ∧ -1000000000 ≤ s.1 ∧ s.2 ≤ 1000000000) (bc : c.1 ≤ c.2 ∧ -1000000000 ≤ c.1 ∧ c.2 ≤ 1000000000)
    (z1 : -(1 + eps) ≤ z) (z2 : z ≤ 1 + eps) (w1 : -(1 + eps) ≤ w) (w2 : w ≤ 1 + eps) :
    ∃ lo hi, ephemeriskeep2_unit.f s.1 s.2 c.1 c.2 = some (lo, hi) ∧ -1000000001 ≤ lo ∧ lo ≤ 1000000001 ∧ -1000000001 ≤ hi ∧ hi ≤ 1000000001 ∧ (lo : Rat) ≤ 1000000000 * (z * w) + 1 / 100 ∧ 1000000000 * (z * w) - 1 / 100 ≤ (hi : Rat) := by
  obtain ⟨p, p1, p2, p3, p4⟩ := near_pt hs bs.1 z1 z2
  obtain ⟨q, q1, q2, q3, q4⟩ := near_pt hc bc.1 w1 w2
  obtain ⟨xl, xh, e1, x0, x1, x2, l1, l2, l3, l4, _, g1, g2, g3, g4, _⟩ := mul_f (A := 1000000000) (B := 1000000000) (a := s.1) (b := s.2) (c := c.1) (d := c.2) (by omega) (by omega) (by omega) (by omega) (by omega) bs.2.1 bs.1 bs.2.2 bc.2.1 bc.1 bc.2.2
  have k1 := Rat.intCast_le_intCast.2 l1
  have k2 := Rat.intCast_le_intCast.2 l2
  have k3 := Rat.intCast_le_intCast.2 l3
  have k4 := Rat.intCast_le_intCast.2 l4
  have m1 := Rat.intCast_le_intCast.2 g1
  have m2 := Rat.intCast_le_intCast.2 g2
  have m3 := Rat.intCast_le_intCast.2 g3
  have m4 := Rat.intCast_le_intCast.2 g4
  rw [Rat.intCast_mul] at k1 k2 k3 k4 m1 m2 m3 m4
  have lo := rbox_lo p1 p2 q1 q2 k1 k2 k3 k4
  have hi := rbox_hi p1 p2 q1 q2 m1 m2 m3 m4
  have d1 := Int.ediv_mul_le (xl * 1) (show (1000000000 : Int) ≠ 0 by omega)
  have d2 := Int.ediv_mul_le ((-xh) * 1) (show (1000000000 : Int) ≠ 0 by omega)
  have f1 : -1000000001 ≤ xl * 1 / 1000000000 ∧ xl * 1 / 1000000000 ≤ 1000000001 := by omega
  have f2 : -1000000001 ≤ (-xh) * 1 / 1000000000 ∧ (-xh) * 1 / 1000000000 ≤ 1000000001 := by omega
  refine ⟨xl * 1 / 1000000000, -((-xh) * 1 / 1000000000), ?_, f1.1, f1.2, by omega, by omega, ?_⟩
  · unfold ephemeriskeep2_unit.f
    rw [e1]
    simp only [Option.bind_some]
    rw [scale_f (by omega) x1 (by omega) (by omega) (by omega) (by omega) (by omega) (by omega) (by omega) (by omega) (by omega)]
    rfl
  · have cT : ((1000000000 : Int) : Rat) = 1000000000 := by decide +kernel
    have r1 := Rat.intCast_le_intCast.2 (show xl * 1 / 1000000000 * 1000000000 ≤ xl by omega)
    have r2 := Rat.intCast_le_intCast.2 (show xh ≤ -((-xh) * 1 / 1000000000) * 1000000000 by omega)
    rw [Rat.intCast_mul, cT] at r1 r2
    have ep : eps = 1 / 10000000000000 := rfl
    rw [ep] at z1 z2 w1 w2
    have a1 := mul_ab p3 p4 (show -2 ≤ w by grind) (show w ≤ 2 by grind)
    have a2 := mul_ab q3 q4 (show -2 ≤ z by grind) (show z ≤ 2 by grind)
    have a3 := mul_ab p3 p4 q3 q4
    generalize ((xl * 1 / 1000000000 : Int) : Rat) = L at *
    generalize ((-((-xh) * 1 / 1000000000) : Int) : Rat) = H at *
    have e : p * q = 1000000000000000000 * (z * w) + 1000000000 * ((p - 1000000000 * z) * w) + 1000000000 * ((q - 1000000000 * w) * z) + (p - 1000000000 * z) * (q - 1000000000 * w) := by grind
    generalize (p - 1000000000 * z) * w = t1 at *
    generalize (q - 1000000000 * w) * z = t2 at *
    generalize (p - 1000000000 * z) * (q - 1000000000 * w) = t3 at *
    generalize z * w = y at *
    generalize p * q = x at *
    clear k1 k2 k3 k4 m1 m2 m3 m4 p1 p2 p3 p4 q1 q2 q3 q4 e1 x0 x1 x2 l1 l2 l3 l4 g1 g2 g3 g4 d1 d2 f1 f2 hs hc bs bc z1 z2 w1 w2
    constructor <;> grind

theorem TrigAdds : ephemeriskeep2_TrigAdds.Pure := by
  intro a0 a1 _ _
  obtain ⟨kw, hw⟩ := trig_works
  refine ⟨kw + 11, ?_⟩
  unfold ephemeriskeep2_TrigAdds.f
  have ha := tmod_lt (a := a0) (m := 1000000000000) (by omega)
  have hb := tmod_lt (a := a1) (m := 1000000000000) (by omega)
  generalize Int.tmod a0 1000000000000 = a at *
  generalize Int.tmod a1 1000000000000 = b at *
  rw [hw _ (by omega), wrap_in (n := a + b) (by omega) (by omega), sin_f (a := a + b) (by omega) (by omega) _ (by omega), sin_f (a := a) (by omega) (by omega) _ (by omega), sin_f (a := b) (by omega) (by omega) _ (by omega), cos_f (a := a) (by omega) (by omega) _ (by omega), cos_f (a := b) (by omega) (by omega) _ (by omega)]
  simp only [Option.bind_some, if_true]
  have pa := z_pyth a
  have pb := z_pyth b
  have pc := z_pyth (a + b)
  have za := z_one pa.2
  have zb := z_one pb.2
  have zc' := z_one pc.2
  have wa := z_one (z := zc a) (w := zs a) (by have := pa.2; grind)
  have wb := z_one (z := zc b) (w := zs b) (by have := pb.2; grind)
  obtain ⟨ul, uh, u1, u2, u3, u4, u5, u6, u7⟩ := unit_f (sin_in a) (cos_in b) (sv_b _) (sv_b _) za.1 za.2 wb.1 wb.2
  obtain ⟨vl, vh, v1, v2, v3, v4, v5, v6, v7⟩ := unit_f (cos_in a) (sin_in b) (sv_b _) (sv_b _) wa.1 wa.2 zb.1 zb.2
  rw [u1, v1]
  simp only [Option.bind_some, ephemeriskeep2_plus.f]
  rw [wrap_in (n := ul + vl) (by omega) (by omega), wrap_in (n := uh + vh) (by omega) (by omega)]
  have ad := (z_add a b).1
  have ss := sin_in (a + b)
  have sb := sv_b ((a + b) % 1000000000)
  generalize sv ((a + b) % 1000000000) = s at *
  have ep : eps = 1 / 10000000000000 := rfl
  rw [ep] at ad zc'
  have cN : ((-1000000001 : Int) : Rat) = -1000000001 := by decide +kernel
  have cP : ((1000000001 : Int) : Rat) = 1000000001 := by decide +kernel
  have lo : (ul : Rat) + vl ≤ 1000000000 * zs (a + b) + 3 / 100 := by
    generalize zs a * zc b = x at *
    generalize zc a * zs b = y at *
    clear u1 v1 pa pb pc za zb wa wb
    grind
  have hi : 1000000000 * zs (a + b) - 3 / 100 ≤ (uh : Rat) + vh := by
    generalize zs a * zc b = x at *
    generalize zc a * zs b = y at *
    clear u1 v1 pa pb pc za zb wa wb
    grind
  have m1 : s.1 ≤ uh + vh := by
    rcases ss.1 with h | h
    · have : ((s.1 : Int) : Rat) ≤ ((uh + vh : Int) : Rat) := by
        rw [Rat.intCast_add]
        generalize zs (a + b) = z at *
        clear u1 v1 pa pb pc za zb wa wb ad u6 u7 v6 v7
        grind
      exact Rat.intCast_le_intCast.1 this
    · have : (-1000000001 : Int) < uh + vh := by
        rcases Int.lt_or_le (-1000000001) (uh + vh) with c | c
        · exact c
        · exfalso
          have c' := Rat.intCast_le_intCast.2 c
          rw [Rat.intCast_add, cN] at c'
          generalize zs (a + b) = z at *
          clear u1 v1 pa pb pc za zb wa wb ad u6 u7 v6 v7
          grind
      omega
  have m2 : ul + vl ≤ s.2 := by
    rcases ss.2 with h | h
    · have : ((ul + vl : Int) : Rat) ≤ ((s.2 : Int) : Rat) := by
        rw [Rat.intCast_add]
        generalize zs (a + b) = z at *
        clear u1 v1 pa pb pc za zb wa wb ad u6 u7 v6 v7
        grind
      exact Rat.intCast_le_intCast.1 this
    · have : ul + vl < (1000000001 : Int) := by
        rcases Int.lt_or_le (ul + vl) 1000000001 with c | c
        · exact c
        · exfalso
          have c' := Rat.intCast_le_intCast.2 c
          rw [Rat.intCast_add, cP] at c'
          generalize zs (a + b) = z at *
          clear u1 v1 pa pb pc za zb wa wb ad u6 u7 v6 v7
          grind
      omega
  unfold ephemeriskeep2_meets.f
  rw [if_pos m1, decide_eq_true m2]
  rfl

end Go.Proofs.Ytigolfomfpmodaa.Pure
