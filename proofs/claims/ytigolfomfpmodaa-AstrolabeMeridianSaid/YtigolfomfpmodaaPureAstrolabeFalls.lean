/- The law AstrolabeFalls: a greater declination has a lesser circle. No condition. -/
import Derived.Test.YtigolfomfpmodaaJTx2
import Derived.Test.YtigolfomfpmodaaAstroLaw
namespace Go.Proofs.Ytigolfomfpmodaa.Pure
open Go.Proofs.Ytigolfomfpmodaa.JT Go.Proofs.Ytigolfomfpmodaa.Own Go.Proofs.Ytigolfomfpmodaa.Tp Go.Proofs.Ytigolfomfpmodaa.Iv Go.RowKit Go.Proofs.YtigolfomfpmodaaW.PrintWords Go.Proofs.YtigolfomfpmodaaW.PrintLast

/-- an interval that is not wide -/
def Tg (s : Int × Int) (z : Rat) : Prop := 1000000000 * z - 201 / 100 ≤ (s.1 : Rat) ∧ (s.2 : Rat) ≤ 1000000000 * z + 201 / 100
theorem Tg_rnd {v : Int} {z : Rat} (h : 0 ≤ v) (h' : v ≤ 1152921504606846976) (hz : Nr v (U * z) 40) : Tg (rnd v) z := by
  unfold rnd trig_rounded.f Tg
  rw [and_low v h (by omega)]
  simp only [Option.getD_some]
  have A : 0 ≤ v / 1073741824 ∧ v / 1073741824 ≤ 1073741824 := by omega
  have A' : 0 ≤ v % 1073741824 ∧ v % 1073741824 < 1073741824 := by omega
  have n1 : 0 ≤ ((v / 1073741824) * 1000000000 + (v % 1073741824) * 1000000000 / 1073741824) / 1073741824 ∧ ((v / 1073741824) * 1000000000 + (v % 1073741824) * 1000000000 / 1073741824) / 1073741824 ≤ 1000000000 := by omega
  have n2 : ((v / 1073741824) * 1000000000 + (v % 1073741824) * 1000000000 / 1073741824) / 1073741824 * 1152921504606846976 ≤ v * 1000000000 ∧ v * 1000000000 ≤ (((v / 1073741824) * 1000000000 + (v % 1073741824) * 1000000000 / 1073741824) / 1073741824 + 1) * 1152921504606846976 := by omega
  rw [wrap_in (n := (v / 1073741824) * 1000000000) (by omega) (by omega), wrap_in (n := (v % 1073741824) * 1000000000) (by omega) (by omega), wrap_in (n := (v / 1073741824) * 1000000000 + (v % 1073741824) * 1000000000 / 1073741824) (by omega) (by omega)]
  generalize ((v / 1073741824) * 1000000000 + (v % 1073741824) * 1000000000 / 1073741824) / 1073741824 = n at *
  rw [wrap_in (n := n - 1) (by omega) (by omega), wrap_in (n := n + 2) (by omega) (by omega)]
  have cU : ((1152921504606846976 : Int) : Rat) = U := by decide +kernel
  have cT : ((1000000000 : Int) : Rat) = 1000000000 := by decide +kernel
  have c1 : ((1 : Int) : Rat) = 1 := by decide +kernel
  have c2 : ((2 : Int) : Rat) = 2 := by decide +kernel
  have r1 : ((n * 1152921504606846976 : Int) : Rat) ≤ ((v * 1000000000 : Int) : Rat) := Rat.intCast_le_intCast.2 n2.1
  have r2 : ((v * 1000000000 : Int) : Rat) ≤ (((n + 1) * 1152921504606846976 : Int) : Rat) := Rat.intCast_le_intCast.2 n2.2
  simp only [Rat.intCast_mul, Rat.intCast_add, cU, cT, c1] at r1 r2
  unfold Nr at hz
  have mm : mn 1000000000 (n + 2) ≤ n + 2 := by simp only [mn]; omega
  have mm' := Rat.intCast_le_intCast.2 mm
  rw [Rat.intCast_add, c2] at mm'
  constructor
  · rw [show mx (-1000000000) (n - 1) = n - 1 by simp only [mx]; omega, Rat.intCast_sub, c1]
    have : U * (1000000000 * z - 201 / 100) ≤ U * ((n : Rat) - 1) := by grind
    exact div_le (by decide +kernel) this
  · have : U * ((n : Rat) + 2) ≤ U * (1000000000 * z + 201 / 100) := by grind
    exact Rat.le_trans mm' (div_le (by decide +kernel) this)
theorem Tg_ng {s : Int × Int} {z : Rat} (h : Tg s z) : Tg (ng s) (-z) := by
  unfold Tg ng at *
  simp only [Rat.intCast_neg]
  constructor <;> grind
theorem sv_tg {r : Int} (h0 : 0 ≤ r) (h1 : r < 1000000000) : Tg (sv r) (zs r) := by
  have ro : 0 ≤ r % 250000000 ∧ r % 250000000 < 250000000 := by omega
  by_cases c : r % 250000000 ≤ 125000000
  · obtain ⟨o1, o2, _, _⟩ := oct_near ro.1 c
    have ob := (oct_f ro.1 c 10 (Nat.le_refl _)).2
    have eq : qd r = r / 250000000 := by unfold qd; omega
    have ed : dl r = r % 250000000 := by unfold dl; rw [eq]; omega
    have ep : pr (r % 250000000) = oct (r % 250000000) := by unfold pr; rw [if_pos c]
    have i1 := Tg_rnd ob.1 ob.2.1 o1
    have i2 := Tg_rnd ob.2.2.1 ob.2.2.2 o2
    unfold sv zs
    rw [eq, ed, ep]
    generalize sn (arc (r % 250000000)) = s at *
    generalize cn (arc (r % 250000000)) = t at *
    rcases (by omega : r / 250000000 = 0 ∨ r / 250000000 = 1 ∨ r / 250000000 = 2 ∨ r / 250000000 = 3) with q | q | q | q
    · rw [if_pos q, ((kq _).1 (by omega)).1, ((kq _).1 (by omega)).2, show s * 1 + t * 0 = s by grind]; exact i1
    · rw [if_neg (by omega), if_pos q, ((kq _).2.1 (by omega)).1, ((kq _).2.1 (by omega)).2, show s * 0 + t * 1 = t by grind]; exact i2
    · rw [if_neg (by omega), if_neg (by omega), if_pos q, ((kq _).2.2.1 (by omega)).1, ((kq _).2.2.1 (by omega)).2, show s * -1 + t * 0 = -s by grind]; exact Tg_ng i1
    · rw [if_neg (by omega), if_neg (by omega), if_neg (by omega), ((kq _).2.2.2 (by omega)).1, ((kq _).2.2.2 (by omega)).2, show s * 0 + t * -1 = -t by grind]; exact Tg_ng i2
  · obtain ⟨o1, o2, _, _⟩ := oct_near (a := 250000000 - r % 250000000) (by omega) (by omega)
    have ob := (oct_f (a := 250000000 - r % 250000000) (by omega) (by omega) 10 (Nat.le_refl _)).2
    have eq : qd r = r / 250000000 + 1 := by unfold qd; omega
    have ed : dl r = -(250000000 - r % 250000000) := by unfold dl; rw [eq]; omega
    have ep : pr (r % 250000000) = ((oct (250000000 - r % 250000000)).2, (oct (250000000 - r % 250000000)).1) := by unfold pr; rw [if_neg c]
    have i1 := Tg_rnd ob.1 ob.2.1 o1
    have i2 := Tg_rnd ob.2.2.1 ob.2.2.2 o2
    unfold sv zs
    rw [eq, ed, ep, arc_neg, sn_neg, cn_neg]
    generalize sn (arc (250000000 - r % 250000000)) = s at *
    generalize cn (arc (250000000 - r % 250000000)) = t at *
    rcases (by omega : r / 250000000 = 0 ∨ r / 250000000 = 1 ∨ r / 250000000 = 2 ∨ r / 250000000 = 3) with q | q | q | q
    · rw [if_pos q, ((kq (r / 250000000 + 1)).2.1 (by omega)).1, ((kq (r / 250000000 + 1)).2.1 (by omega)).2, show -s * 0 + t * 1 = t by grind]; exact i2
    · rw [if_neg (by omega), if_pos q, ((kq (r / 250000000 + 1)).2.2.1 (by omega)).1, ((kq (r / 250000000 + 1)).2.2.1 (by omega)).2, show -s * -1 + t * 0 = s by grind]; exact i1
    · rw [if_neg (by omega), if_neg (by omega), if_pos q, ((kq (r / 250000000 + 1)).2.2.2 (by omega)).1, ((kq (r / 250000000 + 1)).2.2.2 (by omega)).2, show -s * 0 + t * -1 = -t by grind]; exact Tg_ng i2
    · rw [if_neg (by omega), if_neg (by omega), if_neg (by omega), ((kq (r / 250000000 + 1)).1 (by omega)).1, ((kq (r / 250000000 + 1)).1 (by omega)).2, show -s * 1 + t * 0 = -s by grind]; exact Tg_ng i1
theorem sin_tg (a : Int) : Tg (sv (a % 1000000000)) (zs a) := by
  have := sv_tg (r := a % 1000000000) (by omega) (by omega)
  rwa [(z_mod a).1] at this
theorem cos_tg (a : Int) : Tg (sv ((a + 250000000) % 1000000000)) (zc a) := by
  have := sv_tg (r := (a + 250000000) % 1000000000) (by omega) (by omega)
  rwa [(z_mod (a + 250000000)).1, z_quarter] at this

/-- a quotient by positive numbers -/
theorem div_pos {a b c d : Int} (h1 : -1000000000000000000 ≤ a) (h2 : a ≤ b) (h3 : b ≤ 1000000000000000000) (h4 : 0 < c) (h5 : c ≤ d) (h6 : d ≤ 1000000000000000000) :
    ∃ lo hi, interval_Div.f a b c d = some (lo, hi, 0) ∧ lo * c ≤ a ∧ lo * d ≤ a ∧ b ≤ hi * c ∧ b ≤ hi * d ∧
      (∃ x y, (x = a ∨ x = b) ∧ (y = c ∨ y = d) ∧ x < (lo + 1) * y) ∧ (∃ x y, (x = a ∨ x = b) ∧ (y = c ∨ y = d) ∧ (hi - 1) * y < x) := by
  have fl : ∀ x y : Int, 0 < y → flr x y * y ≤ x ∧ x < (flr x y + 1) * y := by
    intro x y hy
    unfold flr
    rw [if_pos hy]
    exact ⟨Int.ediv_mul_le x (by omega), Int.lt_ediv_add_one_mul_self x hy⟩
  have cl : ∀ x y : Int, 0 < y → x ≤ clg x y * y ∧ (clg x y - 1) * y < x := by
    intro x y hy
    have := fl (-x) y hy
    unfold clg
    rw [Int.neg_mul, Int.sub_mul, Int.neg_mul]
    rw [Int.add_mul] at this
    omega
  have hd : 0 < d := by omega
  unfold interval_Div.f
  rw [if_pos ⟨⟨h1, by omega⟩, h2, ⟨by omega, h3⟩, ⟨by omega, by omega⟩, h5, ⟨by omega, h6⟩⟩, if_neg (by omega)]
  refine ⟨_, _, rfl, ?_⟩
  have L : ∃ lo, interval_Div.L a b c d 3 = lo ∧ lo ≤ flr a c ∧ lo ≤ flr a d ∧ (lo = flr a c ∨ lo = flr a d ∨ lo = flr b c ∨ lo = flr b d) := by
    refine ⟨_, rfl, ?_⟩
    simp only [interval_Div.L, interval_Div.P]
    generalize flr a c = q1
    generalize flr a d = q2
    generalize flr b c = q3
    generalize flr b d = q4
    omega
  have H : ∃ hi, interval_Div.H a b c d 3 = hi ∧ clg b c ≤ hi ∧ clg b d ≤ hi ∧ (hi = clg a c ∨ hi = clg a d ∨ hi = clg b c ∨ hi = clg b d) := by
    refine ⟨_, rfl, ?_⟩
    simp only [interval_Div.H, interval_Div.P]
    generalize clg a c = q1
    generalize clg a d = q2
    generalize clg b c = q3
    generalize clg b d = q4
    omega
  obtain ⟨lo, e1, l1, l2, l3⟩ := L
  obtain ⟨hi, e2, m1, m2, m3⟩ := H
  rw [e1, e2]
  refine ⟨?_, ?_, ?_, ?_, ?_, ?_⟩
  · exact Int.le_trans (Int.mul_le_mul_of_nonneg_right l1 (by omega)) (fl a c h4).1
  · exact Int.le_trans (Int.mul_le_mul_of_nonneg_right l2 (by omega)) (fl a d hd).1
  · exact Int.le_trans (cl b c h4).1 (Int.mul_le_mul_of_nonneg_right m1 (by omega))
  · exact Int.le_trans (cl b d hd).1 (Int.mul_le_mul_of_nonneg_right m2 (by omega))
  · rcases l3 with h | h | h | h
    · exact ⟨a, c, .inl rfl, .inl rfl, by rw [h]; exact (fl a c h4).2⟩
    · exact ⟨a, d, .inl rfl, .inr rfl, by rw [h]; exact (fl a d hd).2⟩
    · exact ⟨b, c, .inr rfl, .inl rfl, by rw [h]; exact (fl b c h4).2⟩
    · exact ⟨b, d, .inr rfl, .inr rfl, by rw [h]; exact (fl b d hd).2⟩
  · rcases m3 with h | h | h | h
    · exact ⟨a, c, .inl rfl, .inl rfl, by rw [h]; exact (cl a c h4).2⟩
    · exact ⟨a, d, .inl rfl, .inr rfl, by rw [h]; exact (cl a d hd).2⟩
    · exact ⟨b, c, .inr rfl, .inl rfl, by rw [h]; exact (cl b c h4).2⟩
    · exact ⟨b, d, .inr rfl, .inr rfl, by rw [h]; exact (cl b d hd).2⟩

/-- a ratio of sines: g over e, in millionths -/
structure Rt (lo hi : Int) (g e : Rat) : Prop where
  c : ∃ p t : Rat, -(1 / 1000) ≤ p - 1000000000 * g ∧ p - 1000000000 * g ≤ 1 / 1000 ∧ -(1 / 500) ≤ t - 1000000000 * e ∧ t - 1000000000 * e ≤ 1 / 500 ∧ (lo : Rat) * t ≤ 1000000 * p ∧ 1000000 * p ≤ (hi : Rat) * t
  l : ∃ p t : Rat, -(402 / 100) ≤ p - 1000000000 * g ∧ p - 1000000000 * g ≤ 402 / 100 ∧ -(402 / 100) ≤ t - 1000000000 * e ∧ t - 1000000000 * e ≤ 402 / 100 ∧ 1000000 * p ≤ ((lo : Rat) + 1) * t
  h : ∃ p t : Rat, -(402 / 100) ≤ p - 1000000000 * g ∧ p - 1000000000 * g ≤ 402 / 100 ∧ -(402 / 100) ≤ t - 1000000000 * e ∧ t - 1000000000 * e ≤ 402 / 100 ∧ ((hi : Rat) - 1) * t ≤ 1000000 * p

theorem ratio_f {c D : Int × Int} {g e : Rat} (bc : c.1 ≤ c.2 ∧ -1000000000 ≤ c.1 ∧ c.2 ≤ 1000000000) (d0 : 0 < D.1) (d1 : D.1 ≤ D.2) (d2 : D.2 ≤ 4000000000) (tc : Tg c g) (td1 : 1000000000 * e - 402 / 100 ≤ (D.1 : Rat)) (td2 : (D.2 : Rat) ≤ 1000000000 * e + 402 / 100)
    (np : ∃ p : Rat, (c.1 : Rat) ≤ p ∧ p ≤ (c.2 : Rat) ∧ -(1 / 1000) ≤ p - 1000000000 * g ∧ p - 1000000000 * g ≤ 1 / 1000)
    (nt : ∃ t : Rat, (D.1 : Rat) ≤ t ∧ t ≤ (D.2 : Rat) ∧ -(1 / 500) ≤ t - 1000000000 * e ∧ t - 1000000000 * e ≤ 1 / 500) :
    ∃ lo hi, astrolabe_ratio.f c.1 c.2 D.1 D.2 = some (lo, hi) ∧ Rt lo hi g e := by
  obtain ⟨lo, hi, e1, q1, q2, q3, q4, ⟨x, y, x1, y1, q5⟩, ⟨u, v, u1, v1, q6⟩⟩ := div_pos (a := c.1 * 1000000) (b := c.2 * 1000000) (c := D.1) (d := D.2) (by omega) (by omega) (by omega) d0 d1 (by omega)
  refine ⟨lo, hi, ?_, ?_, ?_, ?_⟩
  · unfold astrolabe_ratio.f
    rw [scale_f (by omega) bc.1 (by omega) (by omega) (by omega) (by omega) (by omega) (by rw [Int.ediv_one]; omega) (by rw [Int.ediv_one]; omega) (by rw [Int.ediv_one]; omega) (by rw [Int.ediv_one]; omega), Int.ediv_one, Int.ediv_one]
    simp only [Option.bind_some]
    rw [show -(-c.2 * 1000000) = c.2 * 1000000 by omega, e1]
    rfl
  · obtain ⟨p, p1, p2, p3, p4⟩ := np
    obtain ⟨t, t1, t2, t3, t4⟩ := nt
    have cM : ((1000000 : Int) : Rat) = 1000000 := by decide +kernel
    have r1 := Rat.intCast_le_intCast.2 q1
    have r2 := Rat.intCast_le_intCast.2 q2
    have r3 := Rat.intCast_le_intCast.2 q3
    have r4 := Rat.intCast_le_intCast.2 q4
    simp only [Rat.intCast_mul, cM] at r1 r2 r3 r4
    have l := rlin_hi t1 t2 (t := (lo : Rat)) (m := (c.1 : Rat) * 1000000) (by grind) (by grind)
    have h := rlin_lo t1 t2 (t := (hi : Rat)) (m := (c.2 : Rat) * 1000000) (by grind) (by grind)
    exact ⟨p, t, p3, p4, t3, t4, by grind, by grind⟩
  all_goals
    have b' := Rat.intCast_le_intCast.2 bc.1
    have d' := Rat.intCast_le_intCast.2 d1
    have cM : ((1000000 : Int) : Rat) = 1000000 := by decide +kernel
    have c1 : ((1 : Int) : Rat) = 1 := by decide +kernel
    unfold Tg at tc
  · have r := Rat.intCast_le_intCast.2 (show x ≤ (lo + 1) * y by omega)
    rw [Rat.intCast_mul, Rat.intCast_add, c1] at r
    have ex : ∃ X : Rat, (x : Rat) = 1000000 * X ∧ ((c.1 : Rat) = X ∨ (c.2 : Rat) = X) := by
      rcases x1 with rfl | rfl
      · exact ⟨c.1, by rw [Rat.intCast_mul, cM]; grind, .inl rfl⟩
      · exact ⟨c.2, by rw [Rat.intCast_mul, cM]; grind, .inr rfl⟩
    obtain ⟨X, ex, hX⟩ := ex
    have hY : (D.1 : Rat) = (y : Rat) ∨ (D.2 : Rat) = (y : Rat) := by rcases y1 with rfl | rfl; exact .inl rfl; exact .inr rfl
    refine ⟨X, y, ?_, ?_, ?_, ?_, by rw [← ex]; exact r⟩ <;> (rcases hX with hX | hX <;> rcases hY with hY | hY <;> grind)
  · have r := Rat.intCast_le_intCast.2 (show (hi - 1) * v ≤ u by omega)
    rw [Rat.intCast_mul, Rat.intCast_sub, c1] at r
    have ex : ∃ X : Rat, (u : Rat) = 1000000 * X ∧ ((c.1 : Rat) = X ∨ (c.2 : Rat) = X) := by
      rcases u1 with rfl | rfl
      · exact ⟨c.1, by rw [Rat.intCast_mul, cM]; grind, .inl rfl⟩
      · exact ⟨c.2, by rw [Rat.intCast_mul, cM]; grind, .inr rfl⟩
    obtain ⟨X, ex, hX⟩ := ex
    have hY : (D.1 : Rat) = (v : Rat) ∨ (D.2 : Rat) = (v : Rat) := by rcases v1 with rfl | rfl; exact .inl rfl; exact .inr rfl
    refine ⟨X, v, ?_, ?_, ?_, ?_, by rw [← ex]; exact r⟩ <;> (rcases hX with hX | hX <;> rcases hY with hY | hY <;> grind)

theorem ring_f {a : Int} (h1 : -195000000 ≤ a) (h2 : a ≤ 250000000) : ∃ lo hi, (∀ k, 12 ≤ k → astrolabe_Ring.f k a = some (lo, hi, 0)) ∧ Rt lo hi (zc a) (1 + zs a) := by
  have b1 := sv_b (a % 1000000000)
  have b2 := sv_b ((a + 250000000) % 1000000000)
  have t1 := sin_tg a
  have t2 := cos_tg a
  have py := z_pyth a
  have z1 := z_one py.2
  have w1 := z_one (z := zc a) (w := zs a) (by have := py.2; grind)
  have n1 := near_pt (sin_in a) b1.1 z1.1 z1.2
  have n2 := near_pt (cos_in a) b2.1 w1.1 w1.2
  have db := dec_b h1 h2
  have sf : ∀ k, 11 ≤ k → trig_Sin.f k a = some ((sv (a % 1000000000)).1, (sv (a % 1000000000)).2, 0) := fun k hk => sin_f (by omega) (by omega) k hk
  have cf : ∀ k, 11 ≤ k → trig_Cos.f k a = some ((sv ((a + 250000000) % 1000000000)).1, (sv ((a + 250000000) % 1000000000)).2, 0) := fun k hk => cos_f (by omega) (by omega) k hk
  generalize sv (a % 1000000000) = s at *
  generalize sv ((a + 250000000) % 1000000000) = c at *
  have cT : ((1000000000 : Int) : Rat) = 1000000000 := by decide +kernel
  have c0 : ((0 : Int) : Rat) = 0 := by decide +kernel
  have dpos : 0 < 1000000000 + s.1 := by
    refine pos_int ?_
    rw [Rat.intCast_add, cT]
    unfold Tg at t1
    grind
  obtain ⟨lo, hi, e, rt⟩ := ratio_f (c := c) (D := (1000000000 + s.1, 1000000000 + s.2)) (g := zc a) (e := 1 + zs a) ⟨b2.1, b2.2.1, b2.2.2⟩ dpos (by show 1000000000 + s.1 ≤ 1000000000 + s.2; omega) (by show 1000000000 + s.2 ≤ _; omega) t2
    (by show _ ≤ ((1000000000 + s.1 : Int) : Rat); rw [Rat.intCast_add, cT]; unfold Tg at t1; grind) (by show ((1000000000 + s.2 : Int) : Rat) ≤ _; rw [Rat.intCast_add, cT]; unfold Tg at t1; grind) n2
    (by
      obtain ⟨p, p1, p2, p3, p4⟩ := n1
      refine ⟨1000000000 + p, ?_, ?_, ?_, ?_⟩
      · show ((1000000000 + s.1 : Int) : Rat) ≤ _; rw [Rat.intCast_add, cT]; grind
      · show _ ≤ ((1000000000 + s.2 : Int) : Rat); rw [Rat.intCast_add, cT]; grind
      · grind
      · grind)
  refine ⟨lo, hi, fun k hk => ?_, rt⟩
  obtain ⟨k, rfl⟩ : ∃ m, k = m + 1 := ⟨k - 1, by omega⟩
  unfold astrolabe_Ring.f
  rw [if_neg (by omega), decide_eq_false (by omega)]
  simp only [astrolabe_Ring.j0, Bool.false_eq_true, if_false]
  rw [sf k (by omega), cf k (by omega)]
  simp only [Option.bind_some, astrolabe_plus.f]
  rw [wrap_in (n := 1000000000 + s.1) (by omega) (by omega), wrap_in (n := 1000000000 + s.2) (by omega) (by omega), e]
  rfl

/-- the difference of two ratios, times the denominators -/
theorem fall_key {a d : Int} (h1 : -195000000 ≤ a) (h2 : a ≤ 250000000) : (1 + zs a) * zs d - 1 / 1000000000 ≤ zc a * (1 + zs (a + d)) - zc (a + d) * (1 + zs a) := by
  have ad := z_add a d
  have pa := z_pyth a
  have pd := z_pyth d
  have db := dec_b h1 h2
  have za := z_one pa.2
  have wa := z_one (z := zc a) (w := zs a) (by have := pa.2; grind)
  have zd := z_one pd.2
  have wd := z_one (z := zc d) (w := zs d) (by have := pd.2; grind)
  have ep : eps = 1 / 10000000000000 := rfl
  rw [ep] at ad pa pd za wa zd wd
  generalize zs (a + d) = sb at *
  generalize zc (a + d) = cb at *
  generalize zs a = sa at *
  generalize zc a = ca at *
  generalize zs d = sd at *
  generalize zc d = cd at *
  have m1 := mul_ab ad.1.1 ad.1.2 (show -2 ≤ ca by grind) (show ca ≤ 2 by grind)
  have m2 := mul_ab ad.2.1 ad.2.2 (show -3 ≤ 1 + sa by grind) (show 1 + sa ≤ 3 by grind)
  have m3 := mul_ab (u := sa * sa + ca * ca - 1) (A := 1 / 10000000000000) (by grind) (by grind) (show -2 ≤ sd by grind) (show sd ≤ 2 by grind)
  have m4 := Rat.mul_nonneg db.1 (show 0 ≤ 1 + 1 / 10000000000000 - cd by grind)
  grind

theorem fall_le {xh yl : Int} {ga ea gb eb : Rat} {p t q r : Rat} (K : -(1 / 1000000000) ≤ ga * eb - gb * ea) (e1 : 5 / 100 ≤ ea) (e2 : 5 / 100 ≤ eb) (e3 : ea ≤ 3) (e4 : eb ≤ 3) (g1 : 0 ≤ ga) (g2 : ga ≤ 2) (g3 : 0 ≤ gb) (g4 : gb ≤ 2)
    (p1 : -(1 / 1000) ≤ p - 1000000000 * ga) (p2 : p - 1000000000 * ga ≤ 1 / 1000) (t1 : -(1 / 500) ≤ t - 1000000000 * ea) (t2 : t - 1000000000 * ea ≤ 1 / 500)
    (q1 : -(1 / 1000) ≤ q - 1000000000 * gb) (q2 : q - 1000000000 * gb ≤ 1 / 1000) (r1 : -(1 / 500) ≤ r - 1000000000 * eb) (r2 : r - 1000000000 * eb ≤ 1 / 500)
    (hx : 1000000 * p ≤ (xh : Rat) * t) (hy : (yl : Rat) * r ≤ 1000000 * q) : yl ≤ xh := by
  rcases Int.lt_or_le xh yl with c | c
  · exfalso
    have c' := Rat.intCast_le_intCast.2 (show xh + 1 ≤ yl by omega)
    have c1 : ((1 : Int) : Rat) = 1 := by decide +kernel
    rw [Rat.intCast_add, c1] at c'
    have tp : 49000000 ≤ t := by grind
    have rp : 49000000 ≤ r := by grind
    have m1 := Rat.mul_nonneg (show 0 ≤ (xh : Rat) * t - 1000000 * p by grind) (show 0 ≤ r by grind)
    have m2 := Rat.mul_nonneg (show 0 ≤ 1000000 * q - (yl : Rat) * r by grind) (show 0 ≤ t by grind)
    have tr := Rat.mul_nonneg (show 0 ≤ t - 49000000 by grind) (show 0 ≤ r - 49000000 by grind)
    have m3 := Rat.mul_nonneg (show 0 ≤ (yl : Rat) - xh - 1 by grind) (Rat.mul_nonneg (show 0 ≤ t by grind) (show 0 ≤ r by grind))
    have b1 := mul_ab p1 p2 (show -3 ≤ eb by grind) e4
    have b2 := mul_ab r1 r2 (show -2 ≤ ga by grind) g2
    have b3 := mul_ab p1 p2 r1 r2
    have b4 := mul_ab q1 q2 (show -3 ≤ ea by grind) e3
    have b5 := mul_ab t1 t2 (show -2 ≤ gb by grind) g4
    have b6 := mul_ab q1 q2 t1 t2
    have key : 1000000 * (p * r - q * t) ≤ -(t * r) := by grind
    have low : -(1100000000) ≤ p * r - q * t := by
      have e : p * r - q * t = 1000000000000000000 * (ga * eb - gb * ea) + 1000000000 * ((p - 1000000000 * ga) * eb) + 1000000000 * ((r - 1000000000 * eb) * ga) + (p - 1000000000 * ga) * (r - 1000000000 * eb) - 1000000000 * ((q - 1000000000 * gb) * ea) - 1000000000 * ((t - 1000000000 * ea) * gb) - (q - 1000000000 * gb) * (t - 1000000000 * ea) := by grind
      rw [e]
      clear key m1 m2 m3 tr e hx hy
      generalize (p - 1000000000 * ga) * eb = s1 at *
      generalize (r - 1000000000 * eb) * ga = s2 at *
      generalize (p - 1000000000 * ga) * (r - 1000000000 * eb) = s3 at *
      generalize (q - 1000000000 * gb) * ea = s4 at *
      generalize (t - 1000000000 * ea) * gb = s5 at *
      generalize (q - 1000000000 * gb) * (t - 1000000000 * ea) = s6 at *
      generalize ga * eb - gb * ea = s7 at *
      grind
    have tr' : 2401000000000000 ≤ t * r := by grind
    generalize p * r - q * t = s1 at *
    generalize t * r = s2 at *
    grind
  · exact c

theorem fall_lt {xl yh : Int} {ga ea gb eb : Rat} {p t q r : Rat} (K : 5 / 100000 * ea - 1 / 1000000000 ≤ ga * eb - gb * ea) (e1 : 5 / 100 ≤ ea) (e2 : 5 / 100 ≤ eb) (e3 : ea ≤ 21 / 10) (e4 : eb ≤ 21 / 10) (g1 : 0 ≤ ga) (g2 : ga ≤ 2) (g3 : 0 ≤ gb) (g4 : gb ≤ 2)
    (p1 : -(402 / 100) ≤ p - 1000000000 * ga) (p2 : p - 1000000000 * ga ≤ 402 / 100) (t1 : -(402 / 100) ≤ t - 1000000000 * ea) (t2 : t - 1000000000 * ea ≤ 402 / 100)
    (q1 : -(402 / 100) ≤ q - 1000000000 * gb) (q2 : q - 1000000000 * gb ≤ 402 / 100) (r1 : -(402 / 100) ≤ r - 1000000000 * eb) (r2 : r - 1000000000 * eb ≤ 402 / 100)
    (hx : 1000000 * p ≤ ((xl : Rat) + 1) * t) (hy : ((yh : Rat) - 1) * r ≤ 1000000 * q) : yh < xl := by
  rcases Int.lt_or_le yh xl with c | c
  · exact c
  · exfalso
    have c' := Rat.intCast_le_intCast.2 c
    have tp : 49000000 ≤ t := by grind
    have rp : 49000000 ≤ r := by grind
    have m1 := Rat.mul_nonneg (show 0 ≤ ((xl : Rat) + 1) * t - 1000000 * p by grind) (show 0 ≤ r by grind)
    have m2 := Rat.mul_nonneg (show 0 ≤ 1000000 * q - ((yh : Rat) - 1) * r by grind) (show 0 ≤ t by grind)
    have m3 := Rat.mul_nonneg (show 0 ≤ (yh : Rat) - xl by grind) (Rat.mul_nonneg (show 0 ≤ t by grind) (show 0 ≤ r by grind))
    have b1 := mul_ab p1 p2 (show -3 ≤ eb by grind) (show eb ≤ 3 by grind)
    have b2 := mul_ab r1 r2 (show -2 ≤ ga by grind) g2
    have b3 := mul_ab p1 p2 r1 r2
    have b4 := mul_ab q1 q2 (show -3 ≤ ea by grind) (show ea ≤ 3 by grind)
    have b5 := mul_ab t1 t2 (show -2 ≤ gb by grind) g4
    have b6 := mul_ab q1 q2 t1 t2
    have b7 := mul_ab t1 t2 (show -3 ≤ eb by grind) (show eb ≤ 3 by grind)
    have b8 := mul_ab r1 r2 (show -3 ≤ ea by grind) (show ea ≤ 3 by grind)
    have b9 := mul_ab t1 t2 r1 r2
    have b10 : ea * eb ≤ 21 / 10 * ea := by
      have := Rat.mul_nonneg (show 0 ≤ ea by grind) (show 0 ≤ 21 / 10 - eb by grind)
      grind
    have key : 1000000 * (p * r - q * t) ≤ 2 * (t * r) := by grind
    have e : p * r - q * t = 1000000000000000000 * (ga * eb - gb * ea) + 1000000000 * ((p - 1000000000 * ga) * eb) + 1000000000 * ((r - 1000000000 * eb) * ga) + (p - 1000000000 * ga) * (r - 1000000000 * eb) - 1000000000 * ((q - 1000000000 * gb) * ea) - 1000000000 * ((t - 1000000000 * ea) * gb) - (q - 1000000000 * gb) * (t - 1000000000 * ea) := by grind
    have e' : t * r = 1000000000000000000 * (ea * eb) + 1000000000 * ((t - 1000000000 * ea) * eb) + 1000000000 * ((r - 1000000000 * eb) * ea) + (t - 1000000000 * ea) * (r - 1000000000 * eb) := by grind
    rw [e, e'] at key
    clear m1 m2 m3 e e' hx hy
    generalize (p - 1000000000 * ga) * eb = s1 at *
    generalize (r - 1000000000 * eb) * ga = s2 at *
    generalize (p - 1000000000 * ga) * (r - 1000000000 * eb) = s3 at *
    generalize (q - 1000000000 * gb) * ea = s4 at *
    generalize (t - 1000000000 * ea) * gb = s5 at *
    generalize (q - 1000000000 * gb) * (t - 1000000000 * ea) = s6 at *
    generalize (t - 1000000000 * ea) * eb = s8 at *
    generalize (r - 1000000000 * eb) * ea = s9 at *
    generalize (t - 1000000000 * ea) * (r - 1000000000 * eb) = s10 at *
    generalize ga * eb - gb * ea = s7 at *
    generalize ea * eb = s11 at *
    grind

theorem fall_pos {yh : Int} {gb eb q r : Rat} (e2 : 5 / 100 ≤ eb) (g3 : 0 ≤ gb) (q1 : -(1 / 1000) ≤ q - 1000000000 * gb) (r1 : -(1 / 500) ≤ r - 1000000000 * eb) (hy : 1000000 * q ≤ (yh : Rat) * r) : 0 ≤ yh := by
  rcases Int.lt_or_le yh 0 with c | c
  · exfalso
    have c' := Rat.intCast_le_intCast.2 (show yh ≤ -1 by omega)
    have c1 : ((-1 : Int) : Rat) = -1 := by decide +kernel
    rw [c1] at c'
    have rp : 49000000 ≤ r := by grind
    have m := Rat.mul_nonneg (show 0 ≤ -1 - (yh : Rat) by grind) (show 0 ≤ r by grind)
    grind
  · exact c

theorem falls {a b : Int} (h1 : -195000000 ≤ a) (h2 : a ≤ b) (h3 : b ≤ 250000000) {xl xh yl yh : Int} (X : Rt xl xh (zc a) (1 + zs a)) (Y : Rt yl yh (zc b) (1 + zs b)) : yl ≤ xh ∧ (10000 ≤ b - a → yh < xl) ∧ 0 ≤ yh := by
  have da := dec_b h1 (show a ≤ 250000000 by omega)
  have db := dec_b (show -195000000 ≤ b by omega) h3
  have K := fall_key (a := a) (d := b - a) h1 (by omega)
  rw [show a + (b - a) = b by omega] at K
  have sd := zs_pos (d := b - a) (by omega) (by omega)
  have pa := z_pyth a
  have pb := z_pyth b
  have za := z_one pa.2
  have zb := z_one pb.2
  have wa := z_one (z := zc a) (w := zs a) (by have := pa.2; grind)
  have wb := z_one (z := zc b) (w := zs b) (by have := pb.2; grind)
  have ep : eps = 1 / 10000000000000 := rfl
  rw [ep] at za zb wa wb
  refine ⟨?_, fun g => ?_, ?_⟩
  · obtain ⟨p, t, p1, p2, t1, t2, _, hx⟩ := X.c
    obtain ⟨q, r, q1, q2, r1, r2, hy, _⟩ := Y.c
    have m := Rat.mul_nonneg (show 0 ≤ 1 + zs a by grind) sd.1
    exact fall_le (by grind) da.2 db.2 (by grind) (by grind) da.1 (by grind) db.1 (by grind) p1 p2 t1 t2 q1 q2 r1 r2 hx hy
  · obtain ⟨p, t, p1, p2, t1, t2, hx⟩ := X.l
    obtain ⟨q, r, q1, q2, r1, r2, hy⟩ := Y.h
    have m := Rat.mul_nonneg (show 0 ≤ 1 + zs a by grind) (show 0 ≤ zs (b - a) - 5 / 100000 by have := sd.2 g; grind)
    exact fall_lt (by grind) da.2 db.2 (by grind) (by grind) da.1 (by grind) db.1 (by grind) p1 p2 t1 t2 q1 q2 r1 r2 hx hy
  · obtain ⟨q, r, q1, q2, r1, r2, _, hy⟩ := Y.c
    exact fall_pos db.2 db.1 q1 r1 hy

theorem astro_works : ∃ k0, ∀ k, k0 ≤ k → ephemeriskeep2_astrolabeWorks.f k = some true :=
  of_mono (k0 := 100) ephemeriskeep2_astrolabeWorks.mono (by decide +kernel)

theorem AstrolabeFalls : ephemeriskeep2_AstrolabeFalls.Pure := by
  intro a0 a1 _ _
  obtain ⟨kw, hw⟩ := astro_works
  refine ⟨kw + 12, ?_⟩
  unfold ephemeriskeep2_AstrolabeFalls.f
  rw [hw _ (by omega), tat_f (by omega) (by omega), tat_f (by omega) (by omega)]
  simp only [Option.bind_some, if_true]
  have e1 : 0 ≤ a0 % 445000001 ∧ a0 % 445000001 < 445000001 := by omega
  have e2 : 0 ≤ a1 % 445000001 ∧ a1 % 445000001 < 445000001 := by omega
  rw [wrap_in (n := a0 % 445000001 - 195000000) (by omega) (by omega), wrap_in (n := a1 % 445000001 - 195000000) (by omega) (by omega)]
  obtain ⟨a, ha⟩ : ∃ a, a0 % 445000001 - 195000000 = a := ⟨_, rfl⟩
  obtain ⟨b, hb⟩ : ∃ b, a1 % 445000001 - 195000000 = b := ⟨_, rfl⟩
  rw [ha, hb]
  have A : -195000000 ≤ a ∧ a ≤ 250000000 := by omega
  have B : -195000000 ≤ b ∧ b ≤ 250000000 := by omega
  obtain ⟨xl, xh, ea, X⟩ := ring_f A.1 A.2
  obtain ⟨yl, yh, eb, Y⟩ := ring_f B.1 B.2
  rw [ea _ (by omega), eb _ (by omega), wrap_in (n := a - b) (by omega) (by omega), wrap_in (n := b - a) (by omega) (by omega)]
  simp only [Option.bind_some, if_true]
  by_cases c : a > b
  · rw [if_pos c]
    obtain ⟨f1, f2, f3⟩ := falls B.1 (by omega) A.2 Y X
    rw [if_pos (show yh ≥ xl from f1)]
    by_cases g : a - b < 10000
    · rw [if_pos g, decide_eq_true (show xh ≥ 0 from f3)]
    · rw [if_neg g, if_pos (show yl > xh from f2 (by omega)), decide_eq_true (show xh ≥ 0 from f3)]
  · rw [if_neg c]
    obtain ⟨f1, f2, f3⟩ := falls A.1 (by omega) B.2 X Y
    rw [if_pos (show xh ≥ yl from f1)]
    by_cases g : b - a < 10000
    · rw [if_pos g, decide_eq_true (show yh ≥ 0 from f3)]
    · rw [if_neg g, if_pos (show xl > yh from f2 (by omega)), decide_eq_true (show yh ≥ 0 from f3)]

end Go.Proofs.Ytigolfomfpmodaa.Pure
