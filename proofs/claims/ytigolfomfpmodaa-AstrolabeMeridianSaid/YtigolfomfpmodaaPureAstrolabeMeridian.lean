/- The law AstrolabeMeridian: the circle of an altitude passes through the star in the south that has it. No condition. -/
import Derived.Test.YtigolfomfpmodaaJTx2
import Derived.Test.YtigolfomfpmodaaJTx2
import Derived.Test.YtigolfomfpmodaaPureAstrolabeFalls
namespace Go.Proofs.Ytigolfomfpmodaa.Pure
open Go.Proofs.Ytigolfomfpmodaa.JT Go.Proofs.Ytigolfomfpmodaa.Own Go.Proofs.Ytigolfomfpmodaa.Tp Go.Proofs.Ytigolfomfpmodaa.Iv Go.RowKit Go.Proofs.YtigolfomfpmodaaW.PrintWords Go.Proofs.YtigolfomfpmodaaW.PrintLast

theorem z_quarter_c (a : Int) : zc (a + 250000000) = -(zs a) := by
  have e1 : qd (a + 250000000) = qd a + 1 := by unfold qd; omega
  have e2 : dl (a + 250000000) = dl a := by unfold dl; rw [e1]; omega
  have k := k_add (qd a) 1
  have k1 : kc 1 = 0 ∧ ks 1 = 1 := by decide +kernel
  unfold zs zc
  rw [e1, e2, k.1, k.2, k1.1, k1.2]; grind

/-- the ends of a ratio's interval, times the denominator -/
theorem rt_b {lo hi : Int} {g e : Rat} (R : Rt lo hi g e) (g0 : 0 ≤ g) (g1 : g ≤ 11 / 10) (e0 : 5 / 100 ≤ e) :
    -2 ≤ lo ∧ lo ≤ 30000000 ∧ -2 ≤ hi ∧ hi ≤ 30000000 ∧ (lo : Rat) * e ≤ 1000000 * g + 1 / 10000 ∧ 1000000 * g - 1 / 10000 ≤ (hi : Rat) * e := by
  obtain ⟨p, t, p1, p2, t1, t2, hl, hh⟩ := R.c
  obtain ⟨q, r, q1, q2, r1, r2, ql⟩ := R.l
  obtain ⟨x, y, x1, x2, y1, y2, xh⟩ := R.h
  have tp : 49000000 ≤ t := by grind
  have rp : 49000000 ≤ r := by grind
  have yp : 49000000 ≤ y := by grind
  have c2 : ((-2 : Int) : Rat) = -2 := by decide +kernel
  have c3 : ((30000000 : Int) : Rat) = 30000000 := by decide +kernel
  have L : (-2 : Rat) ≤ (lo : Rat) := by
    rcases (Rat.le_total (a := -2) (b := (lo : Rat))) with c | c
    · exact c
    · have m := Rat.mul_nonneg (show 0 ≤ -1 - ((lo : Rat) + 1) by grind) (show 0 ≤ r by grind)
      grind
  have H : (hi : Rat) ≤ 30000000 := by
    rcases (Rat.le_total (a := (hi : Rat)) (b := 30000000)) with c | c
    · exact c
    · have m := Rat.mul_nonneg (show 0 ≤ (hi : Rat) - 30000000 by grind) (show 0 ≤ y by grind)
      grind
  have LH : (lo : Rat) ≤ (hi : Rat) := by
    rcases (Rat.le_total (a := (lo : Rat)) (b := (hi : Rat))) with c | c
    · exact c
    · have a1 : t * (lo : Rat) ≤ t * (hi : Rat) := by grind
      exact div_le (by grind) a1
  have b1 := mul_ab t1 t2 (show -30000000 ≤ (lo : Rat) by grind) (show (lo : Rat) ≤ 30000000 by grind)
  have b2 := mul_ab t1 t2 (show -30000000 ≤ (hi : Rat) by grind) (show (hi : Rat) ≤ 30000000 by grind)
  refine ⟨Rat.intCast_le_intCast.1 (by rw [c2]; exact L), Rat.intCast_le_intCast.1 (by rw [c3]; grind), Rat.intCast_le_intCast.1 (by rw [c2]; grind), Rat.intCast_le_intCast.1 (by rw [c3]; exact H), ?_, ?_⟩
  · have : 1000000000 * ((lo : Rat) * e) ≤ 1000000000 * (1000000 * g + 1 / 10000) := by grind
    exact div_le (by decide +kernel) this
  · have : 1000000000 * (1000000 * g - 1 / 10000) ≤ 1000000000 * ((hi : Rat) * e) := by grind
    exact div_le (by decide +kernel) this

theorem alm_f {a b : Int} (h1 : 60000000 ≤ a) (h2 : a ≤ 160000000) (h3 : 0 ≤ b) (h4 : b ≤ 150000000) : ∃ dl' dh rl rh, (∀ k, 13 ≤ k → astrolabe_Almucantar.f k a b = some (dl', dh, rl, rh, 0)) ∧ Rt dl' dh (zc a) (zs a + zs b) ∧ Rt rl rh (zc b) (zs a + zs b) ∧ 3 / 10 ≤ zs a ∧ 0 ≤ zs b := by
  have pa := z_pyth a
  have pb := z_pyth b
  have za := z_one pa.2
  have zb := z_one pb.2
  have wa := z_one (z := zc a) (w := zs a) (by have := pa.2; grind)
  have wb := z_one (z := zc b) (w := zs b) (by have := pb.2; grind)
  have sb0 := (zs_pos (d := b) h3 (by omega)).1
  have sa0 : 3 / 10 ≤ zs a := by
    rcases (by omega : a ≤ 125000000 ∨ 125000001 ≤ a) with c | c
    · have e := (z_q0 (a := a) (by omega) c).1
      have m := arc_mono h1
      have p : 3 / 10 ≤ 8 / 9 * arc 60000000 := by decide +kernel
      have p0 : 0 ≤ arc 60000000 := by decide +kernel
      have bb := arc_b (a := a) (by omega) c
      have s := sn_b (x := arc a) (by grind) bb.2
      rw [e]; grind
    · have e := (z_q1 (a := a) c (by omega)).1
      have bb := arc_b (a := a - 250000000) (by omega) (by omega)
      have s := (cn_b bb.1 bb.2).2.2
      rw [e]; grind
  have b1 := sv_b (a % 1000000000)
  have b2 := sv_b ((a + 250000000) % 1000000000)
  have b3 := sv_b (b % 1000000000)
  have b4 := sv_b ((b + 250000000) % 1000000000)
  have t1 := sin_tg a
  have t2 := cos_tg a
  have t3 := sin_tg b
  have t4 := cos_tg b
  have n1 := near_pt (sin_in a) b1.1 za.1 za.2
  have n2 := near_pt (cos_in a) b2.1 wa.1 wa.2
  have n3 := near_pt (sin_in b) b3.1 zb.1 zb.2
  have n4 := near_pt (cos_in b) b4.1 wb.1 wb.2
  have s1 : ∀ k, 11 ≤ k → trig_Sin.f k a = some ((sv (a % 1000000000)).1, (sv (a % 1000000000)).2, 0) := fun k hk => sin_f (by omega) (by omega) k hk
  have s2 : ∀ k, 11 ≤ k → trig_Cos.f k a = some ((sv ((a + 250000000) % 1000000000)).1, (sv ((a + 250000000) % 1000000000)).2, 0) := fun k hk => cos_f (by omega) (by omega) k hk
  have s3 : ∀ k, 11 ≤ k → trig_Sin.f k b = some ((sv (b % 1000000000)).1, (sv (b % 1000000000)).2, 0) := fun k hk => sin_f (by omega) (by omega) k hk
  have s4 : ∀ k, 11 ≤ k → trig_Cos.f k b = some ((sv ((b + 250000000) % 1000000000)).1, (sv ((b + 250000000) % 1000000000)).2, 0) := fun k hk => cos_f (by omega) (by omega) k hk
  generalize sv (a % 1000000000) = x at *
  generalize sv ((a + 250000000) % 1000000000) = c at *
  generalize sv (b % 1000000000) = y at *
  generalize sv ((b + 250000000) % 1000000000) = d at *
  have dpos : 0 < x.1 + y.1 := by
    refine pos_int ?_
    rw [Rat.intCast_add]
    unfold Tg at t1 t3
    grind
  have nt : ∃ t : Rat, ((x.1 + y.1 : Int) : Rat) ≤ t ∧ t ≤ ((x.2 + y.2 : Int) : Rat) ∧ -(1 / 500) ≤ t - 1000000000 * (zs a + zs b) ∧ t - 1000000000 * (zs a + zs b) ≤ 1 / 500 := by
    obtain ⟨p, p1, p2, p3, p4⟩ := n1
    obtain ⟨q, q1, q2, q3, q4⟩ := n3
    rw [Rat.intCast_add, Rat.intCast_add]
    exact ⟨p + q, by grind, by grind, by grind, by grind⟩
  have d1 : 1000000000 * (zs a + zs b) - 402 / 100 ≤ ((x.1 + y.1 : Int) : Rat) := by rw [Rat.intCast_add]; unfold Tg at t1 t3; grind
  have d2 : ((x.2 + y.2 : Int) : Rat) ≤ 1000000000 * (zs a + zs b) + 402 / 100 := by rw [Rat.intCast_add]; unfold Tg at t1 t3; grind
  obtain ⟨lo, hi, e1, R1⟩ := ratio_f (c := c) (D := (x.1 + y.1, x.2 + y.2)) (g := zc a) (e := zs a + zs b) ⟨b2.1, b2.2.1, b2.2.2⟩ dpos (by show x.1 + y.1 ≤ x.2 + y.2; omega) (by show x.2 + y.2 ≤ _; omega) t2 d1 d2 n2 nt
  obtain ⟨lo', hi', e2, R2⟩ := ratio_f (c := d) (D := (x.1 + y.1, x.2 + y.2)) (g := zc b) (e := zs a + zs b) ⟨b4.1, b4.2.1, b4.2.2⟩ dpos (by show x.1 + y.1 ≤ x.2 + y.2; omega) (by show x.2 + y.2 ≤ _; omega) t4 d1 d2 n4 nt
  refine ⟨lo, hi, lo', hi', fun k hk => ?_, R1, R2, sa0, sb0⟩
  obtain ⟨k, rfl⟩ : ∃ m, k = m + 2 := ⟨k - 2, by omega⟩
  unfold astrolabe_Almucantar.f
  rw [if_neg (by omega), decide_eq_false (by omega)]
  simp only [astrolabe_Almucantar.j0, Bool.false_eq_true, if_false]
  rw [if_neg (by omega), decide_eq_false (by omega)]
  simp only [astrolabe_Almucantar.j1, Bool.false_eq_true, if_false]
  rw [s1 k (by omega), s2 k (by omega), s3 k (by omega), s4 k (by omega)]
  simp only [Option.bind_some, astrolabe_plus.f]
  rw [wrap_in (n := x.1 + y.1) (by omega) (by omega), wrap_in (n := x.2 + y.2) (by omega) (by omega), e1]
  simp only [Option.bind_some]
  rw [e2]
  rfl

/-- the two ratios are one -/
theorem mer_key (a b : Int) : -(1 / 1000000000) ≤ (zc a + zc b) * (1 - zc (a + b)) - zs (a + b) * (zs a + zs b) ∧ (zc a + zc b) * (1 - zc (a + b)) - zs (a + b) * (zs a + zs b) ≤ 1 / 1000000000 := by
  have ad := z_add a b
  have pa := z_pyth a
  have pb := z_pyth b
  have za := z_one pa.2
  have wa := z_one (z := zc a) (w := zs a) (by have := pa.2; grind)
  have zb := z_one pb.2
  have wb := z_one (z := zc b) (w := zs b) (by have := pb.2; grind)
  have ep : eps = 1 / 10000000000000 := rfl
  rw [ep] at ad pa pb za wa zb wb
  generalize zs (a + b) = S at *
  generalize zc (a + b) = C at *
  generalize zs a = sa at *
  generalize zc a = ca at *
  generalize zs b = sb at *
  generalize zc b = cb at *
  have m1 := mul_ab ad.1.1 ad.1.2 (show -4 ≤ sa + sb by grind) (show sa + sb ≤ 4 by grind)
  have m2 := mul_ab ad.2.1 ad.2.2 (show -4 ≤ ca + cb by grind) (show ca + cb ≤ 4 by grind)
  have m3 := mul_ab (u := sa * sa + ca * ca - 1) (A := 1 / 10000000000000) (by grind) (by grind) (show -2 ≤ cb by grind) (show cb ≤ 2 by grind)
  have m4 := mul_ab (u := sb * sb + cb * cb - 1) (A := 1 / 10000000000000) (by grind) (by grind) (show -2 ≤ ca by grind) (show ca ≤ 2 by grind)
  have e : (ca + cb) * (1 - C) - S * (sa + sb) = (sa * cb + ca * sb - S) * (sa + sb) + (ca * cb - sa * sb - C) * (ca + cb) - (sa * sa + ca * ca - 1) * cb - (sb * sb + cb * cb - 1) * ca := by grind
  rw [e]
  generalize (sa * cb + ca * sb - S) * (sa + sb) = u1 at *
  generalize (ca * cb - sa * sb - C) * (ca + cb) = u2 at *
  generalize (sa * sa + ca * ca - 1) * cb = u3 at *
  generalize (sb * sb + cb * cb - 1) * ca = u4 at *
  clear ad pa pb za wa zb wb e
  constructor <;> grind

theorem mer_le {n m : Int} {g e S E : Rat} (e0 : 3 / 10 ≤ e) (e1 : e ≤ 3) (E0 : 5 / 100 ≤ E) (E1 : E ≤ 3) (K : g * E ≤ S * e + 1 / 1000000000) (hn : (n : Rat) * e ≤ 1000000 * g + 1 / 5000) (hm : 1000000 * S - 1 / 10000 ≤ (m : Rat) * E) : n ≤ m := by
  rcases Int.lt_or_le m n with c | c
  · exfalso
    have c' := Rat.intCast_le_intCast.2 (show m + 1 ≤ n by omega)
    have c1 : ((1 : Int) : Rat) = 1 := by decide +kernel
    rw [Rat.intCast_add, c1] at c'
    have a1 := Rat.mul_nonneg (show 0 ≤ 1000000 * g + 1 / 5000 - (n : Rat) * e by grind) (show 0 ≤ E by grind)
    have a2 := Rat.mul_nonneg (show 0 ≤ (m : Rat) * E - (1000000 * S - 1 / 10000) by grind) (show 0 ≤ e by grind)
    have eE := Rat.mul_nonneg (show 0 ≤ e - 3 / 10 by grind) (show 0 ≤ E - 5 / 100 by grind)
    have a3 := Rat.mul_nonneg (show 0 ≤ (n : Rat) - m - 1 by grind) (Rat.mul_nonneg (show 0 ≤ e by grind) (show 0 ≤ E by grind))
    have low : 15 / 1000 ≤ e * E := by grind
    have key : e * E ≤ 1000000 * (g * E) - 1000000 * (S * e) + 1 / 5000 * E + 1 / 10000 * e := by grind
    clear a1 a2 a3 eE
    generalize e * E = u1 at *
    generalize g * E = u2 at *
    generalize S * e = u3 at *
    grind
  · exact c
theorem mer_ge {n m : Int} {g e S E : Rat} (e0 : 3 / 10 ≤ e) (e1 : e ≤ 3) (E0 : 5 / 100 ≤ E) (E1 : E ≤ 3) (K : S * e ≤ g * E + 1 / 1000000000) (hn : 1000000 * g - 1 / 5000 ≤ (n : Rat) * e) (hm : (m : Rat) * E ≤ 1000000 * S + 1 / 10000) : m ≤ n := by
  rcases Int.lt_or_le n m with c | c
  · exfalso
    have c' := Rat.intCast_le_intCast.2 (show n + 1 ≤ m by omega)
    have c1 : ((1 : Int) : Rat) = 1 := by decide +kernel
    rw [Rat.intCast_add, c1] at c'
    have a1 := Rat.mul_nonneg (show 0 ≤ (n : Rat) * e - (1000000 * g - 1 / 5000) by grind) (show 0 ≤ E by grind)
    have a2 := Rat.mul_nonneg (show 0 ≤ 1000000 * S + 1 / 10000 - (m : Rat) * E by grind) (show 0 ≤ e by grind)
    have eE := Rat.mul_nonneg (show 0 ≤ e - 3 / 10 by grind) (show 0 ≤ E - 5 / 100 by grind)
    have a3 := Rat.mul_nonneg (show 0 ≤ (m : Rat) - n - 1 by grind) (Rat.mul_nonneg (show 0 ≤ e by grind) (show 0 ≤ E by grind))
    have low : 15 / 1000 ≤ e * E := by grind
    have key : e * E ≤ 1000000 * (S * e) - 1000000 * (g * E) + 1 / 5000 * E + 1 / 10000 * e := by grind
    clear a1 a2 a3 eE
    generalize e * E = u1 at *
    generalize g * E = u2 at *
    generalize S * e = u3 at *
    grind
  · exact c

theorem AstrolabeMeridian : ephemeriskeep2_AstrolabeMeridian.Pure := by
  intro a0 a1 _ _
  obtain ⟨kw, hw⟩ := astro_works
  refine ⟨kw + 13, ?_⟩
  unfold ephemeriskeep2_AstrolabeMeridian.f
  rw [hw _ (by omega), tat_f (by omega) (by omega), tat_f (by omega) (by omega)]
  simp only [Option.bind_some, if_true]
  have e1 : 0 ≤ a0 % 100000000 ∧ a0 % 100000000 < 100000000 := by omega
  have e2 : 0 ≤ a1 % 150000000 ∧ a1 % 150000000 < 150000000 := by omega
  rw [wrap_in (n := 60000000 + a0 % 100000000) (by omega) (by omega), wrap_in (n := 60000000 + a0 % 100000000 + a1 % 150000000) (by omega) (by omega), wrap_in (n := 60000000 + a0 % 100000000 + a1 % 150000000 - 250000000) (by omega) (by omega)]
  obtain ⟨a, ha⟩ : ∃ a, 60000000 + a0 % 100000000 = a := ⟨_, rfl⟩
  obtain ⟨b, hb⟩ : ∃ b, a1 % 150000000 = b := ⟨_, rfl⟩
  rw [ha, hb]
  obtain ⟨dl', dh, rl, rh, ea, R1, R2, sa0, sb0⟩ := alm_f (a := a) (b := b) (by omega) (by omega) (by omega) (by omega)
  obtain ⟨xl, xh, eb, X⟩ := ring_f (a := a + b - 250000000) (by omega) (by omega)
  have db := dec_b (a := a + b - 250000000) (by omega) (by omega)
  have c1 : zc (a + b - 250000000) = zs (a + b) := by rw [← z_quarter, Int.sub_add_cancel]
  have c2 : zs (a + b - 250000000) = -(zc (a + b)) := by
    have := z_quarter_c (a + b - 250000000)
    rw [Int.sub_add_cancel] at this; grind
  have da := dec_b (a := a) (by omega) (by omega)
  have dbb := dec_b (a := b) (by omega) (by omega)
  have pa := z_pyth a
  have pb := z_pyth b
  have pc := z_pyth (a + b - 250000000)
  have za := z_one pa.2
  have zb := z_one pb.2
  have zc' := z_one pc.2
  have wa := z_one (z := zc a) (w := zs a) (by have := pa.2; grind)
  have wb := z_one (z := zc b) (w := zs b) (by have := pb.2; grind)
  have wc := z_one (z := zc (a + b - 250000000)) (w := zs (a + b - 250000000)) (by have := pc.2; grind)
  have ep : eps = 1 / 10000000000000 := rfl
  rw [ep] at za zb zc' wa wb wc
  obtain ⟨A1, A2, A3, A4, A5, A6⟩ := rt_b R1 da.1 (by grind) (by grind)
  obtain ⟨B1, B2, B3, B4, B5, B6⟩ := rt_b R2 dbb.1 (by grind) (by grind)
  obtain ⟨X1, X2, X3, X4, X5, X6⟩ := rt_b X db.1 (by grind) db.2
  have mk := mer_key a b
  rw [c1, c2] at X5 X6
  rw [c2] at db
  have mE : (1 : Rat) + -(zc (a + b)) ≤ 3 := by rw [c2] at zc'; grind
  rw [ea _ (by omega), eb _ (by omega)]
  simp only [Option.bind_some, if_true, ephemeriskeep2_plus.f]
  rw [wrap_in (n := dl' + rl) (by omega) (by omega), wrap_in (n := dh + rh) (by omega) (by omega), wrap_in (n := xl - 1) (by omega) (by omega), wrap_in (n := xh + 1) (by omega) (by omega)]
  have le1 : dl' + rl ≤ xh := mer_le (g := zc a + zc b) (e := zs a + zs b) (S := zs (a + b)) (E := 1 + -(zc (a + b))) (by grind) (by grind) db.2 mE (by grind) (by rw [Rat.intCast_add]; grind) X6
  have le2 : xl ≤ dh + rh := mer_ge (g := zc a + zc b) (e := zs a + zs b) (S := zs (a + b)) (E := 1 + -(zc (a + b))) (by grind) (by grind) db.2 mE (by grind) (by rw [Rat.intCast_add]; grind) X5
  unfold ephemeriskeep2_meets.f
  rw [if_pos (by omega), decide_eq_true (by omega)]
  rfl

end Go.Proofs.Ytigolfomfpmodaa.Pure
