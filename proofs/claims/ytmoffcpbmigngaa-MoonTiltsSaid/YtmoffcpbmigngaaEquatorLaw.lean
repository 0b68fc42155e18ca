/- sun.Equator: what it computes of a longitude and a small latitude. No condition on a program. -/
import Derived.Test.YtmoffcpbmigngaaJMx1
import Derived.Test.YtmoffcpbmigngaaJMx1
import Derived.Test.YtmoffcpbmigngaaSmallArc
import Derived.Test.YtmoffcpbmigngaaUnitLaw
import Derived.Test.YtmoffcpbmigngaaOverLaw
namespace Go.Proofs.Ytmoffcpbmigngaa.JM
open Go.Proofs.Ytmoffcpbmigngaa.Own Go.Proofs.Ytmoffcpbmigngaa.Tp Go.Proofs.Ytmoffcpbmigngaa.Iv Go.RowKit Go.Proofs.YtmoffcpbmigngaaW.PrintWords Go.Proofs.YtmoffcpbmigngaaW.PrintLast

theorem out_f {a : Int} (h1 : -1000000000000000000 ≤ a) (h2 : a ≤ 1000000000000000000) : trig_out.f a = some false := by
  unfold trig_out.f
  rw [if_neg (by omega), decide_eq_false (by omega)]
theorem cos1_f {a : Int} (h1 : -100000000000000000 ≤ a) (h2 : a ≤ 100000000000000000) (k : Nat) (hk : 11 ≤ k) :
    trig_Cos.f k a = some ((sv ((a + 250000000) % 1000000000)).1, (sv ((a + 250000000) % 1000000000)).2, 0) := by
  unfold trig_Cos.f
  rw [out_f (by omega) (by omega), ored_f h1 h2]
  simp only [Option.bind_some, Bool.false_eq_true, if_false]
  rw [wrap_in (n := a % 1000000000 + 250000000) (by omega) (by omega), sin_f (by omega) (by omega) k hk, show (a % 1000000000 + 250000000) % 1000000000 = (a + 250000000) % 1000000000 by omega]
  rfl
/-- the tilt's sine and cosine -/
theorem tilt : 397770000 ≤ (sv 65109000).1 ∧ (sv 65109000).1 ≤ (sv 65109000).2 ∧ (sv 65109000).2 ≤ 397785000 ∧ (sv 65109000).2 - (sv 65109000).1 ≤ 3 ∧ 917470000 ≤ (sv 315109000).1 ∧ (sv 315109000).1 ≤ (sv 315109000).2 ∧ (sv 315109000).2 ≤ 917490000 ∧ (sv 315109000).2 - (sv 315109000).1 ≤ 3 := by decide +kernel
theorem lip41 : lip 41000 ≤ 26 / 100000 ∧ 80 / 1000 ≤ zs 13000000 := by decide +kernel
theorem so2_w {x y w : Int} (h : x ≤ y) (hw : y - x ≤ w) (w1 : w ≤ 41000) : ((so2 x y).2 : Rat) - ((so2 x y).1 : Rat) ≤ 520010 := by
  have n := so2_near h hw
  have l := lip41.1
  have m := lip_mono w1
  grind
/-- a product's bound -/
theorem prod_b {x y A B M : Int} (h1 : -A ≤ x) (h2 : x ≤ A) (h3 : -B ≤ y) (h4 : y ≤ B) (hM : A * B ≤ M) : -M ≤ x * y ∧ x * y ≤ M := by
  have := abs_mul_le h1 h2 h3 h4
  omega
theorem small_cos {b : Int} (h1 : -16000000 ≤ b) (h2 : b ≤ 16000000) : 99 / 100 ≤ zc b ∧ -(101 / 1000) ≤ zs b ∧ zs b ≤ 101 / 1000 := by
  have e := z_q0 (a := b) (by omega) (by omega)
  have a := arc_b (a := b) (by omega) (by omega)
  have m1 := arc_mono h1
  have m2 := arc_mono h2
  have p : arc 16000000 ≤ 101 / 1000 := by decide +kernel
  have p' : -(101 / 1000) ≤ arc (-16000000) := by decide +kernel
  have c := (cn_b a.1 a.2).1
  have q := Rat.mul_nonneg (show 0 ≤ 101 / 1000 - arc b by grind) (show 0 ≤ 101 / 1000 + arc b by grind)
  rw [e.1, e.2]
  refine ⟨by grind, ?_, ?_⟩
  · rcases (Rat.le_total (a := 0) (b := arc b)) with k | k
    · have := sn_b k a.2; grind
    · have := sn_b (x := -(arc b)) (by grind) (by grind)
      rw [sn_neg] at this; grind
  · rcases (Rat.le_total (a := 0) (b := arc b)) with k | k
    · have := sn_b k a.2; grind
    · have := sn_b (x := -(arc b)) (by grind) (by grind)
      rw [sn_neg] at this; grind
/-- the sum of the sizes of sine and cosine -/
theorem four {s c : Rat} (py : 1 - eps ≤ s * s + c * c) : 1 - 2 * eps ≤ s + c ∨ 1 - 2 * eps ≤ s - c ∨ 1 - 2 * eps ≤ -s + c ∨ 1 - 2 * eps ≤ -s - c := by
  have e0 := e0_
  have sp : ∀ s c : Rat, 0 ≤ s → 0 ≤ c → 1 - eps ≤ s * s + c * c → 1 - 2 * eps ≤ s + c := fun s c hs hc h => by
    refine le_sq (by grind) ?_ (by grind)
    have := Rat.mul_nonneg hs hc
    have := Rat.mul_nonneg e0.1 e0.1
    have := Rat.mul_nonneg e0.1 (show 0 ≤ 1 / 10000000000000 - eps by grind)
    grind
  rcases (Rat.le_total (a := 0) (b := s)) with c1 | c1 <;> rcases (Rat.le_total (a := 0) (b := c)) with c2 | c2
  · exact Or.inl (sp _ _ c1 c2 py)
  · exact Or.inr (Or.inl (by have := sp s (-c) c1 (by grind) (by grind); grind))
  · exact Or.inr (Or.inr (Or.inl (by have := sp (-s) c (by grind) c2 (by grind); grind)))
  · exact Or.inr (Or.inr (Or.inr (by have := sp (-s) (-c) (by grind) (by grind) (by grind); grind)))
/-- the size of what the arc is taken of -/
theorem eq_big {n u v m s c : Rat} (n0 : 989000000 ≤ n) (m0 : -(102000000) ≤ m) (m1 : m ≤ 102000000) (s0 : 0 ≤ s) (s1 : s ≤ 397785000) (c0 : 917470000 ≤ c)
    (hd : 990000000 ≤ u + v ∨ 990000000 ≤ u - v ∨ 990000000 ≤ -u + v ∨ 990000000 ≤ -u - v) :
    855000000 ≤ (n * u / 1000000000 * c / 1000000000 - m * s / 1000000000) + n * v / 1000000000 ∨ 855000000 ≤ (n * u / 1000000000 * c / 1000000000 - m * s / 1000000000) - n * v / 1000000000 ∨ 855000000 ≤ -(n * u / 1000000000 * c / 1000000000 - m * s / 1000000000) + n * v / 1000000000 ∨ 855000000 ≤ -(n * u / 1000000000 * c / 1000000000 - m * s / 1000000000) - n * v / 1000000000 := by
  have wq := mul_ab (u := m) (v := s) (A := 102000000) (B := 397785000) m0 m1 (by grind) s1
  obtain ⟨M, hM⟩ : ∃ M, m * s / 1000000000 = M := ⟨_, rfl⟩
  have Mb : -41000000 ≤ M ∧ M ≤ 41000000 := by rw [← hM]; constructor <;> grind
  have f1 : ∀ t : Rat, 0 ≤ t → 906 / 1000 * t ≤ n * t / 1000000000 * c / 1000000000 := fun t h0 => by
    have a1 := Rat.mul_nonneg (show 0 ≤ n - 989000000 by grind) h0
    have a2 := Rat.mul_nonneg (show 0 ≤ n * t from Rat.mul_nonneg (show 0 ≤ n by grind) h0) (show 0 ≤ c - 917470000 by grind)
    have e : n * t / 1000000000 * c / 1000000000 = n * t * c / 1000000000000000000 := by grind
    have a3 : 989000000 * t ≤ n * t := by grind
    rw [e]
    clear e a1 hd wq hM
    generalize n * t = w at *
    grind
  have f2 : ∀ t : Rat, 0 ≤ t → 906 / 1000 * t ≤ n * t / 1000000000 := fun t h0 => by
    have a1 := Rat.mul_nonneg (show 0 ≤ n - 989000000 by grind) h0
    grind
  have g1 : n * -u / 1000000000 * c / 1000000000 = -(n * u / 1000000000 * c / 1000000000) := by grind
  have g2 : n * -v / 1000000000 = -(n * v / 1000000000) := by grind
  have Up : 0 ≤ u → 906 / 1000 * u ≤ n * u / 1000000000 * c / 1000000000 := fun h => f1 u h
  have Un : u ≤ 0 → n * u / 1000000000 * c / 1000000000 ≤ 906 / 1000 * u := fun h => by have := f1 (-u) (by grind); rw [g1] at this; grind
  have Vp : 0 ≤ v → 906 / 1000 * v ≤ n * v / 1000000000 := fun h => f2 v h
  have Vn : v ≤ 0 → n * v / 1000000000 ≤ 906 / 1000 * v := fun h => by have := f2 (-v) (by grind); rw [g2] at this; grind
  rw [hM]
  clear f1 f2 g1 g2 wq hM
  generalize n * u / 1000000000 * c / 1000000000 = U at *
  generalize n * v / 1000000000 = V at *
  rcases (Rat.le_total (a := 0) (b := u)) with k1 | k1 <;> rcases (Rat.le_total (a := 0) (b := v)) with k2 | k2
  · have := Up k1; have := Vp k2; exact Or.inl (by grind)
  · have := Up k1; have := Vn k2; exact Or.inr (Or.inl (by grind))
  · have := Un k1; have := Vp k2; exact Or.inr (Or.inr (Or.inl (by grind)))
  · have := Un k1; have := Vn k2; exact Or.inr (Or.inr (Or.inr (by grind)))
theorem fin_big {U V M y w x S : Rat} (a1 : U - 2200000 ≤ y) (a2 : y ≤ U) (b1 : M ≤ w) (b2 : w ≤ M + 600000) (c1 : V - 1100000 ≤ x) (c2 : x ≤ V) (r1 : y - w + x ≤ S) (r2 : y - w - x ≤ S) (r3 : -(y - w) + x ≤ S) (r4 : -(y - w) - x ≤ S)
    (g : 855000000 ≤ (U - M) + V ∨ 855000000 ≤ (U - M) - V ∨ 855000000 ≤ -(U - M) + V ∨ 855000000 ≤ -(U - M) - V) : 830000000 ≤ S := by
  rcases g with g | g | g | g
  · grind
  · grind
  · grind
  · grind
set_option maxHeartbeats 1000000 in
/-- what Equator finds -/
theorem equator_f {p q b0 b1 S : Int} (p0 : -10000000000 ≤ p) (pq : p ≤ q) (q1 : q ≤ 10000000000) (pw : q - p ≤ 41000) (h1 : -16000000 ≤ b0) (h2 : b0 ≤ b1) (h3 : b1 ≤ 16000000) (bw : b1 - b0 ≤ 41000) (hS : S ≤ 200000000) (s1 : -S ≤ (so2 b0 b1).1) (s2 : (so2 b0 b1).2 ≤ S) :
    ∃ r0 r1 a b z0 z1 K, (∀ k, K ≤ k → sun_Equator.f k p q b0 b1 = some (r0, r1, mx (-250000000) (a - 1), mn 250000000 (b + 4), 0)) ∧ 0 ≤ r0 ∧ r0 < 1000000000 ∧ r0 ≤ r1 ∧ r1 - r0 ≤ 26000003 ∧ z0 ≤ z1 ∧ -(397785000 + S) ≤ z0 ∧ z1 ≤ 397785000 + S ∧ AsB z0 a ∧ AsB z1 b := by
  have e0 := e0_
  obtain ⟨t1, t2, t3, t4, t5, t6, t7, t8⟩ := tilt
  obtain ⟨s, hs⟩ : ∃ s, sv 65109000 = s := ⟨_, rfl⟩
  obtain ⟨c, hc⟩ : ∃ c, sv 315109000 = c := ⟨_, rfl⟩
  obtain ⟨sl, hsl⟩ : ∃ s, so2 p q = s := ⟨_, rfl⟩
  obtain ⟨cl, hcl⟩ : ∃ s, so2 (p % 1000000000 + 250000000) (q - p + p % 1000000000 + 250000000) = s := ⟨_, rfl⟩
  obtain ⟨sb, hsb⟩ : ∃ s, so2 b0 b1 = s := ⟨_, rfl⟩
  obtain ⟨cb, hcb⟩ : ∃ s, so2 (b0 % 1000000000 + 250000000) (b1 - b0 + b0 % 1000000000 + 250000000) = s := ⟨_, rfl⟩
  have bl := so2_b p q
  have bc := so2_b (p % 1000000000 + 250000000) (q - p + p % 1000000000 + 250000000)
  have bs := so2_b b0 b1
  have bk := so2_b (b0 % 1000000000 + 250000000) (b1 - b0 + b0 % 1000000000 + 250000000)
  have wl := so2_w pq (w := 41000) (by omega) (by omega)
  have wc := so2_w (x := p % 1000000000 + 250000000) (y := q - p + p % 1000000000 + 250000000) (w := 41000) (by omega) (by omega) (by omega)
  have ws := so2_w h2 (w := 41000) (by omega) (by omega)
  have wk := so2_w (x := b0 % 1000000000 + 250000000) (y := b1 - b0 + b0 % 1000000000 + 250000000) (w := 41000) (by omega) (by omega) (by omega)
  have il := (so2_in p q).1
  have ic' := (co2_in p q).1
  have is := (so2_in b0 b1).1
  have ik := (co2_in b0 b1).1
  rw [hs] at t1 t2 t3 t4
  rw [hc] at t5 t6 t7 t8
  rw [hsl] at bl wl il
  rw [hcl] at bc wc ic'
  rw [hsb] at bs ws is s1 s2
  rw [hcb] at bk wk ik
  have zl := z_bd p
  have zb := z_bd b0
  have sc := small_cos h1 (show b0 ≤ 16000000 by omega)
  obtain ⟨u, u1, u2, u3, u4⟩ := near_pt il bl.2.1 zl.1 zl.2.1
  obtain ⟨v, v1, v2, v3, v4⟩ := near_pt ic' bc.2.1 zl.2.2.1 zl.2.2.2
  obtain ⟨m, m1, m2, m3, m4⟩ := near_pt is bs.2.1 zb.1 zb.2.1
  obtain ⟨n, n1, n2, n3, n4⟩ := near_pt ik bk.2.1 zb.2.2.1 zb.2.2.2
  have T1 := ic t1
  have T2 := ic t2
  have T3 := ic t3
  have T4 := ic t4
  have T5 := ic t5
  have T6 := ic t6
  have T7 := ic t7
  have T8 := ic t8
  rw [Rat.intCast_sub] at T4 T8
  have k1 : ((397770000 : Int) : Rat) = 397770000 := by decide +kernel
  have k2 : ((397785000 : Int) : Rat) = 397785000 := by decide +kernel
  have k3 : ((3 : Int) : Rat) = 3 := by decide +kernel
  have k4 : ((917470000 : Int) : Rat) = 917470000 := by decide +kernel
  have k5 : ((917490000 : Int) : Rat) = 917490000 := by decide +kernel
  have cT : ((1000000000 : Int) : Rat) = 1000000000 := by decide +kernel
  have cN : ((-1000000000 : Int) : Rat) = -1000000000 := by decide +kernel
  rw [k1] at T1
  rw [k2] at T3
  rw [k3] at T4 T8
  rw [k4] at T5
  rw [k5] at T7
  -- side
  obtain ⟨i0, i1, fi, i2, i3, i4, i5⟩ := sunit_f (a := cb.1) (b := cb.2) (c := sl.1) (d := sl.2) bk.2.1 bl.2.1
  rw [cut1_id (x := cb.1) (by omega) (by omega), cut1_id (x := cb.2) (by omega) (by omega), cut1_id (x := sl.1) (by omega) (by omega), cut1_id (x := sl.2) (by omega) (by omega)] at i5
  obtain ⟨I1, I2, I3, I4⟩ := i5 n u n1 n2 u1 u2
  obtain ⟨x, hx⟩ : ∃ x, n * u / 1000000000 = x := ⟨_, rfl⟩
  rw [hx] at I1 I2 I3 I4
  -- its products with the tilt
  obtain ⟨j0, j1, fj, j2, j3, j4, -⟩ := sunit_f (a := i0) (b := i1) (c := s.1) (d := s.2) i3 t2
  obtain ⟨o0, o1, fo, o2, o3, o4, -⟩ := sunit_f (a := sb.1) (b := sb.2) (c := c.1) (d := c.2) bs.2.1 t6
  obtain ⟨y0, y1, fy, y2, y3, y4, y5⟩ := sunit_f (a := i0) (b := i1) (c := c.1) (d := c.2) i3 t6
  rw [cut1_id (x := i0) (by omega) (by omega), cut1_id (x := i1) (by omega) (by omega), cut1_id (x := c.1) (by omega) (by omega), cut1_id (x := c.2) (by omega) (by omega)] at y5
  obtain ⟨Y1, Y2, Y3, Y4⟩ := y5 x c.1 I1 I2 (by grind) T6
  obtain ⟨w0, w1, fw, w2, w3, w4, w5⟩ := sunit_f (a := sb.1) (b := sb.2) (c := s.1) (d := s.2) bs.2.1 t2
  rw [cut1_id (x := sb.1) (by omega) (by omega), cut1_id (x := sb.2) (by omega) (by omega), cut1_id (x := s.1) (by omega) (by omega), cut1_id (x := s.2) (by omega) (by omega)] at w5
  obtain ⟨W1, W2, W3, W4⟩ := w5 m s.1 m1 m2 (by grind) T2
  obtain ⟨x0, x1, fx, x2, x3, x4, x5⟩ := sunit_f (a := cb.1) (b := cb.2) (c := cl.1) (d := cl.2) bk.2.1 bc.2.1
  rw [cut1_id (x := cb.1) (by omega) (by omega), cut1_id (x := cb.2) (by omega) (by omega), cut1_id (x := cl.1) (by omega) (by omega), cut1_id (x := cl.2) (by omega) (by omega)] at x5
  obtain ⟨X1, X2, X3, X4⟩ := x5 n v n1 n2 v1 v2
  -- the bounds of the third part
  have zj := sunit_m (M := 397785000) i3 t2 (fun x y hx hy => by
    rw [cut1_id (x := i0) (by omega) (by omega), cut1_id (x := i1) (by omega) (by omega)] at hx
    rw [cut1_id (x := s.1) (by omega) (by omega), cut1_id (x := s.2) (by omega) (by omega)] at hy
    exact prod_b (A := 1000000000) (B := 397785000) (by omega) (by omega) (by omega) (by omega) (by omega)) fj
  have zo := sunit_m (M := S) bs.2.1 t6 (fun x y hx hy => by
    rw [cut1_id (x := sb.1) (by omega) (by omega), cut1_id (x := sb.2) (by omega) (by omega)] at hx
    rw [cut1_id (x := c.1) (by omega) (by omega), cut1_id (x := c.2) (by omega) (by omega)] at hy
    exact prod_b (A := S) (B := 1000000000) (by omega) (by omega) (by omega) (by omega) (by omega)) fo
  obtain ⟨a, b, Ks, fs, ha, hb⟩ := arcsin_f (p := j0 + o0) (q := j1 + o1) (by omega) (by omega) (by omega)
  have cl0 : clp (j0 + o0) = j0 + o0 := by unfold clp; simp only [mx, mn]; omega
  have cl1 : clp (j1 + o1) = j1 + o1 := by unfold clp; simp only [mx, mn]; omega
  rw [cl0] at ha
  rw [cl1] at hb
  -- the other parts: a small box
  have hyw : (((y1 - w0 : Int) : Rat)) - ((y0 - w1 : Int) : Rat) ≤ 5300000 := by rw [Rat.intCast_sub, Rat.intCast_sub]; grind
  have hxw : ((x1 : Int) : Rat) - ((x0 : Int) : Rat) ≤ 5300000 := by grind
  have big : 830000000 ≤ sz (y0 - w1) x0 := by
    have r := sz_r (y0 - w1) x0
    rw [Rat.intCast_sub] at r
    have n990 : 989000000 ≤ n := by grind
    have m101 : -(102000000) ≤ m ∧ m ≤ 102000000 := by constructor <;> grind
    have hd := four (z_pyth p).1
    have hv : ∀ {A : Rat}, 1 - 2 * eps ≤ A → 1000000000 * A ≥ 999000000 := fun h => by grind
    have dd : 990000000 ≤ u + v ∨ 990000000 ≤ u - v ∨ 990000000 ≤ -u + v ∨ 990000000 ≤ -u - v := by
      rcases hd with h | h | h | h
      · exact Or.inl (by have := hv h; grind)
      · exact Or.inr (Or.inl (by have := hv h; grind))
      · exact Or.inr (Or.inr (Or.inl (by have := hv h; grind)))
      · exact Or.inr (Or.inr (Or.inr (by have := hv h; grind)))
    have g := eq_big (s := (s.1 : Rat)) (c := (c.1 : Rat)) n990 m101.1 m101.2 (by grind) (by grind) (by grind) dd
    rw [hx] at g
    have A1 : x * (c.1 : Rat) / 1000000000 - 2200000 ≤ (y0 : Rat) ∧ (y0 : Rat) ≤ x * (c.1 : Rat) / 1000000000 := ⟨by grind, Y1⟩
    have A2 : m * (s.1 : Rat) / 1000000000 ≤ (w1 : Rat) ∧ (w1 : Rat) ≤ m * (s.1 : Rat) / 1000000000 + 600000 := ⟨W2, by grind⟩
    have A3 : n * v / 1000000000 - 1100000 ≤ (x0 : Rat) ∧ (x0 : Rat) ≤ n * v / 1000000000 := ⟨by grind, X1⟩
    exact fin_big A1.1 A1.2 A2.1 A2.2 A3.1 A3.2 r.1 r.2.1 r.2.2.1 r.2.2.2 g
  have hW : 12 * (5300000 : Rat) + sz (y0 - w1) x0 / 10000 ≤ sz (y0 - w1) x0 * zs 13000000 := by
    have := Rat.mul_nonneg (show 0 ≤ sz (y0 - w1) x0 by grind) (show 0 ≤ zs 13000000 - 80 / 1000 by have := lip41.2; grind)
    grind
  obtain ⟨lo, hi, K, fa, l0, l1, l2, l3, -⟩ := arc_small (y0 := y0 - w1) (y1 := y1 - w0) (x0 := x0) (x1 := x1) (W := 13000000) (E := 5300000) (by omega) (by omega) (by omega) (by omega) x3 (by omega) (by decide) hyw hxw (by omega) (by omega) (by grind) hW
  refine ⟨lo, hi, a, b, j0 + o0, j1 + o1, K + Ks + 20, fun k hk => ?_, l0, l1, l2, by omega, by omega, by omega, by omega, ha, hb⟩
  obtain ⟨k, rfl⟩ : ∃ m, k = m + 1 := ⟨k - 1, by omega⟩
  have e1 : (65109000 : Int) % 1000000000 = 65109000 := by decide
  have e2 : (65109000 + 250000000 : Int) % 1000000000 = 315109000 := by decide
  unfold sun_Equator.f
  rw [tcheck_f (by omega) pq (by omega), tcheck_f (by omega) h2 (by omega)]
  simp only [Option.bind_some]
  rw [if_pos ⟨trivial, trivial⟩]
  unfold sun_Equator.g
  rw [if_neg (by omega)]
  simp only [sun_Equator.j0]
  rw [decide_eq_false (show ¬ b1 > 125000000 by omega)]
  simp only [Bool.false_eq_true, if_false]
  rw [sin_f (a := 65109000) (by omega) (by omega) k (by omega), cos1_f (a := 65109000) (by omega) (by omega) k (by omega), e1, e2, hs, hc, so2_f (by omega) pq (by omega) k (by omega), co2_f (by omega) pq (by omega) (by omega) k (by omega), so2_f (by omega) h2 (by omega) k (by omega), co2_f (by omega) h2 (by omega) (by omega) k (by omega), hsl, hcl, hsb, hcb]
  simp only [Option.bind_some]
  rw [fi]
  simp only [Option.bind_some]
  rw [fj, fo]
  simp only [Option.bind_some]
  unfold sun_plus.f sun_less.f
  rw [fy, fw, fx]
  simp only [Option.bind_some]
  rw [wrap_in (n := j0 + o0) (by omega) (by omega), wrap_in (n := j1 + o1) (by omega) (by omega), wrap_in (n := y0 - w1) (by omega) (by omega), wrap_in (n := y1 - w0) (by omega) (by omega), fa k (by omega)]
  simp only [Option.bind_some, if_true]
  rw [fs k (by omega)]
  rfl
end Go.Proofs.Ytmoffcpbmigngaa.JM
