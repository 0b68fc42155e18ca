/- dial.Line: where its interval lies. No condition on a program. -/
import Derived.Test.YtmoffcpbmigngaaJDx2
import Derived.Test.YtmoffcpbmigngaaJDx2
import Derived.Test.YtmoffcpbmigngaaSmallArc
import Derived.Test.YtmoffcpbmigngaaUnitLaw
namespace Go.Proofs.Ytmoffcpbmigngaa.JD
open Go.Proofs.Ytmoffcpbmigngaa.Own Go.Proofs.Ytmoffcpbmigngaa.Tp Go.Proofs.Ytmoffcpbmigngaa.Iv Go.RowKit Go.Proofs.YtmoffcpbmigngaaW.PrintWords Go.Proofs.YtmoffcpbmigngaaW.PrintLast

theorem out_f {a : Int} (h1 : -1000000000000000000 ≤ a) (h2 : a ≤ 1000000000000000000) : trig_out.f a = some false := by
  unfold trig_out.f
  rw [if_neg (by omega), decide_eq_false (by omega)]
theorem cos1_f {a : Int} (h1 : -100000000000000000 ≤ a) (h2 : a ≤ 100000000000000000) (k : Nat) (hk : 11 ≤ k) :
    trig_Cos.f k a = some ((sv ((a + 250000000) % 1000000000)).1, (sv ((a + 250000000) % 1000000000)).2, 0) := by
  unfold trig_Cos.f
  rw [out_f (by omega) (by omega), ored_f h1 h2]
  simp only [Option.bind_some, Bool.false_eq_true, if_false]
  rw [wrap_in (n := a % 1000000000 + 250000000) (by omega) (by omega), sin_f (by omega) (by omega) k hk, show (a % 1000000000 + 250000000) % 1000000000 = (a + 250000000) % 1000000000 by omega]
  rfl
theorem sv_w (a : Int) : ((sv (a % 1000000000)).2 : Rat) - ((sv (a % 1000000000)).1 : Rat) ≤ 402 / 100 := by
  have t := sin_tg a
  unfold Tg at t
  grind
/-- which of two ends comes first -/
theorem ord {y x B R e e' : Rat} {p q : Int} (y0 : -B ≤ y) (y1 : y ≤ B) (x0 : -B ≤ x) (x1 : x ≤ B) (hR : 0 < R) (hB : B ≤ 200 * R) (d1 : R ≤ dt y x p) (d2 : R ≤ dt y x q) (c1 : -(R / 2) ≤ cr y x q) (c2 : cr y x q ≤ R / 2) (hpq : p - q ≤ 700000000)
    (e0 : 0 ≤ e') (h1 : -e ≤ cr y x p) (h2 : cr y x q ≤ e') (h3 : e + 2 * e' < R * (3 / 1000000000)) : p ≤ q := by
  rcases Int.lt_or_le q p with c | c
  rotate_left
  · exact c
  exfalso
  have ee := e0_
  have eR := Rat.mul_nonneg (show 0 ≤ R by grind) (show 0 ≤ 1 / 10000000000000 - eps by grind)
  have B0 : 0 ≤ B := by grind
  have eB := Rat.mul_nonneg ee.1 (show 0 ≤ 200 * R - B by grind)
  obtain ⟨⟨a1, a2⟩, a3, a4⟩ := cr_add y0 y1 x0 x1 q (p - q)
  rw [show q + (p - q) = p by omega] at a1 a2 a3 a4
  have z := z_bd (p - q)
  have m1 := mul_ab (u := cr y x q) (v := zs (p - q)) (A := R / 2) (B := 1 + eps) c1 c2 (by grind) (by grind)
  have pos : 0 < zc (p - q) := by
    rcases (Rat.le_total (a := zc (p - q)) (b := 0)) with k | k
    · exfalso
      have := Rat.mul_nonneg (show 0 ≤ dt y x q by grind) (show 0 ≤ -(zc (p - q)) by grind)
      grind
    · rcases (by grind : zc (p - q) = 0 ∨ 0 < zc (p - q)) with k2 | k2
      · exfalso
        rw [k2] at a4
        grind
      · exact k2
  have up := zs_up (b := p - q + 250000000) (by rw [z_quarter]; exact pos)
  have small : p - q < 250000000 := by omega
  have zl := (zs_ge (d := p - q) (by omega) (by omega)).2.1 (by omega) (by omega)
  have m2 := Rat.mul_nonneg (show 0 ≤ dt y x q - R by grind) (show 0 ≤ zs (p - q) by grind)
  have m3 := Rat.mul_nonneg (show 0 ≤ R by grind) (show 0 ≤ zs (p - q) - 5 / 1000000000 by grind)
  have m4 := Rat.mul_nonneg (show 0 ≤ e' - cr y x q by grind) (show 0 ≤ zc (p - q) by grind)
  have m5 := Rat.mul_nonneg e0 (show 0 ≤ 1 + eps - zc (p - q) by grind)
  have m6 := Rat.mul_nonneg e0 (show 0 ≤ 1 - eps by grind)
  grind
/-- the sine of a latitude of a dial -/
theorem zphi {φ : Int} (h1 : 10000000 ≤ φ) (h2 : φ ≤ 220000000) : 55 / 1000 ≤ zs φ ∧ zs φ ≤ 1 + eps := by
  refine ⟨?_, (z_bd φ).2.1⟩
  rcases (by omega : φ ≤ 125000000 ∨ 125000001 ≤ φ) with c | c
  · have e := (z_q0 (a := φ) (by omega) c).1
    have b := arc_b (a := φ) (by omega) c
    have m := arc_mono h1
    have p : 625 / 10000 ≤ arc 10000000 := by decide +kernel
    have s := sn_b (x := arc φ) (by grind) b.2
    rw [e]; grind
  · have e := (z_q1 (a := φ) c (by omega)).1
    have b := arc_b (a := φ - 250000000) (by omega) (by omega)
    have s := (cn_b b.1 b.2).2.2
    rw [e]; grind
/-- the line of an hour: its interval, and a direction in it -/
structure Ln (φ η lo hi : Int) (Y X : Rat) : Prop where
  lo0 : -250020000 ≤ lo
  lo1 : lo ≤ 250020000
  le : lo ≤ hi
  w : hi - lo ≤ 40003
  y0 : -1000000000 ≤ Y
  y1 : Y ≤ 1000000000
  x0 : -1000000000 ≤ X
  x1 : X ≤ 1000000000
  ny0 : -(4 / 1000) ≤ Y - 1000000000 * (zs φ * zs η)
  ny1 : Y - 1000000000 * (zs φ * zs η) ≤ 4 / 1000
  nx0 : -(1 / 1000) ≤ X - 1000000000 * zc η
  nx1 : X - 1000000000 * zc η ≤ 1 / 1000
  cl0 : 0 ≤ cr Y X lo
  cl1 : cr Y X lo ≤ 30000
  ch0 : -30000 ≤ cr Y X hi
  ch1 : cr Y X hi ≤ 0
  dl0 : 10000000 ≤ dt Y X lo
  dh0 : 10000000 ≤ dt Y X hi
def eta (hour : Int) : Int := Int.tdiv ((hour - 12) * 1000000000) 24
theorem num20 : 125 / 1000000 ≤ zs 20000 ∧ 111 / 1000000 ≤ 8 / 9 * arc 20000 := by decide +kernel
theorem zs_mid {d : Int} (h1 : 20000 ≤ d) (h2 : d ≤ 499980000) : 111 / 1000000 ≤ zs d := by
  have n := num20.2
  rcases (by omega : d ≤ 125000000 ∨ (125000001 ≤ d ∧ d ≤ 375000000) ∨ 375000001 ≤ d) with c | c | c
  · have e := (z_q0 (a := d) (by omega) c).1
    have m := arc_mono h1
    have b := arc_b (a := d) (by omega) c
    have z0 : arc 0 = 0 := by decide +kernel
    have m0 := arc_mono (show 0 ≤ d by omega)
    have s := sn_b (x := arc d) (by grind) b.2
    rw [e]; grind
  · have e := (z_q1 c.1 c.2).1
    have b := arc_b (a := d - 250000000) (by omega) (by omega)
    have s := (cn_b b.1 b.2).2.2
    rw [e]; grind
  · have e := (z_q2 (a := d) c (by omega)).1
    have k : arc (d - 500000000) = -(arc (500000000 - d)) := by rw [← arc_neg, Int.neg_sub]
    have b := arc_b (a := 500000000 - d) (by omega) (by omega)
    have m := arc_mono (show 20000 ≤ 500000000 - d by omega)
    have z0 : arc 0 = 0 := by decide +kernel
    have m0 := arc_mono (show 0 ≤ 500000000 - d by omega)
    have s := sn_b (x := arc (500000000 - d)) (by grind) b.2
    rw [e, k, sn_neg]; grind
theorem line_f {φ hour : Int} (h1 : 10000000 ≤ φ) (h2 : φ ≤ 220000000) (h3 : 6 ≤ hour) (h4 : hour ≤ 18) : ∃ lo hi Y X K, (∀ k, K ≤ k → dial_Line.f k φ hour = some (lo, hi, 0)) ∧ Ln φ (eta hour) lo hi Y X := by
  have e0 := e0_
  have ep : eps = 1 / 10000000000000 := rfl
  have hη : -250000000 ≤ eta hour ∧ eta hour ≤ 250000000 := by
    unfold eta
    rcases (by omega : hour = 6 ∨ hour = 7 ∨ hour = 8 ∨ hour = 9 ∨ hour = 10 ∨ hour = 11 ∨ hour = 12 ∨ hour = 13 ∨ hour = 14 ∨ hour = 15 ∨ hour = 16 ∨ hour = 17 ∨ hour = 18) with h | h | h | h | h | h | h | h | h | h | h | h | h <;> subst h <;> decide
  obtain ⟨η, he⟩ : ∃ η, eta hour = η := ⟨_, rfl⟩
  rw [he] at hη ⊢
  obtain ⟨s, hs⟩ : ∃ s, sv (φ % 1000000000) = s := ⟨_, rfl⟩
  obtain ⟨t, ht⟩ : ∃ t, sv (η % 1000000000) = t := ⟨_, rfl⟩
  obtain ⟨c, hc⟩ : ∃ c, sv ((η + 250000000) % 1000000000) = c := ⟨_, rfl⟩
  have sb := sv_b (φ % 1000000000)
  have tb := sv_b (η % 1000000000)
  have cb := sv_b ((η + 250000000) % 1000000000)
  have si := sin_in φ
  have ti := sin_in η
  have ki := cos_in η
  have sw := sv_w φ
  have tw := sv_w η
  have cw := sv_w (η + 250000000)
  rw [hs] at sb si sw
  rw [ht] at tb ti tw
  rw [hc] at cb ki cw
  have zφ := z_bd φ
  have zη := z_bd η
  obtain ⟨p, p1, p2, p3, p4⟩ := near_pt si sb.1 zφ.1 zφ.2.1
  obtain ⟨q, q1, q2, q3, q4⟩ := near_pt ti tb.1 zη.1 zη.2.1
  obtain ⟨X, X1, X2, X3, X4⟩ := near_pt ki cb.1 zη.2.2.1 zη.2.2.2
  obtain ⟨y0, y1, fu, u0, u1, u2, u3⟩ := sunit_f (a := s.1) (b := s.2) (c := t.1) (d := t.2) sb.1 tb.1
  rw [cut1_id (x := s.1) (by omega) (by omega), cut1_id (x := s.2) (by omega) (by omega), cut1_id (x := t.1) (by omega) (by omega), cut1_id (x := t.2) (by omega) (by omega)] at u3
  obtain ⟨U1, U2, U3, U4⟩ := u3 p q p1 p2 q1 q2
  obtain ⟨Y, hY⟩ : ∃ Y, p * q / 1000000000 = Y := ⟨_, rfl⟩
  rw [hY] at U1 U2 U3 U4
  -- the direction
  have NY : -(4 / 1000) ≤ Y - 1000000000 * (zs φ * zs η) ∧ Y - 1000000000 * (zs φ * zs η) ≤ 4 / 1000 := by
    have m1 := mul_ab (u := p - 1000000000 * zs φ) (v := zs η) (A := 1 / 1000) (B := 3 / 2) p3 p4 (by grind) (by grind)
    have m2 := mul_ab (u := q - 1000000000 * zs η) (v := zs φ) (A := 1 / 1000) (B := 3 / 2) q3 q4 (by grind) (by grind)
    have m3 := mul_ab (u := p - 1000000000 * zs φ) (v := q - 1000000000 * zs η) (A := 1 / 1000) (B := 1 / 1000) p3 p4 q3 q4
    have e : p * q = 1000000000000000000 * (zs φ * zs η) + 1000000000 * ((p - 1000000000 * zs φ) * zs η) + 1000000000 * ((q - 1000000000 * zs η) * zs φ) + (p - 1000000000 * zs φ) * (q - 1000000000 * zs η) := by grind
    rw [← hY, e]
    generalize (p - 1000000000 * zs φ) * zs η = t1 at *
    generalize (q - 1000000000 * zs η) * zs φ = t2 at *
    generalize (p - 1000000000 * zs φ) * (q - 1000000000 * zs η) = t3 at *
    generalize zs φ * zs η = t4 at *
    constructor <;> grind
  have YB := ic u0
  have YB' := ic u2
  have CB := ic cb.2.1
  have CB' := ic cb.2.2
  have cN : ((-1000000000 : Int) : Rat) = -1000000000 := by decide +kernel
  have cT : ((1000000000 : Int) : Rat) = 1000000000 := by decide +kernel
  rw [cN] at YB CB
  rw [cT] at YB' CB'
  -- its size
  have zl := (zphi h1 h2).1
  have zc0 : 0 ≤ zc η := by
    have := (zs_ge (d := η + 250000000) (by omega) (by omega)).1
    rwa [z_quarter] at this
  have hsz := sz_r y0 c.1
  have big : 54000000 ≤ sz y0 c.1 := by
    have py := (z_pyth η).1
    have hd : 1 - 2 * eps ≤ zc η + zs η ∨ 1 - 2 * eps ≤ zc η - zs η := by
      rcases (Rat.le_total (a := 0) (b := zs η)) with k | k
      · refine Or.inl (le_sq (by grind) ?_ (by grind))
        have := Rat.mul_nonneg zc0 k
        have := Rat.mul_nonneg e0.1 e0.1
        have := Rat.mul_nonneg e0.1 (show 0 ≤ 1 / 10000000000000 - eps by grind)
        grind
      · refine Or.inr (le_sq (by grind) ?_ (by grind))
        have := Rat.mul_nonneg zc0 (show 0 ≤ -(zs η) by grind)
        have := Rat.mul_nonneg e0.1 e0.1
        have := Rat.mul_nonneg e0.1 (show 0 ≤ 1 / 10000000000000 - eps by grind)
        grind
    have m1 := Rat.mul_nonneg zc0 (show 0 ≤ (1 + eps) - zs φ by have := (zphi h1 h2).2; grind)
    have m2 := Rat.mul_nonneg zc0 e0.1
    have m3 := mul_ab (u := zc η) (v := eps) (A := 3 / 2) (B := 1 / 10000000000000) (by grind) (by grind) (by grind) e0.2
    rcases hd with k | k
    · have m4 := Rat.mul_nonneg (show 0 ≤ zs φ - 55 / 1000 by grind) (show 0 ≤ zc η + zs η by grind)
      grind
    · have m4 := Rat.mul_nonneg (show 0 ≤ zs φ - 55 / 1000 by grind) (show 0 ≤ zc η - zs η by grind)
      grind
  have n20 := num20.1
  have hW : 12 * (19 : Rat) + sz y0 c.1 / 10000 ≤ sz y0 c.1 * zs 20000 := by
    have := Rat.mul_nonneg (show 0 ≤ sz y0 c.1 by grind) (show 0 ≤ zs 20000 - 125 / 1000000 by grind)
    grind
  obtain ⟨lo, hi, K, fa, l0, l1, l2, l3, i1, i2, i3, i4, acc⟩ := arc_small (y0 := y0) (y1 := y1) (x0 := c.1) (x1 := c.2) (W := 20000) (E := 19) (by omega) u1 (by omega) (by omega) cb.1 (by omega) (by decide) (by grind) (by grind) (by omega) (by omega) (by grind) hW
  obtain ⟨A1, A2, A3, A4⟩ := acc Y X U1 U2 X1 X2
  obtain ⟨j1, j2, j3, j4⟩ := inn_box i1 i2 i3 i4 U1 U2 X1 X2
  have szu : sz y0 c.1 ≤ 2000000000 := by
    have a := sg_b y0
    have b := sg_b c.1
    have := ic (show sg c.1 + sg y0 ≤ 2000000000 by omega)
    unfold sz
    have e : ((2000000000 : Int) : Rat) = 2000000000 := by decide +kernel
    rw [e] at this
    exact this
  have cl0 : 0 ≤ cr Y X lo ∧ cr Y X hi ≤ 0 := by
    rcases (Rat.le_total (a := 0) (b := Y + X)) with k | k
    · have := j1.1; have := j1.2; constructor <;> grind
    · have := j4.1; have := j4.2; constructor <;> grind
  have ratio : cr Y X lo ≤ dt Y X lo / 10000 := by grind
  -- the range
  have rg : lo ≤ 250020000 ∨ 749980000 ≤ lo := by
    rcases (by omega : lo ≤ 250020000 ∨ 749980000 ≤ lo ∨ (250020001 ≤ lo ∧ lo ≤ 749979999)) with k | k | k
    · exact Or.inl k
    · exact Or.inr k
    · exfalso
      have e := (z_half (lo - 250000000)).1
      rw [show lo - 250000000 + 500000000 = lo + 250000000 by omega, z_quarter] at e
      have m := zs_mid (d := lo - 250000000) (by omega) (by omega)
      have idn : X * (zs lo * zs lo + zc lo * zc lo) = dt Y X lo * zc lo - cr Y X lo * zs lo := by unfold dt cr; grind
      have py := z_pyth lo
      have z := z_bd lo
      have m1 := Rat.mul_nonneg (show 0 ≤ dt Y X lo by grind) (show 0 ≤ -(zc lo) - 111 / 1000000 by grind)
      have m2 := mul_ab (u := cr Y X lo) (v := zs lo) (A := dt Y X lo / 10000) (B := 1 + eps) (by grind) ratio (by grind) (by grind)
      have m3 := Rat.mul_nonneg (show 0 ≤ X + 1 / 100 by grind) (show 0 ≤ zs lo * zs lo + zc lo * zc lo by grind)
      have m4 := Rat.mul_nonneg (show 0 ≤ dt Y X lo by grind) (show 0 ≤ 1 / 10000000000000 - eps by grind)
      generalize dt Y X lo = D at *
      generalize cr Y X lo * zs lo = F at *
      generalize zs lo * zs lo + zc lo * zc lo = G at *
      grind
  have per : ∀ (b : Int), cr Y X (b - 1000000000) = cr Y X b ∧ dt Y X (b - 1000000000) = dt Y X b := fun b => by
    have := z_per b (-1)
    rw [show b + 1000000000 * -1 = b - 1000000000 by omega] at this
    unfold cr dt
    rw [this.1, this.2]; exact ⟨rfl, rfl⟩
  have F : ∀ k, K + 20 ≤ k → dial_Line.f k φ hour = if lo > 500000000 then some (lo - 1000000000, hi - 1000000000, 0) else some (lo, hi, 0) := by
    intro k hk
    obtain ⟨k, rfl⟩ : ∃ m, k = m + 2 := ⟨k - 2, by omega⟩
    have we : wrap64 (Int.tdiv (wrap64 ((wrap64 (hour - 12)) * 1000000000)) 24) = η := by
      rw [wrap_in (n := hour - 12) (by omega) (by omega), wrap_in (n := (hour - 12) * 1000000000) (by omega) (by omega), show Int.tdiv ((hour - 12) * 1000000000) 24 = η from he, wrap_in (by omega) (by omega)]
    unfold dial_Line.f
    rw [if_neg (by omega)]
    simp only [dial_Line.j0, dial_Line.j1]
    rw [decide_eq_false (show ¬ φ > 220000000 by omega), decide_eq_false (show ¬ hour > 18 by omega)]
    simp only [Bool.false_eq_true, if_false]
    rw [if_neg (show ¬ hour < 6 by omega), sin_f (a := φ) (by omega) (by omega) k (by omega), we, sin_f (a := η) (by omega) (by omega) k (by omega), cos1_f (a := η) (by omega) (by omega) k (by omega), hs, ht, hc]
    simp only [Option.bind_some]
    rw [fu]
    simp only [Option.bind_some]
    rw [fa k (by omega)]
    simp only [Option.bind_some, if_true]
    rw [wrap_in (n := lo - 1000000000) (by omega) (by omega), wrap_in (n := hi - 1000000000) (by omega) (by omega)]
  rcases rg with k | k
  · refine ⟨lo, hi, Y, X, K + 20, fun n hn => by rw [F n hn, if_neg (by omega)], ?_⟩
    exact { lo0 := by omega, lo1 := by omega, le := l2, w := by omega, y0 := by grind, y1 := by grind, x0 := by grind, x1 := by grind, ny0 := NY.1, ny1 := NY.2, nx0 := X3, nx1 := X4, cl0 := cl0.1, cl1 := by grind, ch0 := by grind, ch1 := cl0.2, dl0 := by grind, dh0 := by grind }
  · refine ⟨lo - 1000000000, hi - 1000000000, Y, X, K + 20, fun n hn => by rw [F n hn, if_pos (by omega)], ?_⟩
    have pl := per lo
    have ph := per hi
    exact { lo0 := by omega, lo1 := by omega, le := by omega, w := by omega, y0 := by grind, y1 := by grind, x0 := by grind, x1 := by grind, ny0 := NY.1, ny1 := NY.2, nx0 := X3, nx1 := X4, cl0 := by rw [pl.1]; exact cl0.1, cl1 := by rw [pl.1]; grind, ch0 := by rw [ph.1]; grind, ch1 := by rw [ph.1]; exact cl0.2, dl0 := by rw [pl.2]; grind, dh0 := by rw [ph.2]; grind }
end Go.Proofs.Ytmoffcpbmigngaa.JD
