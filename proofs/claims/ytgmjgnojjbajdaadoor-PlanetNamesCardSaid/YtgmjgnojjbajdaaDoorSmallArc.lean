/- trig.Arc over a small box: it is decided, and its ends are near. No condition on a program. -/
import Derived.Test.YtgmjgnojjbajdaaDoorHullLaw
namespace Go.Proofs.YtgmjgnojjbajdaaDoor.JG
open Go.Proofs.YtgmjgnojjbajdaaDoor.Own Go.Proofs.YtgmjgnojjbajdaaDoor.Tp Go.RowKit Go.Proofs.YtgmjgnojjbajdaaDoorW.PrintWords Go.Proofs.YtgmjgnojjbajdaaDoorW.PrintLast

theorem zs_far {d : Int} (h1 : 125000001 ≤ d) (h2 : d ≤ 499998000) : 1 / 100000 ≤ zs d := by
  rcases (by omega : d ≤ 375000000 ∨ 375000001 ≤ d) with c | c
  · have e := (z_q1 h1 c).1
    have b := arc_b (a := d - 250000000) (by omega) (by omega)
    have s := (cn_b b.1 b.2).2.2
    rw [e]; grind
  · have e := (z_q2 (a := d) c (by omega)).1
    have n : arc (d - 500000000) = -(arc (500000000 - d)) := by rw [← arc_neg, Int.neg_sub]
    have b := arc_b (a := 500000000 - d) (by omega) (by omega)
    have m := arc_mono (show 2000 ≤ 500000000 - d by omega)
    have p : 9 / 8 / 100000 ≤ arc 2000 := by decide +kernel
    have s := sn_b (x := arc (500000000 - d)) (by grind) b.2
    rw [e, n, sn_neg]; grind
/-- up to nearly half a turn back the direction lies beyond -/
theorem turn_wide {m y x B : Rat} {a δ : Int} (D : Dr m y x B a) (hm : 9 / 10000000000 ≤ m) (hB : 0 ≤ B) (y0 : -B ≤ y) (y1 : y ≤ B) (x0 : -B ≤ x) (x1 : x ≤ B) (d0 : 0 ≤ δ) (d1 : δ ≤ 499998000) :
    0 ≤ cr y x (a - δ) ∧ cr y x (a + 3 + δ) ≤ 0 := by
  obtain ⟨g1, g2, g3, g4, g5, g6⟩ := D
  have e0 := e0_
  have mB := Rat.mul_nonneg (show 0 ≤ m - 9 / 10000000000 by grind) hB
  obtain ⟨⟨n1, n2⟩, n3, n4⟩ := z_neg δ
  have zb := z_bd δ
  have A := (cr_add y0 y1 x0 x1 a (-δ)).1.1
  have C := (cr_add y0 y1 x0 x1 (a + 3) δ).1.2
  rw [show a + -δ = a - δ by omega] at A
  have eB := Rat.mul_nonneg hB (show 0 ≤ 1 / 10000000000000 - eps by grind)
  have db : ∀ b : Int, -(3 * B) ≤ dt y x b ∧ dt y x b ≤ 3 * B := fun b => by
    have zb := z_bd b
    have m1 := mul_ab (u := x) (v := zc b) (A := B) (B := 3 / 2) x0 x1 (by grind) (by grind)
    have m2 := mul_ab (u := y) (v := zs b) (A := B) (B := 3 / 2) y0 y1 (by grind) (by grind)
    unfold dt
    constructor <;> grind
  have h1 := mul_ab (u := dt y x a) (v := zs (-δ) + zs δ) (A := 3 * B) (B := 4 * eps) (db a).1 (db a).2 n1 n2
  have h2 := mul_ab (u := cr y x a) (v := zc (-δ) - zc δ) (A := B) (B := 4 * eps) (by grind) (by grind) n3 n4
  rcases (by omega : δ ≤ 125000000 ∨ 125000001 ≤ δ) with c | c
  · have o := octz d0 c
    have q1 := Rat.mul_nonneg (show 0 ≤ zs δ by grind) (show 0 ≤ dt y x a by grind)
    have q2 := Rat.mul_nonneg (show 0 ≤ zc δ - 2 / 3 by grind) (show 0 ≤ cr y x a by grind)
    have q3 := Rat.mul_nonneg (show 0 ≤ zs δ by grind) (show 0 ≤ dt y x (a + 3) by grind)
    have q4 := Rat.mul_nonneg (show 0 ≤ zc δ - 2 / 3 by grind) (show 0 ≤ -(cr y x (a + 3)) by grind)
    constructor <;> grind
  · have o := zs_far c d1
    have q1 := Rat.mul_nonneg (show 0 ≤ zs δ - 1 / 100000 by grind) (show 0 ≤ dt y x a by grind)
    have q2 := Rat.mul_nonneg (show 0 ≤ zc δ + (1 + eps) by grind) (show 0 ≤ cr y x a by grind)
    have q3 := Rat.mul_nonneg (show 0 ≤ zs δ - 1 / 100000 by grind) (show 0 ≤ dt y x (a + 3) by grind)
    have q4 := Rat.mul_nonneg (show 0 ≤ zc δ + (1 + eps) by grind) (show 0 ≤ -(cr y x (a + 3)) by grind)
    have q5 := Rat.mul_nonneg e0.1 (show 0 ≤ cr y x a by grind)
    have q6 := Rat.mul_nonneg e0.1 (show 0 ≤ -(cr y x (a + 3)) by grind)
    have q7 := Rat.mul_nonneg (show 0 ≤ 1 - eps by grind) (show 0 ≤ cr y x a by grind)
    have q8 := Rat.mul_nonneg (show 0 ≤ 1 - eps by grind) (show 0 ≤ -(cr y x (a + 3)) by grind)
    constructor <;> grind
/-- two directions that are near -/
theorem near_cr {y x u v : Rat} {E : Rat} (hE : 0 ≤ E) (h1 : -E ≤ y - u) (h2 : y - u ≤ E) (h3 : -E ≤ x - v) (h4 : x - v ≤ E) (b : Int) :
    -(2 * E + E / 1000) ≤ cr y x b - cr u v b ∧ cr y x b - cr u v b ≤ 2 * E + E / 1000 ∧ -(2 * E + E / 1000) ≤ dt y x b - dt u v b ∧ dt y x b - dt u v b ≤ 2 * E + E / 1000 := by
  have z := z_bd b
  have e0 := e0_
  have eE := Rat.mul_nonneg hE (show 0 ≤ 1 / 10000000000000 - eps by grind)
  have m1 := mul_ab (u := y - u) (v := zc b) (A := E) (B := 1 + eps) h1 h2 (by grind) (by grind)
  have m2 := mul_ab (u := x - v) (v := zs b) (A := E) (B := 1 + eps) h3 h4 (by grind) (by grind)
  have m3 := mul_ab (u := y - u) (v := zs b) (A := E) (B := 1 + eps) h1 h2 (by grind) (by grind)
  have m4 := mul_ab (u := x - v) (v := zc b) (A := E) (B := 1 + eps) h3 h4 (by grind) (by grind)
  unfold cr dt
  refine ⟨?_, ?_, ?_, ?_⟩ <;> grind
/-- the direction of a near corner is near -/
theorem near_dir {u v y x : Int} {a d W : Int} {E : Rat} (D0 : DC u v a) (D1 : DC y x d) (hE : 0 ≤ E) (h1 : -E ≤ (y : Rat) - u) (h2 : (y : Rat) - u ≤ E) (h3 : -E ≤ (x : Rat) - v) (h4 : (x : Rat) - v ≤ E)
    (w0 : 2000 ≤ W) (w1 : W ≤ 100000000) (hB : 0 < sz u v) (hW : 12 * E + sz u v / 10000 ≤ sz u v * zs W) (r0 : -500000000 ≤ d - a) (r1 : d - a < 500000000) : -W ≤ d - a ∧ d - a ≤ W := by
  have e0 := e0_
  have b0 := sz_b u v
  have b1 := sz_b y x
  have eB := Rat.mul_nonneg b0.1 (show 0 ≤ 1 / 10000000000000 - eps by grind)
  have o := octz (a := W) (by omega) (by omega)
  obtain ⟨⟨n1, n2⟩, n3, n4⟩ := z_neg W
  have key : ∀ c : Int, -(2 * E + E / 1000) ≤ cr y x c - cr u v c ∧ cr y x c - cr u v c ≤ 2 * E + E / 1000 := fun c => by
    have := near_cr hE h1 h2 h3 h4 c
    exact ⟨this.1, this.2.1⟩
  obtain ⟨g1, g2, g3, g4, g5, g6⟩ := D0
  constructor
  · rcases Int.lt_or_le (d - a) (-W) with c | c
    · exfalso
      have t := (turn_wide (δ := a - W - d) D1 (by grind) b1.1 b1.2.1 b1.2.2.1 b1.2.2.2.1 b1.2.2.2.2 (by omega) (by omega)).2
      rw [show d + 3 + (a - W - d) = a + 3 + -W by omega] at t
      have k := key (a + 3 + -W)
      have A := (cr_add b0.2.1 b0.2.2.1 b0.2.2.2.1 b0.2.2.2.2 (a + 3) (-W)).1.1
      have q1 := mul_ab (u := cr u v (a + 3)) (v := zc (-W)) (A := sz u v / 1000000) (B := 2) (by grind) (by grind) (by grind) (by grind)
      have q2 := Rat.mul_nonneg (show 0 ≤ dt u v (a + 3) - sz u v / 5 by grind) o.2.2.1
      have db : dt u v (a + 3) ≤ 3 * sz u v := by
        have zb := z_bd (a + 3)
        have m1 := mul_ab (u := (v : Rat)) (v := zc (a + 3)) (A := sz u v) (B := 3 / 2) b0.2.2.2.1 b0.2.2.2.2 (by grind) (by grind)
        have m2 := mul_ab (u := (u : Rat)) (v := zs (a + 3)) (A := sz u v) (B := 3 / 2) b0.2.1 b0.2.2.1 (by grind) (by grind)
        unfold dt; grind
      have q3 := mul_ab (u := dt u v (a + 3)) (v := zs (-W) + zs W) (A := 3 * sz u v) (B := 4 * eps) (by grind) db n1 n2
      grind
    · exact c
  · rcases Int.lt_or_le W (d - a) with c | c
    · exfalso
      have t := (turn_wide (δ := d - (a + W)) D1 (by grind) b1.1 b1.2.1 b1.2.2.1 b1.2.2.2.1 b1.2.2.2.2 (by omega) (by omega)).1
      rw [show d - (d - (a + W)) = a + W by omega] at t
      have k := key (a + W)
      have A := (cr_add b0.2.1 b0.2.2.1 b0.2.2.2.1 b0.2.2.2.2 a W).1.2
      have q1 := mul_ab (u := cr u v a) (v := zc W) (A := sz u v / 1000000) (B := 2) (by grind) (by grind) (by grind) (by grind)
      have q2 := Rat.mul_nonneg (show 0 ≤ dt u v a - sz u v / 5 by grind) o.2.2.1
      grind
    · exact c
/-- what Arc finds over a small box -/
theorem arc_small {y0 y1 x0 x1 W : Int} {E : Rat} (g1 : -1000000000000000000 ≤ y0) (g2 : y0 ≤ y1) (g3 : y1 ≤ 1000000000000000000) (g4 : -1000000000000000000 ≤ x0) (g5 : x0 ≤ x1) (g6 : x1 ≤ 1000000000000000000) (hE : 0 ≤ E) (hy : (y1 : Rat) - y0 ≤ E) (hx : (x1 : Rat) - x0 ≤ E)
    (w0 : 2000 ≤ W) (w1 : W ≤ 100000000) (hB : 0 < sz y0 x0) (hW : 12 * E + sz y0 x0 / 10000 ≤ sz y0 x0 * zs W) :
    ∃ lo hi K, (∀ k, K ≤ k → trig_Arc.f k y0 y1 x0 x1 = some (lo, hi, 0)) ∧ 0 ≤ lo ∧ lo < 1000000000 ∧ lo ≤ hi ∧ hi - lo ≤ 2 * W + 3 ∧ Inn y0 x0 (sz y0 x0) lo hi ∧ Inn y0 x1 (sz y0 x1) lo hi ∧ Inn y1 x0 (sz y1 x0) lo hi ∧ Inn y1 x1 (sz y1 x1) lo hi ∧
      (∀ y x : Rat, (y0 : Rat) ≤ y → y ≤ (y1 : Rat) → (x0 : Rat) ≤ x → x ≤ (x1 : Rat) → cr y x lo ≤ sz y0 x0 / 100000 + 3 * E ∧ -(sz y0 x0 / 100000 + 3 * E) ≤ cr y x hi ∧ sz y0 x0 / 5 - 3 * E ≤ dt y x lo ∧ sz y0 x0 / 5 - 3 * E ≤ dt y x hi) := by
  have b0 := sz_b y0 x0
  have zb := z_bd W
  have e0 := e0_
  have Y := Rat.intCast_le_intCast.2 g2
  have X := Rat.intCast_le_intCast.2 g5
  have big : 5 * E ≤ sz y0 x0 := by
    have := Rat.mul_nonneg b0.1 (show 0 ≤ (1 + eps) - zs W by grind)
    have := Rat.mul_nonneg b0.1 (show 0 ≤ 1 - eps by grind)
    grind
  have szd : ∀ y x : Int, -E ≤ (y : Rat) - y0 → (y : Rat) - y0 ≤ E → -E ≤ (x : Rat) - x0 → (x : Rat) - x0 ≤ E → sz y x ≤ sz y0 x0 + 2 * E ∧ sz y0 x0 - 2 * E ≤ sz y x := by
    intro y x h1 h2 h3 h4
    have tri : ∀ p q : Int, -E ≤ (p : Rat) - q → (p : Rat) - q ≤ E → (sg p : Rat) ≤ (sg q : Rat) + E := by
      intro p q k1 k2
      have sp := sg_b p
      have sq := sg_b q
      have r1 : -(sg q : Rat) ≤ (q : Rat) := by rw [← Rat.intCast_neg]; exact Rat.intCast_le_intCast.2 sq.2.1
      have r2 : (q : Rat) ≤ (sg q : Rat) := Rat.intCast_le_intCast.2 sq.2.2.1
      rcases Int.lt_or_le p 0 with k | k
      · rw [sp.2.2.2.1 k, Rat.intCast_neg]; grind
      · rw [sp.2.2.2.2 k]; grind
    have t1 := tri y y0 h1 h2
    have t2 := tri x x0 h3 h4
    have t3 := tri y0 y (by grind) (by grind)
    have t4 := tri x0 x (by grind) (by grind)
    unfold sz
    simp only [Rat.intCast_add]
    constructor <;> grind
  have hz : ¬ (y0 ≤ 0 ∧ 0 ≤ y1 ∧ x0 ≤ 0 ∧ 0 ≤ x1) := by
    rintro ⟨c1, c2, c3, c4⟩
    have k1 := Rat.intCast_le_intCast.2 c1
    have k2 := Rat.intCast_le_intCast.2 c2
    have k3 := Rat.intCast_le_intCast.2 c3
    have k4 := Rat.intCast_le_intCast.2 c4
    have z0 : ((0 : Int) : Rat) = 0 := rfl
    rw [z0] at k1 k2 k3 k4
    have s0 : sz y0 x0 = -(x0 : Rat) + -(y0 : Rat) := by
      have sx := sg_b x0
      have sy := sg_b y0
      have ex : sg x0 = -x0 := by omega
      have ey : sg y0 = -y0 := by omega
      unfold sz
      rw [ex, ey, Rat.intCast_add, Rat.intCast_neg, Rat.intCast_neg]
    grind
  obtain ⟨a, b, c, d, L, H, K, da, db, dc, dd, -, -, rb0, rb1, rc0, rc1, rd0, rd1, hL, hH, f⟩ := arc_raw g1 g2 g3 g4 g5 g6 hz
  have nb := near_dir (W := W) da db hE (by grind) (by grind) (by grind) hx w0 w1 hB hW rb0 rb1
  have nc := near_dir (W := W) da dc hE (by grind) hy (by grind) (by grind) w0 w1 hB hW rc0 rc1
  have nd := near_dir (W := W) da dd hE (by grind) hy (by grind) hx w0 w1 hB hW rd0 rd1
  have l1 : L ≤ a ∧ L ≤ b ∧ L ≤ c ∧ L ≤ d ∧ (L = a ∨ L = b ∨ L = c ∨ L = d) := by rw [hL]; simp only [mn]; omega
  have l2 : a + 3 ≤ H ∧ b + 3 ≤ H ∧ c + 3 ≤ H ∧ d + 3 ≤ H ∧ (H = a + 3 ∨ H = b + 3 ∨ H = c + 3 ∨ H = d + 3) := by rw [hH]; simp only [mx]; omega
  have w : H - L ≤ 2 * W + 3 := by omega
  refine ⟨_, _, K, fun k hk => by rw [f k hk, if_neg (by omega)], by omega, by omega, by omega, by omega, corner da l1.1 l2.1 (by omega), corner db l1.2.1 l2.2.1 (by omega), corner dc l1.2.2.1 l2.2.2.1 (by omega), corner dd l1.2.2.2.1 l2.2.2.2.1 (by omega), ?_⟩
  intro y x hy0 hy1 hx0 hx1
  have dper : ∀ (y x : Rat) (p : Int), dt y x (p % 1000000000) = dt y x p := fun y x p => by unfold dt; rw [(z_mod p).1, (z_mod p).2]
  have eH : (H - L + L % 1000000000) % 1000000000 = H % 1000000000 := by omega
  have ch : cr y x (H - L + L % 1000000000) = cr y x H := by rw [← cr_mod y x (H - L + L % 1000000000), eH, cr_mod]
  have dh : dt y x (H - L + L % 1000000000) = dt y x H := by rw [← dper y x (H - L + L % 1000000000), eH, dper]
  rw [cr_mod, dper, ch, dh]
  have cor : ∀ (u v p : Int), DC u v p → (u = y0 ∨ u = y1) → (v = x0 ∨ v = x1) → cr y x p ≤ sz y0 x0 / 100000 + 3 * E ∧ sz y0 x0 / 5 - 3 * E ≤ dt y x p ∧ -(sz y0 x0 / 100000 + 3 * E) ≤ cr y x (p + 3) ∧ sz y0 x0 / 5 - 3 * E ≤ dt y x (p + 3) := by
    intro u v p hd hu hv
    obtain ⟨q1, q2, q3, q4, q5, q6⟩ := hd
    have bu : -E ≤ y - (u : Rat) ∧ y - (u : Rat) ≤ E ∧ -E ≤ (u : Rat) - y0 ∧ (u : Rat) - y0 ≤ E := by
      rcases hu with h | h <;> rw [h] <;> refine ⟨?_, ?_, ?_, ?_⟩ <;> grind
    have bv : -E ≤ x - (v : Rat) ∧ x - (v : Rat) ≤ E ∧ -E ≤ (v : Rat) - x0 ∧ (v : Rat) - x0 ≤ E := by
      rcases hv with h | h <;> rw [h] <;> refine ⟨?_, ?_, ?_, ?_⟩ <;> grind
    have n1 := near_cr hE bu.1 bu.2.1 bv.1 bv.2.1 p
    have n2 := near_cr hE bu.1 bu.2.1 bv.1 bv.2.1 (p + 3)
    have s := szd u v bu.2.2.1 bu.2.2.2 bv.2.2.1 bv.2.2.2
    have m0 := Rat.mul_nonneg (show 0 ≤ 1 / 1000000000 - 30 * eps by grind) (sz_b u v).1
    refine ⟨?_, ?_, ?_, ?_⟩ <;> grind
  have ka := cor y0 x0 a da (Or.inl rfl) (Or.inl rfl)
  have kb := cor y0 x1 b db (Or.inl rfl) (Or.inr rfl)
  have kc' := cor y1 x0 c dc (Or.inr rfl) (Or.inl rfl)
  have kd := cor y1 x1 d dd (Or.inr rfl) (Or.inr rfl)
  have PL : cr y x L ≤ sz y0 x0 / 100000 + 3 * E ∧ sz y0 x0 / 5 - 3 * E ≤ dt y x L := by
    rcases l1.2.2.2.2 with h | h | h | h <;> rw [h]
    · exact ⟨ka.1, ka.2.1⟩
    · exact ⟨kb.1, kb.2.1⟩
    · exact ⟨kc'.1, kc'.2.1⟩
    · exact ⟨kd.1, kd.2.1⟩
  have PH : -(sz y0 x0 / 100000 + 3 * E) ≤ cr y x H ∧ sz y0 x0 / 5 - 3 * E ≤ dt y x H := by
    rcases l2.2.2.2.2 with h | h | h | h <;> rw [h]
    · exact ka.2.2
    · exact kb.2.2
    · exact kc'.2.2
    · exact kd.2.2
  exact ⟨PL.1, PH.1, PL.2, PH.2⟩
end Go.Proofs.YtgmjgnojjbajdaaDoor.JG
