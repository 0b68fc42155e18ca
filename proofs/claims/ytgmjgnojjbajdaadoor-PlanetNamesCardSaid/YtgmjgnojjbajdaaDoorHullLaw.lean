/- What trig.Arc finds. No condition on a program. -/
import Derived.Test.YtgmjgnojjbajdaaDoorJGx1
import Derived.Test.YtgmjgnojjbajdaaDoorAsinLaw
namespace Go.Proofs.YtgmjgnojjbajdaaDoor.JG
open Go.Proofs.YtgmjgnojjbajdaaDoor.Own Go.Proofs.YtgmjgnojjbajdaaDoor.Tp Go.RowKit Go.Proofs.YtgmjgnojjbajdaaDoorW.PrintWords Go.Proofs.YtgmjgnojjbajdaaDoorW.PrintLast

theorem Dr_per {m y x B : Rat} {a : Int} (h : Dr m y x B a) (k : Int) : Dr m y x B (a - k * 1000000000) := by
  have p : ∀ b : Int, zs (b - k * 1000000000) = zs b ∧ zc (b - k * 1000000000) = zc b := fun b => by
    have := z_per b (-k)
    rwa [show b + 1000000000 * -k = b - k * 1000000000 by omega] at this
  have e1 : ∀ b : Int, cr y x (b - k * 1000000000) = cr y x b := fun b => by unfold cr; rw [(p b).1, (p b).2]
  have e2 : ∀ b : Int, dt y x (b - k * 1000000000) = dt y x b := fun b => by unfold dt; rw [(p b).1, (p b).2]
  unfold Dr at *
  rw [show a - k * 1000000000 + 3 = a + 3 - k * 1000000000 by omega, e1, e1, e2, e2]
  exact h
theorem zs_wide {d : Int} (h1 : 125000001 ≤ d) (h2 : d ≤ 400000000) : 1 / 2 ≤ zs d := by
  rcases (by omega : d ≤ 375000000 ∨ 375000001 ≤ d) with c | c
  · have e := (z_q1 h1 c).1
    have b := arc_b (a := d - 250000000) (by omega) (by omega)
    have s := (cn_b b.1 b.2).2.2
    rw [e]; grind
  · have e := (z_q2 (a := d) c (by omega)).1
    have n : arc (d - 500000000) = -(arc (500000000 - d)) := by rw [← arc_neg, Int.neg_sub]
    have b := arc_b (a := 500000000 - d) (by omega) (by omega)
    have m := arc_mono (show 100000000 ≤ 500000000 - d by omega)
    have p : 5 / 8 ≤ arc 100000000 := by decide +kernel
    have s := sn_b (x := arc (500000000 - d)) (by grind) b.2
    rw [e, n, sn_neg]; grind
theorem z_bd (a : Int) : -(1 + eps) ≤ zs a ∧ zs a ≤ 1 + eps ∧ -(1 + eps) ≤ zc a ∧ zc a ≤ 1 + eps := by
  have p := (z_pyth a).2
  have o1 := z_one (z := zs a) (w := zc a) p
  have o2 := z_one (z := zc a) (w := zs a) (by grind)
  exact ⟨o1.1, o1.2, o2.1, o2.2⟩
/-- farther back the direction lies farther beyond -/
theorem turn_back {m y x B : Rat} {a δ : Int} (D : Dr m y x B a) (hm : 9 / 10000000000 ≤ m) (hB : 0 ≤ B) (y0 : -B ≤ y) (y1 : y ≤ B) (x0 : -B ≤ x) (x1 : x ≤ B) (d0 : 0 ≤ δ) (d1 : δ ≤ 400000000) :
    B / 3000000000 ≤ cr y x (a - δ) ∧ cr y x (a + 3 + δ) ≤ -(B / 3000000000) := by
  obtain ⟨g1, g2, g3, g4, g5, g6⟩ := D
  have e0 := e0_
  have mB := Rat.mul_nonneg (show 0 ≤ m - 9 / 10000000000 by grind) hB
  obtain ⟨⟨n1, n2⟩, n3, n4⟩ := z_neg δ
  have zb := z_bd δ
  have za := z_bd a
  have zz := z_bd (a + 3)
  have A := (cr_add y0 y1 x0 x1 a (-δ)).1.1
  have C := (cr_add y0 y1 x0 x1 (a + 3) δ).1.2
  rw [show a + -δ = a - δ by omega] at A
  have eB := Rat.mul_nonneg hB (show 0 ≤ 1 / 10000000000000 - eps by grind)
  have db : ∀ b : Int, -(3 * B) ≤ dt y x b ∧ dt y x b ≤ 3 * B := fun b => by
    have zb := z_bd b
    have m1 := mul_ab (u := x) (v := zc b) (A := B) (B := 3 / 2) x0 x1 (by grind) (by grind)
    have m2 := mul_ab (u := y) (v := zs b) (A := B) (B := 3 / 2) y0 y1 (by grind) (by grind)
    unfold dt
    constructor <;> grind
  have h1 := mul_ab (u := dt y x a) (v := zs (-δ) + zs δ) (A := 3 * B) (B := 4 * eps) (db a).1 (db a).2 n1 n2
  have h2 := mul_ab (u := cr y x a) (v := zc (-δ) - zc δ) (A := B) (B := 4 * eps) (by grind) (by grind) n3 n4
  have A' : B / 3000000000 ≤ cr y x (a - δ) ↔ B / 3000000000 ≤ cr y x (a - δ) := Iff.rfl
  rcases (by omega : δ ≤ 125000000 ∨ 125000001 ≤ δ) with c | c
  · have o := octz d0 c
    have q1 := Rat.mul_nonneg (show 0 ≤ zs δ by grind) (show 0 ≤ dt y x a by grind)
    have q2 := Rat.mul_nonneg (show 0 ≤ zc δ - 2 / 3 by grind) (show 0 ≤ cr y x a by grind)
    have q3 := Rat.mul_nonneg (show 0 ≤ zs δ by grind) (show 0 ≤ dt y x (a + 3) by grind)
    have q4 := Rat.mul_nonneg (show 0 ≤ zc δ - 2 / 3 by grind) (show 0 ≤ -(cr y x (a + 3)) by grind)
    constructor <;> grind
  · have o := zs_wide c d1
    have q1 := Rat.mul_nonneg (show 0 ≤ zs δ - 1 / 2 by grind) (show 0 ≤ dt y x a by grind)
    have q2 := Rat.mul_nonneg (show 0 ≤ zc δ + 2 by grind) (show 0 ≤ cr y x a by grind)
    have q3 := Rat.mul_nonneg (show 0 ≤ zs δ - 1 / 2 by grind) (show 0 ≤ dt y x (a + 3) by grind)
    have q4 := Rat.mul_nonneg (show 0 ≤ zc δ + 2 by grind) (show 0 ≤ -(cr y x (a + 3)) by grind)
    constructor <;> grind
theorem stp_f {y x f0 a : Int} {s : Int × Int} {K : Nat} (f : ∀ k, K ≤ k → trig_direction.f k y x = some (a, a + 3)) (a0 : -500000001 ≤ a) (a1 : a ≤ 499999998) (b0 : -500000001 ≤ f0) (b1 : f0 ≤ 499999998) :
    ∃ q : Int, -2 ≤ q ∧ q ≤ 2 ∧ -500000000 ≤ a - q * 1000000000 - f0 ∧ a - q * 1000000000 - f0 < 500000000 ∧ ∀ k, K ≤ k → trig_Arc.stp k y x f0 s = some (mn s.1 (a - q * 1000000000), mx s.2 (a - q * 1000000000 + 3)) := by
  refine ⟨(a - f0 + 500000000) / 1000000000, by omega, by omega, by omega, by omega, fun k hk => ?_⟩
  unfold trig_Arc.stp
  rw [f k hk]
  simp only [Option.bind_some]
  rw [wrap_in (n := a - f0) (by omega) (by omega), wrap_in (n := a - f0 + 500000000) (by omega) (by omega), sfloor_ (by omega) (by omega) (by omega) (by omega)]
  simp only [Option.bind_some]
  rw [wrap_in (n := (a - f0 + 500000000) / 1000000000 * 1000000000) (by omega) (by omega), wrap_in (n := a - (a - f0 + 500000000) / 1000000000 * 1000000000) (by omega) (by omega), wrap_in (n := a + 3 - (a - f0 + 500000000) / 1000000000 * 1000000000) (by omega) (by omega),
    show a + 3 - (a - f0 + 500000000) / 1000000000 * 1000000000 = a - (a - f0 + 500000000) / 1000000000 * 1000000000 + 3 by omega]
/-- a corner's direction -/
abbrev DC (y x a : Int) : Prop := Dr (1 / 1000000000 - 30 * eps) y x (sz y x) a
/-- what Arc finds, corner by corner -/
theorem arc_raw {y0 y1 x0 x1 : Int} (g1 : -1000000000000000000 ≤ y0) (g2 : y0 ≤ y1) (g3 : y1 ≤ 1000000000000000000) (g4 : -1000000000000000000 ≤ x0) (g5 : x0 ≤ x1) (g6 : x1 ≤ 1000000000000000000) (hz : ¬ (y0 ≤ 0 ∧ 0 ≤ y1 ∧ x0 ≤ 0 ∧ 0 ≤ x1)) :
    ∃ a b c d L H K, DC y0 x0 a ∧ DC y0 x1 b ∧ DC y1 x0 c ∧ DC y1 x1 d ∧ -500000001 ≤ a ∧ a ≤ 499999998 ∧ -500000000 ≤ b - a ∧ b - a < 500000000 ∧ -500000000 ≤ c - a ∧ c - a < 500000000 ∧ -500000000 ≤ d - a ∧ d - a < 500000000 ∧
      L = mn (mn (mn a b) c) d ∧ H = mx (mx (mx (a + 3) (b + 3)) (c + 3)) (d + 3) ∧
      ∀ k, K ≤ k → trig_Arc.f k y0 y1 x0 x1 = if 400000000 < H - L then some (0, 0, 11) else some (L % 1000000000, H - L + L % 1000000000, 0) := by
  obtain ⟨a, Ka, fa, da, a0, a1, -, -⟩ := direction_f (y := y0) (x := x0) (by omega) (by omega) (by omega) (by omega) (by omega)
  obtain ⟨b, Kb, fb, db, b0, b1, -, -⟩ := direction_f (y := y0) (x := x1) (by omega) (by omega) (by omega) (by omega) (by omega)
  obtain ⟨c, Kc, fc, dc, c0, c1, -, -⟩ := direction_f (y := y1) (x := x0) (by omega) (by omega) (by omega) (by omega) (by omega)
  obtain ⟨d, Kd, fd, dd, d0, d1, -, -⟩ := direction_f (y := y1) (x := x1) (by omega) (by omega) (by omega) (by omega) (by omega)
  obtain ⟨qb, B1, B2, B3, B4, fb⟩ := stp_f (f0 := a) (s := (a, a + 3)) fb b0 b1 a0 a1
  obtain ⟨qc, C1, C2, C3, C4, fc⟩ := stp_f (f0 := a) (s := (mn a (b - qb * 1000000000), mx (a + 3) (b - qb * 1000000000 + 3))) fc c0 c1 a0 a1
  obtain ⟨qd, D1, D2, D3, D4, fd⟩ := stp_f (f0 := a) (s := (mn (mn a (b - qb * 1000000000)) (c - qc * 1000000000), mx (mx (a + 3) (b - qb * 1000000000 + 3)) (c - qc * 1000000000 + 3))) fd d0 d1 a0 a1
  refine ⟨a, b - qb * 1000000000, c - qc * 1000000000, d - qd * 1000000000, _, _, Ka + Kb + Kc + Kd, da, Dr_per db qb, Dr_per dc qc, Dr_per dd qd, a0, a1, by omega, by omega, by omega, by omega, by omega, by omega, rfl, rfl, fun k hk => ?_⟩
  unfold trig_Arc.f
  rw [if_pos ⟨⟨by omega, by omega⟩, g2, ⟨by omega, by omega⟩, ⟨by omega, by omega⟩, g5, ⟨by omega, by omega⟩⟩, if_neg hz, fa k (by omega)]
  simp only [Option.bind_some]
  rw [fb k (by omega)]
  simp only [Option.bind_some]
  rw [fc k (by omega)]
  simp only [Option.bind_some]
  rw [fd k (by omega)]
  simp only [Option.bind_some]
  have LB : -1100000000 ≤ mn (mn (mn a (b - qb * 1000000000)) (c - qc * 1000000000)) (d - qd * 1000000000) ∧ mn (mn (mn a (b - qb * 1000000000)) (c - qc * 1000000000)) (d - qd * 1000000000) ≤ 600000000 := by simp only [mn]; omega
  have HB : -600000000 ≤ mx (mx (mx (a + 3) (b - qb * 1000000000 + 3)) (c - qc * 1000000000 + 3)) (d - qd * 1000000000 + 3) ∧ mx (mx (mx (a + 3) (b - qb * 1000000000 + 3)) (c - qc * 1000000000 + 3)) (d - qd * 1000000000 + 3) ≤ 1100000000 := by simp only [mx]; omega
  generalize mn (mn (mn a (b - qb * 1000000000)) (c - qc * 1000000000)) (d - qd * 1000000000) = L at *
  generalize mx (mx (mx (a + 3) (b - qb * 1000000000 + 3)) (c - qc * 1000000000 + 3)) (d - qd * 1000000000 + 3) = H at *
  rw [wrap_in (n := H - L) (by omega) (by omega)]
  by_cases w : 400000000 < H - L
  · rw [if_pos w, if_pos w]
  · rw [if_neg w, if_neg w, sfloor_ (by omega) (by omega) (by omega) (by omega)]
    simp only [Option.bind_some]
    rw [wrap_in (n := L / 1000000000 * 1000000000) (by omega) (by omega), wrap_in (n := L - L / 1000000000 * 1000000000) (by omega) (by omega), wrap_in (n := H - L / 1000000000 * 1000000000) (by omega) (by omega), show L - L / 1000000000 * 1000000000 = L % 1000000000 by omega, show H - L / 1000000000 * 1000000000 = H - L + L % 1000000000 by omega]
/-- an interval that a direction lies in -/
def Inn (y x B : Rat) (lo hi : Int) : Prop := B / 3000000000 ≤ cr y x lo ∧ cr y x hi ≤ -(B / 3000000000)
theorem cr_mod (y x : Rat) (a : Int) : cr y x (a % 1000000000) = cr y x a := by unfold cr; rw [(z_mod a).1, (z_mod a).2]
theorem cr_per (y x : Rat) (a k : Int) : cr y x (a + 1000000000 * k) = cr y x a := by unfold cr; rw [(z_per a k).1, (z_per a k).2]
theorem corner {y x a L H : Int} (d : DC y x a) (h1 : L ≤ a) (h2 : a + 3 ≤ H) (h3 : H - L ≤ 400000000) : Inn y x (sz y x) (L % 1000000000) (H - L + L % 1000000000) := by
  have b := sz_b y x
  have t1 := turn_back (δ := a - L) d (by have := e0_; grind) b.1 b.2.1 b.2.2.1 b.2.2.2.1 b.2.2.2.2 (by omega) (by omega)
  have t2 := turn_back (δ := H - (a + 3)) d (by have := e0_; grind) b.1 b.2.1 b.2.2.1 b.2.2.2.1 b.2.2.2.2 (by omega) (by omega)
  rw [show a - (a - L) = L by omega] at t1
  rw [show a + 3 + (H - (a + 3)) = H by omega] at t2
  refine ⟨?_, ?_⟩
  · rw [cr_mod]; exact t1.1
  · have := cr_per y x H (-(L / 1000000000))
    rw [show H + 1000000000 * -(L / 1000000000) = H - L + L % 1000000000 by omega] at this
    rw [this]; exact t2.2
/-- what Arc finds -/
theorem arc_f {y0 y1 x0 x1 : Int} (g1 : -1000000000000000000 ≤ y0) (g2 : y0 ≤ y1) (g3 : y1 ≤ 1000000000000000000) (g4 : -1000000000000000000 ≤ x0) (g5 : x0 ≤ x1) (g6 : x1 ≤ 1000000000000000000) :
    ∃ lo hi e K, (∀ k, K ≤ k → trig_Arc.f k y0 y1 x0 x1 = some (lo, hi, e)) ∧ (e = 11 ∨ e = 0 ∧ 0 ≤ lo ∧ lo < 1000000000 ∧ lo ≤ hi ∧ hi - lo ≤ 400000000 ∧ Inn y0 x0 (sz y0 x0) lo hi ∧ Inn y0 x1 (sz y0 x1) lo hi ∧ Inn y1 x0 (sz y1 x0) lo hi ∧ Inn y1 x1 (sz y1 x1) lo hi) := by
  by_cases hz : y0 ≤ 0 ∧ 0 ≤ y1 ∧ x0 ≤ 0 ∧ 0 ≤ x1
  · refine ⟨0, 0, 11, 0, fun k _ => ?_, Or.inl rfl⟩
    unfold trig_Arc.f
    rw [if_pos ⟨⟨by omega, by omega⟩, g2, ⟨by omega, by omega⟩, ⟨by omega, by omega⟩, g5, ⟨by omega, by omega⟩⟩, if_pos hz]
  · obtain ⟨a, b, c, d, L, H, K, da, db, dc, dd, -, -, -, -, -, -, -, -, hL, hH, f⟩ := arc_raw g1 g2 g3 g4 g5 g6 hz
    by_cases w : 400000000 < H - L
    · exact ⟨0, 0, 11, K, fun k hk => by rw [f k hk, if_pos w], Or.inl rfl⟩
    · have l1 : L ≤ a ∧ L ≤ b ∧ L ≤ c ∧ L ≤ d := by rw [hL]; simp only [mn]; omega
      have l2 : a + 3 ≤ H ∧ b + 3 ≤ H ∧ c + 3 ≤ H ∧ d + 3 ≤ H := by rw [hH]; simp only [mx]; omega
      exact ⟨_, _, 0, K, fun k hk => by rw [f k hk, if_neg w], Or.inr ⟨rfl, by omega, by omega, by omega, by omega, corner da l1.1 l2.1 (by omega), corner db l1.2.1 l2.2.1 (by omega), corner dc l1.2.2.1 l2.2.2.1 (by omega), corner dd l1.2.2.2 l2.2.2.2 (by omega)⟩⟩

/-- a linear function that is not negative at the corners of a box is not negative in it -/
theorem box_pos {A B C a b c d y x : Rat} (y0 : a ≤ y) (y1 : y ≤ b) (x0 : c ≤ x) (x1 : x ≤ d) (h1 : 0 ≤ A * a + B * c + C) (h2 : 0 ≤ A * a + B * d + C) (h3 : 0 ≤ A * b + B * c + C) (h4 : 0 ≤ A * b + B * d + C) : 0 ≤ A * y + B * x + C := by
  have l : ∀ {P Q p q t : Rat}, p ≤ t → t ≤ q → 0 ≤ P * p + Q → 0 ≤ P * q + Q → 0 ≤ P * t + Q := by
    intro P Q p q t t0 t1 g1 g2
    rcases (Rat.le_total (a := 0) (b := P)) with k | k
    · have := Rat.mul_nonneg k (show 0 ≤ t - p by grind); grind
    · have := Rat.mul_nonneg (show 0 ≤ -P by grind) (show 0 ≤ q - t by grind); grind
  have e1 := l (P := A) (Q := B * c + C) y0 y1 (by grind) (by grind)
  have e2 := l (P := A) (Q := B * d + C) y0 y1 (by grind) (by grind)
  have e3 := l (P := B) (Q := A * y + C) x0 x1 (by grind) (by grind)
  grind
theorem sz_r (y x : Int) : (y : Rat) + (x : Rat) ≤ sz y x ∧ (y : Rat) - (x : Rat) ≤ sz y x ∧ -(y : Rat) + (x : Rat) ≤ sz y x ∧ -(y : Rat) - (x : Rat) ≤ sz y x := by
  have a := sg_b x
  have b := sg_b y
  have e : sz y x = (sg x : Rat) + (sg y : Rat) := by unfold sz; rw [Rat.intCast_add]
  have a1 : -(sg x : Rat) ≤ (x : Rat) := by rw [← Rat.intCast_neg]; exact Rat.intCast_le_intCast.2 a.2.1
  have a2 : (x : Rat) ≤ (sg x : Rat) := Rat.intCast_le_intCast.2 a.2.2.1
  have b1 : -(sg y : Rat) ≤ (y : Rat) := by rw [← Rat.intCast_neg]; exact Rat.intCast_le_intCast.2 b.2.1
  have b2 : (y : Rat) ≤ (sg y : Rat) := Rat.intCast_le_intCast.2 b.2.2.1
  rw [e]
  refine ⟨?_, ?_, ?_, ?_⟩ <;> grind
/-- what holds of the corners of a box holds in it -/
theorem inn_box {y0 y1 x0 x1 lo hi : Int} (i1 : Inn y0 x0 (sz y0 x0) lo hi) (i2 : Inn y0 x1 (sz y0 x1) lo hi) (i3 : Inn y1 x0 (sz y1 x0) lo hi) (i4 : Inn y1 x1 (sz y1 x1) lo hi) {y x : Rat} (h1 : (y0 : Rat) ≤ y) (h2 : y ≤ (y1 : Rat)) (h3 : (x0 : Rat) ≤ x) (h4 : x ≤ (x1 : Rat)) :
    Inn y x (y + x) lo hi ∧ Inn y x (y - x) lo hi ∧ Inn y x (-y + x) lo hi ∧ Inn y x (-y - x) lo hi := by
  have s1 := sz_r y0 x0
  have s2 := sz_r y0 x1
  have s3 := sz_r y1 x0
  have s4 := sz_r y1 x1
  have key : ∀ σ τ : Rat, (∀ u v : Int, ((u : Rat) + (v : Rat) ≤ sz u v ∧ (u : Rat) - (v : Rat) ≤ sz u v ∧ -(u : Rat) + (v : Rat) ≤ sz u v ∧ -(u : Rat) - (v : Rat) ≤ sz u v) → σ * (u : Rat) + τ * (v : Rat) ≤ sz u v) → Inn y x (σ * y + τ * x) lo hi := by
    intro σ τ hs
    have t1 := hs y0 x0 s1
    have t2 := hs y0 x1 s2
    have t3 := hs y1 x0 s3
    have t4 := hs y1 x1 s4
    unfold Inn cr at *
    constructor
    · have := box_pos (A := zc lo - σ / 3000000000) (B := -(zs lo) - τ / 3000000000) (C := 0) h1 h2 h3 h4 (by grind) (by grind) (by grind) (by grind)
      grind
    · have := box_pos (A := -(zc hi) - σ / 3000000000) (B := zs hi - τ / 3000000000) (C := 0) h1 h2 h3 h4 (by grind) (by grind) (by grind) (by grind)
      grind
  have k1 := key 1 1 (fun u v h => by grind)
  have k2 := key 1 (-1) (fun u v h => by grind)
  have k3 := key (-1) 1 (fun u v h => by grind)
  have k4 := key (-1) (-1) (fun u v h => by grind)
  refine ⟨?_, ?_, ?_, ?_⟩
  · rw [show 1 * y + 1 * x = y + x by grind] at k1; exact k1
  · rw [show 1 * y + -1 * x = y - x by grind] at k2; exact k2
  · rw [show -1 * y + 1 * x = -y + x by grind] at k3; exact k3
  · rw [show -1 * y + -1 * x = -y - x by grind] at k4; exact k4
/-- a direction near that of an angle: the angle is in the interval -/
theorem inn_ang {y x : Rat} {lo hi θ : Int} (h0 : lo ≤ hi) (h1 : hi - lo ≤ 400000000) (i1 : Inn y x (y + x) lo hi) (i2 : Inn y x (y - x) lo hi) (i3 : Inn y x (-y + x) lo hi) (i4 : Inn y x (-y - x) lo hi)
    (ny0 : -(1 / 1000) ≤ y - 1000000000 * zs θ) (ny1 : y - 1000000000 * zs θ ≤ 1 / 1000) (nx0 : -(1 / 1000) ≤ x - 1000000000 * zc θ) (nx1 : x - 1000000000 * zc θ ≤ 1 / 1000) : (θ - lo) % 1000000000 ≤ hi - lo := by
  have e0 := e0_
  have ep : eps = 1 / 10000000000000 := rfl
  have py := z_pyth θ
  -- the sum of both sizes is at least one
  have big : 999000000 ≤ y + x ∨ 999000000 ≤ y - x ∨ 999000000 ≤ -y + x ∨ 999000000 ≤ -y - x := by
    have sp : ∀ s c : Rat, 0 ≤ s → 0 ≤ c → 1 - eps ≤ s * s + c * c → 9999 / 10000 ≤ s + c := fun s c hs hc h => by
      refine le_sq (by decide +kernel) ?_ (by grind)
      have := Rat.mul_nonneg hs hc
      grind
    rcases (Rat.le_total (a := 0) (b := zs θ)) with c1 | c1 <;> rcases (Rat.le_total (a := 0) (b := zc θ)) with c2 | c2
    · have := sp (zs θ) (zc θ) c1 c2 py.1
      exact Or.inl (by grind)
    · have := sp (zs θ) (-(zc θ)) c1 (by grind) (by grind)
      exact Or.inr (Or.inl (by grind))
    · have := sp (-(zs θ)) (zc θ) (by grind) c2 (by grind)
      exact Or.inr (Or.inr (Or.inl (by grind)))
    · have := sp (-(zs θ)) (-(zc θ)) (by grind) (by grind) (by grind)
      exact Or.inr (Or.inr (Or.inr (by grind)))
  have F : 333 / 1000 ≤ cr y x lo ∧ cr y x hi ≤ -(333 / 1000) := by
    rcases big with g | g | g | g
    · exact ⟨by have := i1.1; grind, by have := i1.2; grind⟩
    · exact ⟨by have := i2.1; grind, by have := i2.2; grind⟩
    · exact ⟨by have := i3.1; grind, by have := i3.2; grind⟩
    · exact ⟨by have := i4.1; grind, by have := i4.2; grind⟩
  have near : ∀ b : Int, -(1 / 10) ≤ cr y x b - 1000000000 * zs (θ - b) ∧ cr y x b - 1000000000 * zs (θ - b) ≤ 1 / 10 := fun b => by
    obtain ⟨⟨n1, n2⟩, n3, n4⟩ := z_neg b
    obtain ⟨⟨a1, a2⟩, -⟩ := z_add θ (-b)
    rw [show θ + -b = θ - b by omega] at a1 a2
    have zb := z_bd b
    have zt := z_bd θ
    have m1 := mul_ab (u := zs θ) (v := zc (-b) - zc b) (A := 2) (B := 4 * eps) (by grind) (by grind) n3 n4
    have m2 := mul_ab (u := zc θ) (v := zs (-b) + zs b) (A := 2) (B := 4 * eps) (by grind) (by grind) n1 n2
    have m3 := mul_ab (u := y - 1000000000 * zs θ) (v := zc b) (A := 1 / 1000) (B := 2) ny0 ny1 (by grind) (by grind)
    have m4 := mul_ab (u := x - 1000000000 * zc θ) (v := zs b) (A := 1 / 1000) (B := 2) nx0 nx1 (by grind) (by grind)
    unfold cr
    rw [ep] at *
    constructor <;> grind
  have nl := near lo
  have nh := near hi
  have up := zs_up (b := θ - lo) (by grind)
  have dn := zs_dn (b := θ - hi) (by grind)
  omega
end Go.Proofs.YtgmjgnojjbajdaaDoor.JG
