/- Planets as seen from the earth: their longitude is decided. No condition on a program. -/
import Derived.Test.YtgmjgnojjbajdaaDoorJGx1
import Derived.Test.YtgmjgnojjbajdaaDoorSunLaw
import Derived.Test.YtgmjgnojjbajdaaDoorSmallArc
import Derived.Test.YtgmjgnojjbajdaaDoorUnitLaw
import Derived.Test.YtgmjgnojjbajdaaDoorOverLaw
namespace Go.Proofs.YtgmjgnojjbajdaaDoor.JG
open Go.Proofs.YtgmjgnojjbajdaaDoor.Iv Go.Proofs.YtgmjgnojjbajdaaDoor.Own Go.Proofs.YtgmjgnojjbajdaaDoor.Tp Go.RowKit Go.Proofs.YtgmjgnojjbajdaaDoorW.PrintWords Go.Proofs.YtgmjgnojjbajdaaDoorW.PrintLast

theorem lipP : lip 10001 ≤ 6285 / 100000000 ∧ lip 4005 ≤ 2517 / 100000000 := by decide +kernel
theorem z36 : 58 / 100 ≤ zs 100000000 := by decide +kernel

/-- a whole multiple -/
theorem mult_f {a b m : Int} (h1 : -1000000000 ≤ a) (h2 : a ≤ b) (h3 : b ≤ 1000000000) (h4 : 0 ≤ m) (h5 : m ≤ 10000) : interval_Scale.f a b m 1 = some (a * m, b * m, 0) := by
  have p1 := abs_mul_le (x := a) (y := m) (A := 1000000000) (B := 10000) h1 (by omega) (by omega) h5
  have p2 := abs_mul_le (x := b) (y := m) (A := 1000000000) (B := 10000) (by omega) h3 (by omega) h5
  have n2 : (-b) * m = -(b * m) := Int.neg_mul b m
  have h := scale_f (a := a) (b := b) (m := m) (d := 1) (by omega) h2 (by omega) h4 (by omega) (by omega) (by omega) (by omega) (by omega) (by omega) (by omega)
  rw [h, n2, Int.ediv_one, Int.ediv_one, Int.neg_neg]

/-- the length of a sum of two vectors, by what lies along one of them -/
theorem sum_len {y x z c u v m n : Rat} (p1 : 1 - eps ≤ z * z + c * c) (p2 : z * z + c * c ≤ 1 + eps) (q1 : u * u + v * v ≤ 1 + eps) (hm : 0 ≤ m) (hn : 0 ≤ n) (hy : y = m * z + n * u) (hx : x = m * c + n * v) :
    m * (1 - eps) - n * (1 + eps) ≤ y * z + x * c := by
  have s1 : 0 ≤ (z + u) * (z + u) := sq0 _
  have s2 : 0 ≤ (c + v) * (c + v) := sq0 _
  have d : -(1 + eps) ≤ z * u + c * v := by grind
  have a1 := Rat.mul_nonneg hm (show 0 ≤ z * z + c * c - (1 - eps) by grind)
  have a2 := Rat.mul_nonneg hn (show 0 ≤ z * u + c * v + (1 + eps) by grind)
  rw [hy, hx]
  grind

theorem sz_len (y x : Int) {z c : Rat} (z1 : -(1 + eps) ≤ z) (z2 : z ≤ 1 + eps) (c1 : -(1 + eps) ≤ c) (c2 : c ≤ 1 + eps) : (y : Rat) * z + (x : Rat) * c ≤ sz y x * (1 + eps) := by
  have sy := sg_b y
  have sx := sg_b x
  have e : sz y x = (sg x : Rat) + (sg y : Rat) := by unfold sz; rw [Rat.intCast_add]
  have a1 : ((-(sg y) : Int) : Rat) ≤ (y : Rat) := ic sy.2.1
  have a2 : (y : Rat) ≤ (sg y : Rat) := ic sy.2.2.1
  have a3 : ((-(sg x) : Int) : Rat) ≤ (x : Rat) := ic sx.2.1
  have a4 : (x : Rat) ≤ (sg x : Rat) := ic sx.2.2.1
  rw [Rat.intCast_neg] at a1 a3
  have b1 := (mul_ab (u := (y : Rat)) (v := z) a1 a2 z1 z2).2
  have b2 := (mul_ab (u := (x : Rat)) (v := c) a3 a4 c1 c2).2
  rw [e]
  grind

/-- about the sine and the cosine of the first angle of an interval, multiplied -/
theorem near_s {x y w : Int} (h : x ≤ y) (hw : y - x ≤ w) : 1000000000 * (zs x - lip w) - 201 / 100 ≤ ((so2 x y).1 : Rat) ∧ ((so2 x y).2 : Rat) ≤ 1000000000 * (zs x + lip w) + 201 / 100 :=
  ⟨(so2_near h hw).2.2.1, (so2_near h hw).2.2.2⟩
theorem near_c {x y w : Int} (h : x ≤ y) (hw : y - x ≤ w) : 1000000000 * (zc x - lip w) - 201 / 100 ≤ ((so2 (x % 1000000000 + 250000000) (y - x + x % 1000000000 + 250000000)).1 : Rat) ∧ ((so2 (x % 1000000000 + 250000000) (y - x + x % 1000000000 + 250000000)).2 : Rat) ≤ 1000000000 * (zc x + lip w) + 201 / 100 := by
  have e : zs (x % 1000000000 + 250000000) = zc x := by rw [z_quarter, (z_mod x).2]
  have g := near_s (x := x % 1000000000 + 250000000) (y := y - x + x % 1000000000 + 250000000) (w := w) (by omega) (by omega)
  rwa [e] at g

/-- a bound of a sum of two multiples, by its parts' -/
theorem two_b {A1 A2 B1 B2 r a b e f : Rat} (r0 : 0 ≤ r) (h1 : a - e ≤ A1) (h2 : A2 ≤ a + e) (g1 : b - f ≤ B1) (g2 : B2 ≤ b + f) : r * a + 1000 * b - (r * e + 1000 * f) ≤ A1 * r + B1 * 1000 ∧ A2 * r + B2 * 1000 ≤ r * a + 1000 * b + (r * e + 1000 * f) := by
  have m1 := Rat.mul_nonneg r0 (show 0 ≤ A1 - (a - e) by grind)
  have m2 := Rat.mul_nonneg r0 (show 0 ≤ a + e - A2 by grind)
  constructor <;> grind

def Far (r : Int) : Prop := (387 ≤ r ∧ r ≤ 723) ∨ (1524 ≤ r ∧ r ≤ 9537)

/-- the length of what is seen -/
theorem seen_len {r : Int} (hr : Far r) {z c u v y x : Rat} (p1 : 1 - eps ≤ z * z + c * c) (p2 : z * z + c * c ≤ 1 + eps) (q1 : 1 - eps ≤ u * u + v * v) (q2 : u * u + v * v ≤ 1 + eps) (hy : y = (r : Rat) * z + 1000 * u) (hx : x = (r : Rat) * c + 1000 * v) :
    (((r : Rat) - 1000) * (999 / 1000) ≤ y * z + x * c ∧ 1524 ≤ r) ∨ (276 ≤ y * u + x * v ∧ r ≤ 723) := by
  have e0 := e0_
  rcases hr with ⟨h1, h2⟩ | ⟨h1, h2⟩
  · refine Or.inr ⟨?_, h2⟩
    have R1 : (r : Rat) ≤ 723 := by have := ic h2; rwa [show ((723 : Int) : Rat) = 723 by decide +kernel] at this
    have R0 : 387 ≤ (r : Rat) := by have := ic h1; rwa [show ((387 : Int) : Rat) = 387 by decide +kernel] at this
    have s := sum_len (y := y) (x := x) (z := u) (c := v) (u := z) (v := c) (m := 1000) (n := (r : Rat)) q1 q2 p2 (by grind) (by grind) (by grind) (by grind)
    have m1 := Rat.mul_nonneg (show 0 ≤ (r : Rat) by grind) (show 0 ≤ 1 / 10000000000000 - eps by grind)
    grind
  · refine Or.inl ⟨?_, h1⟩
    have R1 : (r : Rat) ≤ 9537 := by have := ic h2; rwa [show ((9537 : Int) : Rat) = 9537 by decide +kernel] at this
    have R0 : 1524 ≤ (r : Rat) := by have := ic h1; rwa [show ((1524 : Int) : Rat) = 1524 by decide +kernel] at this
    have s := sum_len (y := y) (x := x) (z := z) (c := c) (u := u) (v := v) (m := (r : Rat)) (n := 1000) p1 p2 q2 (by grind) (by grind) hy hx
    have m1 := Rat.mul_nonneg (show 0 ≤ (r : Rat) by grind) (show 0 ≤ 1 / 10000000000000 - eps by grind)
    grind

/-- the size of the corner -/
theorem corner_sz {r y0 x0 : Int} (hr : Far r) {a b c d : Rat} {p s : Int} (ha : a = zs p) (hc : c = zc p) (hb : b = zs s) (hd : d = zc s)
    (g1 : 1000000000 * ((r : Rat) * a + 1000 * b) - ((r : Rat) * 62853 + 25173000) ≤ (y0 : Rat)) (g2 : (y0 : Rat) ≤ 1000000000 * ((r : Rat) * a + 1000 * b) + ((r : Rat) * 62853 + 25173000))
    (g3 : 1000000000 * ((r : Rat) * c + 1000 * d) - ((r : Rat) * 62853 + 25173000) ≤ (x0 : Rat)) (g4 : (x0 : Rat) ≤ 1000000000 * ((r : Rat) * c + 1000 * d) + ((r : Rat) * 62853 + 25173000)) :
    12 * ((r : Rat) * 125706 + 50346000) + sz y0 x0 / 10000 ≤ sz y0 x0 * (58 / 100) ∧ 0 < sz y0 x0 := by
  have P := z_pyth p
  have S := z_pyth s
  have bp := z_bd0 p
  have bs := z_bd0 s
  have e0 := e0_
  rw [← ha, ← hc] at P bp
  rw [← hb, ← hd] at S bs
  have R0 : 0 ≤ (r : Rat) := by
    have : (0 : Int) ≤ r := by rcases hr with h | h <;> omega
    have := ic this
    rwa [show ((0 : Int) : Rat) = 0 by decide +kernel] at this
  obtain ⟨E, hE⟩ : ∃ E : Rat, (r : Rat) * 62853 + 25173000 = E := ⟨_, rfl⟩
  obtain ⟨Y, hY⟩ : ∃ Y : Rat, (r : Rat) * a + 1000 * b = Y := ⟨_, rfl⟩
  obtain ⟨X, hX⟩ : ∃ X : Rat, (r : Rat) * c + 1000 * d = X := ⟨_, rfl⟩
  rw [hE, hY] at g1 g2
  rw [hE, hX] at g3 g4
  have E0 : 0 ≤ E := by grind
  have szp := (sz_b y0 x0).1
  have me := Rat.mul_nonneg szp (show 0 ≤ 1 / 10000000000000 - eps by grind)
  have ee := Rat.mul_nonneg E0 (show 0 ≤ 1 / 10000000000000 - eps by grind)
  rcases seen_len hr P.1 P.2 S.1 S.2 hY.symm hX.symm with ⟨l, hl⟩ | ⟨l, hl⟩
  · have k := sz_len y0 x0 bp.1 bp.2.1 bp.2.2.1 bp.2.2.2
    have m1 := (mul_ab (u := (y0 : Rat) - 1000000000 * Y) (v := a) (A := E) (B := 1 + eps) (by grind) (by grind) bp.1 bp.2.1).1
    have m2 := (mul_ab (u := (x0 : Rat) - 1000000000 * X) (v := c) (A := E) (B := 1 + eps) (by grind) (by grind) bp.2.2.1 bp.2.2.2).1
    have R2 : 1524 ≤ (r : Rat) := by have := ic hl; rwa [show ((1524 : Int) : Rat) = 1524 by decide +kernel] at this
    have key : 1000000000 * (((r : Rat) - 1000) * (999 / 1000)) - 3 * E ≤ sz y0 x0 * (1 + eps) := by grind
    constructor <;> grind
  · have k := sz_len y0 x0 bs.1 bs.2.1 bs.2.2.1 bs.2.2.2
    have m1 := (mul_ab (u := (y0 : Rat) - 1000000000 * Y) (v := b) (A := E) (B := 1 + eps) (by grind) (by grind) bs.1 bs.2.1).1
    have m2 := (mul_ab (u := (x0 : Rat) - 1000000000 * X) (v := d) (A := E) (B := 1 + eps) (by grind) (by grind) bs.2.2.1 bs.2.2.2).1
    have R2 : (r : Rat) ≤ 723 := by have := ic hl; rwa [show ((723 : Int) : Rat) = 723 by decide +kernel] at this
    have key : 1000000000 * 276 - 3 * E ≤ sz y0 x0 * (1 + eps) := by grind
    constructor <;> grind

/-- what planet.Longitude finds on its way, of an orbit of radius r -/
def Seen (r lon per t h0 h1 s0 s1 a0 a1 b0 b1 c0 c1 d0 d1 lo hh : Int) (k : Nat) : Prop :=
  series_Angle.f k lon per [] 5000 t = some (h0, h1, 0) ∧ sun_Longitude.f k t = some (s0, s1, 0) ∧ trig_SinOver.f k h0 h1 = some (a0, a1, 0) ∧ trig_SinOver.f k s0 s1 = some (b0, b1, 0) ∧ trig_CosOver.f k h0 h1 = some (c0, c1, 0) ∧ trig_CosOver.f k s0 s1 = some (d0, d1, 0) ∧
  interval_Scale.f a0 a1 r 1 = some (a0 * r, a1 * r, 0) ∧ interval_Scale.f b0 b1 1000 1 = some (b0 * 1000, b1 * 1000, 0) ∧ interval_Scale.f c0 c1 r 1 = some (c0 * r, c1 * r, 0) ∧ interval_Scale.f d0 d1 1000 1 = some (d0 * 1000, d1 * 1000, 0) ∧
  wrap64 (a0 * r + b0 * 1000) = a0 * r + b0 * 1000 ∧ wrap64 (a1 * r + b1 * 1000) = a1 * r + b1 * 1000 ∧ wrap64 (c0 * r + d0 * 1000) = c0 * r + d0 * 1000 ∧ wrap64 (c1 * r + d1 * 1000) = c1 * r + d1 * 1000 ∧ trig_Arc.f k (a0 * r + b0 * 1000) (a1 * r + b1 * 1000) (c0 * r + d0 * 1000) (c1 * r + d1 * 1000) = some (lo, hh, 0)

theorem seen_all {r lon per t : Int} (hr : Far r) (l0 : -1000000000 ≤ lon) (l1 : lon ≤ 1000000000) (p0 : -4000000000000000 ≤ per) (p1 : per ≤ 4000000000000000) (h3 : -345600000000000 ≤ t) (h4 : t < 345600086400000) :
    ∃ h0 h1 s0 s1 a0 a1 b0 b1 c0 c1 d0 d1 lo hh k, Seen r lon per t h0 h1 s0 s1 a0 a1 b0 b1 c0 c1 d0 d1 lo hh k := by
  obtain ⟨p, q, fA, g1, g2, g3, g4, -⟩ := angle_f (l := []) (by decide) (fun x hx => by cases hx) h3 h4 (mean := lon) (rate := per) (rest := 5000) l0 l1 p0 p1 (by omega) (by omega)
  obtain ⟨s, u, fS, s1, s2, s3, s4, -⟩ := slon_f h3 h4
  have g4' : q - p ≤ 10001 := g4
  have r0 : 0 ≤ r ∧ r ≤ 10000 := by rcases hr with h | h <;> omega
  have A := near_s g3 g4'
  have B := near_s s3 s4
  have C := near_c g3 g4'
  have D := near_c s3 s4
  have bA := so2_b p q
  have bB := so2_b s u
  have bC := so2_b (p % 1000000000 + 250000000) (q - p + p % 1000000000 + 250000000)
  have bD := so2_b (s % 1000000000 + 250000000) (u - s + s % 1000000000 + 250000000)
  have fC := fun k hk => co2_f (x := p) (y := q) (by omega) g3 (by omega) (by omega) k hk
  have fD := fun k hk => co2_f (x := s) (y := u) (by omega) s3 (by omega) (by omega) k hk
  have fa := fun k hk => so2_f (x := p) (y := q) (by omega) g3 (by omega) k hk
  have fb := fun k hk => so2_f (x := s) (y := u) (by omega) s3 (by omega) k hk
  generalize so2 (p % 1000000000 + 250000000) (q - p + p % 1000000000 + 250000000) = sc at *
  generalize so2 (s % 1000000000 + 250000000) (u - s + s % 1000000000 + 250000000) = sd at *
  generalize so2 p q = sa at *
  generalize so2 s u = sb at *
  have L := lipP
  have R0 : 0 ≤ (r : Rat) := by have := ic r0.1; rwa [show ((0 : Int) : Rat) = 0 by decide +kernel] at this
  have T1 := two_b (A1 := (sa.1 : Rat)) (A2 := (sa.2 : Rat)) (B1 := (sb.1 : Rat)) (B2 := (sb.2 : Rat)) (r := (r : Rat)) (a := 1000000000 * zs p) (b := 1000000000 * zs s) (e := 62853) (f := 25173) R0 (by grind) (by grind) (by grind) (by grind)
  have T2 := two_b (A1 := (sc.1 : Rat)) (A2 := (sc.2 : Rat)) (B1 := (sd.1 : Rat)) (B2 := (sd.2 : Rat)) (r := (r : Rat)) (a := 1000000000 * zc p) (b := 1000000000 * zc s) (e := 62853) (f := 25173) R0 (by grind) (by grind) (by grind) (by grind)
  have cK : ((1000 : Int) : Rat) = 1000 := by decide +kernel
  have v0 : ((sa.1 * r + sb.1 * 1000 : Int) : Rat) = (sa.1 : Rat) * r + sb.1 * 1000 := by rw [Rat.intCast_add, Rat.intCast_mul, Rat.intCast_mul, cK]
  have v1 : ((sa.2 * r + sb.2 * 1000 : Int) : Rat) = (sa.2 : Rat) * r + sb.2 * 1000 := by rw [Rat.intCast_add, Rat.intCast_mul, Rat.intCast_mul, cK]
  have v2 : ((sc.1 * r + sd.1 * 1000 : Int) : Rat) = (sc.1 : Rat) * r + sd.1 * 1000 := by rw [Rat.intCast_add, Rat.intCast_mul, Rat.intCast_mul, cK]
  have v3 : ((sc.2 * r + sd.2 * 1000 : Int) : Rat) = (sc.2 : Rat) * r + sd.2 * 1000 := by rw [Rat.intCast_add, Rat.intCast_mul, Rat.intCast_mul, cK]
  have mono : ∀ x y : Int, x ≤ y → x * r ≤ y * r := fun x y h => Int.mul_le_mul_of_nonneg_right h r0.1
  have ma := mono _ _ bA.2.1
  have mc := mono _ _ bC.2.1
  have q1 := abs_mul_le (x := sa.1) (y := r) (A := 1000000000) (B := 10000) bA.1 (by omega) (by omega) r0.2
  have q2 := abs_mul_le (x := sa.2) (y := r) (A := 1000000000) (B := 10000) (by omega) bA.2.2 (by omega) r0.2
  have q3 := abs_mul_le (x := sc.1) (y := r) (A := 1000000000) (B := 10000) bC.1 (by omega) (by omega) r0.2
  have q4 := abs_mul_le (x := sc.2) (y := r) (A := 1000000000) (B := 10000) (by omega) bC.2.2 (by omega) r0.2
  have sz0 := corner_sz (y0 := sa.1 * r + sb.1 * 1000) (x0 := sc.1 * r + sd.1 * 1000) hr (p := p) (s := s) rfl rfl rfl rfl (by rw [v0]; grind) (by rw [v0]; have := ic ma; have := ic bB.2.1; rw [Rat.intCast_mul, Rat.intCast_mul] at *; grind) (by rw [v2]; grind) (by rw [v2]; have := ic mc; have := ic bD.2.1; rw [Rat.intCast_mul, Rat.intCast_mul] at *; grind)
  have z := z36
  have zz := Rat.mul_nonneg (sz_b (sa.1 * r + sb.1 * 1000) (sc.1 * r + sd.1 * 1000)).1 (show 0 ≤ zs 100000000 - 58 / 100 by grind)
  obtain ⟨lo, hh, K, f, -⟩ := arc_small (y0 := sa.1 * r + sb.1 * 1000) (y1 := sa.2 * r + sb.2 * 1000) (x0 := sc.1 * r + sd.1 * 1000) (x1 := sc.2 * r + sd.2 * 1000) (W := 100000000) (E := (r : Rat) * 125706 + 50346000) (by omega) (by omega) (by omega) (by omega) (by omega) (by omega) (by grind) (by rw [v0, v1]; grind) (by rw [v2, v3]; grind) (by omega) (by omega) sz0.2 (by grind)
  refine ⟨p, q, s, u, sa.1, sa.2, sb.1, sb.2, sc.1, sc.2, sd.1, sd.2, lo, hh, K + 60, fA _ (by omega), fS _ (by omega), fa _ (by omega), fb _ (by omega), fC _ (by omega), fD _ (by omega), mult_f bA.1 bA.2.1 bA.2.2 r0.1 r0.2, mult_f bB.1 bB.2.1 bB.2.2 (by omega) (by omega), mult_f bC.1 bC.2.1 bC.2.2 r0.1 r0.2, mult_f bD.1 bD.2.1 bD.2.2 (by omega) (by omega), ?_, ?_, ?_, ?_, f _ (by omega)⟩ <;> exact wrap_in (by omega) (by omega)

end Go.Proofs.YtgmjgnojjbajdaaDoor.JG
