/- The law StarmapRound: all stars of a map lie in a circle of radius 1. No condition. -/
import Derived.Test.YtgmjgnojjbajdaaDoorJRx1
import Derived.Test.YtgmjgnojjbajdaaDoorJRx1
import Derived.Test.YtgmjgnojjbajdaaDoorPlaceLaw
import Derived.Test.YtgmjgnojjbajdaaDoorStarLaw
namespace Go.Proofs.YtgmjgnojjbajdaaDoor.Pure
open Go.Proofs.YtgmjgnojjbajdaaDoor.JR Go.Proofs.YtgmjgnojjbajdaaDoor.Own Go.Proofs.YtgmjgnojjbajdaaDoor.Tp Go.Proofs.YtgmjgnojjbajdaaDoor.Iv Go.RowKit Go.Proofs.YtgmjgnojjbajdaaDoorW.PrintWords Go.Proofs.YtgmjgnojjbajdaaDoorW.PrintLast
theorem map_works : ∃ k0, ∀ k, k0 ≤ k → ephemeriskeep2_starmapWorks.f k = some true :=
  of_mono (k0 := 70) ephemeriskeep2_starmapWorks.mono (by decide +kernel)
theorem lt_d : ∀ i : Nat, i < 8 → -249000000 ≤ (lx_ i).2.2 ∧ (lx_ i).2.2 ≤ 249000000
  | 0, _ => by decide
  | 1, _ => by decide
  | 2, _ => by decide
  | 3, _ => by decide
  | 4, _ => by decide
  | 5, _ => by decide
  | 6, _ => by decide
  | 7, _ => by decide
  | i + 8, h => by omega
abbrev Dot := S47
abbrev Sp := S28
theorem dots_rd {l : List Dot} {i : Nat} {x : Dot} {rest : List Dot} (hd : l.drop i = x :: rest) : i < l.length ∧ rd_T47 l (i : Int) = x ∧ l.drop (i + 1) = rest := by
  refine ⟨?_, ?_, ?_⟩
  · rcases Nat.lt_or_ge i l.length with h | h
    · exact h
    · rw [List.drop_eq_nil_of_le h] at hd; cases hd
  · unfold rd_T47
    rw [Int.toNat_natCast, List.getD_eq_getElem?_getD]
    have : (l.drop i)[0]? = some x := by rw [hd]; rfl
    rw [List.getElem?_drop, Nat.add_zero] at this
    rw [this]; rfl
  · rw [← List.drop_drop, hd]; rfl
/-- a star's name -/
def nm_ (i : Nat) : ByteArray := rdOf ByteArray.empty nms_ (i : Int)
section
variable {p0 p1 t : Int} {hf : Nat → Int × Int} {gf : Nat → Int × Int × Int × Int}
/-- the dot of a star -/
def dot_ (hf : Nat → Int × Int) (gf : Nat → Int × Int × Int × Int) (i : Nat) : Dot := ⟨nm_ i, (⟨(gf i).1, (gf i).2.1⟩ : Sp), (⟨(gf i).2.2.1, (gf i).2.2.2⟩ : Sp), decide ((hf i).1 > 0)⟩
/-- the dots from a star on -/
def ds_ (hf : Nat → Int × Int) (gf : Nat → Int × Int × Int × Int) : Nat → Nat → List Dot
  | 0, _ => []
  | d + 1, i => if (hf i).2 < 0 then ds_ hf gf d (i + 1) else dot_ hf gf i :: ds_ hf gf d (i + 1)
/-- a star's interval of the right ascension, at an instant -/
def ra_ (t : Int) (i : Nat) : Int := mm (lx_ i).2.1 97300000 100 t % 1000000000
theorem map_loop (h3 : -345600000000000 ≤ t) (h4 : t < 345600086400000)
    (H : ∀ i, i < 8 → ∀ k, 61 ≤ k → place_Height.f k p0 p1 (ra_ t i) (ra_ t i + 201) ((lx_ i).2.2 - 100) ((lx_ i).2.2 + 100) t = some ((hf i).1, (hf i).2, 0))
    (G : ∀ i, i < 8 → ∀ k, 61 ≤ k → place_Ground.f k p0 p1 (ra_ t i) (ra_ t i + 201) ((lx_ i).2.2 - 100) ((lx_ i).2.2 + 100) t = some ((gf i).1, (gf i).2.1, (gf i).2.2.1, (gf i).2.2.2, 0)) :
    ∀ (d i : Nat) (acc : List Dot), i + d = 8 → acc.length ≤ i → ∀ k, 62 + d ≤ k → starmap_Map.l0 k t acc nms_ (nms_.length : Int) (i : Int) p0 p1 = some (acc ++ ds_ hf gf d i, 0)
  | 0, i, acc, hi, ha, k, hk => by
    have nl : (nms_.length : Int) = 8 := rfl
    obtain ⟨k, rfl⟩ : ∃ m, k = m + 1 := ⟨k - 1, by omega⟩
    simp only [starmap_Map.l0]
    rw [if_neg (by omega)]
    simp [ds_]
  | d + 1, i, acc, hi, ha, k, hk => by
    have nl : (nms_.length : Int) = 8 := rfl
    obtain ⟨k, rfl⟩ : ∃ m, k = m + 1 := ⟨k - 1, by omega⟩
    simp only [starmap_Map.l0]
    rw [if_pos (by omega), if_pos (by omega), if_pos (by omega), at_star (by omega) h3 h4 k (by omega)]
    simp only [Option.bind_some]
    have e := H i (by omega) k (by omega)
    have g := G i (by omega) k (by omega)
    unfold ra_ at e g
    rw [e]
    simp only [Option.bind_some]
    rw [wrap_in (n := (i : Int) + 1) (by omega) (by omega), show ((i : Int) + 1) = ((i + 1 : Nat) : Int) by omega]
    by_cases c : (hf i).2 < 0
    · rw [if_pos c, map_loop h3 h4 H G d (i + 1) acc (by omega) (by omega) k (by omega)]
      simp only [ds_, if_pos c]
    · rw [if_neg c, g]
      simp only [Option.bind_some]
      rw [if_pos (by omega), map_loop h3 h4 H G d (i + 1) _ (by omega) (by simp; omega) k (by omega)]
      simp only [ds_, if_neg c, List.append_assoc, List.singleton_append]
      rfl
end
theorem ds_len (hf : Nat → Int × Int) (gf : Nat → Int × Int × Int × Int) : ∀ d i, (ds_ hf gf d i).length ≤ d
  | 0, _ => Nat.le_refl _
  | d + 1, i => by
    have := ds_len hf gf d (i + 1)
    simp only [ds_]
    split
    · omega
    · simp; omega
/-- a number that is hardly less than 1 -/
abbrev lam : Rat := 9999999999 / 10000000000
theorem sqn (x : Rat) : 0 ≤ x * x := by
  rcases (Rat.le_total (a := 0) (b := x)) with c | c
  · exact Rat.mul_nonneg c c
  · have := Rat.mul_nonneg (show 0 ≤ -x by grind) (show 0 ≤ -x by grind); grind
theorem lam_in {s : Int × Int} {z w : Rat} (h : In s z) (p : z * z + w * w ≤ 1 + eps) : (s.1 : Rat) ≤ 1000000000 * (lam * z) ∧ 1000000000 * (lam * z) ≤ (s.2 : Rat) := by
  have o := z_one p
  have ep : eps = 1 / 10000000000000 := rfl
  rw [ep] at o
  have cT : ((1000000000 : Int) : Rat) = 1000000000 := by decide +kernel
  have cN : ((-1000000000 : Int) : Rat) = -1000000000 := by decide +kernel
  obtain ⟨h1, h2⟩ := h
  constructor
  · rcases h1 with h1 | h1
    · grind
    · rw [h1, cN]; grind
  · rcases h2 with h2 | h2
    · grind
    · rw [h2, cT]; grind
theorem lam_one {z w : Rat} (p : z * z + w * w ≤ 1 + eps) : (lam * z) * (lam * z) + (lam * w) * (lam * w) ≤ 1 := by
  have ep : eps = 1 / 10000000000000 := rfl
  rw [ep] at p
  have : (lam * z) * (lam * z) + (lam * w) * (lam * w) = lam * lam * (z * z + w * w) := by grind
  rw [this]
  have e : lam * lam * (1 + 1 / 10000000000000) ≤ 1 := by decide +kernel
  have l0 : (0 : Rat) ≤ lam * lam := by decide +kernel
  have := Rat.mul_nonneg l0 (show 0 ≤ 1 + 1 / 10000000000000 - (z * z + w * w) by grind)
  generalize z * z + w * w = q at *
  grind
/-- a point of the disc -/
theorem disc {a b c d e f : Rat} (h1 : a * a + b * b ≤ 1) (h2 : c * c + d * d ≤ 1) (h3 : e * e + f * f ≤ 1) : (d * e) * (d * e) + (b * c - a * d * f) * (b * c - a * d * f) ≤ 1 := by
  have q1 := sqn (a * c + b * (d * f))
  have q2 := Rat.mul_nonneg (show 0 ≤ 1 - (a * a + b * b) by grind) (show 0 ≤ c * c + (d * f) * (d * f) by have := sqn c; have := sqn (d * f); grind)
  have q3 := Rat.mul_nonneg (show 0 ≤ 1 - (e * e + f * f) by grind) (sqn d)
  grind
theorem sq_le {x : Int} {a : Rat} (h0 : 0 ≤ x) (h : (x : Rat) ≤ 1000000000 * a ∨ (x : Rat) ≤ -(1000000000 * a) ∨ x = 0) : (x : Rat) * (x : Rat) ≤ 1000000000000000000 * (a * a) := by
  have z0 : (0 : Rat) ≤ (x : Rat) := by have := ic h0; rwa [show ((0 : Int) : Rat) = 0 from rfl] at this
  rcases h with h | h | h
  · have m := Rat.mul_nonneg (show 0 ≤ 1000000000 * a - (x : Rat) by grind) (show 0 ≤ 1000000000 * a + (x : Rat) by grind)
    grind
  · have m := Rat.mul_nonneg (show 0 ≤ -(1000000000 * a) - (x : Rat) by grind) (show 0 ≤ -(1000000000 * a) + (x : Rat) by grind)
    grind
  · rw [h, show ((0 : Int) : Rat) = 0 from rfl]
    have := sqn a
    grind
/-- what a span's least distance from 0 is -/
abbrev far (a b : Int) : Int := mx (mx 0 a) (wrap64 (-b))
theorem far_b {a b : Int} (h1 : -1000000000 ≤ a) (h2 : a ≤ 1000000000) (h3 : -1000000000 ≤ b) (h4 : b ≤ 1000000000) : 0 ≤ far a b ∧ far a b ≤ 1000000000 ∧ (far a b = 0 ∨ far a b = a ∨ far a b = -b) := by
  unfold far
  rw [wrap_in (by omega) (by omega)]
  simp only [mx]
  omega
/-- the map's point is one of the disc, whatever the direction -/
def Rnd (z : Int × Int × Int × Int) : Prop := wrap64 (wrap64 (far z.1 z.2.1 * far z.1 z.2.1) + wrap64 (far z.2.2.1 z.2.2.2 * far z.2.2.1 z.2.2.2)) ≤ 1000000000000000000
theorem rnd_of {x y : Int} {X Y : Rat} (x0 : 0 ≤ x) (x1 : x ≤ 1000000000) (y0 : 0 ≤ y) (y1 : y ≤ 1000000000) (hx : (x : Rat) * (x : Rat) ≤ 1000000000000000000 * (X * X)) (hy : (y : Rat) * (y : Rat) ≤ 1000000000000000000 * (Y * Y)) (h : X * X + Y * Y ≤ 1) : wrap64 (wrap64 (x * x) + wrap64 (y * y)) ≤ 1000000000000000000 := by
  have a := abs_mul_le (x := x) (y := x) (A := 1000000000) (B := 1000000000) (by omega) x1 (by omega) x1
  have b := abs_mul_le (x := y) (y := y) (A := 1000000000) (B := 1000000000) (by omega) y1 (by omega) y1
  have c : ((x * x + y * y : Int) : Rat) ≤ ((1000000000000000000 : Int) : Rat) := by
    rw [Rat.intCast_add, Rat.intCast_mul, Rat.intCast_mul, show ((1000000000000000000 : Int) : Rat) = 1000000000000000000 by decide +kernel]
    generalize X * X = p at *
    generalize Y * Y = q at *
    grind
  have c' := ci c
  rw [wrap_in (n := x * x) (by omega) (by omega), wrap_in (n := y * y) (by omega) (by omega), wrap_in (by omega) (by omega)]
  exact c'
theorem cut_up (a : Int) : cut1 a ≤ mx 0 a ∧ -(cut1 a) ≤ mx 0 (-a) := by unfold cut1; simp only [mx, mn]; omega
theorem ground_r {p0 p1 r0 r1 d0 d1 t : Int} (h3 : -345600000000000 ≤ t) (h4 : t < 345600086400000) (g1 : -500000000 ≤ p0) (g2 : p0 ≤ 500000000) (g3 : -220000000 ≤ p1) (g4 : p1 ≤ 220000000) (q1 : 0 ≤ r0) (q2 : r0 ≤ r1) (q3 : r1 ≤ 3000000000) (q4 : -250000000 ≤ d0) (q5 : d0 ≤ d1) (q6 : d1 ≤ 250000000) (q7 : r1 - r0 ≤ 900000000) :
    ∃ z : Int × Int × Int × Int, Rnd z ∧ ∀ k, 61 ≤ k → place_Ground.f k p0 p1 r0 r1 d0 d1 t = some (z.1, z.2.1, z.2.2.1, z.2.2.2, 0) := by
  obtain ⟨S, S0, S1, hh⟩ := hour_f (p0 := p0) (p1 := p1) (r0 := r0) (r1 := r1) (d0 := d0) (d1 := d1) h3 h4 g1 g2 g3 g4 q1 q2 q3 q4 q5 q6
  have s1 := sv_b (p1 % 1000000000)
  have s2 := sv_b ((p1 + 250000000) % 1000000000)
  have s3 := so2_b d0 d1
  have s4 := so2_b (d0 % 1000000000 + 250000000) (d1 - d0 + d0 % 1000000000 + 250000000)
  have s5 := so2_b ((S - r1) % 1000000000 + 250000000) (S + 1 - r0 - (S - r1) + (S - r1) % 1000000000 + 250000000)
  have s6 := so2_b (S - r1) (S + 1 - r0)
  obtain ⟨u0, u1, e1, a1, b1, c1, f1⟩ := sunit_f s4.2.1 s6.2.1
  obtain ⟨v0, v1, e2, a2, b2, c2, f2⟩ := sunit_f s2.1 s3.2.1
  obtain ⟨w0, w1, e3, a3, b3, c3, f3⟩ := sunit_f s1.1 s4.2.1
  obtain ⟨x0, x1, e4, a4, b4, c4, f4⟩ := sunit_f b3 s5.2.1
  refine ⟨(wrap64 (-u1), wrap64 (-u0), cut1 (wrap64 (v0 - x1)), cut1 (wrap64 (v1 - x0))), ?_, fun k hk => ?_⟩
  · have P := (z_pyth p1).2
    have D := (z_pyth d0).2
    have H := (z_pyth (S - r1)).2
    have P' : zc p1 * zc p1 + zs p1 * zs p1 ≤ 1 + eps := by rw [Rat.add_comm]; exact P
    have D' : zc d0 * zc d0 + zs d0 * zs d0 ≤ 1 + eps := by rw [Rat.add_comm]; exact D
    have H' : zc (S - r1) * zc (S - r1) + zs (S - r1) * zs (S - r1) ≤ 1 + eps := by rw [Rat.add_comm]; exact H
    have i1 := lam_in (sin_in p1) P
    have i2 := lam_in (cos_in p1) P'
    have i3 := lam_in (so2_in d0 d1).1 D
    have i4 := lam_in (co2_in d0 d1).1 D'
    have i5 := lam_in (co2_in (S - r1) (S + 1 - r0)).1 H'
    have i6 := lam_in (so2_in (S - r1) (S + 1 - r0)).1 H
    have di := disc (lam_one P) (lam_one D) (lam_one H)
    generalize lam * zs p1 = A at *
    generalize lam * zc p1 = B at *
    generalize lam * zs d0 = C at *
    generalize lam * zc d0 = E at *
    generalize lam * zs (S - r1) = F at *
    generalize lam * zc (S - r1) = G at *
    clear P D H P' D' H' hh
    rw [cut1_id (by omega) (by omega), cut1_id (by omega) (by omega), cut1_id (by omega) (by omega), cut1_id (by omega) (by omega)] at f1 f2 f3 f4
    have n1 := f1 _ _ i4.1 i4.2 i6.1 i6.2
    have n2 := f2 _ _ i2.1 i2.2 i3.1 i3.2
    have n3 := f3 _ _ i1.1 i1.2 i4.1 i4.2
    have n4 := f4 _ _ n3.1 n3.2.1 i5.1 i5.2
    have n1l := n1.1
    have n1h := n1.2.1
    have n2l := n2.1
    have n2h := n2.2.1
    have n4l := n4.1
    have n4h := n4.2.1
    clear n1 n2 n3 n4 f1 f2 f3 f4 e1 e2 e3 e4 i1 i2 i3 i4 i5 i6 s1 s2 s3 s4 s5 s6
    rw [show 1000000000 * E * (1000000000 * F) / 1000000000 = 1000000000 * (E * F) by grind] at n1l n1h
    rw [show 1000000000 * B * (1000000000 * C) / 1000000000 = 1000000000 * (B * C) by grind] at n2l n2h
    rw [show 1000000000 * A * (1000000000 * E) / 1000000000 * (1000000000 * G) / 1000000000 = 1000000000 * (A * E * G) by grind] at n4l n4h
    show wrap64 (wrap64 (far (wrap64 (-u1)) (wrap64 (-u0)) * far (wrap64 (-u1)) (wrap64 (-u0))) + wrap64 (far (cut1 (wrap64 (v0 - x1))) (cut1 (wrap64 (v1 - x0))) * far (cut1 (wrap64 (v0 - x1))) (cut1 (wrap64 (v1 - x0))))) ≤ 1000000000000000000
    rw [wrap_in (n := -u1) (by omega) (by omega), wrap_in (n := -u0) (by omega) (by omega), wrap_in (n := v0 - x1) (by omega) (by omega), wrap_in (n := v1 - x0) (by omega) (by omega)]
    have ca := cut1_b (v0 - x1)
    have cb := cut1_b (v1 - x0)
    have ua := (cut_up (v0 - x1)).1
    have ub := (cut_up (v1 - x0)).2
    have fx := far_b (a := -u1) (b := -u0) (by omega) (by omega) (by omega) (by omega)
    have fy := far_b (a := cut1 (v0 - x1)) (b := cut1 (v1 - x0)) ca.1 ca.2 cb.1 cb.2
    generalize far (-u1) (-u0) = x at *
    generalize far (cut1 (v0 - x1)) (cut1 (v1 - x0)) = y at *
    have lx : (x : Rat) * (x : Rat) ≤ 1000000000000000000 * ((E * F) * (E * F)) := by
      refine sq_le fx.1 ?_
      rcases fx.2.2 with h | h | h
      · exact Or.inr (Or.inr h)
      · exact Or.inr (Or.inl (by have := ic (show x ≤ -u1 by omega); rw [Rat.intCast_neg] at this; grind))
      · exact Or.inl (by have := ic (show x ≤ u0 by omega); grind)
    have ly : (y : Rat) * (y : Rat) ≤ 1000000000000000000 * ((B * C - A * E * G) * (B * C - A * E * G)) := by
      refine sq_le fy.1 ?_
      rcases fy.2.2 with h | h | h
      · exact Or.inr (Or.inr h)
      · rcases (show y = 0 ∨ y ≤ v0 - x1 by simp only [mx] at ua; omega) with g | g
        · exact Or.inr (Or.inr g)
        · exact Or.inl (by have := ic g; rw [Rat.intCast_sub] at this; grind)
      · rcases (show y = 0 ∨ y ≤ -(v1 - x0) by simp only [mx] at ub; omega) with g | g
        · exact Or.inr (Or.inr g)
        · exact Or.inr (Or.inl (by have := ic g; rw [Rat.intCast_neg, Rat.intCast_sub] at this; grind))
    exact rnd_of fx.1 fx.2.1 fy.1 fy.2.1 lx ly di
  · unfold place_Ground.f
    rw [hh k hk]
    simp only [Option.bind_some, if_true]
    rw [sin_f (by omega) (by omega) k (by omega), cos1_f (by omega) (by omega) k (by omega), so2_f (by omega) q5 (by omega) k (by omega), co2_f (by omega) q5 (by omega) (by omega) k (by omega), so2_f (by omega) (by omega) (by omega) k (by omega), co2_f (by omega) (by omega) (by omega) (by omega) k (by omega)]
    simp only [Option.bind_some]
    rw [e1, e2, e3]
    simp only [Option.bind_some]
    rw [e4]
    rfl
theorem ds_mem (hf : Nat → Int × Int) (gf : Nat → Int × Int × Int × Int) {x : Dot} : ∀ d i, x ∈ ds_ hf gf d i → ∃ j, j < i + d ∧ x = dot_ hf gf j
  | 0, _ => fun h => by cases h
  | d + 1, i => fun h => by
    simp only [ds_] at h
    split at h
    · obtain ⟨j, a, b⟩ := ds_mem hf gf d (i + 1) h
      exact ⟨j, by omega, b⟩
    · rcases List.mem_cons.1 h with h | h
      · exact ⟨i, by omega, h⟩
      · obtain ⟨j, a, b⟩ := ds_mem hf gf d (i + 1) h
        exact ⟨j, by omega, b⟩
theorem round_loop {l : List Dot} (hl : l.length ≤ 8) (hr : ∀ x ∈ l, Rnd (x.f1.f0, x.f1.f1, x.f2.f0, x.f2.f1)) :
    ∀ (d i : Nat), i + d = l.length → ∀ k, 2 + d ≤ k → ephemeriskeep2_StarmapRound.l0 k l 0 l (l.length : Int) (i : Int) = some true
  | 0, i, hi, k, hk => by
    obtain ⟨k, rfl⟩ : ∃ m, k = m + 1 := ⟨k - 1, by omega⟩
    simp only [ephemeriskeep2_StarmapRound.l0]
    rw [if_neg (by omega), if_pos trivial, decide_eq_true (by omega)]
  | d + 1, i, hi, k, hk => by
    obtain ⟨k, rfl⟩ : ∃ m, k = m + 1 := ⟨k - 1, by omega⟩
    simp only [ephemeriskeep2_StarmapRound.l0]
    rw [if_pos (by omega), if_pos (by omega), if_pos (by omega)]
    have m : rd_T47 l (i : Int) ∈ l := by
      unfold rd_T47
      rw [Int.toNat_natCast, List.getD_eq_getElem?_getD, List.getElem?_eq_getElem (show i < l.length by omega)]
      exact List.getElem_mem _
    have r := hr _ m
    unfold Rnd far at r
    simp only at r
    rw [if_neg (by omega), wrap_in (n := (i : Int) + 1) (by omega) (by omega), show ((i : Int) + 1) = ((i + 1 : Nat) : Int) by omega]
    exact round_loop hl hr d (i + 1) (by omega) k (by omega)
theorem StarmapRound : ephemeriskeep2_StarmapRound.Pure := by
  intro a0 a1 c _ _ _
  obtain ⟨kw, hw⟩ := map_works
  have m0 := tmod_lt (a := a0) (m := 500000001) (by omega)
  have m1 := tmod_lt (a := a1) (m := 220000001) (by omega)
  have bt : -302400000000000 ≤ c % 604800000000000 - 302400000000000 ∧ c % 604800000000000 - 302400000000000 < 302400000000000 := by omega
  refine ⟨kw + 100, ?_⟩
  unfold ephemeriskeep2_StarmapRound.f ephemeriskeep2_site.f
  rw [hw _ (by omega), inst_f]
  generalize c % 604800000000000 - 302400000000000 = t at *
  generalize Int.tmod a0 500000001 = p0 at *
  generalize Int.tmod a1 220000001 = p1 at *
  have HH : ∀ i : Nat, ∃ h : Int × Int, i < 8 → h.1 ≤ h.2 ∧ ∀ k, 61 ≤ k → place_Height.f k p0 p1 (ra_ t i) (ra_ t i + 201) ((lx_ i).2.2 - 100) ((lx_ i).2.2 + 100) t = some (h.1, h.2, 0) := fun i => by
    by_cases hi : i < 8
    · have b := lt_d i hi
      have r : 0 ≤ ra_ t i ∧ ra_ t i < 1000000000 := by unfold ra_; omega
      obtain ⟨h0, h1, hl, h⟩ := height_f (t := t) (p0 := p0) (p1 := p1) (r0 := ra_ t i) (r1 := ra_ t i + 201) (d0 := (lx_ i).2.2 - 100) (d1 := (lx_ i).2.2 + 100) (by omega) (by omega) (by omega) (by omega) (by omega) (by omega) (by omega) (by omega) (by omega) (by omega) (by omega) (by omega) (by omega)
      exact ⟨(h0, h1), fun _ => ⟨hl, h⟩⟩
    · exact ⟨(0, 0), fun h => absurd h hi⟩
  have GG : ∀ i : Nat, ∃ z : Int × Int × Int × Int, i < 8 → Rnd z ∧ ∀ k, 61 ≤ k → place_Ground.f k p0 p1 (ra_ t i) (ra_ t i + 201) ((lx_ i).2.2 - 100) ((lx_ i).2.2 + 100) t = some (z.1, z.2.1, z.2.2.1, z.2.2.2, 0) := fun i => by
    by_cases hi : i < 8
    · have b := lt_d i hi
      have r : 0 ≤ ra_ t i ∧ ra_ t i < 1000000000 := by unfold ra_; omega
      obtain ⟨z, rz, h⟩ := ground_r (t := t) (p0 := p0) (p1 := p1) (r0 := ra_ t i) (r1 := ra_ t i + 201) (d0 := (lx_ i).2.2 - 100) (d1 := (lx_ i).2.2 + 100) (by omega) (by omega) (by omega) (by omega) (by omega) (by omega) (by omega) (by omega) (by omega) (by omega) (by omega) (by omega) (by omega)
      exact ⟨z, fun _ => ⟨rz, h⟩⟩
    · exact ⟨(0, 0, 0, 0), fun h => absurd h hi⟩
  obtain ⟨hf, Hf⟩ := Classical.axiomOfChoice HH
  obtain ⟨gf, Gf⟩ := Classical.axiomOfChoice GG
  have pc : place_Check.f p0 p1 = some 0 := by
    unfold place_Check.f
    rw [if_neg (by omega), if_neg (by omega), if_neg (by omega), if_neg (by omega)]
  have mp : starmap_Map.f (kw + 100) p0 p1 t = some (ds_ hf gf 8 0, 0) := by
    unfold starmap_Map.f
    rw [pc]
    unfold series_Valid.f
    rw [if_pos (by omega), decide_eq_true (by omega), names_f]
    simp only [Option.bind_some, if_true]
    have := map_loop (p0 := p0) (p1 := p1) (t := t) (hf := hf) (gf := gf) (by omega) (by omega) (fun i hi k hk => (Hf i hi).2 k hk) (fun i hi k hk => (Gf i hi).2 k hk) 8 0 [] (by omega) (by simp) (kw + 100) (by omega)
    rw [List.nil_append] at this
    exact this
  simp only [Option.bind_some, if_true]
  rw [mp]
  simp only [Option.bind_some]
  have ln := ds_len hf gf 8 0
  refine round_loop (l := ds_ hf gf 8 0) ln ?_ (ds_ hf gf 8 0).length 0 (by omega) (kw + 100) (by omega)
  intro x hx
  obtain ⟨j, hj, rfl⟩ := ds_mem hf gf 8 0 hx
  exact (Gf j (by omega)).1
end Go.Proofs.YtgmjgnojjbajdaaDoor.Pure
