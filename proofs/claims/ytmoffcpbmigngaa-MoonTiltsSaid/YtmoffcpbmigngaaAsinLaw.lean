/- What trig.root and trig.ArcSin find. No condition on a program. -/
import Derived.Test.YtmoffcpbmigngaaJMx1
import Derived.Test.YtmoffcpbmigngaaArcLaw
import Derived.Test.YtmoffcpbmigngaaOverCore
namespace Go.Proofs.Ytmoffcpbmigngaa.JM
open Go.Proofs.Ytmoffcpbmigngaa.Own Go.Proofs.Ytmoffcpbmigngaa.Tp Go.RowKit Go.Proofs.YtmoffcpbmigngaaW.PrintWords Go.Proofs.YtmoffcpbmigngaaW.PrintLast

theorem sq_le_ {m s : Int} (h1 : 0 ≤ m) (h2 : 0 ≤ s) (h : m * m ≤ s * s) : m ≤ s := by
  rcases Int.lt_or_le s m with c | c
  · have e1 : s * s ≤ s * m := Int.mul_le_mul_of_nonneg_left (by omega) h2
    have e2 : s * m < m * m := Int.mul_lt_mul_of_pos_right c (by omega)
    omega
  · exact c
theorem rootl_f {n : Int} (n0 : 0 ≤ n) (n1 : n ≤ 1000000000000000000) : ∀ (d : Nat) (lo hi : Int), hi - lo ≤ d → 0 ≤ lo → lo ≤ hi → hi ≤ 2147483648 → lo * lo ≤ n → n < (hi + 1) * (hi + 1) → ∃ r, (∀ k, d + 1 ≤ k → trig_root.l0 k n lo hi = some r) ∧ 0 ≤ r ∧ r * r ≤ n ∧ n < (r + 1) * (r + 1)
  | 0, lo, hi, hd, a0, a1, a2, g1, g2 => by
    obtain rfl : lo = hi := by omega
    refine ⟨lo, fun k hk => ?_, a0, g1, g2⟩
    obtain ⟨k, rfl⟩ : ∃ m, k = m + 1 := ⟨k - 1, by omega⟩
    simp only [trig_root.l0]
    rw [if_neg (by omega)]
  | d + 1, lo, hi, hd, a0, a1, a2, g1, g2 => by
    by_cases c : lo < hi
    · obtain ⟨m, hm⟩ : ∃ m, (lo + hi + 1) / 2 = m := ⟨_, rfl⟩
      have m1 : lo < m ∧ m ≤ hi := by omega
      have q0 : 0 ≤ n / m := Int.ediv_nonneg n0 (by omega)
      have q1 : n / m ≤ n := Int.ediv_le_self _ n0
      have iff1 : m ≤ n / m ↔ m * m ≤ n := Int.le_ediv_iff_mul_le (by omega)
      have st : ∀ k, trig_root.l0 (k + 1) n lo hi = if m ≤ n / m then trig_root.l0 k n m hi else trig_root.l0 k n lo (m - 1) := by
        intro k
        simp only [trig_root.l0]
        rw [if_pos c, wrap_in (n := lo + hi) (by omega) (by omega), wrap_in (n := lo + hi + 1) (by omega) (by omega), tdiv_nn (by omega), hm, wrap_in (n := m) (by omega) (by omega), tdiv_nn n0, wrap_in (n := n / m) (by omega) (by omega), if_neg (by omega), wrap_in (n := m - 1) (by omega) (by omega)]
      by_cases c2 : m * m ≤ n
      · obtain ⟨r, f, rr⟩ := rootl_f n0 n1 d m hi (by omega) (by omega) m1.2 a2 c2 g2
        refine ⟨r, fun k hk => ?_, rr⟩
        obtain ⟨k, rfl⟩ : ∃ m, k = m + 1 := ⟨k - 1, by omega⟩
        rw [st, if_pos (iff1.2 c2)]
        exact f k (by omega)
      · obtain ⟨r, f, rr⟩ := rootl_f n0 n1 d lo (m - 1) (by omega) (by omega) (by omega) (by omega) g1 (by rw [show m - 1 + 1 = m by omega]; omega)
        refine ⟨r, fun k hk => ?_, rr⟩
        obtain ⟨k, rfl⟩ : ∃ m, k = m + 1 := ⟨k - 1, by omega⟩
        rw [st, if_neg (fun h => c2 (iff1.1 h))]
        exact f k (by omega)
    · obtain rfl : lo = hi := by omega
      refine ⟨lo, fun k hk => ?_, a0, g1, g2⟩
      obtain ⟨k, rfl⟩ : ∃ m, k = m + 1 := ⟨k - 1, by omega⟩
      simp only [trig_root.l0]
      rw [if_neg (by omega)]
theorem root_any {n : Int} (n0 : 0 ≤ n) (n1 : n ≤ 1000000000000000000) : ∃ r, (∀ k, 2147483649 ≤ k → trig_root.f k n = some r) ∧ 0 ≤ r ∧ r * r ≤ n ∧ n < (r + 1) * (r + 1) :=
  rootl_f n0 n1 2147483648 0 2147483648 (by omega) (by omega) (by omega) (by omega) (by omega) (by omega)

/-- sines from 0 to half a turn -/
theorem zs_ge {d : Int} (h1 : 0 ≤ d) (h2 : d ≤ 500000000) : 0 ≤ zs d ∧ (1 ≤ d → d ≤ 499999999 → 5 / 1000000000 ≤ zs d) ∧ (2 ≤ d → d ≤ 499999998 → 1 / 100000000 ≤ zs d) := by
  have n1 : 5 / 1000000000 ≤ 8 / 9 * arc 1 := by decide +kernel
  have n2 : 1 / 100000000 ≤ 8 / 9 * arc 2 := by decide +kernel
  have z0 : arc 0 = 0 := by decide +kernel
  rcases (by omega : d ≤ 125000000 ∨ (125000001 ≤ d ∧ d ≤ 375000000) ∨ 375000001 ≤ d) with c | c | c
  · have e := (z_q0 (a := d) (by omega) c).1
    have m := arc_mono h1
    have b := arc_b (a := d) (by omega) c
    have s := sn_b (x := arc d) (by grind) b.2
    rw [e]
    exact ⟨by grind, fun g _ => by have := arc_mono g; grind, fun g _ => by have := arc_mono g; grind⟩
  · have e := (z_q1 c.1 c.2).1
    have b := arc_b (a := d - 250000000) (by omega) (by omega)
    have s := (cn_b b.1 b.2).2.2
    rw [e]
    exact ⟨by grind, fun _ _ => by grind, fun _ _ => by grind⟩
  · have e := (z_q2 (a := d) c (by omega)).1
    have n : arc (d - 500000000) = -(arc (500000000 - d)) := by rw [← arc_neg, Int.neg_sub]
    have b := arc_b (a := 500000000 - d) (by omega) (by omega)
    have m := arc_mono (show 0 ≤ 500000000 - d by omega)
    have s := sn_b (x := arc (500000000 - d)) (by grind) b.2
    rw [e, n, sn_neg]
    exact ⟨by grind, fun _ g => by have := arc_mono (show 1 ≤ 500000000 - d by omega); grind, fun _ g => by have := arc_mono (show 2 ≤ 500000000 - d by omega); grind⟩
/-- where a sine is positive, and where it is negative -/
theorem zs_up {b : Int} (h : 0 < zs b) : 0 < b % 1000000000 ∧ b % 1000000000 < 500000000 := by
  rw [← (z_mod b).1] at h
  have z0 : zs 0 = 0 := by decide +kernel
  refine ⟨?_, ?_⟩
  · rcases (by omega : b % 1000000000 = 0 ∨ 0 < b % 1000000000) with c | c
    · rw [c, z0] at h; exact absurd h (by decide)
    · exact c
  · rcases Int.lt_or_le (b % 1000000000) 500000000 with c | c
    · exact c
    · exfalso
      have e := (z_half (b % 1000000000 - 500000000)).1
      rw [show b % 1000000000 - 500000000 + 500000000 = b % 1000000000 by omega] at e
      have := (zs_ge (d := b % 1000000000 - 500000000) (by omega) (by omega)).1
      grind
theorem zs_dn {b : Int} (h : zs b < 0) : 500000000 < b % 1000000000 := by
  rw [← (z_mod b).1] at h
  rcases Int.lt_or_le 500000000 (b % 1000000000) with c | c
  · exact c
  · exfalso
    have := (zs_ge (d := b % 1000000000) (by omega) c).1
    grind

theorem sq0 (u : Rat) : 0 ≤ u * u := by
  rcases (Rat.le_total (a := 0) (b := u)) with c | c
  · exact Rat.mul_nonneg c c
  · have := Rat.mul_nonneg (show 0 ≤ -u by grind) (show 0 ≤ -u by grind); grind
theorem le_sq {a b : Rat} (_ha : 0 ≤ a) (h : a * a ≤ b * b) (hb : 0 ≤ b) : a ≤ b := by
  rcases (Rat.le_total (a := a) (b := b)) with c | c
  · exact c
  · rcases (by grind : a = b ∨ b < a) with e | e
    · grind
    · exfalso
      have m1 := Rat.mul_nonneg (show 0 ≤ a - b by grind) hb
      have m2 := Rat.mul_pos (show 0 < a - b by grind) (show 0 < a by grind)
      grind
/-- a sine that is not above that of an angle: what direction finds is hardly above it -/
theorem asin_lo {v r : Int} (v0 : -1000000000 ≤ v) (v1 : v ≤ 1000000000) (r0 : 0 ≤ r) (r1 : r * r ≤ 1000000000000000000 - v * v) (r2 : 1000000000000000000 - v * v < (r + 1) * (r + 1)) {a : Int} (hcr : 0 ≤ cr v r a)
    (g1 : 0 ≤ v → a ≤ 249999998) (g2 : v < 0 → -250000001 ≤ a ∧ a ≤ -2) {θ : Int} (t0 : -250000000 ≤ θ) (t1 : θ ≤ 250000000) (hv : (v : Rat) ≤ 1000000000 * zs θ - 98 / 100 ∨ v = -1000000000) : a - 1 ≤ θ := by
  rcases Int.lt_or_le θ (a - 1) with c | c
  rotate_left
  · exact c
  exfalso
  have e0 := e0_
  have ep : eps = 1 / 10000000000000 := rfl
  obtain ⟨⟨n1, n2⟩, n3, n4⟩ := z_neg θ
  obtain ⟨⟨a1, a2⟩, -⟩ := z_add a (-θ)
  have zcb : ∀ b : Int, -250000000 ≤ b → b ≤ 250000000 → 0 ≤ zc b := fun b h1 h2 => by
    have := (zs_ge (d := b + 250000000) (by omega) (by omega)).1
    rwa [z_quarter] at this
  have py := z_pyth θ
  have o1 := z_one (z := zs a) (w := zc a) (z_pyth a).2
  have o2 := z_one (z := zc a) (w := zs a) (by have := (z_pyth a).2; grind)
  have o3 := z_one (z := zs θ) (w := zc θ) py.2
  have o4 := z_one (z := zc θ) (w := zs θ) (by have := py.2; grind)
  have R0 := icast0 r0
  have C0 := zcb θ t0 t1
  have rr1 : (((r * r : Int)) : Rat) ≤ ((1000000000000000000 - v * v : Int) : Rat) := Rat.intCast_le_intCast.2 r1
  have rr2 : ((1000000000000000000 - v * v : Int) : Rat) ≤ (((r + 1) * (r + 1) : Int) : Rat) := Rat.intCast_le_intCast.2 (by omega)
  have cT : ((1000000000000000000 : Int) : Rat) = 1000000000000000000 := by decide +kernel
  have cN : ((-1000000000 : Int) : Rat) = -1000000000 := by decide +kernel
  have c1 : ((1 : Int) : Rat) = 1 := by decide +kernel
  simp only [Rat.intCast_mul, Rat.intCast_sub, Rat.intCast_add, cT, c1] at rr1 rr2
  unfold cr at hcr
  -- what the theorem of addition says
  have key : zs (a - θ) ≤ zs a * zc θ - zc a * zs θ + 50 * eps := by
    rw [show a + -θ = a - θ by omega] at a1 a2
    have m1 := mul_ab (u := zs a) (v := zc (-θ) - zc θ) (A := 2) (B := 4 * eps) (by grind) (by grind) n3 n4
    have m2 := mul_ab (u := zc a) (v := zs (-θ) + zs θ) (A := 2) (B := 4 * eps) (by grind) (by grind) n1 n2
    grind
  rcases Int.lt_or_le v 0 with c0 | c0
  · obtain ⟨h1, h2⟩ := g2 c0
    have za : zs a ≤ 4 * eps := by
      have := (zs_ge (d := -a) (by omega) (by omega)).1
      have := (z_neg a).1
      grind
    have ca := zcb a (by omega) (by omega)
    have ca2 : 5 / 1000000000 ≤ zc a := by
      have := (zs_ge (d := a + 250000000) (by omega) (by omega)).2.1 (by omega) (by omega)
      rwa [z_quarter] at this
    have pos := (zs_ge (d := a - θ) (by omega) (by omega)).2.2 (by omega) (by omega)
    rcases hv with hv | hv
    · -- r is hardly above the cosine
      have S0 : zs θ ≤ -(5 / 1000000000) + 4 * eps := by
        have := (zs_ge (d := -θ) (by omega) (by omega)).2.1 (by omega) (by omega)
        grind
      have rb : (r : Rat) ≤ 1000000000 * zc θ + 1 / 1000 := by
        refine le_sq R0 ?_ (by grind)
        have vv : (1000000000 * zs θ - 98 / 100) * (1000000000 * zs θ - 98 / 100) ≤ (v : Rat) * (v : Rat) := by
          have q1 := Rat.mul_nonneg (show 0 ≤ (1000000000 * zs θ - 98 / 100) - (v : Rat) by grind) (show 0 ≤ -(v : Rat) by grind)
          have q2 := Rat.mul_nonneg (show 0 ≤ (1000000000 * zs θ - 98 / 100) - (v : Rat) by grind) (show 0 ≤ -(1000000000 * zs θ - 98 / 100) by grind)
          grind
        rcases (Rat.le_total (a := zs θ) (b := -(1 / 10000))) with k | k
        · generalize zs θ = S at *
          generalize zc θ = C at *
          grind
        · have C1 : 9 / 10 ≤ zc θ := by
            refine le_sq (by decide +kernel) ?_ C0
            have := Rat.mul_nonneg (show 0 ≤ zs θ + 1 / 10000 by grind) (show 0 ≤ 1 / 10000 - zs θ by grind)
            grind
          generalize zs θ = S at *
          generalize zc θ = C at *
          grind
      have q1 := Rat.mul_nonneg (show 0 ≤ (1000000000 * zs θ - 98 / 100) - (v : Rat) by grind) ca
      have q2 := Rat.mul_nonneg (show 0 ≤ 4 * eps - zs a by grind) (show 0 ≤ 1000000000 * zc θ + 1 / 1000 - (r : Rat) by grind)
      have q3 := Rat.mul_nonneg (show 0 ≤ 4 * eps by grind) R0
      have q4 := Rat.mul_nonneg (show 0 ≤ 4 * eps by grind) C0
      have rN : (r : Rat) ≤ 2000000000 := by grind
      have q5 := Rat.mul_nonneg (show 0 ≤ 4 * eps by grind) (show 0 ≤ 2000000000 - (r : Rat) by grind)
      generalize zs a = sa at *
      generalize zc a = ca' at *
      generalize zs θ = S at *
      generalize zc θ = C at *
      generalize zs (a - θ) = D at *
      generalize (v : Rat) = V at *
      generalize (r : Rat) = R at *
      rw [ep] at *
      grind
    · rw [hv, cN] at hcr rr1
      have r00 : (r : Rat) * (r : Rat) ≤ 0 := by grind
      have rz : (r : Rat) = 0 := by
        have := le_sq R0 (b := 0) (by grind) (by decide)
        grind
      rw [rz] at hcr
      grind
  · have h1 := g1 c0
    have V0 := icast0 c0
    rcases hv with hv | hv
    rotate_left
    · omega
    have T0 : 0 ≤ θ := by
      rcases Int.lt_or_le θ 0 with k | k
      · exfalso
        have := (zs_ge (d := -θ) (by omega) (by omega)).2.1 (by omega) (by omega)
        grind
      · exact k
    have za := (zs_ge (d := a) (by omega) (by omega)).1
    have ca := zcb a (by omega) (by omega)
    have pos := (zs_ge (d := a - θ) (by omega) (by omega)).2.2 (by omega) (by omega)
    have S0 : 0 ≤ zs θ := (zs_ge T0 (by omega)).1
    have rb : 1000000000 * zc θ - 1 / 1000 ≤ (r : Rat) + 1 := by
      rcases (Rat.le_total (a := 1000000000 * zc θ - 1 / 1000) (b := 0)) with k0 | k0
      · grind
      refine le_sq k0 ?_ (by grind)
      have vv : (v : Rat) * (v : Rat) ≤ (1000000000 * zs θ - 98 / 100) * (1000000000 * zs θ - 98 / 100) := by
        have q1 := Rat.mul_nonneg (show 0 ≤ (1000000000 * zs θ - 98 / 100) - (v : Rat) by grind) V0
        have q2 := Rat.mul_nonneg (show 0 ≤ (1000000000 * zs θ - 98 / 100) - (v : Rat) by grind) (show 0 ≤ 1000000000 * zs θ - 98 / 100 by grind)
        grind
      rcases (Rat.le_total (a := 1 / 10000) (b := zs θ)) with k | k
      · generalize zs θ = S at *
        generalize zc θ = C at *
        grind
      · have C1 : 9 / 10 ≤ zc θ := by
          refine le_sq (by decide +kernel) ?_ C0
          have := Rat.mul_nonneg (show 0 ≤ zs θ + 1 / 10000 by grind) (show 0 ≤ 1 / 10000 - zs θ by grind)
          grind
        generalize zs θ = S at *
        generalize zc θ = C at *
        grind
    have q1 := Rat.mul_nonneg (show 0 ≤ (1000000000 * zs θ - 98 / 100) - (v : Rat) by grind) ca
    have q2 := Rat.mul_nonneg (show 0 ≤ (r : Rat) + 1 - (1000000000 * zc θ - 1 / 1000) by grind) za
    generalize zs a = sa at *
    generalize zc a = ca' at *
    generalize zs θ = S at *
    generalize zc θ = C at *
    generalize zs (a - θ) = D at *
    generalize (v : Rat) = V at *
    generalize (r : Rat) = R at *
    rw [ep] at *
    grind

/-- a is about the arc of the sine v -/
def AsB (v a : Int) : Prop := (∀ θ : Int, -250000000 ≤ θ → θ ≤ 250000000 → ((v : Rat) ≤ 1000000000 * zs θ - 98 / 100 ∨ v = -1000000000) → a - 1 ≤ θ) ∧ (∀ θ : Int, -250000000 ≤ θ → θ ≤ 250000000 → (1000000000 * zs θ + 99 / 100 ≤ (v : Rat) ∨ v = 1000000000) → θ ≤ a + 4)
theorem as_b {v : Int} (v0 : -1000000000 ≤ v) (v1 : v ≤ 1000000000) : ∃ r a K, (∀ k, K ≤ k → trig_root.f k (wrap64 (1000000000000000000 - (wrap64 (v * v)))) = some r ∧ trig_direction.f k v r = some (a, a + 3)) ∧ AsB v a ∧ -250000001 ≤ a ∧ a ≤ 249999998 := by
  have vv : 0 ≤ v * v ∧ v * v ≤ 1000000000000000000 := by
    rcases Int.lt_or_le v 0 with c | c
    · have h1 : 0 ≤ (-v) * (-v) := Int.mul_nonneg (by omega) (by omega)
      have h2 : (-v) * (-v) ≤ 1000000000 * 1000000000 := Int.mul_le_mul (by omega) (by omega) (by omega) (by omega)
      rw [Int.neg_mul_neg] at h1 h2
      omega
    · have h1 : 0 ≤ v * v := Int.mul_nonneg c c
      have h2 : v * v ≤ 1000000000 * 1000000000 := Int.mul_le_mul v1 v1 c (by omega)
      omega
  obtain ⟨r, f, r0, r1, r2⟩ := root_any (n := 1000000000000000000 - v * v) (by omega) (by omega)
  have r3 : r ≤ 1000000000 := sq_le_ r0 (by omega) (by omega)
  have nz : v ≠ 0 ∨ r ≠ 0 := by
    by_cases c : v = 0
    · refine Or.inr fun h => ?_
      rw [c, h] at r2
      omega
    · exact Or.inl c
  obtain ⟨a, K, g, d, a0, a1, q1, q2⟩ := direction_f (y := v) (x := r) (by omega) (by omega) (by omega) (by omega) nz
  have b := sz_b v r
  have e0 := e0_
  have rb : -250000001 ≤ a ∧ a ≤ 249999998 := by
    rcases Int.lt_or_le v 0 with c | c
    · have := q2 r0 c; omega
    · have := q1 r0 c; omega
  refine ⟨r, a, K + 2147483649, fun k hk => ⟨?_, g k (by omega)⟩, ⟨fun θ t0 t1 hv => ?_, fun θ t0 t1 hv => ?_⟩, rb⟩
  · rw [wrap_in (n := v * v) (by omega) (by omega), wrap_in (by omega) (by omega)]
    exact f k (by omega)
  · refine asin_lo v0 v1 r0 r1 r2 (a := a) ?_ (fun c => (q1 r0 c).2) (fun c => q2 r0 c) t0 t1 hv
    have := Rat.mul_nonneg (show 0 ≤ 1 / 1000000000 - 30 * eps by grind) b.1
    have := d.1
    grind
  · have d2 := Dr_neg d b.1 b.2.1 b.2.2.1 b.2.2.2.1 b.2.2.2.2
    have n := (z_neg θ).1
    have := asin_lo (v := -v) (r := r) (a := -(a + 3)) (θ := -θ) (by omega) (by omega) r0 (by rw [Int.neg_mul_neg]; exact r1) (by rw [Int.neg_mul_neg]; exact r2) ?_ (fun c => ?_) (fun c => ?_) (by omega) (by omega) ?_
    · omega
    · have := Rat.mul_nonneg (show 0 ≤ 1 / 1000000000 - 30 * eps - 10 * eps by grind) b.1
      have := d2.1
      rw [Rat.intCast_neg]
      grind
    · omega
    · have := q1 r0 (by omega); omega
    · rcases hv with hv | hv
      · exact Or.inl (by rw [Rat.intCast_neg]; grind)
      · exact Or.inr (by omega)
def clp (x : Int) : Int := mx (-1000000000) (mn 1000000000 x)
theorem clp_b (x : Int) : -1000000000 ≤ clp x ∧ clp x ≤ 1000000000 := by unfold clp; simp only [mx, mn]; omega
/-- what ArcSin finds -/
theorem arcsin_f {p q : Int} (h1 : -1000000000000000000 ≤ p) (h2 : p ≤ q) (h3 : q ≤ 1000000000000000000) : ∃ a b K, (∀ k, K ≤ k → trig_ArcSin.f k p q = some (mx (-250000000) (a - 1), mn 250000000 (b + 4), 0)) ∧ AsB (clp p) a ∧ AsB (clp q) b := by
  have c1 := clp_b p
  have c2 := clp_b q
  obtain ⟨r, a, K, f, ha, a0, a1⟩ := as_b c1.1 c1.2
  obtain ⟨s, b, L, g, hb, b0, b1⟩ := as_b c2.1 c2.2
  refine ⟨a, b, K + L + 1, fun k hk => ?_, ha, hb⟩
  have f' := f k (by omega)
  have g' := g k (by omega)
  unfold trig_ArcSin.f
  obtain ⟨k, rfl⟩ : ∃ m, k = m + 1 := ⟨k - 1, by omega⟩
  rw [tcheck_f h1 h2 h3]
  simp only [Option.bind_some, if_true]
  unfold clp at f' g'
  rw [f'.1]
  simp only [Option.bind_some]
  rw [f'.2]
  simp only [Option.bind_some]
  rw [g'.1]
  simp only [Option.bind_some]
  rw [g'.2]
  simp only [Option.bind_some]
  rw [wrap_in (n := a - 1) (by omega) (by omega), wrap_in (n := b + 3 + 1) (by omega) (by omega), show b + 3 + 1 = b + 4 by omega]
end Go.Proofs.Ytmoffcpbmigngaa.JM
