/- Directions: what trig.acute and trig.direction find. No condition on a program. -/
import Derived.Test.YtgmjgnojjbajdaaDoorJGx1
import Derived.Test.YtgmjgnojjbajdaaDoorZsLaw
namespace Go.Proofs.YtgmjgnojjbajdaaDoor.JG
open Go.Proofs.YtgmjgnojjbajdaaDoor.Own Go.Proofs.YtgmjgnojjbajdaaDoor.Tp Go.RowKit Go.Proofs.YtgmjgnojjbajdaaDoorW.PrintWords Go.Proofs.YtgmjgnojjbajdaaDoorW.PrintLast

/-- how far a direction lies beyond an angle, and along it -/
def cr (y x : Rat) (a : Int) : Rat := y * zc a - x * zs a
def dt (y x : Rat) (a : Int) : Rat := x * zc a + y * zs a

theorem e0_ : 0 ≤ eps ∧ eps ≤ 1 / 10000000000000 := by decide +kernel

theorem z_bd0 (a : Int) : -(1 + eps) ≤ zs a ∧ zs a ≤ 1 + eps ∧ -(1 + eps) ≤ zc a ∧ zc a ≤ 1 + eps := by
  have p := (z_pyth a).2
  have o1 := z_one (z := zs a) (w := zc a) p
  have o2 := z_one (z := zc a) (w := zs a) (by grind)
  exact ⟨o1.1, o1.2, o2.1, o2.2⟩
theorem cr_add {y x B : Rat} (y0 : -B ≤ y) (y1 : y ≤ B) (x0 : -B ≤ x) (x1 : x ≤ B) (a b : Int) :
    (-(B * (60 * eps)) ≤ cr y x (a + b) - (cr y x a * zc b - dt y x a * zs b) ∧ cr y x (a + b) - (cr y x a * zc b - dt y x a * zs b) ≤ B * (60 * eps)) ∧
    (-(B * (60 * eps)) ≤ dt y x (a + b) - (dt y x a * zc b + cr y x a * zs b) ∧ dt y x (a + b) - (dt y x a * zc b + cr y x a * zs b) ≤ B * (60 * eps)) := by
  obtain ⟨⟨s1, s2⟩, c1, c2⟩ := z_add a b
  unfold cr dt
  obtain ⟨p, hp⟩ : ∃ p, zs a * zc b + zc a * zs b - zs (a + b) = p := ⟨_, rfl⟩
  obtain ⟨q, hq⟩ : ∃ q, zc a * zc b - zs a * zs b - zc (a + b) = q := ⟨_, rfl⟩
  rw [hp] at s1 s2
  rw [hq] at c1 c2
  have eS : zs (a + b) = zs a * zc b + zc a * zs b - p := by grind
  have eC : zc (a + b) = zc a * zc b - zs a * zs b - q := by grind
  have m1 := mul_ab y0 y1 c1 c2
  have m2 := mul_ab x0 x1 s1 s2
  have m3 := mul_ab y0 y1 s1 s2
  have m4 := mul_ab x0 x1 c1 c2
  rw [eS, eC]
  refine ⟨⟨?_, ?_⟩, ?_, ?_⟩ <;> grind

theorem zc_quarter (a : Int) : zc (a + 250000000) = -(zs a) := by
  have e1 : qd (a + 250000000) = qd a + 1 := by unfold qd; omega
  have e2 : dl (a + 250000000) = dl a := by unfold dl; rw [e1]; omega
  have k := k_add (qd a) 1
  have k1 : kc 1 = 0 ∧ ks 1 = 1 := by decide +kernel
  unfold zs zc
  rw [e1, e2, k.1, k.2, k1.1, k1.2]; grind
theorem z_half (a : Int) : zs (a + 500000000) = -(zs a) ∧ zc (a + 500000000) = -(zc a) := by
  have e : a + 500000000 = a + 250000000 + 250000000 := by omega
  rw [e, z_quarter, zc_quarter, zc_quarter, z_quarter]
  exact ⟨rfl, rfl⟩
/-- the opposite angle -/
theorem z_neg (a : Int) : (-(4 * eps) ≤ zs (-a) + zs a ∧ zs (-a) + zs a ≤ 4 * eps) ∧ (-(4 * eps) ≤ zc (-a) - zc a ∧ zc (-a) - zc a ≤ 4 * eps) := by
  have e0 := e0_
  by_cases h : a % 250000000 = 125000000
  · have e1 : qd (-a) = -(qd a) - 1 := by unfold qd; omega
    have e2 : dl (-a) = 125000000 := by unfold dl; rw [e1]; unfold qd; omega
    have e3 : dl a = 125000000 := by unfold dl qd; omega
    have d1 : -eps ≤ sn (arc 125000000) - cn (arc 125000000) ∧ sn (arc 125000000) - cn (arc 125000000) ≤ eps := by decide +kernel
    have k := k_b (qd a)
    have kk : kc (-(qd a) - 1) = -(ks (qd a)) ∧ ks (-(qd a) - 1) = -(kc (qd a)) := by
      rcases (by omega : qd a % 4 = 0 ∨ qd a % 4 = 1 ∨ qd a % 4 = 2 ∨ qd a % 4 = 3) with g | g | g | g
      · have a1 := (kq (qd a)).1 g
        have a2 := (kq (-(qd a) - 1)).2.2.2 (by omega)
        rw [a1.1, a1.2, a2.1, a2.2]; exact ⟨by grind, by grind⟩
      · have a1 := (kq (qd a)).2.1 g
        have a2 := (kq (-(qd a) - 1)).2.2.1 (by omega)
        rw [a1.1, a1.2, a2.1, a2.2]; exact ⟨by grind, by grind⟩
      · have a1 := (kq (qd a)).2.2.1 g
        have a2 := (kq (-(qd a) - 1)).2.1 (by omega)
        rw [a1.1, a1.2, a2.1, a2.2]; exact ⟨by grind, by grind⟩
      · have a1 := (kq (qd a)).2.2.2 g
        have a2 := (kq (-(qd a) - 1)).1 (by omega)
        rw [a1.1, a1.2, a2.1, a2.2]; exact ⟨by grind, by grind⟩
    unfold zs zc
    rw [e1, e2, e3, kk.1, kk.2]
    generalize sn (arc 125000000) = s at *
    generalize cn (arc 125000000) = c at *
    generalize kc (qd a) = p at *
    generalize ks (qd a) = q at *
    have m1 := mul_ab d1.1 d1.2 k.1 k.2.1
    have m2 := mul_ab d1.1 d1.2 k.2.2.1 k.2.2.2
    refine ⟨⟨?_, ?_⟩, ?_, ?_⟩ <;> grind
  · have e1 : qd (-a) = -(qd a) := by unfold qd; omega
    have e2 : dl (-a) = -(dl a) := by unfold dl; rw [e1]; omega
    have kk : kc (-(qd a)) = kc (qd a) ∧ ks (-(qd a)) = -(ks (qd a)) := by
      rcases (by omega : qd a % 4 = 0 ∨ qd a % 4 = 1 ∨ qd a % 4 = 2 ∨ qd a % 4 = 3) with g | g | g | g
      · have a1 := (kq (qd a)).1 g
        have a2 := (kq (-(qd a))).1 (by omega)
        rw [a1.1, a1.2, a2.1, a2.2]; exact ⟨by grind, by grind⟩
      · have a1 := (kq (qd a)).2.1 g
        have a2 := (kq (-(qd a))).2.2.2 (by omega)
        rw [a1.1, a1.2, a2.1, a2.2]; exact ⟨by grind, by grind⟩
      · have a1 := (kq (qd a)).2.2.1 g
        have a2 := (kq (-(qd a))).2.2.1 (by omega)
        rw [a1.1, a1.2, a2.1, a2.2]; exact ⟨by grind, by grind⟩
      · have a1 := (kq (qd a)).2.2.2 g
        have a2 := (kq (-(qd a))).2.1 (by omega)
        rw [a1.1, a1.2, a2.1, a2.2]; exact ⟨by grind, by grind⟩
    unfold zs zc
    rw [e1, e2, arc_neg, sn_neg, cn_neg, kk.1, kk.2]
    refine ⟨⟨?_, ?_⟩, ?_, ?_⟩ <;> grind

/-! ### acute -/
def Rc (t a : Int) : Prop := (oct a).1 / 536870912 * 2147483648 ≤ t * ((oct a).2 / 536870912)
instance (t a : Int) : Decidable (Rc t a) := inferInstanceAs (Decidable (_ ≤ _))
theorem reaches_f {t a : Int} (t0 : 0 ≤ t) (t1 : t ≤ 2147483648) (a0 : 0 ≤ a) (a1 : a ≤ 125000000) (k : Nat) (hk : 10 ≤ k) : trig_reaches.f k t a = some (decide (Rc t a)) := by
  obtain ⟨o, b1, b2, b3, b4⟩ := oct_f a0 a1 k hk
  unfold trig_reaches.f Rc
  rw [o]
  simp only [Option.bind_some]
  have g1 : 0 ≤ (oct a).1 / 536870912 ∧ (oct a).1 / 536870912 ≤ 2147483648 := by omega
  have g2 : 0 ≤ (oct a).2 / 536870912 ∧ (oct a).2 / 536870912 ≤ 2147483648 := by omega
  have m0 : 0 ≤ t * ((oct a).2 / 536870912) := Int.mul_nonneg t0 g2.1
  have m1 : t * ((oct a).2 / 536870912) ≤ 2147483648 * 2147483648 := Int.mul_le_mul t1 g2.2 g2.1 (by omega)
  rw [wrap_in (n := (oct a).1 / 536870912 * 2147483648) (by omega) (by omega), wrap_in (n := t * ((oct a).2 / 536870912)) (by omega) (by omega)]
  exact congrArg some (decide_eq_decide.2 Iff.rfl)

/-- the search upwards, and the one downwards ahead of it -/
theorem l4_f {t : Int} (t0 : 0 ≤ t) (t1 : t ≤ 2147483648) : ∀ (d : Nat) (a : Int), 0 ≤ a → a + d = 125000000 → ∃ n K, (∀ k, K ≤ k → trig_acute.l4 k t a = some n) ∧ a ≤ n ∧ n ≤ 125000000 ∧ (n = a ∨ Rc t n) ∧ (n = 125000000 ∨ ¬ Rc t (n + 1))
  | 0, a, a0, h => ⟨a, 1, fun k hk => by
      obtain ⟨k, rfl⟩ : ∃ m, k = m + 1 := ⟨k - 1, by omega⟩
      simp only [trig_acute.l4]
      rw [if_neg (by omega)], by omega, by omega, Or.inl rfl, Or.inl (by omega)⟩
  | d + 1, a, a0, h => by
    by_cases c : Rc t (a + 1)
    · obtain ⟨n, K, f, n1, n2, n3, n4⟩ := l4_f t0 t1 d (a + 1) (by omega) (by omega)
      refine ⟨n, K + 11, fun k hk => ?_, by omega, n2, ?_, n4⟩
      · obtain ⟨k, rfl⟩ : ∃ m, k = m + 1 := ⟨k - 1, by omega⟩
        simp only [trig_acute.l4]
        rw [if_pos (by omega), wrap_in (n := a + 1) (by omega) (by omega), reaches_f t0 t1 (by omega) (by omega) k (by omega)]
        simp only [Option.bind_some]
        rw [if_pos (by simpa using c)]
        exact f k (by omega)
      · rcases n3 with n3 | n3
        · exact Or.inr (n3 ▸ c)
        · exact Or.inr n3
    · refine ⟨a, 11, fun k hk => ?_, by omega, by omega, Or.inl rfl, Or.inr c⟩
      obtain ⟨k, rfl⟩ : ∃ m, k = m + 1 := ⟨k - 1, by omega⟩
      simp only [trig_acute.l4]
      rw [if_pos (by omega), wrap_in (n := a + 1) (by omega) (by omega), reaches_f t0 t1 (by omega) (by omega) k (by omega)]
      simp only [Option.bind_some]
      rw [if_neg (by simpa using c)]
theorem l3_f {t : Int} (t0 : 0 ≤ t) (t1 : t ≤ 2147483648) : ∀ (d : Nat) (a : Int), a = d → a ≤ 125000000 → ∃ n K, (∀ k, K ≤ k → trig_acute.l3 k t a = some n) ∧ 0 ≤ n ∧ n ≤ 125000000 ∧ (n = 0 ∨ Rc t n) ∧ (n = 125000000 ∨ ¬ Rc t (n + 1))
  | 0, a, h, a1 => by
    obtain ⟨n, K, f, n1, n2, n3, n4⟩ := l4_f t0 t1 125000000 0 (by omega) (by omega)
    refine ⟨n, K + 2, fun k hk => ?_, n1, n2, n3, n4⟩
    obtain ⟨k, rfl⟩ : ∃ m, k = m + 2 := ⟨k - 2, by omega⟩
    obtain rfl : a = 0 := by omega
    simp only [trig_acute.l3, trig_acute.j4]
    rw [if_neg (by omega)]
    exact f k (by omega)
  | d + 1, a, h, a1 => by
    by_cases c : Rc t a
    · obtain ⟨n, K, f, n1, n2, n3, n4⟩ := l4_f t0 t1 (125000000 - a).toNat a (by omega) (by omega)
      refine ⟨n, K + 12, fun k hk => ?_, by omega, n2, ?_, n4⟩
      · obtain ⟨k, rfl⟩ : ∃ m, k = m + 2 := ⟨k - 2, by omega⟩
        simp only [trig_acute.l3, trig_acute.j4]
        rw [if_pos (by omega), reaches_f t0 t1 (by omega) a1 (k + 1) (by omega)]
        simp only [Option.bind_some]
        rw [if_pos (by simpa using c)]
        exact f k (by omega)
      · rcases n3 with n3 | n3
        · exact Or.inr (n3 ▸ c)
        · exact Or.inr n3
    · obtain ⟨n, K, f, n1, n2, n3, n4⟩ := l3_f t0 t1 d (a - 1) (by omega) (by omega)
      refine ⟨n, K + 11, fun k hk => ?_, n1, n2, n3, n4⟩
      obtain ⟨k, rfl⟩ : ∃ m, k = m + 1 := ⟨k - 1, by omega⟩
      simp only [trig_acute.l3]
      rw [if_pos (by omega), reaches_f t0 t1 (by omega) a1 k (by omega)]
      simp only [Option.bind_some]
      rw [if_neg (by simpa using c), wrap_in (n := a - 1) (by omega) (by omega)]
      exact f k (by omega)
/-- cosines of the first octant -/
theorem oct_c {a : Int} (a0 : 0 ≤ a) (a1 : a ≤ 125000000) : 700000000000000000 ≤ (oct a).2 := by
  obtain ⟨-, n2, x0, x1⟩ := oct_near a0 a1
  have c := (cn_b (x := arc a) (by grind) x1).2.2
  unfold Nr U at n2
  have : ((700000000000000000 : Int) : Rat) ≤ ((oct a).2 : Rat) := by
    have e : ((700000000000000000 : Int) : Rat) = 700000000000000000 := by decide +kernel
    rw [e]; grind
  exact Rat.intCast_le_intCast.1 this
/-- Newton's rounds: wherever they lead, the search ends -/
theorem l2_f {t : Int} (t0 : 0 ≤ t) (t1 : t ≤ 2147483648) : ∀ (d : Nat) (a i : Int), i + d = 4 → 0 ≤ i → 0 ≤ a → a ≤ 125000000 → ∃ n K, (∀ k, K ≤ k → trig_acute.l2 k t a i = some n) ∧ 0 ≤ n ∧ n ≤ 125000000 ∧ (n = 0 ∨ Rc t n) ∧ (n = 125000000 ∨ ¬ Rc t (n + 1))
  | 0, a, i, h, i0, a0, a1 => by
    obtain ⟨n, K, f, r⟩ := l3_f t0 t1 a.toNat a (by omega) a1
    refine ⟨n, K + 1, fun k hk => ?_, r⟩
    obtain ⟨k, rfl⟩ : ∃ m, k = m + 1 := ⟨k - 1, by omega⟩
    simp only [trig_acute.l2]
    rw [if_neg (by omega)]
    exact f k (by omega)
  | d + 1, a, i, h, i0, a0, a1 => by
    have oc := oct_c a0 a1
    obtain ⟨-, b1, b2, b3, b4⟩ := oct_f a0 a1 10 (Nat.le_refl _)
    obtain ⟨v, hv⟩ : ∃ v, mx 0 (mn 125000000 (wrap64 (a - (wrap64 (Int.tdiv (wrap64 ((wrap64 (((oct a).1 / 1073741824) * 2147483648)) - (wrap64 (t * ((oct a).2 / 1073741824))))) (wrap64 (Int.tdiv (wrap64 ((wrap64 (((oct a).2 / 1073741824) * 2147483648)) + (wrap64 (t * ((oct a).1 / 1073741824))))) 159154943))))))) = v := ⟨_, rfl⟩
    have vb : 0 ≤ v ∧ v ≤ 125000000 := by rw [← hv]; simp only [mx, mn]; omega
    obtain ⟨n, K, f, r⟩ := l2_f t0 t1 d v (i + 1) (by omega) (by omega) vb.1 vb.2
    refine ⟨n, K + 11, fun k hk => ?_, r⟩
    obtain ⟨k, rfl⟩ : ∃ m, k = m + 1 := ⟨k - 1, by omega⟩
    simp only [trig_acute.l2]
    rw [if_pos (by omega), (oct_f a0 a1 k (by omega)).1]
    simp only [Option.bind_some]
    rw [if_neg ?_, hv, wrap_in (n := i + 1) (by omega) (by omega)]
    · exact f k (by omega)
    · have g1 : 0 ≤ (oct a).1 / 1073741824 ∧ (oct a).1 / 1073741824 ≤ 1073741824 := by omega
      have g2 : 600000000 ≤ (oct a).2 / 1073741824 ∧ (oct a).2 / 1073741824 ≤ 1073741824 := by omega
      clear hv f r
      generalize (oct a).1 / 1073741824 = p at *
      generalize (oct a).2 / 1073741824 = q at *
      have m0 : 0 ≤ t * p := Int.mul_nonneg t0 g1.1
      have m1 : t * p ≤ 2147483648 * 1073741824 := Int.mul_le_mul t1 g1.2 g1.1 (by omega)
      rw [wrap_in (n := q * 2147483648) (by omega) (by omega), wrap_in (n := t * p) (by omega) (by omega), wrap_in (n := q * 2147483648 + t * p) (by omega) (by omega), tdiv_nn (by omega), wrap_in (by omega) (by omega)]
      omega
/-- doubling both -/
theorem l1_f : ∀ (d : Nat) (y x : Int), 0 ≤ y → y ≤ x → 1 ≤ x → x < 2147483648 → 1073741824 ≤ x + d → ∃ t n K, (∀ k, K ≤ k → trig_acute.l1 k y x = some n) ∧ 0 ≤ n ∧ n ≤ 125000000 ∧ (n = 0 ∨ Rc t n) ∧ (n = 125000000 ∨ ¬ Rc t (n + 1)) ∧ 0 ≤ t ∧ t ≤ 2147483648 ∧ t * x ≤ y * 2147483648 ∧ y * 2147483648 ≤ t * x + x
  | d, y, x, y0, yx, x1, x2, h => by
    by_cases c : x < 1073741824
    · obtain ⟨d', rfl⟩ : ∃ m, d = m + 1 := ⟨d - 1, by omega⟩
      obtain ⟨t, n, K, f, r1, r2, r3, r4, r5, r6, r7, r8⟩ := l1_f d' (y * 2) (x * 2) (by omega) (by omega) (by omega) (by omega) (by omega)
      refine ⟨t, n, K + 1, fun k hk => ?_, r1, r2, r3, r4, r5, r6, ?_, ?_⟩
      · obtain ⟨k, rfl⟩ : ∃ m, k = m + 1 := ⟨k - 1, by omega⟩
        simp only [trig_acute.l1]
        rw [if_pos c, wrap_in (n := y * 2) (by omega) (by omega), wrap_in (n := x * 2) (by omega) (by omega)]
        exact f k (by omega)
      · have e : t * (x * 2) = t * x * 2 := by rw [← Int.mul_assoc]
        rw [e] at r7 r8
        omega
      · have e : t * (x * 2) = t * x * 2 := by rw [← Int.mul_assoc]
        rw [e] at r7 r8
        omega
    · obtain ⟨t, ht⟩ : ∃ t, y * 2147483648 / x = t := ⟨_, rfl⟩
      have t0 : 0 ≤ t := by rw [← ht]; exact Int.ediv_nonneg (by omega) (by omega)
      have t2 : t * x ≤ y * 2147483648 := by rw [← ht]; exact Int.ediv_mul_le _ (by omega)
      have t3 : y * 2147483648 < (t + 1) * x := by rw [← ht]; exact Int.lt_ediv_add_one_mul_self _ (by omega)
      rw [Int.add_mul] at t3
      have t1 : t ≤ 2147483648 := by
        rw [← ht]
        refine Int.ediv_le_of_le_mul (by omega) ?_
        have : y * 2147483648 ≤ x * 2147483648 := Int.mul_le_mul_of_nonneg_right yx (by omega)
        omega
      have hm : 0 ≤ t * 125000000 ∧ t * 125000000 ≤ 2147483648 * 125000000 := ⟨Int.mul_nonneg t0 (by omega), Int.mul_le_mul_of_nonneg_right t1 (by omega)⟩
      obtain ⟨n, K, f, r1, r2, r3, r4⟩ := l2_f t0 t1 4 (t * 125000000 / 2147483648) 0 (by omega) (by omega) (by omega) (by omega)
      refine ⟨t, n, K + 1, fun k hk => ?_, r1, r2, r3, r4, t0, t1, t2, by omega⟩
      obtain ⟨k, rfl⟩ : ∃ m, k = m + 1 := ⟨k - 1, by omega⟩
      simp only [trig_acute.l1]
      rw [if_neg c, if_neg (by omega), wrap_in (n := y * 2147483648) (by omega) (by omega), tdiv_nn (by omega), ht, wrap_in (n := t) (by omega) (by omega), wrap_in (n := t * 125000000) (by omega) (by omega)]
      exact f k (by omega)
/-- what acute finds -/
theorem acute_i {y x : Int} (y0 : 0 ≤ y) (yx : y ≤ x) (x1 : 1 ≤ x) (x2 : x < 2147483648) : ∃ t n K, (∀ k, K ≤ k → trig_acute.f k y x = some n) ∧ 0 ≤ n ∧ n ≤ 125000000 ∧ (n = 0 ∨ Rc t n) ∧ (n = 125000000 ∨ ¬ Rc t (n + 1)) ∧ 0 ≤ t ∧ t ≤ 2147483648 ∧ t * x ≤ y * 2147483648 ∧ y * 2147483648 ≤ t * x + x := by
  obtain ⟨t, n, K, f, r⟩ := l1_f 1073741824 y x y0 yx x1 x2 (by omega)
  refine ⟨t, n, K + 1, fun k hk => ?_, r⟩
  obtain ⟨k, rfl⟩ : ∃ m, k = m + 1 := ⟨k - 1, by omega⟩
  unfold trig_acute.f
  simp only [trig_acute.l0]
  rw [if_neg (by omega)]
  exact f k (by omega)

/-! ### what is found lies about the direction -/
theorem num1 : 628 / 100000000000 ≤ zs 1 ∧ zs 1 ≤ 629 / 100000000000 ∧ 999 / 1000 ≤ zc 1 ∧ zc 1 ≤ 1 ∧ zs (-1) = -(zs 1) ∧ zc (-1) = zc 1 ∧ zs 2 ≤ 1258 / 100000000000 ∧ 1256 / 100000000000 ≤ zs 2 ∧ 999 / 1000 ≤ zc 2 ∧ zc 2 ≤ 1 ∧ zs 3 ≤ 1886 / 100000000000 ∧ 1884 / 100000000000 ≤ zs 3 ∧ 999 / 1000 ≤ zc 3 ∧ zc 3 ≤ 1 ∧ zs (-3) = -(zs 3) ∧ zc (-3) = zc 3 := by decide +kernel
theorem num8 : zc 125000002 - zs 125000002 ≤ -(177 / 10000000000) ∧ 70 / 100 ≤ zs 125000002 ∧ 70 / 100 ≤ zc 125000002 ∧ zs 125000002 ≤ 71 / 100 := by decide +kernel
theorem octz {a : Int} (a0 : 0 ≤ a) (a1 : a ≤ 125000000) : Nr (oct a).1 (U * zs a) 40 ∧ Nr (oct a).2 (U * zc a) 40 ∧ 0 ≤ zs a ∧ 2 / 3 ≤ zc a ∧ zs a ≤ 1 ∧ zc a ≤ 1 := by
  obtain ⟨n1, n2, x0, x1⟩ := oct_near a0 a1
  have e := z_q0 (a := a) (by omega) a1
  have c := cn_b (x := arc a) (by grind) x1
  have s := sn_b (x := arc a) x0 x1
  have xx : 0 ≤ arc a * arc a := Rat.mul_nonneg x0 x0
  have x2 : arc a * arc a ≤ 16 / 25 := by
    have := Rat.mul_nonneg (show 0 ≤ 4 / 5 - arc a by grind) (show 0 ≤ 4 / 5 + arc a by grind); grind
  have x3 := Rat.mul_nonneg xx (show 0 ≤ 16 / 25 - arc a * arc a by grind)
  rw [e.1, e.2]
  refine ⟨n1, n2, by grind, by grind, by grind, ?_⟩
  have := c.2.1
  generalize arc a * arc a = q at *
  grind
theorem rc_lo {t n y x : Int} (n0 : 0 ≤ n) (n1 : n ≤ 125000000) (h : Rc t n) (x0 : 0 ≤ x) (y0 : 0 ≤ y) (yx : y ≤ x) (ht : t * x ≤ y * 2147483648) : U * ((x : Rat) * zs n - (y : Rat) * zc n) ≤ 2147483900 * (x : Rat) := by
  obtain ⟨o1, o2, z1, z2, z3, z4⟩ := octz n0 n1
  obtain ⟨-, b1, b2, b3, b4⟩ := oct_f n0 n1 10 (Nat.le_refl _)
  unfold Rc at h
  have key : (oct n).1 * x ≤ y * (oct n).2 + 536870912 * x := by
    obtain ⟨p, hp⟩ : ∃ p, (oct n).1 / 536870912 = p := ⟨_, rfl⟩
    obtain ⟨q, hq⟩ : ∃ q, (oct n).2 / 536870912 = q := ⟨_, rfl⟩
    have p1 : (oct n).1 ≤ 536870912 * p + 536870911 := by omega
    have q1 : 536870912 * q ≤ (oct n).2 := by omega
    have q0 : 0 ≤ q := by omega
    rw [hp, hq] at h
    have a1 : (oct n).1 * x ≤ (536870912 * p + 536870911) * x := Int.mul_le_mul_of_nonneg_right p1 x0
    have a2 : p * 2147483648 * x ≤ t * q * x := Int.mul_le_mul_of_nonneg_right h x0
    have a3 : t * x * q ≤ y * 2147483648 * q := Int.mul_le_mul_of_nonneg_right ht q0
    have a4 : y * (536870912 * q) ≤ y * (oct n).2 := Int.mul_le_mul_of_nonneg_left q1 y0
    grind
  have r : (((oct n).1 * x : Int) : Rat) ≤ ((y * (oct n).2 + 536870912 * x : Int) : Rat) := Rat.intCast_le_intCast.2 key
  have c5 : ((536870912 : Int) : Rat) = 536870912 := by decide +kernel
  simp only [Rat.intCast_mul, Rat.intCast_add, c5] at r
  have X0 : (0 : Rat) ≤ (x : Rat) := Rat.intCast_le_intCast.2 x0
  have Y0 : (0 : Rat) ≤ (y : Rat) := Rat.intCast_le_intCast.2 y0
  have YX : (y : Rat) ≤ (x : Rat) := Rat.intCast_le_intCast.2 yx
  unfold Nr at o1 o2
  have m1 := Rat.mul_nonneg X0 (show 0 ≤ ((oct n).1 : Rat) - (U * zs n - 40) by grind)
  have m2 := Rat.mul_nonneg Y0 (show 0 ≤ (U * zc n + 40) - ((oct n).2 : Rat) by grind)
  generalize ((oct n).1 : Rat) = s at *
  generalize ((oct n).2 : Rat) = c at *
  grind
theorem rc_hi {t n y x : Int} (n0 : 0 ≤ n) (n1 : n ≤ 125000000) (h : ¬ Rc t n) (x0 : 0 ≤ x) (y0 : 0 ≤ y) (yx : y ≤ x) (ht : y * 2147483648 ≤ t * x + x) : U * ((y : Rat) * zc n - (x : Rat) * zs n) ≤ 2147483900 * (x : Rat) := by
  obtain ⟨o1, o2, z1, z2, z3, z4⟩ := octz n0 n1
  obtain ⟨-, b1, b2, b3, b4⟩ := oct_f n0 n1 10 (Nat.le_refl _)
  unfold Rc at h
  have key : y * (oct n).2 ≤ (oct n).1 * x + 1073741824 * x := by
    obtain ⟨p, hp⟩ : ∃ p, (oct n).1 / 536870912 = p := ⟨_, rfl⟩
    obtain ⟨q, hq⟩ : ∃ q, (oct n).2 / 536870912 = q := ⟨_, rfl⟩
    have p1 : 536870912 * p ≤ (oct n).1 := by omega
    have q1 : (oct n).2 ≤ 536870912 * q + 536870911 := by omega
    have q0 : 0 ≤ q := by omega
    have q2 : q ≤ 2147483648 := by omega
    rw [hp, hq] at h
    have h' : t * q ≤ p * 2147483648 := by omega
    have a1 : 536870912 * p * x ≤ (oct n).1 * x := Int.mul_le_mul_of_nonneg_right p1 x0
    have a2 : t * q * x ≤ p * 2147483648 * x := Int.mul_le_mul_of_nonneg_right h' x0
    have a3 : y * 2147483648 * q ≤ (t * x + x) * q := Int.mul_le_mul_of_nonneg_right ht q0
    have a4 : y * (oct n).2 ≤ y * (536870912 * q + 536870911) := Int.mul_le_mul_of_nonneg_left q1 y0
    have a5 : x * q ≤ x * 2147483648 := Int.mul_le_mul_of_nonneg_left q2 x0
    grind
  have r : ((y * (oct n).2 : Int) : Rat) ≤ (((oct n).1 * x + 1073741824 * x : Int) : Rat) := Rat.intCast_le_intCast.2 key
  have c5 : ((1073741824 : Int) : Rat) = 1073741824 := by decide +kernel
  simp only [Rat.intCast_mul, Rat.intCast_add, c5] at r
  have X0 : (0 : Rat) ≤ (x : Rat) := Rat.intCast_le_intCast.2 x0
  have Y0 : (0 : Rat) ≤ (y : Rat) := Rat.intCast_le_intCast.2 y0
  have YX : (y : Rat) ≤ (x : Rat) := Rat.intCast_le_intCast.2 yx
  unfold Nr at o1 o2
  have m1 := Rat.mul_nonneg X0 (show 0 ≤ (U * zs n + 40) - ((oct n).1 : Rat) by grind)
  have m2 := Rat.mul_nonneg Y0 (show 0 ≤ ((oct n).2 : Rat) - (U * zc n - 40) by grind)
  generalize ((oct n).1 : Rat) = s at *
  generalize ((oct n).2 : Rat) = c at *
  grind

/-- the direction (y, x) lies between a and a + 3, with room m on both sides -/
def Dr (m y x B : Rat) (a : Int) : Prop := m * B ≤ cr y x a ∧ cr y x a ≤ B / 1000000 - m * B ∧ cr y x (a + 3) ≤ -(m * B) ∧ -(B / 1000000 - m * B) ≤ cr y x (a + 3) ∧ B / 5 + m * B ≤ dt y x a ∧ B / 5 + m * B ≤ dt y x (a + 3)

theorem icast0 {x : Int} (h : 0 ≤ x) : (0 : Rat) ≤ (x : Rat) := Rat.intCast_le_intCast.2 h

theorem len_ {X Y D C S : Rat} (hX : 0 < X) (hY : 0 ≤ Y) (d0 : 0 ≤ D) (c1 : -(X / 1000) ≤ C) (c2 : C ≤ X / 1000) (sq : D * D + C * C = (X * X + Y * Y) * S) (hs : 999 / 1000 ≤ S) : (X + Y) * (7 / 10) ≤ D := by
  by_cases g : (X + Y) * (7 / 10) ≤ D
  · exact g
  · exfalso
    have g' : D < (X + Y) * (7 / 10) := Rat.not_le.1 g
    have xx := Rat.mul_pos hX hX
    have yy := Rat.mul_nonneg hY hY
    have q1 := Rat.mul_nonneg (show 0 ≤ X * X + Y * Y by grind) (show 0 ≤ S - 999 / 1000 by grind)
    have q2 := Rat.mul_nonneg (show 0 ≤ X / 1000 - C by grind) (show 0 ≤ X / 1000 + C by grind)
    have q6 := Rat.mul_nonneg (show 0 ≤ (X + Y) * (7 / 10) - D by grind) (show 0 ≤ (X + Y) * (7 / 10) + D by grind)
    have q7 : 0 ≤ (X - Y) * (X - Y) := by
      rcases (Rat.le_total : X ≤ Y ∨ Y ≤ X) with h | h
      · have := Rat.mul_nonneg (show 0 ≤ Y - X by grind) (show 0 ≤ Y - X by grind); grind
      · exact Rat.mul_nonneg (show 0 ≤ X - Y by grind) (show 0 ≤ X - Y by grind)
    have r1 : D * D ≥ (X * X + Y * Y) * (999 / 1000) - X * X / 1000000 := by grind
    have r2 : D * D ≤ (X * X + 2 * (X * Y) + Y * Y) * (49 / 100) := by grind
    have r3 : 2 * (X * Y) ≤ X * X + Y * Y := by grind
    clear q1 q2 q6 q7 sq g g' hs c1 c2
    generalize D * D = D2 at *
    generalize X * Y = XY at *
    generalize X * X = XX at *
    generalize Y * Y = YY at *
    grind
/-- the sum of both, as a bound -/
theorem acute_s {y x : Int} (y0 : 0 ≤ y) (yx : y ≤ x) (x1 : 1 ≤ x) (x2 : x < 2147483648) : ∃ n K, (∀ k, K ≤ k → trig_acute.f k y x = some n) ∧ 0 ≤ n ∧ n ≤ 125000000 ∧ 21 / 10000000000 * ((x : Rat) + (y : Rat)) ≤ cr y x (n - 1) ∧ cr y x (n - 1) ≤ ((x : Rat) + y) / 10000000 ∧ cr y x (n + 2) ≤ -(21 / 10000000000 * ((x : Rat) + (y : Rat))) ∧ -(((x : Rat) + y) / 10000000) ≤ cr y x (n + 2) ∧ (x : Rat) * (66 / 100) ≤ dt y x (n - 1) ∧ (x : Rat) * (66 / 100) ≤ dt y x (n + 2) := by
  obtain ⟨t, n, K, f, n0, n1, g1, g2, t0, t1, t2, t3⟩ := acute_i y0 yx x1 x2
  refine ⟨n, K, f, n0, n1, ?_⟩
  have X0 := icast0 (show 0 ≤ x by omega)
  have Y0 := icast0 y0
  have YX : (y : Rat) ≤ (x : Rat) := Rat.intCast_le_intCast.2 yx
  have e0 := e0_
  obtain ⟨k1, k2, k3, k4, k5, k6, k7, k8, k9, k10, k11, k12, k13, k14, k15, k16⟩ := num1
  obtain ⟨o1, o2, z1, z2, z3, z4⟩ := octz n0 n1
  -- the length
  have len : ∀ a : Int, 0 ≤ dt y x a → -((x : Rat) / 1000) ≤ cr y x a → cr y x a ≤ (x : Rat) / 1000 → ((x : Rat) + y) * (7 / 10) ≤ dt y x a := fun a d0 c1 c2 =>
    len_ (S := zs a * zs a + zc a * zc a) (Rat.intCast_lt_intCast.2 (show (0 : Int) < x by omega)) Y0 d0 c1 c2 (by unfold dt cr; grind) (by have := z_pyth a; grind)
  -- at n - 1
  have L1 : 21 / 10000000000 * ((x : Rat) + (y : Rat)) ≤ cr y x (n - 1) := by
    rcases g1 with g1 | g1
    · rw [g1, show (0 : Int) - 1 = -1 by omega]
      unfold cr
      rw [k5, k6]
      have m1 := Rat.mul_nonneg X0 (show 0 ≤ zs 1 - 628 / 100000000000 by grind)
      have m2 := Rat.mul_nonneg Y0 (show 0 ≤ zc 1 by grind)
      grind
    · have r := rc_lo n0 n1 g1 (by omega) y0 yx t2
      have a := (cr_add (y := y) (x := x) (B := x) (by grind) YX (by grind) (by grind) n (-1)).1.1
      rw [k5, k6, show n + -1 = n - 1 by omega] at a
      have c0 : cr y x n = (y : Rat) * zc n - (x : Rat) * zs n := rfl
      have d0 : (x : Rat) * (2 / 3) ≤ dt y x n := by
        unfold dt
        have m1 := Rat.mul_nonneg X0 (show 0 ≤ zc n - 2 / 3 by grind)
        have m2 := Rat.mul_nonneg Y0 z1
        grind
      have hU : (x : Rat) * (1863 / 1000000000000) ≥ -(cr y x n) := by
        rw [c0]
        unfold U at r
        grind
      by_cases far : (x : Rat) / 1000 ≤ cr y x n
      · have e1 := Rat.mul_nonneg (show 0 ≤ dt y x n by grind) (show 0 ≤ zs 1 by grind)
        have e2 := Rat.mul_nonneg (show 0 ≤ cr y x n - (x : Rat) / 1000 by grind) (show 0 ≤ zc 1 by grind)
        have e3 := Rat.mul_nonneg X0 (show 0 ≤ zc 1 - 999 / 1000 by grind)
        have e4 := Rat.mul_nonneg X0 (show 0 ≤ 1 / 10000000000000 - eps by grind)
        grind
      have near := len n (by grind) (by grind) (by grind)
      have d1 := Rat.mul_nonneg (show 0 ≤ dt y x n - ((x : Rat) + y) * (7 / 10) by grind) (show 0 ≤ zs 1 by grind)
      have d2 := Rat.mul_nonneg (show 0 ≤ (x : Rat) + y by grind) (show 0 ≤ zs 1 - 628 / 100000000000 by grind)
      have d3 : -((x : Rat) * (1864 / 1000000000000)) ≤ cr y x n * zc 1 := by
        have q1 := Rat.mul_nonneg (show 0 ≤ cr y x n + (x : Rat) * (1863 / 1000000000000) by grind) (show 0 ≤ zc 1 by grind)
        have q2 := Rat.mul_nonneg X0 (show 0 ≤ 1 - zc 1 by grind)
        grind
      have m3 := Rat.mul_nonneg X0 (show 0 ≤ 1 / 10000000000000 - eps by grind)
      grind
  have H1 : cr y x (n + 2) ≤ -(21 / 10000000000 * ((x : Rat) + (y : Rat))) := by
    by_cases c5 : n = 125000000
    · obtain ⟨q1, q2, q3, q4⟩ := num8
      rw [c5, show (125000000 : Int) + 2 = 125000002 by omega]
      unfold cr
      have m1 := Rat.mul_nonneg (show 0 ≤ (x : Rat) - y by grind) (show 0 ≤ zc 125000002 by grind)
      have m2 := Rat.mul_nonneg X0 (show 0 ≤ zs 125000002 - zc 125000002 - 177 / 10000000000 by grind)
      grind
    · have n1' : n + 1 ≤ 125000000 := by omega
      have g2 := g2.resolve_left c5
      obtain ⟨o1, o2, z1, z2, z3, z4⟩ := octz (a := n + 1) (by omega) n1'
      have r := rc_hi (n := n + 1) (by omega) n1' g2 (by omega) y0 yx t3
      have a := (cr_add (y := y) (x := x) (B := x) (by grind) YX (by grind) (by grind) (n + 1) 1).1.2
      rw [show n + 1 + 1 = n + 2 by omega] at a
      have c0 : cr y x (n + 1) = (y : Rat) * zc (n + 1) - (x : Rat) * zs (n + 1) := rfl
      have d0 : (x : Rat) * (2 / 3) ≤ dt y x (n + 1) := by
        unfold dt
        have m1 := Rat.mul_nonneg X0 (show 0 ≤ zc (n + 1) - 2 / 3 by grind)
        have m2 := Rat.mul_nonneg Y0 z1
        grind
      have hU : cr y x (n + 1) ≤ (x : Rat) * (1863 / 1000000000000) := by
        rw [c0]
        unfold U at r
        grind
      by_cases far : cr y x (n + 1) ≤ -((x : Rat) / 1000)
      · have e1 := Rat.mul_nonneg (show 0 ≤ dt y x (n + 1) by grind) (show 0 ≤ zs 1 by grind)
        have e2 := Rat.mul_nonneg (show 0 ≤ -((x : Rat) / 1000) - cr y x (n + 1) by grind) (show 0 ≤ zc 1 by grind)
        have e3 := Rat.mul_nonneg X0 (show 0 ≤ zc 1 - 999 / 1000 by grind)
        have e4 := Rat.mul_nonneg X0 (show 0 ≤ 1 / 10000000000000 - eps by grind)
        grind
      have near := len (n + 1) (by grind) (by grind) (by grind)
      have d1 := Rat.mul_nonneg (show 0 ≤ dt y x (n + 1) - ((x : Rat) + y) * (7 / 10) by grind) (show 0 ≤ zs 1 by grind)
      have d2 := Rat.mul_nonneg (show 0 ≤ (x : Rat) + y by grind) (show 0 ≤ zs 1 - 628 / 100000000000 by grind)
      have d3 : cr y x (n + 1) * zc 1 ≤ (x : Rat) * (1864 / 1000000000000) := by
        have q1 := Rat.mul_nonneg (show 0 ≤ (x : Rat) * (1863 / 1000000000000) - cr y x (n + 1) by grind) (show 0 ≤ zc 1 by grind)
        have q2 := Rat.mul_nonneg X0 (show 0 ≤ 1 - zc 1 by grind)
        grind
      have m3 := Rat.mul_nonneg X0 (show 0 ≤ 1 / 10000000000000 - eps by grind)
      grind
  have D0 : (x : Rat) * (2 / 3) ≤ dt y x n ∧ dt y x n ≤ (x : Rat) + y := by
    unfold dt
    have m1 := Rat.mul_nonneg X0 (show 0 ≤ zc n - 2 / 3 by grind)
    have m2 := Rat.mul_nonneg Y0 z1
    have m3 := Rat.mul_nonneg X0 (show 0 ≤ 1 - zc n by grind)
    have m4 := Rat.mul_nonneg Y0 (show 0 ≤ 1 - zs n by grind)
    constructor <;> grind
  have C0 : -(x : Rat) ≤ cr y x n ∧ cr y x n ≤ (y : Rat) := by
    unfold cr
    have m1 := Rat.mul_nonneg X0 z1
    have m2 := Rat.mul_nonneg Y0 (show 0 ≤ zc n by grind)
    have m3 := Rat.mul_nonneg X0 (show 0 ≤ 1 - zs n by grind)
    have m4 := Rat.mul_nonneg Y0 (show 0 ≤ 1 - zc n by grind)
    constructor <;> grind
  have m5 := Rat.mul_nonneg X0 (show 0 ≤ 1 / 10000000000000 - eps by grind)
  have r1 := cr_add (y := y) (x := x) (B := x) (by grind) YX (by grind) (by grind) n (-1)
  have r2 := cr_add (y := y) (x := x) (B := x) (by grind) YX (by grind) (by grind) n 2
  rw [k5, k6, show n + -1 = n - 1 by omega] at r1
  have E1 : (x : Rat) * (66 / 100) ≤ dt y x (n - 1) ∧ dt y x (n - 1) ≤ ((x : Rat) + y) * (101 / 100) := by
    have a1 := Rat.mul_nonneg (show 0 ≤ dt y x n by grind) (show 0 ≤ zc 1 - 999 / 1000 by grind)
    have a2 := Rat.mul_nonneg (show 0 ≤ dt y x n by grind) (show 0 ≤ 1 - zc 1 by grind)
    have a3 := mul_ab (u := cr y x n) (v := zs 1) (A := x) (B := 629 / 100000000000) (by grind) (by grind) (by grind) (by grind)
    constructor <;> grind
  have E2 : (x : Rat) * (66 / 100) ≤ dt y x (n + 2) ∧ dt y x (n + 2) ≤ ((x : Rat) + y) * (101 / 100) := by
    have a1 := Rat.mul_nonneg (show 0 ≤ dt y x n by grind) (show 0 ≤ zc 2 - 999 / 1000 by grind)
    have a2 := Rat.mul_nonneg (show 0 ≤ dt y x n by grind) (show 0 ≤ 1 - zc 2 by grind)
    have a3 := mul_ab (u := cr y x n) (v := zs 2) (A := x) (B := 1258 / 100000000000) (by grind) (by grind) (by grind) (by grind)
    constructor <;> grind
  have r3 := cr_add (y := y) (x := x) (B := x) (by grind) YX (by grind) (by grind) (n - 1) 3
  have r4 := cr_add (y := y) (x := x) (B := x) (by grind) YX (by grind) (by grind) (n + 2) (-3)
  rw [show n - 1 + 3 = n + 2 by omega] at r3
  rw [k15, k16, show n + 2 + -3 = n - 1 by omega] at r4
  have F1 : cr y x (n - 1) ≤ ((x : Rat) + y) / 10000000 := by
    have a1 := Rat.mul_nonneg (show 0 ≤ -(cr y x (n + 2)) by grind) (show 0 ≤ zc 3 by grind)
    have a2 := Rat.mul_nonneg (show 0 ≤ dt y x (n + 2) by grind) (show 0 ≤ 1886 / 100000000000 - zs 3 by grind)
    grind
  have F2 : -(((x : Rat) + y) / 10000000) ≤ cr y x (n + 2) := by
    have a1 := Rat.mul_nonneg (show 0 ≤ cr y x (n - 1) by grind) (show 0 ≤ zc 3 by grind)
    have a2 := Rat.mul_nonneg (show 0 ≤ dt y x (n - 1) by grind) (show 0 ≤ 1886 / 100000000000 - zs 3 by grind)
    grind
  exact ⟨L1, F1, H1, F2, E1.1, E2.1⟩

/-- halves are taken while the greater number is too great -/
theorem l0_f : ∀ (s : Nat) (y x : Int), 0 ≤ y → y ≤ x → 1 ≤ x → x < 2147483648 * 2 ^ s → ∃ (e : Nat) (P y' x' : Int), 1 ≤ P ∧ 0 ≤ y' ∧ y' ≤ x' ∧ 1 ≤ x' ∧ x' < 2147483648 ∧ (P = 1 ∨ 1073741824 ≤ x') ∧ P * x' ≤ x ∧ x < P * (x' + 1) ∧ P * y' ≤ y ∧ y < P * (y' + 1) ∧ ∀ k, trig_acute.l0 (k + e) y x = trig_acute.l0 k y' x'
  | s, y, x, y0, yx, x1, h => by
    by_cases c : x < 2147483648
    · exact ⟨0, 1, y, x, by omega, y0, yx, x1, c, Or.inl rfl, by omega, by omega, by omega, by omega, fun k => rfl⟩
    · cases s with
      | zero => omega
      | succ s =>
        obtain ⟨e, P, y', x', p1, p2, p3, p4, p5, p6, p7, p8, p9, p10, f⟩ := l0_f s (y / 2) (x / 2) (by omega) (by omega) (by omega) (by rw [Int.pow_succ] at h; omega)
        refine ⟨e + 1, P * 2, y', x', by omega, p2, p3, p4, p5, Or.inr ?_, ?_, ?_, ?_, ?_, fun k => ?_⟩
        · rcases p6 with rfl | p6
          · omega
          · exact p6
        · rw [Int.mul_right_comm]; omega
        · rw [Int.mul_right_comm]; omega
        · rw [Int.mul_right_comm]; omega
        · rw [Int.mul_right_comm]; omega
        · rw [← f k, ← Nat.add_assoc]
          simp only [trig_acute.l0]
          rw [if_pos (by omega)]

theorem num9 : -(63 / 10000000000) ≤ zs (-1) ∧ zs (-1) ≤ 0 ∧ zs 125000002 ≤ 70711 / 100000 ∧ 70710 / 100000 ≤ zc 125000002 := by decide +kernel
theorem acute_d {y x : Int} (y0 : 0 ≤ y) (yx : y ≤ x) (x1 : 1 ≤ x) (x2 : x < 2305843009213693952) : ∃ n K, (∀ k, K ≤ k → trig_acute.f k y x = some n) ∧ 0 ≤ n ∧ n ≤ 125000000 ∧ Dr (1 / 1000000000) y x ((x : Rat) + (y : Rat)) (n - 1) := by
  obtain ⟨e, P, y', x', p1, p2, p3, p4, p5, p6, p7, p8, p9, p10, fe⟩ := l0_f 30 y x y0 yx x1 (by omega)
  obtain ⟨n, K, f, n0, n1, g1, g2, g3, g4, g5, g6⟩ := acute_s p2 p3 p4 p5
  refine ⟨n, K + e, fun k hk => ?_, n0, n1, ?_⟩
  · obtain ⟨j, rfl⟩ : ∃ j, k = j + e := ⟨k - e, by omega⟩
    unfold trig_acute.f
    rw [fe]
    exact f j (by omega)
  have X0 := icast0 (show 0 ≤ x' by omega)
  have Y0 := icast0 p2
  have YX : (y' : Rat) ≤ (x' : Rat) := Rat.intCast_le_intCast.2 p3
  have P0 : (1 : Rat) ≤ (P : Rat) := Rat.intCast_le_intCast.2 p1
  have a1 : (P : Rat) * x' ≤ (x : Rat) := by rw [← Rat.intCast_mul]; exact Rat.intCast_le_intCast.2 p7
  have a2 : (x : Rat) ≤ (P : Rat) * x' + P := by
    have : ((x : Int) : Rat) ≤ ((P * x' + P : Int) : Rat) := Rat.intCast_le_intCast.2 (by rw [Int.mul_add] at p8; omega)
    rwa [Rat.intCast_add, Rat.intCast_mul] at this
  have a3 : (P : Rat) * y' ≤ (y : Rat) := by rw [← Rat.intCast_mul]; exact Rat.intCast_le_intCast.2 p9
  have a4 : (y : Rat) ≤ (P : Rat) * y' + P := by
    have : ((y : Int) : Rat) ≤ ((P * y' + P : Int) : Rat) := Rat.intCast_le_intCast.2 (by rw [Int.mul_add] at p10; omega)
    rwa [Rat.intCast_add, Rat.intCast_mul] at this
  obtain ⟨Q, q0, q1, q2, q3, q4⟩ : ∃ Q : Rat, 0 ≤ Q ∧ (x : Rat) ≤ (P : Rat) * x' + Q ∧ (y : Rat) ≤ (P : Rat) * y' + Q ∧ Q * 1073741824 ≤ (P : Rat) * x' ∧ Q ≤ P := by
    rcases p6 with hp | hp
    · refine ⟨0, by grind, ?_, ?_, ?_, by grind⟩
      · subst hp
        have : x = x' := by omega
        subst this
        grind
      · subst hp
        have : y = y' := by omega
        subst this
        grind
      · have := Rat.mul_nonneg (show 0 ≤ (P : Rat) by grind) X0
        grind
    · refine ⟨P, by grind, a2, a4, ?_, by grind⟩
      have h : (1073741824 : Rat) ≤ (x' : Rat) := by
        have := Rat.intCast_le_intCast.2 hp
        have c5 : ((1073741824 : Int) : Rat) = 1073741824 := by decide +kernel
        rwa [c5] at this
      have := Rat.mul_nonneg (show 0 ≤ (P : Rat) by grind) (show 0 ≤ (x' : Rat) - 1073741824 by grind)
      grind
  -- the departure at an angle between -1 and 125000002
  have dep : ∀ a : Int, -(1 / 100) ≤ zs a → zs a ≤ 1 + eps → -(1 / 100) ≤ zc a → zc a ≤ 1 + eps →
      (P : Rat) * cr y' x' a - Q * (102 / 100) ≤ cr y x a ∧ cr y x a ≤ (P : Rat) * cr y' x' a + Q * (102 / 100) ∧ (P : Rat) * dt y' x' a - Q * (3 / 100) ≤ dt y x a := by
    intro a s1 s2 c1 c2
    have e0 := e0_
    obtain ⟨u, hu⟩ : ∃ u, (x : Rat) - (P : Rat) * x' = u := ⟨_, rfl⟩
    obtain ⟨v, hv⟩ : ∃ v, (y : Rat) - (P : Rat) * y' = v := ⟨_, rfl⟩
    have ex : (x : Rat) = (P : Rat) * x' + u := by grind
    have ey : (y : Rat) = (P : Rat) * y' + v := by grind
    have u0 : 0 ≤ u ∧ u ≤ Q := by constructor <;> grind
    have v0 : 0 ≤ v ∧ v ≤ Q := by constructor <;> grind
    have m1 := Rat.mul_nonneg u0.1 (show 0 ≤ zs a + 1 / 100 by grind)
    have m2 := Rat.mul_nonneg u0.1 (show 0 ≤ 101 / 100 - zs a by grind)
    have m3 := Rat.mul_nonneg v0.1 (show 0 ≤ zc a + 1 / 100 by grind)
    have m4 := Rat.mul_nonneg v0.1 (show 0 ≤ 101 / 100 - zc a by grind)
    have m5 := Rat.mul_nonneg u0.1 (show 0 ≤ zc a + 1 / 100 by grind)
    have m6 := Rat.mul_nonneg v0.1 (show 0 ≤ zs a + 1 / 100 by grind)
    unfold cr dt
    rw [ex, ey]
    refine ⟨by grind, by grind, by grind⟩
  have zn : ∀ a : Int, -1 ≤ a → a ≤ 125000002 → -(1 / 100) ≤ zs a ∧ zs a ≤ 1 + eps ∧ -(1 / 100) ≤ zc a ∧ zc a ≤ 1 + eps := by
    intro a h1 h2
    have b := z_bd0 a
    have m := num9
    rcases (by omega : a = -1 ∨ (0 ≤ a ∧ a ≤ 125000000) ∨ (a = 125000001 ∨ a = 125000002)) with rfl | ⟨h3, h4⟩ | h3
    · refine ⟨by grind, b.2.1, ?_, b.2.2.2⟩
      have := num1
      grind
    · obtain ⟨-, -, o1, o2, -, -⟩ := octz h3 h4
      exact ⟨by grind, b.2.1, by grind, b.2.2.2⟩
    · rcases h3 with rfl | rfl
      · have k : 70 / 100 ≤ zs 125000001 ∧ 70 / 100 ≤ zc 125000001 := by decide +kernel
        exact ⟨by grind, b.2.1, by grind, b.2.2.2⟩
      · have k : 70 / 100 ≤ zs 125000002 ∧ 70 / 100 ≤ zc 125000002 := by decide +kernel
        exact ⟨by grind, b.2.1, by grind, b.2.2.2⟩
  obtain ⟨s1, s2, s3, s4⟩ := zn (n - 1) (by omega) (by omega)
  obtain ⟨t1, t2, t3, t4⟩ := zn (n + 2) (by omega) (by omega)
  obtain ⟨d1, d2, d3⟩ := dep (n - 1) s1 s2 s3 s4
  obtain ⟨d4, d5, d6⟩ := dep (n + 2) t1 t2 t3 t4
  have w1 := Rat.mul_nonneg (show 0 ≤ (P : Rat) by grind) (show 0 ≤ cr y' x' (n - 1) - 21 / 10000000000 * ((x' : Rat) + y') by grind)
  have w2 := Rat.mul_nonneg (show 0 ≤ (P : Rat) by grind) (show 0 ≤ ((x' : Rat) + y') / 10000000 - cr y' x' (n - 1) by grind)
  have w3 := Rat.mul_nonneg (show 0 ≤ (P : Rat) by grind) (show 0 ≤ -(21 / 10000000000 * ((x' : Rat) + y')) - cr y' x' (n + 2) by grind)
  have w4 := Rat.mul_nonneg (show 0 ≤ (P : Rat) by grind) (show 0 ≤ cr y' x' (n + 2) + ((x' : Rat) + y') / 10000000 by grind)
  have w5 := Rat.mul_nonneg (show 0 ≤ (P : Rat) by grind) (show 0 ≤ dt y' x' (n - 1) - (x' : Rat) * (66 / 100) by grind)
  have w6 := Rat.mul_nonneg (show 0 ≤ (P : Rat) by grind) (show 0 ≤ dt y' x' (n + 2) - (x' : Rat) * (66 / 100) by grind)
  have w7 := Rat.mul_nonneg (show 0 ≤ (P : Rat) by grind) Y0
  have w8 := Rat.mul_nonneg (show 0 ≤ (P : Rat) by grind) (show 0 ≤ (x' : Rat) - y' by grind)
  unfold Dr
  rw [show n - 1 + 3 = n + 2 by omega]
  refine ⟨by grind, by grind, by grind, by grind, by grind, by grind⟩

/-! ### the four quarters -/
/-- a mirror: the angle m becomes c - m -/
theorem Dr_turn {m y x y' x' B : Rat} {a c : Int} (h : Dr m y x B a)
    (h1 : ∀ m : Int, -(B * (10 * eps)) ≤ cr y' x' (c - m) + cr y x m ∧ cr y' x' (c - m) + cr y x m ≤ B * (10 * eps)) (h2 : ∀ m : Int, -(B * (10 * eps)) ≤ dt y' x' (c - m) - dt y x m ∧ dt y' x' (c - m) - dt y x m ≤ B * (10 * eps)) : Dr (m - 10 * eps) y' x' B (c - (a + 3)) := by
  obtain ⟨g1, g2, g3, g4, g5, g6⟩ := h
  have a1 := h1 a
  have a2 := h1 (a + 3)
  have b1 := h2 a
  have b2 := h2 (a + 3)
  unfold Dr
  rw [show c - (a + 3) + 3 = c - a by omega]
  have e : (m - 10 * eps) * B = m * B - B * (10 * eps) := by grind
  rw [e]
  refine ⟨?_, ?_, ?_, ?_, ?_, ?_⟩ <;> grind
theorem near_mul {u v B e : Rat} (h1 : -B ≤ u) (h2 : u ≤ B) (g1 : -e ≤ v) (g2 : v ≤ e) : -(B * e) ≤ u * v ∧ u * v ≤ B * e := mul_ab h1 h2 g1 g2
theorem Dr_swap {m y x B : Rat} {a : Int} (h : Dr m y x B a) (hB : 0 ≤ B) (y0 : -B ≤ y) (y1 : y ≤ B) (x0 : -B ≤ x) (x1 : x ≤ B) : Dr (m - 10 * eps) x y B (250000000 - (a + 3)) := by
  refine Dr_turn h (fun m => ?_) (fun m => ?_)
  all_goals
    obtain ⟨⟨n1, n2⟩, n3, n4⟩ := z_neg m
    have q1 : zs (250000000 - m) = zc (-m) := by rw [show 250000000 - m = -m + 250000000 by omega, z_quarter]
    have q2 : zc (250000000 - m) = -(zs (-m)) := by rw [show 250000000 - m = -m + 250000000 by omega, zc_quarter]
    have m1 := near_mul y0 y1 n1 n2
    have m2 := near_mul x0 x1 n1 n2
    have m3 := near_mul y0 y1 n3 n4
    have m4 := near_mul x0 x1 n3 n4
    have e0 := Rat.mul_nonneg hB e0_.1
    simp only [cr, dt]
    rw [q1, q2]
    constructor <;> grind
theorem Dr_half {m y x B : Rat} {a : Int} (h : Dr m y x B a) (hB : 0 ≤ B) (y0 : -B ≤ y) (y1 : y ≤ B) (x0 : -B ≤ x) (x1 : x ≤ B) : Dr (m - 10 * eps) y (-x) B (500000000 - (a + 3)) := by
  refine Dr_turn h (fun m => ?_) (fun m => ?_)
  all_goals
    obtain ⟨⟨n1, n2⟩, n3, n4⟩ := z_neg m
    have q1 : zs (500000000 - m) = -(zs (-m)) := by rw [show 500000000 - m = -m + 500000000 by omega, (z_half _).1]
    have q2 : zc (500000000 - m) = -(zc (-m)) := by rw [show 500000000 - m = -m + 500000000 by omega, (z_half _).2]
    have m1 := near_mul y0 y1 n1 n2
    have m2 := near_mul x0 x1 n1 n2
    have m3 := near_mul y0 y1 n3 n4
    have m4 := near_mul x0 x1 n3 n4
    have e0 := Rat.mul_nonneg hB e0_.1
    simp only [cr, dt]
    rw [q1, q2]
    constructor <;> grind
theorem Dr_neg {m y x B : Rat} {a : Int} (h : Dr m y x B a) (hB : 0 ≤ B) (y0 : -B ≤ y) (y1 : y ≤ B) (x0 : -B ≤ x) (x1 : x ≤ B) : Dr (m - 10 * eps) (-y) x B (-(a + 3)) := by
  have := Dr_turn (c := 0) (y' := -y) (x' := x) h (fun m => ?_) (fun m => ?_)
  · rw [show (0 : Int) - (a + 3) = -(a + 3) by omega] at this; exact this
  all_goals
    obtain ⟨⟨n1, n2⟩, n3, n4⟩ := z_neg m
    rw [show (0 : Int) - m = -m by omega]
    have m1 := near_mul y0 y1 n1 n2
    have m2 := near_mul x0 x1 n1 n2
    have m3 := near_mul y0 y1 n3 n4
    have m4 := near_mul x0 x1 n3 n4
    have e0 := Rat.mul_nonneg hB e0_.1
    simp only [cr, dt]
    constructor <;> grind
theorem Dr_less {m m' y x B : Rat} {a : Int} (h : Dr m y x B a) (hB : 0 ≤ B) (hm : m' ≤ m) : Dr m' y x B a := by
  obtain ⟨g1, g2, g3, g4, g5, g6⟩ := h
  have := Rat.mul_nonneg (show 0 ≤ m - m' by grind) hB
  refine ⟨?_, ?_, ?_, ?_, ?_, ?_⟩ <;> grind
/-- the size of a number -/
def sg (x : Int) : Int := if x < 0 then -x else x
theorem sg_b (x : Int) : 0 ≤ sg x ∧ -(sg x) ≤ x ∧ x ≤ sg x ∧ (x < 0 → sg x = -x) ∧ (0 ≤ x → sg x = x) := by unfold sg; split <;> omega
def sz (y x : Int) : Rat := ((sg x + sg y : Int) : Rat)
theorem sz_b (y x : Int) : 0 ≤ sz y x ∧ -(sz y x) ≤ (y : Rat) ∧ (y : Rat) ≤ sz y x ∧ -(sz y x) ≤ (x : Rat) ∧ (x : Rat) ≤ sz y x := by
  have a := sg_b x
  have b := sg_b y
  unfold sz
  refine ⟨icast0 (by omega), ?_, Rat.intCast_le_intCast.2 (by omega), ?_, Rat.intCast_le_intCast.2 (by omega)⟩
  · rw [← Rat.intCast_neg]; exact Rat.intCast_le_intCast.2 (by omega)
  · rw [← Rat.intCast_neg]; exact Rat.intCast_le_intCast.2 (by omega)
theorem sz_n (y x : Int) : sz (-y) x = sz y x ∧ sz y (-x) = sz y x := by
  have a := sg_b x
  have b := sg_b y
  have a' := sg_b (-x)
  have b' := sg_b (-y)
  have e1 : sg (-x) = sg x := by omega
  have e2 : sg (-y) = sg y := by omega
  unfold sz
  rw [e1, e2]; exact ⟨rfl, rfl⟩
/-- the first quarter -/
theorem core_f {y x : Int} (y0 : 0 ≤ y) (y1 : y < 2305843009213693952) (x0 : 0 ≤ x) (x1 : x < 2305843009213693952) (h : 1 ≤ y + x) : ∃ a K, (∀ k, K ≤ k → ∀ u v, trig_direction.j1 (k + 1) u v y x = trig_direction.j2 k u v a (a + 3)) ∧ -1 ≤ a ∧ a ≤ 249999998 ∧ Dr (1 / 1000000000 - 10 * eps) y x (sz y x) a := by
  have s : sz y x = (x : Rat) + (y : Rat) := by
    unfold sz
    rw [(sg_b x).2.2.2.2 x0, (sg_b y).2.2.2.2 y0, Rat.intCast_add]
  have b := sz_b y x
  rw [s] at b ⊢
  by_cases c : y ≤ x
  · obtain ⟨n, K, f, n0, n1, d⟩ := acute_d y0 c (by omega) x1
    refine ⟨n - 1, K, fun k hk u v => ?_, by omega, by omega, Dr_less d b.1 (by have := e0_; grind)⟩
    simp only [trig_direction.j1]
    rw [if_pos c, f k hk]
    simp only [Option.bind_some]
    rw [wrap_in (n := n - 1) (by omega) (by omega), wrap_in (n := n + 2) (by omega) (by omega), show n - 1 + 3 = n + 2 by omega]
  · obtain ⟨n, K, f, n0, n1, d⟩ := acute_d x0 (show x ≤ y by omega) (by omega) y1
    refine ⟨250000000 - (n - 1 + 3), K, fun k hk u v => ?_, by omega, by omega, ?_⟩
    · simp only [trig_direction.j1]
      rw [if_neg c, f k hk]
      simp only [Option.bind_some]
      rw [wrap_in (n := 250000000 - n) (by omega) (by omega), wrap_in (n := 250000000 - n - 2) (by omega) (by omega), wrap_in (n := 250000000 - n + 1) (by omega) (by omega), show 250000000 - (n - 1 + 3) = 250000000 - n - 2 by omega, show 250000000 - n - 2 + 3 = 250000000 - n + 1 by omega]
    · have g := Dr_swap d (by grind) (by grind) (by grind) (by grind) (by grind)
      rw [show (y : Rat) + x = (x : Rat) + y by grind] at g
      exact g
/-- what direction finds -/
theorem direction_f {y x : Int} (y0 : -2305843009213693952 < y) (y1 : y < 2305843009213693952) (x0 : -2305843009213693952 < x) (x1 : x < 2305843009213693952) (h : y ≠ 0 ∨ x ≠ 0) : ∃ a K, (∀ k, K ≤ k → trig_direction.f k y x = some (a, a + 3)) ∧ Dr (1 / 1000000000 - 30 * eps) y x (sz y x) a ∧ -500000001 ≤ a ∧ a ≤ 499999998 ∧
    (0 ≤ x → 0 ≤ y → -1 ≤ a ∧ a ≤ 249999998) ∧ (0 ≤ x → y < 0 → -250000001 ≤ a ∧ a ≤ -2) := by
  have sy := sg_b y
  have sx := sg_b x
  obtain ⟨a, K, f, a0, a1, d⟩ := core_f (y := sg y) (x := sg x) (by omega) (by omega) (by omega) (by omega) (by omega)
  have b := sz_b y x
  have bs := sz_b (sg y) (sg x)
  have e0 := e0_
  have es : sz (sg y) (sg x) = sz y x := by
    unfold sz
    rw [(sg_b (sg x)).2.2.2.2 sx.1, (sg_b (sg y)).2.2.2.2 sy.1]
  rw [es] at d bs
  have F : ∀ k, K + 3 ≤ k → trig_direction.f k y x = trig_direction.j2 (k - 2) y x a (a + 3) := by
    intro k hk
    obtain ⟨k, rfl⟩ : ∃ m, k = m + 2 := ⟨k - 2, by omega⟩
    rw [show k + 2 - 2 = k by omega]
    unfold trig_direction.f
    by_cases c : y < 0
    · rw [if_pos c]
      simp only [trig_direction.j0]
      rw [wrap_in (n := -y) (by omega) (by omega)]
      by_cases e : x < 0
      · rw [if_pos e, wrap_in (n := -x) (by omega) (by omega), ← sx.2.2.2.1 e, ← sy.2.2.2.1 c]
        exact f k (by omega) y x
      · rw [if_neg e, ← sy.2.2.2.1 c]
        have := f k (by omega) y x
        rwa [sx.2.2.2.2 (by omega)] at this
    · rw [if_neg c]
      simp only [trig_direction.j0]
      by_cases e : x < 0
      · rw [if_pos e, wrap_in (n := -x) (by omega) (by omega), ← sx.2.2.2.1 e]
        have := f k (by omega) y x
        rwa [sy.2.2.2.2 (by omega)] at this
      · rw [if_neg e]
        have := f k (by omega) y x
        rwa [sx.2.2.2.2 (by omega), sy.2.2.2.2 (by omega)] at this
  by_cases e : x < 0
  · have ex : (sg x : Rat) = -(x : Rat) := by rw [sx.2.2.2.1 e, Rat.intCast_neg]
    rw [ex] at d bs
    have d1 := Dr_half d b.1 bs.2.1 bs.2.2.1 bs.2.2.2.1 bs.2.2.2.2
    rw [show -(-(x : Rat)) = (x : Rat) by grind] at d1
    by_cases c : y < 0
    · have ey : (sg y : Rat) = -(y : Rat) := by rw [sy.2.2.2.1 c, Rat.intCast_neg]
      rw [ey] at d1 bs
      have d2 := Dr_neg d1 b.1 bs.2.1 bs.2.2.1 b.2.2.2.1 b.2.2.2.2
      rw [show -(-(y : Rat)) = (y : Rat) by grind] at d2
      refine ⟨-(500000000 - (a + 3) + 3), K + 3, fun k hk => ?_, Dr_less d2 b.1 (by grind), by omega, by omega, fun g => absurd g (by omega), fun g => absurd g (by omega)⟩
      rw [F k hk]
      obtain ⟨k, rfl⟩ : ∃ m, k = m + 3 := ⟨k - 3, by omega⟩
      rw [show k + 3 - 2 = k + 1 by omega]
      simp only [trig_direction.j2]
      rw [if_pos e, if_pos c, wrap_in (n := 500000000 - (a + 3)) (by omega) (by omega), wrap_in (n := 500000000 - a) (by omega) (by omega)]
      unfold trig_minus.f
      simp only [Option.bind_some]
      rw [wrap_in (n := -(500000000 - a)) (by omega) (by omega), wrap_in (n := -(500000000 - (a + 3))) (by omega) (by omega)]
      congr 2 <;> omega
    · have ey : (sg y : Rat) = (y : Rat) := by rw [sy.2.2.2.2 (by omega)]
      rw [ey] at d1
      refine ⟨500000000 - (a + 3), K + 3, fun k hk => ?_, Dr_less d1 b.1 (by grind), by omega, by omega, fun g => absurd g (by omega), fun g => absurd g (by omega)⟩
      rw [F k hk]
      obtain ⟨k, rfl⟩ : ∃ m, k = m + 3 := ⟨k - 3, by omega⟩
      rw [show k + 3 - 2 = k + 1 by omega]
      simp only [trig_direction.j2]
      rw [if_pos e, if_neg c, wrap_in (n := 500000000 - (a + 3)) (by omega) (by omega), wrap_in (n := 500000000 - a) (by omega) (by omega)]
      congr 2 <;> omega
  · have ex : (sg x : Rat) = (x : Rat) := by rw [sx.2.2.2.2 (by omega)]
    rw [ex] at d
    by_cases c : y < 0
    · have ey : (sg y : Rat) = -(y : Rat) := by rw [sy.2.2.2.1 c, Rat.intCast_neg]
      rw [ey] at d bs
      have d2 := Dr_neg d b.1 bs.2.1 bs.2.2.1 b.2.2.2.1 b.2.2.2.2
      rw [show -(-(y : Rat)) = (y : Rat) by grind] at d2
      refine ⟨-(a + 3), K + 3, fun k hk => ?_, Dr_less d2 b.1 (by grind), by omega, by omega, fun _ g => absurd g (by omega), fun _ _ => by omega⟩
      rw [F k hk]
      obtain ⟨k, rfl⟩ : ∃ m, k = m + 3 := ⟨k - 3, by omega⟩
      rw [show k + 3 - 2 = k + 1 by omega]
      simp only [trig_direction.j2]
      rw [if_neg e, if_pos c]
      unfold trig_minus.f
      simp only [Option.bind_some]
      rw [wrap_in (n := -(a + 3)) (by omega) (by omega), wrap_in (n := -a) (by omega) (by omega)]
      congr 2; omega
    · have ey : (sg y : Rat) = (y : Rat) := by rw [sy.2.2.2.2 (by omega)]
      rw [ey] at d
      refine ⟨a, K + 3, fun k hk => ?_, Dr_less d b.1 (by grind), by omega, by omega, fun _ _ => by omega, fun _ g => absurd g c⟩
      rw [F k hk]
      obtain ⟨k, rfl⟩ : ∃ m, k = m + 3 := ⟨k - 3, by omega⟩
      rw [show k + 3 - 2 = k + 1 by omega]
      simp only [trig_direction.j2]
      rw [if_neg e, if_neg c]
end Go.Proofs.YtgmjgnojjbajdaaDoor.JG
