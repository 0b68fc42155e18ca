/- What trig.Sin computes: the quarters' symmetry, and bounds. No condition on a program. -/
import Derived.Test.YtgmjgnojjbajdaaDoorJGx1
import Derived.Test.YtgmjgnojjbajdaaDoorJGx1
import Derived.Test.YtgmjgnojjbajdaaDoorAbase
import Derived.Test.YtgmjgnojjbajdaaDoorJGx1
namespace Go.Proofs.YtgmjgnojjbajdaaDoor.JG
open Go.Proofs.YtgmjgnojjbajdaaDoor.Own Go.RowKit Go.Proofs.YtgmjgnojjbajdaaDoorW.PrintWords Go.Proofs.YtgmjgnojjbajdaaDoorW.PrintLast

theorem of_mono {α : Type} {f : Nat → Option α} {r : α} {k0 : Nat} (h : ∀ k, LeO (f k) (f (k + 1))) (h0 : f k0 = some r) : ∃ k0, ∀ k, k0 ≤ k → f k = some r := by
  refine ⟨k0, fun k hk => ?_⟩
  obtain ⟨m, rfl⟩ := Nat.le.dest hk
  clear hk
  induction m with
  | zero => exact h0
  | succ m ih => exact h _ _ ih

theorem tat_f {a m : Int} (h : 0 < m) (h' : m ≤ 4000000000000000000) : ephemeriskeep2_at.f a m = some (a % m) := by
  unfold ephemeriskeep2_at.f
  rw [if_neg (by omega), at_val h h']

theorem tcheck_f {x y : Int} (g1 : -1000000000000000000 ≤ x) (g2 : x ≤ y) (g3 : y ≤ 1000000000000000000) (k : Nat) : interval_Check.f (k + 1) x y = some 0 := by
  unfold interval_Check.f interval_out.f
  rw [if_neg (by omega), if_neg (by omega)]
  simp only [Option.bind_some, interval_Check.j0]
  rw [decide_eq_false (by omega), decide_eq_false (by omega)]
  simp only [Bool.false_eq_true, if_false]
  rw [if_neg (by omega)]

end Go.Proofs.YtgmjgnojjbajdaaDoor.JG

namespace Go.Proofs.YtgmjgnojjbajdaaDoor.JG
open Go.Proofs.YtgmjgnojjbajdaaDoor.Own Go.RowKit Go.Proofs.YtgmjgnojjbajdaaDoorW.PrintWords Go.Proofs.YtgmjgnojjbajdaaDoorW.PrintLast

theorem and_low (a : Int) (h : 0 ≤ a) (h2 : a < 9223372036854775808) : Go.bits .and .i64 a 1073741823 = a % 1073741824 := by
  unfold Go.bits
  have e : (BitVec.ofInt IntKind.i64.bits a &&& BitVec.ofInt IntKind.i64.bits 1073741823).toNat = a.toNat % 1073741824 := by
    have h3 : (BitVec.ofInt IntKind.i64.bits a).toNat = a.toNat := by
      rw [BitVec.toNat_ofInt]; simp only [IntKind.bits]; omega
    have h4 : (BitVec.ofInt IntKind.i64.bits 1073741823).toNat = 2 ^ 30 - 1 := by decide
    rw [BitVec.toNat_and, h3, h4, Nat.and_two_pow_sub_one_eq_mod]
  show IntKind.i64.wrap ((BitVec.ofInt IntKind.i64.bits a &&& BitVec.ofInt IntKind.i64.bits 1073741823).toNat : Int) = _
  rw [e]
  simp only [IntKind.wrap, IntKind.bits, IntKind.signed]
  simp; omega

/-- a product of two numbers from 0 to one: the number itself at most -/
theorem mul_f {a b : Int} (a0 : 0 ≤ a) (a1 : a ≤ 1152921504606846976) (b0 : 0 ≤ b) (b1 : b ≤ 1152921504606846976) : ∃ v, trig_mul.f a b = some v ∧ 0 ≤ v ∧ v ≤ a := by
  unfold trig_mul.f
  rw [and_low a a0 (by omega), and_low b b0 (by omega)]
  have ea : a = a / 1073741824 * 1073741824 + a % 1073741824 := by omega
  have eb : b = b / 1073741824 * 1073741824 + b % 1073741824 := by omega
  have A : 0 ≤ a / 1073741824 ∧ a / 1073741824 ≤ 1073741824 := by omega
  have B : 0 ≤ b / 1073741824 ∧ b / 1073741824 ≤ 1073741824 := by omega
  have A' : 0 ≤ a % 1073741824 ∧ a % 1073741824 < 1073741824 := by omega
  have B' : 0 ≤ b % 1073741824 ∧ b % 1073741824 < 1073741824 := by omega
  have ab : a * b ≤ a * 1152921504606846976 := Int.mul_le_mul_of_nonneg_left b1 a0
  generalize a / 1073741824 = x at *
  generalize b / 1073741824 = y at *
  generalize a % 1073741824 = s at *
  generalize b % 1073741824 = t at *
  have ex : a * b = x * y * 1152921504606846976 + x * t * 1073741824 + s * y * 1073741824 + s * t := by
    rw [ea, eb]; grind
  have p1 : 0 ≤ x * y ∧ x * y ≤ 1073741824 * 1073741824 := ⟨Int.mul_nonneg A.1 B.1, Int.mul_le_mul A.2 B.2 B.1 (by omega)⟩
  have p2 : 0 ≤ x * t ∧ x * t ≤ 1073741824 * 1073741824 := ⟨Int.mul_nonneg A.1 B'.1, Int.mul_le_mul A.2 (by omega) B'.1 (by omega)⟩
  have p3 : 0 ≤ s * y ∧ s * y ≤ 1073741824 * 1073741824 := ⟨Int.mul_nonneg A'.1 B.1, Int.mul_le_mul (by omega) B.2 B.1 (by omega)⟩
  have p4 : 0 ≤ s * t ∧ s * t ≤ 1073741824 * 1073741824 := ⟨Int.mul_nonneg A'.1 B'.1, Int.mul_le_mul (by omega) (by omega) B'.1 (by omega)⟩
  generalize x * y = p at *
  generalize x * t = q at *
  generalize s * y = r at *
  generalize s * t = u at *
  rw [wrap_in (n := p) (by omega) (by omega), wrap_in (n := q) (by omega) (by omega), wrap_in (n := r) (by omega) (by omega), wrap_in (n := u) (by omega) (by omega), wrap_in (n := q + r) (by omega) (by omega), wrap_in (n := q + r + u / 1073741824) (by omega) (by omega), wrap_in (n := p + (q + r + u / 1073741824) / 1073741824) (by omega) (by omega)]
  exact ⟨_, rfl, by omega, by omega⟩

theorem td_le {t D : Int} (h : 0 ≤ t) (hD : 1 ≤ D) : 0 ≤ Int.tdiv t D ∧ Int.tdiv t D ≤ t := by
  rw [tdiv_nn h]
  exact ⟨Int.ediv_nonneg h (by omega), Int.ediv_le_self _ h⟩

theorem dens {i : Int} (h1 : 1 ≤ i) (h2 : i ≤ 9) : 1 ≤ wrap64 ((wrap64 ((wrap64 ((wrap64 (2 * i)) - 1)) * 2)) * i) ∧ 1 ≤ wrap64 ((wrap64 (2 * i)) * (wrap64 ((wrap64 (2 * i)) + 1))) := by
  rcases (by omega : i = 1 ∨ i = 2 ∨ i = 3 ∨ i = 4 ∨ i = 5 ∨ i = 6 ∨ i = 7 ∨ i = 8 ∨ i = 9) with h | h | h | h | h | h | h | h | h <;> subst h <;> decide +kernel

/-- the sums stay between 0 and what they start from -/
theorem oct_loop {sq : Int} (q0 : 0 ≤ sq) (q1 : sq ≤ 1152921504606846976) : ∀ (d : Nat) (i sin cos s c U V : Int), i + d = 10 → 1 ≤ i → 0 ≤ s → 0 ≤ c → U ≤ 1152921504606846976 → V ≤ 1152921504606846976 →
    (if Int.tmod i 2 = 1 then s ≤ sin ∧ sin ≤ U ∧ c ≤ cos ∧ cos ≤ V else 0 ≤ sin ∧ sin + s ≤ U ∧ 0 ≤ cos ∧ cos + c ≤ V) →
    ∃ S C, (∀ k, d + 1 ≤ k → trig_octant.l0 k sq sin cos s c i = some (S, C)) ∧ 0 ≤ S ∧ S ≤ 1152921504606846976 ∧ 0 ≤ C ∧ C ≤ 1152921504606846976
  | 0, i, sin, cos, s, c, U, V, hi, i1, s0, c0, hU, hV, inv => by
    obtain rfl : i = 10 := by omega
    rw [if_neg (by decide)] at inv
    refine ⟨mx 0 sin, mn 1152921504606846976 cos, fun k hk => ?_, ?_, ?_, ?_, ?_⟩
    · obtain ⟨k, rfl⟩ : ∃ m, k = m + 1 := ⟨k - 1, by omega⟩
      simp only [trig_octant.l0]
      rw [if_neg (by omega)]
    all_goals (simp only [mx, mn]; omega)
  | d + 1, i, sin, cos, s, c, U, V, hi, i1, s0, c0, hU, hV, inv => by
    have par : Int.tmod i 2 = i % 2 := tmod_nn (by omega)
    have par' : Int.tmod (i + 1) 2 = (i + 1) % 2 := tmod_nn (by omega)
    rw [par] at inv
    have sU : s ≤ 1152921504606846976 ∧ c ≤ 1152921504606846976 := by split at inv <;> omega
    obtain ⟨D1, D2⟩ := dens i1 (by omega)
    obtain ⟨c', hc, c0', c1'⟩ := mul_f c0 sU.2 q0 q1
    obtain ⟨s', hs, s0', s1'⟩ := mul_f s0 sU.1 q0 q1
    generalize hd1 : wrap64 ((wrap64 ((wrap64 ((wrap64 (2 * i)) - 1)) * 2)) * i) = E1 at D1
    generalize hd2 : wrap64 ((wrap64 (2 * i)) * (wrap64 ((wrap64 (2 * i)) + 1))) = E2 at D2
    have t1 := td_le c0' D1
    have t2 := td_le s0' D2
    by_cases odd : i % 2 = 1
    · rw [if_pos odd] at inv
      obtain ⟨S, C, g1, g2, g3, g4, g5⟩ := oct_loop q0 q1 d (i + 1) (sin - Int.tdiv s' E2) (cos - Int.tdiv c' E1) (Int.tdiv s' E2) (Int.tdiv c' E1) U V (by omega) (by omega) t2.1 t1.1 hU hV
        (by rw [par', if_neg (by omega)]; omega)
      have one : ∀ k, trig_octant.l0 (k + 1) sq sin cos s c i = trig_octant.l0 k sq (sin - Int.tdiv s' E2) (cos - Int.tdiv c' E1) (Int.tdiv s' E2) (Int.tdiv c' E1) (i + 1) := by
        intro k
        simp only [trig_octant.l0]
        rw [if_pos (by omega), hc, hs]
        simp only [Option.bind_some]
        rw [hd1, hd2, if_neg (by omega), if_neg (by omega), par, if_pos odd, wrap_in (n := Int.tdiv s' E2) (by omega) (by omega), wrap_in (n := Int.tdiv c' E1) (by omega) (by omega), wrap_in (n := sin - Int.tdiv s' E2) (by omega) (by omega), wrap_in (n := cos - Int.tdiv c' E1) (by omega) (by omega), wrap_in (n := i + 1) (by omega) (by omega)]
      exact ⟨S, C, fun k hk => by
        obtain ⟨k, rfl⟩ : ∃ m, k = m + 1 := ⟨k - 1, by omega⟩
        rw [one]; exact g1 k (by omega), g2, g3, g4, g5⟩
    · rw [if_neg odd] at inv
      obtain ⟨S, C, g1, g2, g3, g4, g5⟩ := oct_loop q0 q1 d (i + 1) (sin + Int.tdiv s' E2) (cos + Int.tdiv c' E1) (Int.tdiv s' E2) (Int.tdiv c' E1) U V (by omega) (by omega) t2.1 t1.1 hU hV
        (by rw [par', if_pos (by omega)]; omega)
      have one : ∀ k, trig_octant.l0 (k + 1) sq sin cos s c i = trig_octant.l0 k sq (sin + Int.tdiv s' E2) (cos + Int.tdiv c' E1) (Int.tdiv s' E2) (Int.tdiv c' E1) (i + 1) := by
        intro k
        simp only [trig_octant.l0]
        rw [if_pos (by omega), hc, hs]
        simp only [Option.bind_some]
        rw [hd1, hd2, if_neg (by omega), if_neg (by omega), par, if_neg odd, wrap_in (n := Int.tdiv s' E2) (by omega) (by omega), wrap_in (n := Int.tdiv c' E1) (by omega) (by omega), wrap_in (n := sin + Int.tdiv s' E2) (by omega) (by omega), wrap_in (n := cos + Int.tdiv c' E1) (by omega) (by omega), wrap_in (n := i + 1) (by omega) (by omega)]
      exact ⟨S, C, fun k hk => by
        obtain ⟨k, rfl⟩ : ∃ m, k = m + 1 := ⟨k - 1, by omega⟩
        rw [one]; exact g1 k (by omega), g2, g3, g4, g5⟩

theorem oct_ex {a : Int} (a0 : 0 ≤ a) (a1 : a ≤ 125000000) : ∃ S C, (∀ k, 10 ≤ k → trig_octant.f k a = some (S, C)) ∧ 0 ≤ S ∧ S ≤ 1152921504606846976 ∧ 0 ≤ C ∧ C ≤ 1152921504606846976 := by
  have d0 : 0 ≤ a * 77122842 / 1000000000 ∧ a * 77122842 / 1000000000 ≤ 10000000 := by omega
  have x : wrap64 ((wrap64 (a * 7244019458)) + (wrap64 (Int.tdiv (wrap64 (a * 77122842)) 1000000000))) = a * 7244019458 + a * 77122842 / 1000000000 := by
    rw [wrap_in (n := a * 7244019458) (by omega) (by omega), wrap_in (n := a * 77122842) (by omega) (by omega), tdiv_nn (by omega), wrap_in (n := a * 77122842 / 1000000000) (by omega) (by omega), wrap_in (by omega) (by omega)]
  have x0 : 0 ≤ a * 7244019458 + a * 77122842 / 1000000000 ∧ a * 7244019458 + a * 77122842 / 1000000000 ≤ 1152921504606846976 := by omega
  obtain ⟨z, hz⟩ : ∃ z, a * 7244019458 + a * 77122842 / 1000000000 = z := ⟨_, rfl⟩
  rw [hz] at x x0
  obtain ⟨sq, h1, h2, h3⟩ := mul_f x0.1 x0.2 x0.1 x0.2
  obtain ⟨S, C, g1, g2⟩ := oct_loop h2 (show sq ≤ 1152921504606846976 by omega) 9 1 z 1152921504606846976 z 1152921504606846976 z 1152921504606846976 (by omega) (by omega) x0.1 (by omega) x0.2 (by omega) (by rw [if_pos (by decide)]; omega)
  refine ⟨S, C, fun k hk => ?_, g2⟩
  have e : trig_octant.f k a = (trig_mul.f z z).bind fun t => trig_octant.l0 k t z 1152921504606846976 z 1152921504606846976 1 := by
    unfold trig_octant.f
    rw [x]
  rw [e, h1]
  exact g1 k hk

/-- the pair that octant computes -/
def oct (a : Int) : Int × Int := (trig_octant.f 10 a).getD (0, 0)
theorem oct_f {a : Int} (a0 : 0 ≤ a) (a1 : a ≤ 125000000) (k : Nat) (hk : 10 ≤ k) : trig_octant.f k a = some (oct a) ∧ 0 ≤ (oct a).1 ∧ (oct a).1 ≤ 1152921504606846976 ∧ 0 ≤ (oct a).2 ∧ (oct a).2 ≤ 1152921504606846976 := by
  obtain ⟨S, C, g1, g2⟩ := oct_ex a0 a1
  have e : oct a = (S, C) := by
    unfold oct
    rw [g1 10 (by omega)]
    rfl
  rw [e, g1 k hk]
  exact ⟨rfl, g2⟩

/-- the sine and the cosine of an angle of the first quarter -/
def pr (a : Int) : Int × Int := if a ≤ 125000000 then oct a else ((oct (250000000 - a)).2, (oct (250000000 - a)).1)
theorem pr_b {a : Int} (a0 : 0 ≤ a) (a1 : a < 250000000) : 0 ≤ (pr a).1 ∧ (pr a).1 ≤ 1152921504606846976 ∧ 0 ≤ (pr a).2 ∧ (pr a).2 ≤ 1152921504606846976 := by
  unfold pr
  split
  · exact (oct_f a0 (by omega) 10 (by omega)).2
  · have := (oct_f (a := 250000000 - a) (by omega) (by omega) 10 (by omega)).2
    exact ⟨this.2.2.1, this.2.2.2, this.1, this.2.1⟩
theorem pr_swap {a : Int} (a0 : a ≠ 125000000) : pr (250000000 - a) = ((pr a).2, (pr a).1) := by
  unfold pr
  by_cases c : a ≤ 125000000
  · rw [if_neg (by omega), if_pos c, show 250000000 - (250000000 - a) = a by omega]
  · rw [if_pos (by omega), if_neg c]

def rnd (v : Int) : Int × Int := ((trig_rounded.f v).getD (0, 0))
theorem rnd_f {v : Int} (h : 0 ≤ v) (h' : v ≤ 1152921504606846976) : trig_rounded.f v = some (rnd v) ∧ (rnd v).1 ≤ (rnd v).2 ∧ -1 ≤ (rnd v).1 ∧ (rnd v).2 ≤ 1000000000 := by
  refine ⟨rfl, ?_⟩
  unfold rnd trig_rounded.f
  rw [and_low v h (by omega)]
  simp only [Option.getD_some]
  have A : 0 ≤ v / 1073741824 ∧ v / 1073741824 ≤ 1073741824 := by omega
  have A' : 0 ≤ v % 1073741824 ∧ v % 1073741824 < 1073741824 := by omega
  have n1 : 0 ≤ ((v / 1073741824) * 1000000000 + (v % 1073741824) * 1000000000 / 1073741824) / 1073741824 ∧ ((v / 1073741824) * 1000000000 + (v % 1073741824) * 1000000000 / 1073741824) / 1073741824 ≤ 1000000000 := by omega
  rw [wrap_in (n := (v / 1073741824) * 1000000000) (by omega) (by omega), wrap_in (n := (v % 1073741824) * 1000000000) (by omega) (by omega), wrap_in (n := (v / 1073741824) * 1000000000 + (v % 1073741824) * 1000000000 / 1073741824) (by omega) (by omega)]
  generalize ((v / 1073741824) * 1000000000 + (v % 1073741824) * 1000000000 / 1073741824) / 1073741824 = n at *
  rw [wrap_in (n := n - 1) (by omega) (by omega), wrap_in (n := n + 2) (by omega) (by omega)]
  simp only [mx, mn]
  omega

def ng (s : Int × Int) : Int × Int := (-s.2, -s.1)
theorem ng_ng (s : Int × Int) : ng (ng s) = s := by unfold ng; simp
/-- the interval of the sine of a reduced angle -/
def sv (r : Int) : Int × Int :=
  if r / 250000000 = 0 then rnd (pr (r % 250000000)).1 else if r / 250000000 = 1 then rnd (pr (r % 250000000)).2 else if r / 250000000 = 2 then ng (rnd (pr (r % 250000000)).1) else ng (rnd (pr (r % 250000000)).2)

theorem sv_b (r : Int) : (sv r).1 ≤ (sv r).2 ∧ -1000000000 ≤ (sv r).1 ∧ (sv r).2 ≤ 1000000000 := by
  have p := pr_b (a := r % 250000000) (by omega) (by omega)
  have h1 := (rnd_f p.1 p.2.1).2
  have h2 := (rnd_f p.2.2.1 p.2.2.2).2
  unfold sv
  split
  · omega
  · split
    · omega
    · split <;> (unfold ng; simp only; omega)

theorem sin_f {a : Int} (h1 : -1000000000000000000 ≤ a) (h2 : a ≤ 1000000000000000000) (k : Nat) (hk : 11 ≤ k) : trig_Sin.f k a = some ((sv (a % 1000000000)).1, (sv (a % 1000000000)).2, 0) := by
  have fl : interval_Floor.f a 1000000000 = some (a / 1000000000) := by
    unfold interval_Floor.f
    rw [if_neg (by omega)]
    have e := Int.emod_add_mul_ediv a 1000000000
    have m0 := Int.emod_nonneg a (show (1000000000 : Int) ≠ 0 by omega)
    rcases Int.le_total 0 a with h0 | h0
    · rw [tmod_nn h0, tdiv_nn h0, wrap_in (n := a / 1000000000) (by omega) (by omega), decide_eq_false (show ¬ a < 0 by omega)]
      simp
    · have hm : Int.tmod a 1000000000 = -((-a) % 1000000000) := by rw [← Int.tmod_eq_emod_of_nonneg (by omega), Int.neg_tmod, Int.neg_neg]
      have hd : Int.tdiv a 1000000000 = -((-a) / 1000000000) := by rw [← Int.tdiv_eq_ediv_of_nonneg (by omega), Int.neg_tdiv, Int.neg_neg]
      rw [hm, hd, wrap_in (n := -((-a) / 1000000000)) (by omega) (by omega)]
      by_cases z : (-a) % 1000000000 = 0
      · rw [if_pos (by omega)]; congr 1; omega
      · rw [if_neg (by omega), decide_eq_true (show a < 0 by omega), wrap_in (by omega) (by omega)]
        simp; omega
  have red : trig_Reduced.f a = some (a % 1000000000) := by
    unfold trig_Reduced.f
    rw [fl]
    simp only [Option.bind_some]
    rw [wrap_in (n := a / 1000000000 * 1000000000) (by omega) (by omega), wrap_in (by omega) (by omega)]
    congr 1; omega
  unfold trig_Sin.f
  have ou : trig_out.f a = some false := by
    unfold trig_out.f
    rw [if_neg (by omega), decide_eq_false (by omega)]
  rw [ou, red]
  simp only [Option.bind_some, Bool.false_eq_true, if_false]
  have r0 : 0 ≤ a % 1000000000 ∧ a % 1000000000 < 1000000000 := by omega
  generalize a % 1000000000 = r at *
  obtain ⟨k, rfl⟩ : ∃ m, k = m + 1 := ⟨k - 1, by omega⟩
  have p := pr_b (a := r % 250000000) (by omega) (by omega)
  obtain ⟨e1, b1⟩ := rnd_f p.1 p.2.1
  obtain ⟨e2, b2⟩ := rnd_f p.2.2.1 p.2.2.2
  have last : trig_Sin.j0 (k + 1) (r / 250000000) (pr (r % 250000000)).1 (pr (r % 250000000)).2 = some ((sv r).1, (sv r).2, 0) := by
    simp only [trig_Sin.j0]
    rw [e1, e2]
    unfold sv
    simp only [Option.bind_some, trig_minus.f]
    split
    · rfl
    · split
      · rfl
      · split
        · rw [wrap_in (by omega) (by omega), wrap_in (by omega) (by omega)]; rfl
        · rw [wrap_in (by omega) (by omega), wrap_in (by omega) (by omega)]; rfl
  rw [tmod_nn r0.1, tdiv_nn r0.1, wrap_in (n := r / 250000000) (by omega) (by omega)]
  by_cases c : r % 250000000 ≤ 125000000
  · rw [if_pos c, (oct_f (by omega) c (k + 1) (by omega)).1]
    simp only [Option.bind_some]
    have e : pr (r % 250000000) = oct (r % 250000000) := by unfold pr; rw [if_pos c]
    rw [e] at last
    exact last
  · rw [if_neg c, wrap_in (n := 250000000 - r % 250000000) (by omega) (by omega), (oct_f (a := 250000000 - r % 250000000) (by omega) (by omega) (k + 1) (by omega)).1]
    simp only [Option.bind_some]
    have e : pr (r % 250000000) = ((oct (250000000 - r % 250000000)).2, (oct (250000000 - r % 250000000)).1) := by unfold pr; rw [if_neg c]
    rw [e] at last
    exact last

theorem sv_half {r : Int} (h0 : 0 ≤ r) (h1 : r < 1000000000) : sv ((r + 500000000) % 1000000000) = ng (sv r) := by
  have e1 : (r + 500000000) % 1000000000 % 250000000 = r % 250000000 := by omega
  unfold sv
  rw [e1]
  rcases (by omega : r / 250000000 = 0 ∨ r / 250000000 = 1 ∨ r / 250000000 = 2 ∨ r / 250000000 = 3) with c | c | c | c
  · rw [if_neg (by omega), if_neg (by omega), if_pos (by omega), if_pos c]
  · rw [if_neg (by omega), if_neg (by omega), if_neg (by omega), if_neg (by omega), if_pos c]
  · rw [if_pos (by omega), if_neg (by omega), if_neg (by omega), if_pos c, ng_ng]
  · rw [if_neg (by omega), if_pos (by omega), if_neg (by omega), if_neg (by omega), if_neg (by omega), ng_ng]

def mt (a b : Int × Int) : Prop := a.1 ≤ b.2 ∧ b.1 ≤ a.2
instance (a b : Int × Int) : Decidable (mt a b) := inferInstanceAs (Decidable (_ ∧ _))
theorem sv_neg {r : Int} (h0 : 0 ≤ r) (h1 : r < 1000000000) : mt (sv ((1000000000 - r) % 1000000000)) (ng (sv r)) := by
  by_cases z : r % 125000000 = 0
  · rcases (by omega : r = 0 ∨ r = 125000000 ∨ r = 250000000 ∨ r = 375000000 ∨ r = 500000000 ∨ r = 625000000 ∨ r = 750000000 ∨ r = 875000000) with c | c | c | c | c | c | c | c <;> subst c <;> decide +kernel
  · have e1 : (1000000000 - r) % 1000000000 = 1000000000 - r := by omega
    have e2 : (1000000000 - r) % 250000000 = 250000000 - r % 250000000 := by omega
    have sw := pr_swap (a := r % 250000000) (by omega)
    have key : sv ((1000000000 - r) % 1000000000) = ng (sv r) := by
      rw [e1]
      unfold sv
      rw [e2, sw]
      rcases (by omega : r / 250000000 = 0 ∨ r / 250000000 = 1 ∨ r / 250000000 = 2 ∨ r / 250000000 = 3) with c | c | c | c
      · rw [if_neg (by omega), if_neg (by omega), if_neg (by omega), if_pos c]
      · rw [if_neg (by omega), if_neg (by omega), if_pos (by omega), if_neg (by omega), if_pos c]
      · rw [if_neg (by omega), if_pos (by omega), if_neg (by omega), if_neg (by omega), if_pos c, ng_ng]
      · rw [if_pos (by omega), if_neg (by omega), if_neg (by omega), if_neg (by omega), ng_ng]
    rw [key]
    have := sv_b r
    unfold mt ng
    simp only
    omega

end Go.Proofs.YtgmjgnojjbajdaaDoor.JG
