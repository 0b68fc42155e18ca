/- The law TrigRootSquares: the root of a square is the number. No condition. -/
import Derived.Test.YtigolfomfpmodaaJTx2
import Derived.Test.YtigolfomfpmodaaJTx2
import Derived.Test.YtigolfomfpmodaaTrigWorks
namespace Go.Proofs.Ytigolfomfpmodaa.Pure
open Go.Proofs.Ytigolfomfpmodaa.JT Go.Proofs.Ytigolfomfpmodaa.Own Go.RowKit Go.Proofs.YtigolfomfpmodaaW.PrintWords Go.Proofs.YtigolfomfpmodaaW.PrintLast

theorem sq_le {m s : Int} (h1 : 0 ≤ m) (h2 : 0 ≤ s) : m * m ≤ s * s ↔ m ≤ s := by
  constructor
  · intro h
    rcases Int.lt_or_le s m with c | c
    · have e1 : s * s ≤ s * m := Int.mul_le_mul_of_nonneg_left (by omega) h2
      have e2 : s * m < m * m := Int.mul_lt_mul_of_pos_right c (by omega)
      omega
    · exact c
  · intro h
    have e1 : m * m ≤ m * s := Int.mul_le_mul_of_nonneg_left h h1
    have e2 : m * s ≤ s * s := Int.mul_le_mul_of_nonneg_right h h2
    omega

theorem root_loop {s : Int} (h0 : 0 ≤ s) (h1 : s ≤ 1000000000) : ∀ (d : Nat) (lo hi : Int), hi - lo ≤ d → 0 ≤ lo → lo ≤ s → s ≤ hi → hi ≤ 2147483648 → ∀ k, d + 1 ≤ k → trig_root.l0 k (s * s) lo hi = some s
  | 0, lo, hi, hd, a0, a1, a2, a3, k, hk => by
    obtain ⟨k, rfl⟩ : ∃ m, k = m + 1 := ⟨k - 1, by omega⟩
    simp only [trig_root.l0]
    rw [if_neg (by omega)]
    congr 1; omega
  | d + 1, lo, hi, hd, a0, a1, a2, a3, k, hk => by
    obtain ⟨k, rfl⟩ : ∃ m, k = m + 1 := ⟨k - 1, by omega⟩
    simp only [trig_root.l0]
    by_cases c : lo < hi
    · rw [if_pos c, wrap_in (n := lo + hi) (by omega) (by omega), wrap_in (n := lo + hi + 1) (by omega) (by omega), tdiv_nn (by omega), wrap_in (n := (lo + hi + 1) / 2) (by omega) (by omega)]
      obtain ⟨m, hm⟩ : ∃ m, (lo + hi + 1) / 2 = m := ⟨_, rfl⟩
      have m1 : lo < m ∧ m ≤ hi := by omega
      rw [hm]
      have ss : 0 ≤ s * s := Int.mul_nonneg h0 h0
      have ss2 : s * s ≤ 1000000000 * 1000000000 := (sq_le h0 (by omega)).2 h1
      have q0 : 0 ≤ s * s / m := Int.ediv_nonneg ss (by omega)
      have q1 : s * s / m ≤ s * s := Int.ediv_le_self _ ss
      rw [tdiv_nn ss, wrap_in (n := s * s / m) (by omega) (by omega), if_neg (by omega)]
      have iff1 : m ≤ s * s / m ↔ m ≤ s := by
        rw [Int.le_ediv_iff_mul_le (by omega)]
        exact sq_le (by omega) h0
      by_cases c2 : m ≤ s
      · rw [if_pos (iff1.2 c2)]
        exact root_loop h0 h1 d m hi (by omega) (by omega) c2 a2 a3 k (by omega)
      · rw [if_neg (fun h => c2 (iff1.1 h)), wrap_in (n := m - 1) (by omega) (by omega)]
        exact root_loop h0 h1 d lo (m - 1) (by omega) a0 a1 (by omega) (by omega) k (by omega)
    · rw [if_neg c]
      congr 1; omega

/-- as the interval shrinks by half, few rounds are enough; here only: some number of rounds is -/
theorem root_f {s : Int} (h0 : 0 ≤ s) (h1 : s ≤ 1000000000) (k : Nat) (hk : 2147483650 ≤ k) : trig_root.f k (s * s) = some s :=
  root_loop h0 h1 2147483648 0 2147483648 (by omega) (by omega) h0 (by omega) (by omega) k (by omega)

theorem TrigRootSquares : ephemeriskeep2_TrigRootSquares.Pure := by
  intro n m _ _
  obtain ⟨kw, hw⟩ := trig_works
  refine ⟨kw + 2147483650, ?_⟩
  unfold ephemeriskeep2_TrigRootSquares.f
  rw [hw _ (by omega), tat_f (by omega) (by omega), tat_f (by omega) (by omega)]
  simp only [Option.bind_some, if_true]
  have e1 : 0 ≤ n % 1000000000 ∧ n % 1000000000 < 1000000000 := by omega
  have e2 : 0 ≤ m % 1000000000 ∧ m % 1000000000 < 1000000000 := by omega
  generalize n % 1000000000 = x at *
  generalize m % 1000000000 = y at *
  obtain ⟨lo, hlo⟩ : ∃ lo, mn x y = lo := ⟨_, rfl⟩
  obtain ⟨hi, hhi⟩ : ∃ hi, mx x y = hi := ⟨_, rfl⟩
  have l1 : 0 ≤ lo ∧ lo < 1000000000 ∧ lo ≤ hi ∧ hi < 1000000000 := by
    have a : lo = if y < x then y else x := hlo.symm
    have b : hi = if x < y then y else x := hhi.symm
    split at a <;> split at b <;> omega
  rw [hlo, hhi]
  have s1 : lo * lo ≤ hi * hi := (sq_le l1.1 (by omega)).2 l1.2.2.1
  have s2 : hi * hi ≤ 1000000000 * 1000000000 := (sq_le (by omega) (by omega)).2 (by omega)
  have s0 : 0 ≤ lo * lo := Int.mul_nonneg l1.1 l1.1
  rw [wrap_in (n := lo * lo) (by omega) (by omega), wrap_in (n := hi * hi) (by omega) (by omega)]
  unfold trig_Root.f
  obtain ⟨k1, hk1⟩ : ∃ k1, kw + 2147483650 = k1 + 1 := ⟨kw + 2147483649, by omega⟩
  rw [show interval_Check.f (kw + 2147483650) (lo * lo) (hi * hi) = some 0 from by rw [hk1]; exact tcheck_f (by omega) s1 (by omega) k1, root_f l1.1 (by omega) _ (by omega), root_f (by omega) (by omega) _ (by omega)]
  simp only [Option.bind_some, if_true]
  rw [if_neg (by omega), wrap_in (n := hi * hi) (by omega) (by omega), if_neg (by omega)]
  simp

end Go.Proofs.Ytigolfomfpmodaa.Pure
