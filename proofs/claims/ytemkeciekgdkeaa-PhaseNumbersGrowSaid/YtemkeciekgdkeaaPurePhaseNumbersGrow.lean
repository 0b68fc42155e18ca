/- The law PhaseNumbersGrow: behind a new moon the number is that of the lunation, until the next one. No condition. -/
import Derived.Test.YtemkeciekgdkeaaJPx1
import Derived.Test.YtemkeciekgdkeaaPhaseOrder
namespace Go.Proofs.Ytemkeciekgdkeaa.Pure
open Go.Proofs.Ytemkeciekgdkeaa.JP Go.Proofs.Ytemkeciekgdkeaa.Own Go.RowKit Go.Proofs.YtemkeciekgdkeaaW.PrintWords Go.Proofs.YtemkeciekgdkeaaW.PrintLast

theorem phase_works2 : ∃ k0, ∀ k, k0 ≤ k → ephemeriskeep2_phaseWorks.f k = some true :=
  of_mono (k0 := 300) ephemeriskeep2_phaseWorks.mono (by decide +kernel)

/-- a step of Number: a new moon that is ahead -/
theorem num_step {k : Nat} {x kk n L R : Int} (h : n ≥ wrap64 (kk - 1)) (e : phase_Find.f k n 0 = some (L, R, 0)) (g : x < L) (lr : L < R) : phase_Number.l0 (k + 1) x kk n = phase_Number.l0 k x kk (wrap64 (n - 1)) := by
  simp only [phase_Number.l0]
  rw [if_pos h, e]
  simp only [Option.bind_some, if_true]
  rw [if_neg (by omega), if_neg (by omega)]
theorem num_hit {k : Nat} {x kk n L R : Int} (h : n ≥ wrap64 (kk - 1)) (e : phase_Find.f k n 0 = some (L, R, 0)) (g : R < x) : phase_Number.l0 (k + 1) x kk n = some (n, 0) := by
  simp only [phase_Number.l0]
  rw [if_pos h, e]
  simp only [Option.bind_some, if_true]
  rw [if_pos (by omega)]
theorem num_open {k : Nat} {x kk n L R : Int} (h : n ≥ wrap64 (kk - 1)) (e : phase_Find.f k n 0 = some (L, R, 0)) (g1 : L ≤ x) (g2 : x ≤ R) : phase_Number.l0 (k + 1) x kk n = some (0, 11) := by
  simp only [phase_Number.l0]
  rw [if_pos h, e]
  simp only [Option.bind_some, if_true]
  rw [if_neg (by omega), if_pos (by omega)]
theorem number_start {k : Nat} {x : Int} (h1 : -300000000000000 ≤ x) (h2 : x ≤ 300000000000000) (g1 : -99998 ≤ (x - 977949455) / 2551442878) (g2 : (x - 977949455) / 2551442878 ≤ 99998) :
    phase_Number.f (k + 1) x = phase_Number.l0 k x ((x - 977949455) / 2551442878) ((x - 977949455) / 2551442878 + 1) := by
  unfold phase_Number.f series_Valid.f
  rw [wrap_in (n := x - 977949455) (by omega) (by omega), sfloor_ (by omega) (by omega) (by omega) (by omega), if_pos (by omega), decide_eq_true (show x < 345600086400000 by omega)]
  simp only [Option.bind_some, if_true]
  rw [if_neg (by omega), decide_eq_false (by omega)]
  simp only [phase_Number.j0, Bool.false_eq_true, if_false]
  rw [wrap_in (by omega) (by omega)]

theorem PhaseNumbersGrow : ephemeriskeep2_PhaseNumbersGrow.Pure := by
  intro a t _ _
  obtain ⟨kw, hw⟩ := phase_works2
  have kb := tmod_lt (a := a) (m := 90000) (by omega)
  unfold ephemeriskeep2_PhaseNumbersGrow.f
  generalize Int.tmod a 90000 = K at *
  obtain ⟨L0, R0, K0, P0, u0, v0, f0⟩ := pfind_ph (k := K) (q := 0) (by omega) (by omega) (by omega) (by omega)
  obtain ⟨L1, R1, K1, P1, u1, v1, f1⟩ := pfind_ph (k := K + 1) (q := 0) (by omega) (by omega) (by omega) (by omega)
  obtain ⟨L2, R2, K2, P2, u2, v2, f2⟩ := pfind_ph (k := K + 2) (q := 0) (by omega) (by omega) (by omega) (by omega)
  have m1 := month_apart P0 P1
  have P2' : Ph (K + 1 + 1) 0 L2 R2 := by rw [show K + 1 + 1 = K + 2 by omega]; exact P2
  have m2 := month_apart P1 P2'
  have l0 := P0.lr
  have l1 := P1.lr
  have l2 := P2.lr
  have w0 := P0.wd
  have w1 := P1.wd
  unfold pmid at u0 v0 u1 v1 u2 v2
  obtain ⟨k, hk⟩ : ∃ k, k = kw + K0 + K1 + K2 := ⟨_, rfl⟩
  refine ⟨k + 1 + 1 + 1 + 1 + 1, ?_⟩
  have wK1 : wrap64 (K + 1) = K + 1 := wrap_in (by omega) (by omega)
  rw [hw _ (by omega), f0 _ (by omega), wK1, f1 _ (by omega)]
  simp only [Option.bind_some, if_true]
  rw [show ((0 : Int) != 0) = false from rfl]
  simp only [ephemeriskeep2_PhaseNumbersGrow.j0, Bool.false_eq_true, if_false]
  rw [wrap_in (n := L1 - R0) (by omega) (by omega), wrap_in (n := L1 - R0 - 1) (by omega) (by omega), tat_f (by omega) (by omega)]
  simp only [Option.bind_some]
  have mb : 0 ≤ t % (L1 - R0 - 1) ∧ t % (L1 - R0 - 1) < L1 - R0 - 1 := ⟨Int.emod_nonneg _ (by omega), Int.emod_lt_of_pos _ (by omega)⟩
  generalize t % (L1 - R0 - 1) = y at *
  rw [wrap_in (n := R0 + 1) (by omega) (by omega), wrap_in (n := R0 + 1 + y) (by omega) (by omega)]
  -- the number between the new moons
  have n1 : phase_Number.f (k + 1 + 1 + 1 + 1) (R0 + 1 + y) = some (K, 0) := by
    rw [number_start (by omega) (by omega) (by omega) (by omega)]
    rcases (by omega : (R0 + 1 + y - 977949455) / 2551442878 = K - 1 ∨ (R0 + 1 + y - 977949455) / 2551442878 = K ∨ (R0 + 1 + y - 977949455) / 2551442878 = K + 1) with e | e | e
    · rw [e, show K - 1 + 1 = K by omega]
      exact num_hit (by rw [wrap_in (by omega) (by omega)]; omega) (f0 _ (by omega)) (by omega)
    · rw [e, num_step (by rw [wrap_in (by omega) (by omega)]; omega) (f1 _ (by omega)) (by omega) l1, wrap_in (n := K + 1 - 1) (by omega) (by omega), show K + 1 - 1 = K by omega]
      exact num_hit (by rw [wrap_in (by omega) (by omega)]; omega) (f0 _ (by omega)) (by omega)
    · rw [e, show K + 1 + 1 = K + 2 by omega, num_step (by rw [wrap_in (by omega) (by omega)]; omega) (f2 _ (by omega)) (by omega) l2, wrap_in (n := K + 2 - 1) (by omega) (by omega), show K + 2 - 1 = K + 1 by omega,
        num_step (by rw [wrap_in (by omega) (by omega)]; omega) (f1 _ (by omega)) (by omega) l1, wrap_in (n := K + 1 - 1) (by omega) (by omega), show K + 1 - 1 = K by omega]
      exact num_hit (by rw [wrap_in (by omega) (by omega)]; omega) (f0 _ (by omega)) (by omega)
  have n2 : phase_Number.f (k + 1 + 1 + 1 + 1) L0 = some (0, 11) := by
    rw [number_start (by omega) (by omega) (by omega) (by omega)]
    rcases (by omega : (L0 - 977949455) / 2551442878 = K - 1 ∨ (L0 - 977949455) / 2551442878 = K) with e | e
    · rw [e, show K - 1 + 1 = K by omega]
      exact num_open (by rw [wrap_in (by omega) (by omega)]; omega) (f0 _ (by omega)) (by omega) (by omega)
    · rw [e, num_step (by rw [wrap_in (by omega) (by omega)]; omega) (f1 _ (by omega)) (by omega) l1, wrap_in (n := K + 1 - 1) (by omega) (by omega), show K + 1 - 1 = K by omega]
      exact num_open (by rw [wrap_in (by omega) (by omega)]; omega) (f0 _ (by omega)) (by omega) (by omega)
  rw [n1, n2]
  simp only [Option.bind_some, if_true]
  rfl
end Go.Proofs.Ytemkeciekgdkeaa.Pure
