/- The law PhasesInOrder: phases follow each other behind 6 to 9 days, new moons behind 29 to 30. No condition. -/
import Derived.Test.YtemkeciekgdkeaaJPx1
import Derived.Test.YtemkeciekgdkeaaPhaseOrder
namespace Go.Proofs.Ytemkeciekgdkeaa.Pure
open Go.Proofs.Ytemkeciekgdkeaa.JP Go.Proofs.Ytemkeciekgdkeaa.Own Go.RowKit Go.Proofs.YtemkeciekgdkeaaW.PrintWords Go.Proofs.YtemkeciekgdkeaaW.PrintLast

theorem phase_works : ∃ k0, ∀ k, k0 ≤ k → ephemeriskeep2_phaseWorks.f k = some true :=
  of_mono (k0 := 300) ephemeriskeep2_phaseWorks.mono (by decide +kernel)
theorem ord_step {k : Nat} {K x6 fl fh ll lh L R : Int} (h6 : x6 < 5) (e : phase_Find.f k (wrap64 (K + wrap64 (Int.tdiv x6 4))) (Int.tmod x6 4) = some (L, R, 0)) (g1 : ¬ wrap64 (L - lh) < 518400000) (g2 : ¬ wrap64 (R - ll) > 777600000) :
    ephemeriskeep2_PhasesInOrder.l0 (k + 1) K 0 x6 fl fh ll lh = ephemeriskeep2_PhasesInOrder.l0 k K 0 (wrap64 (x6 + 1)) fl fh L R := by
  simp only [ephemeriskeep2_PhasesInOrder.l0]
  rw [if_pos h6, e]
  simp only [Option.bind_some, if_true]
  rw [if_neg g1, if_neg g2]

theorem PhasesInOrder : ephemeriskeep2_PhasesInOrder.Pure := by
  intro a _
  obtain ⟨kw, hw⟩ := phase_works
  have kb := tmod_lt (a := a) (m := 90000) (by omega)
  unfold ephemeriskeep2_PhasesInOrder.f
  generalize Int.tmod a 90000 = K at *
  obtain ⟨L0, R0, K0, P0, u0, v0, f0⟩ := pfind_ph (k := K) (q := 0) (by omega) (by omega) (by omega) (by omega)
  obtain ⟨L1, R1, K1, P1, u1, v1, f1⟩ := pfind_ph (k := K) (q := 1) (by omega) (by omega) (by omega) (by omega)
  obtain ⟨L2, R2, K2, P2, u2, v2, f2⟩ := pfind_ph (k := K) (q := 2) (by omega) (by omega) (by omega) (by omega)
  obtain ⟨L3, R3, K3, P3, u3, v3, f3⟩ := pfind_ph (k := K) (q := 3) (by omega) (by omega) (by omega) (by omega)
  obtain ⟨L4, R4, K4, P4, u4, v4, f4⟩ := pfind_ph (k := K + 1) (q := 0) (by omega) (by omega) (by omega) (by omega)
  have d1 := quarter_apart P0 P1 (by omega)
  have d2 := quarter_apart P1 P2 (by omega)
  have d3 := quarter_apart P2 P3 (by omega)
  have d4 := quarter_apart P3 P4 (by omega)
  have dm := month_apart P0 P4
  have l0 := P0.lr
  have l1 := P1.lr
  have l2 := P2.lr
  have l3 := P3.lr
  have l4 := P4.lr
  unfold pmid at u0 v0 u1 v1 u2 v2 u3 v3 u4 v4
  obtain ⟨k, hk⟩ : ∃ k, k = kw + K0 + K1 + K2 + K3 + K4 := ⟨_, rfl⟩
  refine ⟨k + 1 + 1 + 1 + 1 + 1, ?_⟩
  have t1 : wrap64 (Int.tdiv 1 4) = 0 ∧ wrap64 (Int.tdiv 2 4) = 0 ∧ wrap64 (Int.tdiv 3 4) = 0 ∧ wrap64 (Int.tdiv 4 4) = 1 := by decide +kernel
  have t2 : Int.tmod 1 4 = 1 ∧ Int.tmod 2 4 = 2 ∧ Int.tmod 3 4 = 3 ∧ Int.tmod 4 4 = 0 := by decide +kernel
  have t3 : wrap64 (1 + 1) = 2 ∧ wrap64 (2 + 1) = 3 ∧ wrap64 (3 + 1) = 4 ∧ wrap64 (4 + 1) = 5 := by decide +kernel
  have wK : wrap64 (K + 0) = K := by rw [Int.add_zero]; exact wrap_in (by omega) (by omega)
  have wK1 : wrap64 (K + 1) = K + 1 := wrap_in (by omega) (by omega)
  rw [hw _ (by omega), f0 _ (by omega)]
  simp only [Option.bind_some, if_true]
  rw [ord_step (L := L1) (R := R1) (by omega) (by rw [t1.1, t2.1, wK]; exact f1 _ (by omega)) (by rw [wrap_in (by omega) (by omega)]; omega) (by rw [wrap_in (by omega) (by omega)]; omega), t3.1,
    ord_step (L := L2) (R := R2) (by omega) (by rw [t1.2.1, t2.2.1, wK]; exact f2 _ (by omega)) (by rw [wrap_in (by omega) (by omega)]; omega) (by rw [wrap_in (by omega) (by omega)]; omega), t3.2.1,
    ord_step (L := L3) (R := R3) (by omega) (by rw [t1.2.2.1, t2.2.2.1, wK]; exact f3 _ (by omega)) (by rw [wrap_in (by omega) (by omega)]; omega) (by rw [wrap_in (by omega) (by omega)]; omega), t3.2.2.1,
    ord_step (L := L4) (R := R4) (by omega) (by rw [t1.2.2.2, t2.2.2.2, wK1]; exact f4 _ (by omega)) (by rw [wrap_in (by omega) (by omega)]; omega) (by rw [wrap_in (by omega) (by omega)]; omega), t3.2.2.2]
  simp only [ephemeriskeep2_PhasesInOrder.l0]
  rw [if_neg (by omega), wrap_in (n := L4 - R0) (by omega) (by omega), if_pos (by omega), wrap_in (n := R4 - L0) (by omega) (by omega), decide_eq_true (by omega)]
end Go.Proofs.Ytemkeciekgdkeaa.Pure
