/- The law SeasonsInOrder: the seasons of a year are in order, and between 88 and 95 days long. No condition. -/
import Derived.Test.YtemkeciekgdkeaaJPx1
import Derived.Test.YtemkeciekgdkeaaSeasonLaw
namespace Go.Proofs.Ytemkeciekgdkeaa.Pure
open Go.Proofs.Ytemkeciekgdkeaa.JP Go.Proofs.Ytemkeciekgdkeaa.Own Go.RowKit Go.Proofs.YtemkeciekgdkeaaW.PrintWords Go.Proofs.YtemkeciekgdkeaaW.PrintLast

theorem season_works : ∃ k0, ∀ k, k0 ≤ k → ephemeriskeep2_seasonWorks.f k = some true :=
  of_mono (k0 := 300) ephemeriskeep2_seasonWorks.mono (by decide +kernel)
theorem so_step {k : Nat} {Y x5 ll lh L R : Int} (h6 : x5 < 5) (e : season_Find.f k (Int.tmod x5 4) (wrap64 (Y + wrap64 (Int.tdiv x5 4))) = some (L, R, 0)) (g1 : ¬ wrap64 (L - lh) < 7603200000) (g2 : ¬ wrap64 (R - ll) > 8208000000) :
    ephemeriskeep2_SeasonsInOrder.l0 (k + 1) Y 0 x5 ll lh = ephemeriskeep2_SeasonsInOrder.l0 k Y 0 (wrap64 (x5 + 1)) L R := by
  simp only [ephemeriskeep2_SeasonsInOrder.l0]
  rw [if_pos h6, e]
  simp only [Option.bind_some, if_true]
  rw [if_neg g1, if_neg g2]

theorem SeasonsInOrder : ephemeriskeep2_SeasonsInOrder.Pure := by
  intro a _
  obtain ⟨kw, hw⟩ := season_works
  unfold ephemeriskeep2_SeasonsInOrder.f
  rw [tat_f (by omega) (by omega)]
  have yb : 0 ≤ a % 18000 ∧ a % 18000 < 18000 := by omega
  simp only [Option.bind_some]
  rw [wrap_in (n := a % 18000 - 9000) (by omega) (by omega)]
  obtain ⟨Y, hY⟩ : ∃ Y, Y = a % 18000 - 9000 := ⟨_, rfl⟩
  rw [← hY]
  obtain ⟨L0, R0, K0, P0, u0, v0, f0⟩ := sfind_f (q := 0) (y := Y) (by omega) (by omega) (by omega) (by omega)
  obtain ⟨L1, R1, K1, P1, u1, v1, f1⟩ := sfind_f (q := 1) (y := Y) (by omega) (by omega) (by omega) (by omega)
  obtain ⟨L2, R2, K2, P2, u2, v2, f2⟩ := sfind_f (q := 2) (y := Y) (by omega) (by omega) (by omega) (by omega)
  obtain ⟨L3, R3, K3, P3, u3, v3, f3⟩ := sfind_f (q := 3) (y := Y) (by omega) (by omega) (by omega) (by omega)
  obtain ⟨L4, R4, K4, P4, u4, v4, f4⟩ := sfind_f (q := 0) (y := Y + 1) (by omega) (by omega) (by omega) (by omega)
  have d1 := season_apart P0 (by rw [show 1000000000 * Y + 250000000 * 0 + 250000000 = 1000000000 * Y + 250000000 * 1 by omega]; exact P1)
  have d2 := season_apart P1 (by rw [show 1000000000 * Y + 250000000 * 1 + 250000000 = 1000000000 * Y + 250000000 * 2 by omega]; exact P2)
  have d3 := season_apart P2 (by rw [show 1000000000 * Y + 250000000 * 2 + 250000000 = 1000000000 * Y + 250000000 * 3 by omega]; exact P3)
  have d4 := season_apart P3 (by rw [show 1000000000 * Y + 250000000 * 3 + 250000000 = 1000000000 * (Y + 1) + 250000000 * 0 by omega]; exact P4)
  have l0 := P0.lr
  have l1 := P1.lr
  have l2 := P2.lr
  have l3 := P3.lr
  have l4 := P4.lr
  obtain ⟨k, hk⟩ : ∃ k, k = kw + K0 + K1 + K2 + K3 + K4 := ⟨_, rfl⟩
  refine ⟨k + 1 + 1 + 1 + 1 + 1, ?_⟩
  have t1 : wrap64 (Int.tdiv 1 4) = 0 ∧ wrap64 (Int.tdiv 2 4) = 0 ∧ wrap64 (Int.tdiv 3 4) = 0 ∧ wrap64 (Int.tdiv 4 4) = 1 := by decide +kernel
  have t2 : Int.tmod 1 4 = 1 ∧ Int.tmod 2 4 = 2 ∧ Int.tmod 3 4 = 3 ∧ Int.tmod 4 4 = 0 := by decide +kernel
  have t3 : wrap64 (1 + 1) = 2 ∧ wrap64 (2 + 1) = 3 ∧ wrap64 (3 + 1) = 4 ∧ wrap64 (4 + 1) = 5 := by decide +kernel
  have wK : wrap64 (Y + 0) = Y := by rw [Int.add_zero]; exact wrap_in (by omega) (by omega)
  have wK1 : wrap64 (Y + 1) = Y + 1 := wrap_in (by omega) (by omega)
  rw [hw _ (by omega), f0 _ (by omega)]
  simp only [Option.bind_some, if_true]
  rw [so_step (L := L1) (R := R1) (by omega) (by rw [t1.1, t2.1, wK]; exact f1 _ (by omega)) (by rw [wrap_in (by omega) (by omega)]; omega) (by rw [wrap_in (by omega) (by omega)]; omega), t3.1,
    so_step (L := L2) (R := R2) (by omega) (by rw [t1.2.1, t2.2.1, wK]; exact f2 _ (by omega)) (by rw [wrap_in (by omega) (by omega)]; omega) (by rw [wrap_in (by omega) (by omega)]; omega), t3.2.1,
    so_step (L := L3) (R := R3) (by omega) (by rw [t1.2.2.1, t2.2.2.1, wK]; exact f3 _ (by omega)) (by rw [wrap_in (by omega) (by omega)]; omega) (by rw [wrap_in (by omega) (by omega)]; omega), t3.2.2.1,
    so_step (L := L4) (R := R4) (by omega) (by rw [t1.2.2.2, t2.2.2.2, wK1]; exact f4 _ (by omega)) (by rw [wrap_in (by omega) (by omega)]; omega) (by rw [wrap_in (by omega) (by omega)]; omega), t3.2.2.2]
  simp only [ephemeriskeep2_SeasonsInOrder.l0]
  rw [if_neg (by omega)]
end Go.Proofs.Ytemkeciekgdkeaa.Pure
