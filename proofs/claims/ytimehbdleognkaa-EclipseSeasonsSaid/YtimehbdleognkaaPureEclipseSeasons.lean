/- The law EclipseSeasons: within eight lunations there is an eclipse. No condition. -/
import Derived.Test.YtimehbdleognkaaJEx1
import Derived.Test.YtimehbdleognkaaSeriesNorth
import Derived.Test.YtimehbdleognkaaPhaseOrder
import Derived.Test.YtimehbdleognkaaNodeFlip
import Derived.Test.YtimehbdleognkaaEclA
import Derived.Test.YtimehbdleognkaaEclB
import Derived.Test.YtimehbdleognkaaEclC
namespace Go.Proofs.Ytimehbdleognkaa.Pure
open Go.Proofs.Ytimehbdleognkaa.JE Go.Proofs.Ytimehbdleognkaa.Own Go.Proofs.Ytimehbdleognkaa.Tp Go.RowKit Go.Proofs.YtimehbdleognkaaW.PrintWords Go.Proofs.YtimehbdleognkaaW.PrintLast

theorem next_step {k : Nat} {l q i m : Int} {r : Int × Int × Int × Int × Int × Int × Int × Int} (hi : i < 24) (hm : wrap64 (l + i) = m) (hf : eclipse_Find.f k m q = some r) (h : r.2.2.2.2.2.2.2 = 0) (h0 : r.1 = 0) : eclipse_Next.l0 (k + 1) l q i = eclipse_Next.l0 k l q (wrap64 (i + 1)) := by
  simp only [eclipse_Next.l0]
  rw [if_pos hi, hm, hf]
  simp only [Option.bind_some]
  rw [if_pos h, if_pos h0]
theorem next_found {k : Nat} {l q i m : Int} {r : Int × Int × Int × Int × Int × Int × Int × Int} (hi : i < 24) (hm : wrap64 (l + i) = m) (hf : eclipse_Find.f k m q = some r) (h : r.2.2.2.2.2.2.2 = 0) (h0 : ¬ r.1 = 0) : eclipse_Next.l0 (k + 1) l q i = some (m, 0) := by
  simp only [eclipse_Next.l0]
  rw [if_pos hi, hm, hf]
  simp only [Option.bind_some]
  rw [if_pos h, if_neg h0]
theorem ecl_works : ∃ k0, ∀ k, k0 ≤ k → ephemeriskeep2_eclipseWorks.f k = some true := by
  obtain ⟨K4, e4⟩ := ec_24714
  obtain ⟨K5, e5⟩ := ec_24715
  obtain ⟨K6, e6⟩ := ec_24716
  obtain ⟨K7, e7⟩ := ec_24717
  obtain ⟨K8, e8⟩ := ec_24718
  obtain ⟨K9, e9⟩ := ec_24719
  refine of_mono (k0 := K4 + K5 + K6 + K7 + K8 + K9 + 10) ephemeriskeep2_eclipseWorks.mono ?_
  unfold ephemeriskeep2_eclipseWorks.f eclipse_Next.f
  rw [e9 _ (by omega)]
  simp only [Option.bind_some]
  rw [next_step (m := 24714) (by decide +kernel) (by decide +kernel) (e4 _ (by omega)) rfl rfl, show wrap64 (0 + 1) = 1 from by decide +kernel]
  rw [next_step (m := 24715) (by decide +kernel) (by decide +kernel) (e5 _ (by omega)) rfl rfl, show wrap64 (1 + 1) = 2 from by decide +kernel]
  rw [next_step (m := 24716) (by decide +kernel) (by decide +kernel) (e6 _ (by omega)) rfl rfl, show wrap64 (2 + 1) = 3 from by decide +kernel]
  rw [next_step (m := 24717) (by decide +kernel) (by decide +kernel) (e7 _ (by omega)) rfl rfl, show wrap64 (3 + 1) = 4 from by decide +kernel]
  rw [next_step (m := 24718) (by decide +kernel) (by decide +kernel) (e8 _ (by omega)) rfl rfl, show wrap64 (4 + 1) = 5 from by decide +kernel]
  rw [next_found (m := 24719) (by decide +kernel) (by decide +kernel) (e9 _ (by omega)) rfl (by simp)]
  simp only [Option.bind_some, if_true]
  have hh : ephemeriskeep2_has.f 1668615 1717514 1695151 91000 = some true := by decide +kernel
  rw [hh]
  rfl

abbrev R8 := Int × Int × Int × Int × Int × Int × Int × Int
theorem nxt {l : Int} {r : Nat → R8} {K : Nat} (l1 : -90000 < l) (l2 : l < 90000) (hf : ∀ i : Nat, i ≤ 7 → ∀ k, K ≤ k → eclipse_Find.f k (l + (i : Int)) 0 = some (r i)) (he : ∀ i : Nat, i ≤ 7 → (r i).2.2.2.2.2.2.2 = 0 ∨ (r i).2.2.2.2.2.2.2 = 11) :
    ∀ (d i : Nat), i + d = 8 → (∃ j, i ≤ j ∧ j ≤ 7 ∧ ¬ ((r j).1 = 0 ∧ (r j).2.2.2.2.2.2.2 = 0)) → ∀ k, K + d + 1 ≤ k → ∃ n e : Int, eclipse_Next.l0 k l 0 (i : Int) = some (n, e) ∧ ((e = 11 ∧ n = 0) ∨ (e = 0 ∧ l ≤ n ∧ n < l + 8))
  | 0, i, hi, ⟨j, a, b, _⟩, k, hk => by omega
  | d + 1, i, hi, ⟨j, a, b, c⟩, k, hk => by
    obtain ⟨k, rfl⟩ : ∃ m, k = m + 1 := ⟨k - 1, by omega⟩
    simp only [eclipse_Next.l0]
    rw [if_pos (by omega), wrap_in (n := l + (i : Int)) (by omega) (by omega), hf i (by omega) k (by omega)]
    simp only [Option.bind_some]
    by_cases h : (r i).2.2.2.2.2.2.2 = 0
    · rw [if_pos h]
      by_cases g : (r i).1 = 0
      · rw [if_pos g, wrap_in (n := (i : Int) + 1) (by omega) (by omega), show ((i : Int) + 1) = ((i + 1 : Nat) : Int) by omega]
        have ne : i ≠ j := fun e => c (e ▸ ⟨g, h⟩)
        exact nxt l1 l2 hf he d (i + 1) (by omega) ⟨j, by omega, b, c⟩ k (by omega)
      · rw [if_neg g]
        exact ⟨_, _, rfl, Or.inr ⟨rfl, by omega, by omega⟩⟩
    · rw [if_neg h]
      rcases he i (by omega) with e | e
      · exact absurd e h
      · exact ⟨_, _, rfl, Or.inl ⟨e, rfl⟩⟩
theorem EclipseSeasons : ephemeriskeep2_EclipseSeasons.Pure := by
  intro a0 _
  obtain ⟨kw, hw⟩ := ecl_works
  have n0 := tmod_lt (a := a0) (m := 90000) (by omega)
  obtain ⟨l, hl⟩ : ∃ l, Int.tmod a0 90000 = l := ⟨_, rfl⟩
  rw [hl] at n0
  have HH : ∀ i : Nat, ∃ z : R8 × Nat × Int × Int, i ≤ 7 → ((z.1.2.2.2.2.2.2.2 = 0 ∨ z.1.2.2.2.2.2.2.2 = 11) ∧ ∀ k, z.2.1 ≤ k → eclipse_Find.f k (l + (i : Int)) 0 = some z.1) ∧ Ph (l + (i : Int)) 0 z.2.2.1 z.2.2.2 ∧ (-345600000000000 ≤ z.2.2.1 ∧ z.2.2.1 < 345600086400000) ∧
      (z.1.1 = 0 → z.1.2.2.2.2.2.2.2 = 0 → rl northL z.2.2.1 < -4100000 ∨ 4100000 < rl northL z.2.2.1) := fun i => by
    by_cases hi : i ≤ 7
    · obtain ⟨r, K, L, R, ⟨e, _, _, f⟩, ⟨b1, b2, b3, b4, b5, b6⟩, -, t⟩ := efind_r (l := l + (i : Int)) (by omega) (by omega)
      have pb : -345600000000000 ≤ L ∧ L < 345600086400000 := by unfold pmid at b1 b3; omega
      exact ⟨(r, K, L, R), fun _ => ⟨⟨e, f⟩, ⟨b2, b4, b5, b6⟩, pb, t⟩⟩
    · exact ⟨((0, 0, 0, 0, 0, 0, 0, 0), 0, 0, 0), fun h => absurd h hi⟩
  obtain ⟨Z, hZ⟩ := Classical.axiomOfChoice HH
  have bad : ∃ j, 0 ≤ j ∧ j ≤ 7 ∧ ¬ ((Z j).1.1 = 0 ∧ (Z j).1.2.2.2.2.2.2.2 = 0) := by
    refine Classical.byContradiction fun no => ?_
    have all : ∀ i : Nat, i ≤ 7 → (Z i).1.1 = 0 ∧ (Z i).1.2.2.2.2.2.2.2 = 0 := fun i hi => Classical.byContradiction fun c => no ⟨i, Nat.zero_le _, hi, c⟩
    refine eight (T := fun i => (Z i).2.2.1) (n := l) (fun i hi => (hZ i hi).2.2.1) (fun i hi => ?_) (fun i hi => ?_) (fun i hi => (hZ i hi).2.2.2 (all i hi).1 (all i hi).2)
    · have A := (hZ i (by omega)).2.1
      have B := (hZ (i + 1) hi).2.1
      rw [show l + ((i + 1 : Nat) : Int) = l + (i : Int) + 1 by omega] at B
      have m := month_apart A B
      have a := A.lr
      have b := B.lr
      show 2505600000 ≤ (Z (i + 1)).2.2.1 - (Z i).2.2.1 ∧ (Z (i + 1)).2.2.1 - (Z i).2.2.1 < 2592000000
      omega
    · have A := (hZ i hi).2.1
      have e := EE_lin (t := (Z i).2.2.1) (d := (Z i).2.2.2 - (Z i).2.2.1) (by have := A.lr; omega)
      rw [show (Z i).2.2.1 + ((Z i).2.2.2 - (Z i).2.2.1) = (Z i).2.2.2 by omega] at e
      have w := ic A.wd
      have c6 : ((600000 : Int) : Rat) = 600000 := by decide +kernel
      rw [c6] at w
      have p1 := A.neg
      have p2 := A.pos
      unfold pe at p1 p2
      have c0 : ((0 * 250000000 : Int) : Rat) = 0 := by decide +kernel
      rw [c0] at p1 p2
      show -280000 ≤ EE (Z i).2.2.1 - 1000000000 * ((l + (i : Int) : Int) : Rat) ∧ EE (Z i).2.2.1 - 1000000000 * ((l + (i : Int) : Int) : Rat) ≤ 0
      constructor <;> grind
  obtain ⟨K, hK⟩ : ∃ K : Nat, ∀ i, i ≤ 7 → (Z i).2.1 ≤ K := ⟨(Z 0).2.1 + (Z 1).2.1 + (Z 2).2.1 + (Z 3).2.1 + (Z 4).2.1 + (Z 5).2.1 + (Z 6).2.1 + (Z 7).2.1, fun i hi => by
    rcases (by omega : i = 0 ∨ i = 1 ∨ i = 2 ∨ i = 3 ∨ i = 4 ∨ i = 5 ∨ i = 6 ∨ i = 7) with h | h | h | h | h | h | h | h <;> rw [h] <;> omega⟩
  obtain ⟨n, e, hn, res⟩ := nxt (l := l) (r := fun i => (Z i).1) (K := K) n0.1 n0.2 (fun i hi k hk => (hZ i hi).1.2 k (Nat.le_trans (hK i hi) hk)) (fun i hi => (hZ i hi).1.1) 8 0 rfl bad (kw + K + 20) (by omega)
  refine ⟨kw + K + 20, ?_⟩
  unfold ephemeriskeep2_EclipseSeasons.f eclipse_Next.f
  rw [hw _ (by omega), hl]
  simp only [Option.bind_some, if_true]
  have hn' : eclipse_Next.l0 (kw + K + 20) l 0 0 = some (n, e) := hn
  rw [hn']
  simp only [Option.bind_some]
  rcases res with ⟨rfl, rfl⟩ | ⟨rfl, q1, q2⟩
  · simp
  · rw [if_neg (by decide), if_pos rfl, if_pos q1, wrap_in (by omega) (by omega), decide_eq_true q2]
end Go.Proofs.Ytimehbdleognkaa.Pure
