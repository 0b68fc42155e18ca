-- Made by a program of this session (wip/hp.py, over the kit's print) out of the translation. Not trusted: Lean checks it.
import Derived.Test.YtmoeeneekcbdeaaJAx0
import Derived.Test.YtmoeeneekcbdeaaJAx2
import Derived.Test.YtmoeeneekcbdeaaJAx3
import Derived.Test.YtmoeeneekcbdeaaJAx5
import Derived.Test.YtmoeeneekcbdeaaOscLaw
namespace Go.Proofs.Ytmoeeneekcbdeaa.JA
open Go.RowKit Go.Proofs.YtmoeeneekcbdeaaW.PrintWords Go.Proofs.YtmoeeneekcbdeaaW.PrintLast Go.Proofs.YtmoeeneekcbdeaaW.PrintMore
attribute [local go_sem] max2_int min2_int max_two min_two max_three min_three max_four min_four   -- for this text's walks alone
set_option linter.unusedVariables false
set_option linter.unusedSimpArgs false

/-! ### ephemeriskeep2_OscillHolds: function 6 -/
-- hand
-- body
-- IMPORT Derived.Test.YtmoeeneekcbdeaaOscLaw
theorem ephemeriskeep2_OscillHolds.law_ {d q b t n : Int} (d0 : 0 ≤ d) (d1 : d ≤ 10000) (q0 : 0 ≤ q) (q1 : q ≤ 2 * d) (b0 : 0 ≤ b) (b1 : b < 1000000000) (hn : Int.tdiv (b * (1000000 + (q - d))) 1000000 = n) :
    0 ≤ n ∧ n ≤ 2000000000 ∧ n * 1000000 / (1000000 + d) ≤ b ∧ b - 2 ≤ -((-(n * 1000000)) / (1000000 - d)) ∧ 0 ≤ n * 1000000 / (1000000 + d) ∧ -((-(n * 1000000)) / (1000000 - d)) ≤ 2 * n := by
  have p0 : 0 ≤ b * (1000000 + (q - d)) := Int.mul_nonneg b0 (by omega)
  have p1 : b * (1000000 + (q - d)) ≤ b * (1000000 + d) := Int.mul_le_mul_of_nonneg_left (by omega) b0
  have p2 : b * (1000000 - d) ≤ b * (1000000 + (q - d)) := Int.mul_le_mul_of_nonneg_left (by omega) b0
  have p3 : b * (1000000 + d) ≤ b * 1010000 := Int.mul_le_mul_of_nonneg_left (by omega) b0
  rw [Int.tdiv_eq_ediv_of_nonneg p0] at hn
  have e := Int.emod_add_mul_ediv (b * (1000000 + (q - d))) 1000000
  have m0 := Int.emod_nonneg (b * (1000000 + (q - d))) (show (1000000 : Int) ≠ 0 by omega)
  have m1 := Int.emod_lt_of_pos (b * (1000000 + (q - d))) (show (0 : Int) < 1000000 by omega)
  rw [hn] at e
  have n0 : 0 ≤ n := by rw [← hn]; exact Int.ediv_nonneg p0 (by omega)
  have f1 : n * 1000000 / (1000000 + d) ≤ b := Int.ediv_le_of_le_mul (by omega) (by omega)
  have f2 := cl_ge (x := n) (m := 1000000 - d) n0 (by omega) (by omega)
  have f3 : 0 ≤ n * 1000000 / (1000000 + d) := Int.ediv_nonneg (by omega) (by omega)
  refine ⟨n0, by omega, f1, ?_, f3, f2.2⟩
  have f4 : (-(n * 1000000)) / (1000000 - d) ≤ 2 - b := by
    refine Int.ediv_le_of_le_mul (by omega) ?_
    have : (2 - b) * (1000000 - d) = 2 * (1000000 - d) - b * (1000000 - d) := Int.sub_mul _ _ _
    rw [this]; omega
  omega
set_option maxHeartbeats 1000000 in
set_option maxRecDepth 100000 in
theorem ephemeriskeep2_OscillHolds.calls (a0 a1 a2 a3 a4 : Int) (r : Bool) (w : World) (h : ephemeriskeep2_OscillHolds.f a0 a1 a2 a3 a4 = some r) :
    Calls Try.prog 6 #[.int .i64 a0, .int .i64 a1, .int .i64 a2, .int .i64 a3, .int .i64 a4] w fun e w' => e = .returned (.bool r) ∧ Below w.heap.size w w' := by
  have hu25 := Try.underlying25
  unfold ephemeriskeep2_OscillHolds.f at h
  obtain rfl := Option.some.inj h
  clear h
  have at_ : ∀ x m : Int, 0 < m → m ≤ 4000000000000000000 → ephemeriskeep2_at.f x m = some (x % m) := fun x m h h' => by
    unfold ephemeriskeep2_at.f
    first | rw [if_neg (by omega), Go.Proofs.Ytmoeeneekcbdeaa.Own.at_val h h'] | rw [if_neg (by omega), if_neg (by omega), Go.Proofs.Ytmoeeneekcbdeaa.Own.at_val h h']
  have D := Aside0.mk (at_ a0 10001 (by omega) (by omega))
  have A3 := Aside0.mk (at_ a3 1000000000 (by omega) (by omega))
  have A4 := Aside0.mk (at_ a4 1000000000 (by omega) (by omega))
  have d0 : 0 ≤ a0 % 10001 ∧ a0 % 10001 ≤ 10000 := by omega
  have a30 : 0 ≤ a3 % 1000000000 ∧ a3 % 1000000000 < 1000000000 := by omega
  have a40 : 0 ≤ a4 % 1000000000 ∧ a4 % 1000000000 < 1000000000 := by omega
  generalize a0 % 10001 = d at *
  generalize a3 % 1000000000 = a at *
  generalize a4 % 1000000000 = b at *
  have Q := Aside0.mk (at_ a1 (2 * d + 1) (by omega) (by omega))
  have q0 : 0 ≤ a1 % (2 * d + 1) ∧ a1 % (2 * d + 1) ≤ 2 * d := by
    have := Int.emod_nonneg a1 (show 2 * d + 1 ≠ 0 by omega)
    have := Int.emod_lt_of_pos a1 (show 0 < 2 * d + 1 by omega)
    omega
  generalize a1 % (2 * d + 1) = q at *
  obtain ⟨t, ht⟩ : ∃ t, Int.tmod a2 1000000000000 = t := ⟨_, rfl⟩
  have t0 : -1000000000000 < t ∧ t < 1000000000000 := by rw [← ht]; exact Go.Proofs.Ytmoeeneekcbdeaa.Own.tmod_lt (by omega)
  obtain ⟨n, hn⟩ : ∃ n, Int.tdiv (b * (1000000 + (q - d))) 1000000 = n := ⟨_, rfl⟩
  obtain ⟨n0, n1, l1, l2, l3, l4⟩ := ephemeriskeep2_OscillHolds.law_ d0.1 d0.2 q0.1 q0.2 a40.1 a40.2 (t := t) hn
  have E := Aside0.mk (elapsed_f 7 d0.1 (by omega) n0 (show n ≤ 1000000000000 by omega))
  generalize n * 1000000 / (1000000 + d) = lo at *
  generalize -((-(n * 1000000)) / (1000000 - d)) = hi at *
  have p3 : -3000000000000000 ≤ b * (1000000 + (q - d)) ∧ b * (1000000 + (q - d)) ≤ 3000000000000000 := by
    have p1 : b * (1000000 + (q - d)) ≤ b * 1010000 := Int.mul_le_mul_of_nonneg_left (by omega) a40.1
    have p2 : 0 ≤ b * (1000000 + (q - d)) := Int.mul_nonneg a40.1 (by omega)
    omega
  have w1 : wrap64 (2 * d) = 2 * d := wrap_in_ (by omega) (by omega)
  have w2 : wrap64 (2 * d + 1) = 2 * d + 1 := wrap_in_ (by omega) (by omega)
  have w3 : wrap64 (q - d) = q - d := wrap_in_ (by omega) (by omega)
  have w4 : wrap64 (1000000 + (q - d)) = 1000000 + (q - d) := wrap_in_ (by omega) (by omega)
  have w5 : wrap64 (b * (1000000 + (q - d))) = b * (1000000 + (q - d)) := wrap_in_ (by omega) (by omega)
  have w6 : wrap64 (t - 5) = t - 5 := wrap_in_ (by omega) (by omega)
  have w7 : wrap64 (t + 5) = t + 5 := wrap_in_ (by omega) (by omega)
  have w8 : wrap64 (a + n) = a + n := wrap_in_ (by omega) (by omega)
  have w9 : wrap64 (t + b) = t + b := wrap_in_ (by omega) (by omega)
  have w10 : wrap64 (t + b - 5) = t + b - 5 := wrap_in_ (by omega) (by omega)
  have w11 : wrap64 (t - 5 + lo) = t - 5 + lo := wrap_in_ (by omega) (by omega)
  have w12 : wrap64 (t + 5 + hi) = t + 5 + hi := wrap_in_ (by omega) (by omega)
  have w13 : wrap64 n = n := wrap_in_ (by omega) (by omega)
  have c1 : decide (t - 5 + lo ≤ t + b) = true := decide_eq_true (by omega)
  have c2 : decide (t + b - 5 ≤ t + 5 + hi) = true := decide_eq_true (by omega)
  have T := Aside0.mk (times_ok_ (a := t - 5) (b := t + 5) (by omega) (by omega) (by omega))
  have E2 : Aside0 (oscill_Elapsed.f 9 d (a + n - a) = some (lo, hi, 0)) := ⟨by rw [show a + n - a = n by omega]; exact E.out⟩
  have B1 := Aside0.mk d0
  have B2 := Aside0.mk t0
  have B3 := Aside0.mk a30
  have B4 := Aside0.mk n0
  have B5 := Aside0.mk n1
  clear d0 t0 a30 a40 q0 n0 n1 l1 l2 l3 l4 p3 at_ E
  go_enter Try.func6, Try.ntmps6
  go_wp2_with fail
  refine (ephemeriskeep2_oscillWorks.calls true _ rfl).mono ?_
  rintro e w1 ⟨rfl, hb⟩
  have HB := Aside0.mk hb
  clear hb
  go_wp2_with (first | (go_at_call 16; (with_reducible refine (ephemeriskeep2_at.calls a0 10001 d _ D.out).mono ?_); rintro e w' ⟨rfl, ⟨nd, rfl⟩⟩) | (go_at_call 16; (with_reducible refine (ephemeriskeep2_at.calls a3 1000000000 a _ A3.out).mono ?_); rintro e w' ⟨rfl, ⟨nd2, rfl⟩⟩) | (go_at_call 16; (with_reducible refine (ephemeriskeep2_at.calls a4 1000000000 b _ A4.out).mono ?_); rintro e w' ⟨rfl, ⟨nd3, rfl⟩⟩) | (go_at_call 16; (with_reducible refine (ephemeriskeep2_at.calls a1 (2 * d + 1) q _ Q.out).mono ?_); rintro e w' ⟨rfl, ⟨nd4, rfl⟩⟩))
  refine (New_ok d _ B1.out.1 (by have := B1.out; omega)).mono ?_
  rintro e w2 ⟨rfl, hw2⟩
  subst hw2
  go_wp2_with fail
  have BG : ((w1.drewN (nd + nd2 + nd3 + nd4)).alloc (.cells #[.int .i64 d, .bool false, .int .i64 0, .int .i64 0, .int .i64 0] 73 (0, 0))).heap[w1.heap.size]? = some (.cells #[.int .i64 d, .bool false, .int .i64 0, .int .i64 0, .int .i64 0] 73 (0, 0)) := by
    have h_ := blk_new (w1.drewN (nd + nd2 + nd3 + nd4)) (.cells #[.int .i64 d, .bool false, .int .i64 0, .int .i64 0, .int .i64 0] 73 (0, 0))
    simpa using h_
  refine (Set_ok d a (t - 5) (t + 5) _ _ _ _ _ B3.out.1 (by have := B3.out; omega) (by have := B2.out; omega) (by omega) (by have := B2.out; omega) BG T.out).mono ?_
  rintro e w3 ⟨rfl, hg, hk, hb3⟩
  have BG3 := Aside0.mk hg
  have HB3 := Aside0.mk (show Below w.heap.size w w3 from (below_alloc (pw_below_drewN HB.out _) _).trans (hb3.mono (by have := HB.out.size; omega)))
  clear hg hk hb3 BG
  go_wp2_with fail
  refine (At_ok d (a + n) a (t - 5) (t + 5) lo hi _ _ (by have := B3.out; have := B4.out; omega) (by have := B3.out; have := B5.out; omega) (by have := B4.out; omega) B3.out.1 BG3.out E2.out).mono ?_
  rintro e w4 ⟨rfl, hb⟩
  have HB4 := Aside0.mk (below_step HB3.out hb)
  clear hb
  go_wp2
  go_ret
  refine ⟨by first | rfl | (simp; done) | (simp [wrap64]; done), ?_⟩
  repeat (first | exact HB4.out | apply below_drew | apply pw_below_drewN | apply below_alloc | refine below_set ?_ (by first | omega | (simp; done) | (simp; omega)))

end Go.Proofs.Ytmoeeneekcbdeaa.JA
