-- Made by a program of this session (wip/hp.py, over the kit's print) out of the translation. Not trusted: Lean checks it.
import Derived.Test.YtgmjgnojjbajdaaDoorJRx0
import Derived.Test.YtgmjgnojjbajdaaDoorJRx1
import Derived.Test.YtgmjgnojjbajdaaDoorJRx6
import Derived.Test.YtgmjgnojjbajdaaDoorJRx17
namespace Go.Proofs.YtgmjgnojjbajdaaDoor.JR
open Go.RowKit Go.Proofs.YtgmjgnojjbajdaaDoorW.PrintWords Go.Proofs.YtgmjgnojjbajdaaDoorW.PrintLast Go.Proofs.YtgmjgnojjbajdaaDoorW.PrintMore
attribute [local go_sem] max2_int min2_int max_two min_two max_three min_three max_four min_four   -- for this text's walks alone
set_option linter.unusedVariables false
set_option linter.unusedSimpArgs false

/-! ### interval_times: function 68 -/
-- hand
set_option maxHeartbeats 2000000 in
set_option maxRecDepth 100000 in
theorem interval_times.calls (a0 : Int) (a1 : Int) (r1 : Int) (r2 : Bool) (w : World) (h : interval_times.f a0 a1 = some (r1, r2)) :
    Calls Tryd.prog 68 #[.int .i64 a0, .int .i64 a1] w fun e w' => e = .returned (.tuple #[.int .i64 r1, .bool r2]) ∧ Drawn0 w w' := by
  unfold interval_times.f at h
  by_cases hp : InR a0 ∧ InR a1 ∧ InR (a0 * a1)
  · rw [if_pos hp] at h
    simp only [Option.some.injEq, Prod.mk.injEq] at h
    obtain ⟨rfl, rfl⟩ := h
    obtain ⟨h0, h1, h2⟩ := hp
    by_cases x0 : a0 = 0
    · subst x0
      go_enter Tryd.func68, Tryd.ntmps68
      go_wp2
      all_goals
        go_ret2
        exact ⟨by simp, by repeat (first | exact Drawn0.refl _ | apply Drawn0.step)⟩
    · by_cases y0 : a1 = 0
      · subst y0
        have b0 : (a0 == 0) = false := beq_eq_false_iff_ne.mpr x0
        go_enter Tryd.func68, Tryd.ntmps68
        go_wp2
        all_goals
          go_ret2
          exact ⟨by simp, by repeat (first | exact Drawn0.refl _ | apply Drawn0.step)⟩
      · have b0 : (a0 == 0) = false := beq_eq_false_iff_ne.mpr x0
        have b1 : (a1 == 0) = false := beq_eq_false_iff_ne.mpr y0
        have q := quo_ge_ y0 h2
        have e0 := abs_f_ h0
        have e1 := abs_f_ h1
        obtain ⟨m0, hm0⟩ : ∃ m, (if a0 < 0 then -a0 else a0) = m := ⟨_, rfl⟩
        obtain ⟨m1, hm1⟩ : ∃ m, (if a1 < 0 then -a1 else a1) = m := ⟨_, rfl⟩
        have p1 : m1 ≠ 0 := by rw [← hm1]; split <;> omega
        rw [hm0] at e0 q
        rw [hm1] at e1 q
        have b2 : (m1 == 0) = false := beq_eq_false_iff_ne.mpr p1
        have hw : wrap64 (Int.tdiv 1000000000000000000 m1) = Int.tdiv 1000000000000000000 m1 := wrap_in_ (by have := h0.1; have : 0 ≤ m0 := (by rw [← hm0]; split <;> omega); omega) (by omega)
        have hd : decide (Int.tdiv 1000000000000000000 m1 < m0) = false := decide_eq_false (by omega)
        have hx : wrap64 (a0 * a1) = a0 * a1 := wrap_in_ (by have := h2.1; omega) (by have := h2.2; omega)
        have E0 := Aside0.mk e0
        have E1 := Aside0.mk e1
        have p2 : ¬ m1 = 0 := p1
        clear e0 e1 hm0 hm1 q p1
        go_enter Tryd.func68, Tryd.ntmps68
        go_wp2_with fail
        refine (interval_abs.calls a0 m0 _ E0.out).mono ?_
        rintro e w' ⟨rfl, ⟨nd, rfl⟩⟩
        go_wp2_with fail
        refine (interval_abs.calls a1 m1 _ E1.out).mono ?_
        rintro e w' ⟨rfl, ⟨nd, rfl⟩⟩
        go_wp2
        go_ret2
        exact ⟨by first | rfl | (rw [hx]; done) | (rw [hx]; rfl) | (simp [hx]; done), by repeat (first | exact Drawn0.refl _ | apply Drawn0.step)⟩
  · rw [if_neg hp] at h; cases h

/-! ### interval_Mul: function 63 -/
-- hand
set_option maxHeartbeats 4000000 in
set_option maxRecDepth 100000 in
theorem interval_Mul.calls (a b c d : Int) (r1 : Int) (r2 : Int) (r3 : Int) (w : World) (h : interval_Mul.f a b c d = some (r1, r2, r3)) :
    Calls Tryd.prog 63 #[.agg #[.int .i64 a, .int .i64 b], .agg #[.int .i64 c, .int .i64 d]] w fun e w' => e = .returned (.tuple #[.agg #[.int .i64 r1, .int .i64 r2], .int .i64 r3]) ∧ Below w.heap.size w w' := by
  have hu := Tryd.underlying28
  have hu48 := Tryd.underlying81
  have hu49 := Tryd.underlying93
  unfold interval_Mul.f at h
  by_cases hp : MulOk a b c d
  · rw [if_pos hp] at h
    simp only [Option.some.injEq, Prod.mk.injEq] at h
    obtain ⟨rfl, rfl, rfl⟩ := h
    have hb := (fun (hp : MulOk a b c d) => both_f_ hp.1 hp.2.1 hp.2.2.1 hp.2.2.2.1 hp.2.2.2.2.1 hp.2.2.2.2.2.1) hp
    have HT := Aside0.mk hp.times_
    have HBo := Aside0.mk hb
    clear hp hb
    go_enter Tryd.func63, Tryd.ntmps63
    go_wp2_with fail
    refine (interval_both.calls 1 a b c d 0 _ HBo.out).mono ?_
    rintro e w1 ⟨rfl, hb⟩
    have BA := Aside0.mk (blk_below (g := w.heap.size) (o := .cells #[.int .i64 a, .int .i64 b] 28 (0, 0)) (blk_alloc (blk_alloc (blk_new w _) _) _) hb)
    have BB := Aside0.mk (blk_below (g := w.heap.size + 1) (o := .cells #[.int .i64 c, .int .i64 d] 28 (0, 0)) (blk_alloc (by have h_ := blk_new (w.alloc (.cells #[.int .i64 a, .int .i64 b] 28 (0, 0))) (.cells #[.int .i64 c, .int .i64 d] 28 (0, 0)); simpa using h_) _) hb)
    have BR := Aside0.mk (blk_below (g := w.heap.size + 1 + 1) (o := .cells #[.int .i64 0, .int .i64 0] 28 (0, 0)) (by have h_ := blk_new ((w.alloc (.cells #[.int .i64 a, .int .i64 b] 28 (0, 0))).alloc (.cells #[.int .i64 c, .int .i64 d] 28 (0, 0))) (.cells #[.int .i64 0, .int .i64 0] 28 (0, 0)); simpa using h_) hb)
    have HB := Aside0.mk (below_step (w := w) (by repeat (first | exact Below.refl _ _ | apply below_alloc | apply pw_below_drewN | apply below_drew | refine below_set ?_ (by first | omega | (simp; done) | (simp; omega)))) hb)
    have n1 : w.heap.size + 1 + 1 < w1.heap.size := blk_lt BR.out
    clear hb
    have a0 : w1.cell? ⟨w.heap.size, 0, none⟩ = some (.int .i64 a) := (blk_cell BA.out 0).trans rfl
    have a1 : w1.cell? ⟨w.heap.size, 1, none⟩ = some (.int .i64 b) := (blk_cell BA.out 1).trans rfl
    have b0 : w1.cell? ⟨w.heap.size + 1, 0, none⟩ = some (.int .i64 c) := (blk_cell BB.out 0).trans rfl
    have b1 : w1.cell? ⟨w.heap.size + 1, 1, none⟩ = some (.int .i64 d) := (blk_cell BB.out 1).trans rfl
    have nA : ¬ w1.heap.size = w.heap.size := by omega
    have nB : ¬ w1.heap.size = w.heap.size + 1 := by omega
    have nA' : ¬ w.heap.size = w1.heap.size := by omega
    have nB' : ¬ w.heap.size + 1 = w1.heap.size := by omega
    have lA : w.heap.size < w1.heap.size := by omega
    have lB : w.heap.size + 1 < w1.heap.size := by omega
    have A0 : (w1.alloc (.cells #[.int .i64 0, .int .i64 0] 28 (0, 0))).cell? ⟨w.heap.size, 0, none⟩ = some (.int .i64 a) := (blk_cell (blk_alloc BA.out _) 0).trans rfl
    have A1 : (w1.alloc (.cells #[.int .i64 0, .int .i64 0] 28 (0, 0))).cell? ⟨w.heap.size, 1, none⟩ = some (.int .i64 b) := (blk_cell (blk_alloc BA.out _) 1).trans rfl
    have B0 : (w1.alloc (.cells #[.int .i64 0, .int .i64 0] 28 (0, 0))).cell? ⟨w.heap.size + 1, 0, none⟩ = some (.int .i64 c) := (blk_cell (blk_alloc BB.out _) 0).trans rfl
    have B1 : (w1.alloc (.cells #[.int .i64 0, .int .i64 0] 28 (0, 0))).cell? ⟨w.heap.size + 1, 1, none⟩ = some (.int .i64 d) := (blk_cell (blk_alloc BB.out _) 1).trans rfl
    go_wp2
    clear A0 A1 B0 B1 a0 a1 b0 b1
    have H0 := HB.out
    go_loopw [40] (fun v wr => ∃ (k : Nat) (z : Int), k ≤ 4 ∧ z = k ∧ v = .int .i64 z ∧ Aside0 (wr.heap[w1.heap.size]? = some (.cells #[.int .i64 (interval_Mul.L a b c d k), .int .i64 (interval_Mul.H a b c d k)] 28 (0, 0))) ∧ Aside0 (wr.heap[w.heap.size + 1 + 1]? = some (.cells #[.int .i64 0, .int .i64 0] 28 (0, 0))) ∧ Aside0 (Below w.heap.size w wr)) (fun v _ => 4 - (intOf v).toNat)
    case atStart =>
      exact ⟨0, 0, by omega, rfl, rfl, ⟨blk_new w1 _⟩, ⟨blk_alloc BR.out _⟩, ⟨below_alloc HB.out _⟩⟩
    case round =>
      obtain ⟨k, z, hk, hz, rfl, KR, KO, KB⟩ := hrel
      have nr1 : w1.heap.size < wr.heap.size := blk_lt KR.out
      have nr2 : ¬ wr.heap.size = w1.heap.size := by omega
      have nr3 : ¬ w1.heap.size = wr.heap.size := by omega
      have hc0 : wr.cell? ⟨w1.heap.size, 0, none⟩ = some (.int .i64 (interval_Mul.L a b c d k)) := (blk_cell KR.out 0).trans rfl
      have hc1 : wr.cell? ⟨w1.heap.size, 1, none⟩ = some (.int .i64 (interval_Mul.H a b c d k)) := (blk_cell KR.out 1).trans rfl
      have hf0 := blk_frozen KR.out 0
      have hf1 := blk_frozen KR.out 1
      obtain ⟨T0, T1, T2, T3⟩ := HT.out
      match k, hk with
      | 0, _ =>
        obtain rfl : z = 0 := hz
        have ix : ∀ w : World, (Instr.index 93 (.agg #[.int .i64 a, .int .i64 c, .int .i64 a, .int .i64 d, .int .i64 b, .int .i64 c, .int .i64 b, .int .i64 d]) (.int .i64 0)).run Tryd.prog w = .ok (.agg #[.int .i64 a, .int .i64 c]) w := fun _ => by kernel_rfl
        go_wp2_with fail
        refine (interval_times.calls a c _ true _ T0).mono ?_
        rintro e w' ⟨rfl, ⟨nd, rfl⟩⟩
        go_wp2
        all_goals
          go_roundw
          case rel =>
            refine ⟨1, 1, by omega, rfl, by first | rfl | go_num, ⟨?_⟩, ⟨?_⟩, ⟨?_⟩⟩
            · first
              | ((with_reducible repeat (first | refine blk_drewN ?_ _ | refine blk_drew ?_ | refine blk_alloc ?_ _)); refine blk_put (cs := #[.int .i64 (interval_Mul.P a b c d 0), .int .i64 (interval_Mul.H a b c d 0)]) ?_ 1 _ rfl; (with_reducible repeat (first | refine blk_drewN ?_ _ | refine blk_drew ?_ | refine blk_alloc ?_ _)); refine blk_put (cs := #[.int .i64 (interval_Mul.L a b c d 0), .int .i64 (interval_Mul.H a b c d 0)]) ?_ 0 _ rfl; (with_reducible repeat (first | refine blk_drewN ?_ _ | refine blk_drew ?_ | refine blk_alloc ?_ _)); exact KR.out)
            · repeat (first | exact KO.out | (with_reducible refine blk_drewN ?_ _) | (with_reducible refine blk_drew ?_) | (with_reducible refine blk_alloc ?_ _) | refine blk_far ?_ (by first | (simp; done) | (simp; omega)) _)
            · repeat (first | exact KB.out | apply below_alloc | apply pw_below_drewN | apply below_drew | refine below_set ?_ (by first | omega | (simp; done) | (simp; omega)))
          case measure => simp [intOf]
      | 1, _ =>
        obtain rfl : z = 1 := hz
        have ix : ∀ w : World, (Instr.index 93 (.agg #[.int .i64 a, .int .i64 c, .int .i64 a, .int .i64 d, .int .i64 b, .int .i64 c, .int .i64 b, .int .i64 d]) (.int .i64 1)).run Tryd.prog w = .ok (.agg #[.int .i64 a, .int .i64 d]) w := fun _ => by kernel_rfl
        go_wp2_with fail
        refine (interval_times.calls a d _ true _ T1).mono ?_
        rintro e w' ⟨rfl, ⟨nd, rfl⟩⟩
        go_wp2
        all_goals
          have eL : interval_Mul.L a b c d 2 = (if interval_Mul.P a b c d 1 < interval_Mul.L a b c d 1 then interval_Mul.P a b c d 1 else interval_Mul.L a b c d 1) := rfl
          have eH : interval_Mul.H a b c d 2 = (if interval_Mul.H a b c d 1 < interval_Mul.P a b c d 1 then interval_Mul.P a b c d 1 else interval_Mul.H a b c d 1) := rfl
          go_roundw
          case rel =>
            refine ⟨2, 2, by omega, rfl, by first | rfl | go_num, ⟨?_⟩, ⟨?_⟩, ⟨?_⟩⟩
            · first
              | (rw [eL, eH, if_pos (show interval_Mul.P a b c d 1 < interval_Mul.L a b c d 1 by omega), if_pos (show interval_Mul.H a b c d 1 < interval_Mul.P a b c d 1 by omega)]; (with_reducible repeat (first | refine blk_drewN ?_ _ | refine blk_drew ?_ | refine blk_alloc ?_ _)); refine blk_put (cs := #[.int .i64 (interval_Mul.P a b c d 1), .int .i64 (interval_Mul.H a b c d 1)]) ?_ 1 _ rfl; (with_reducible repeat (first | refine blk_drewN ?_ _ | refine blk_drew ?_ | refine blk_alloc ?_ _)); refine blk_put (cs := #[.int .i64 (interval_Mul.L a b c d 1), .int .i64 (interval_Mul.H a b c d 1)]) ?_ 0 _ rfl; (with_reducible repeat (first | refine blk_drewN ?_ _ | refine blk_drew ?_ | refine blk_alloc ?_ _)); exact KR.out)
              | (rw [eL, eH, if_pos (show interval_Mul.P a b c d 1 < interval_Mul.L a b c d 1 by omega), if_neg (show ¬ interval_Mul.H a b c d 1 < interval_Mul.P a b c d 1 by omega)]; (with_reducible repeat (first | refine blk_drewN ?_ _ | refine blk_drew ?_ | refine blk_alloc ?_ _)); refine blk_put (cs := #[.int .i64 (interval_Mul.L a b c d 1), .int .i64 (interval_Mul.H a b c d 1)]) ?_ 0 _ rfl; (with_reducible repeat (first | refine blk_drewN ?_ _ | refine blk_drew ?_ | refine blk_alloc ?_ _)); exact KR.out)
              | (rw [eL, eH, if_neg (show ¬ interval_Mul.P a b c d 1 < interval_Mul.L a b c d 1 by omega), if_pos (show interval_Mul.H a b c d 1 < interval_Mul.P a b c d 1 by omega)]; (with_reducible repeat (first | refine blk_drewN ?_ _ | refine blk_drew ?_ | refine blk_alloc ?_ _)); refine blk_put (cs := #[.int .i64 (interval_Mul.L a b c d 1), .int .i64 (interval_Mul.H a b c d 1)]) ?_ 1 _ rfl; (with_reducible repeat (first | refine blk_drewN ?_ _ | refine blk_drew ?_ | refine blk_alloc ?_ _)); exact KR.out)
              | (rw [eL, eH, if_neg (show ¬ interval_Mul.P a b c d 1 < interval_Mul.L a b c d 1 by omega), if_neg (show ¬ interval_Mul.H a b c d 1 < interval_Mul.P a b c d 1 by omega)]; (with_reducible repeat (first | refine blk_drewN ?_ _ | refine blk_drew ?_ | refine blk_alloc ?_ _)); exact KR.out)
            · repeat (first | exact KO.out | (with_reducible refine blk_drewN ?_ _) | (with_reducible refine blk_drew ?_) | (with_reducible refine blk_alloc ?_ _) | refine blk_far ?_ (by first | (simp; done) | (simp; omega)) _)
            · repeat (first | exact KB.out | apply below_alloc | apply pw_below_drewN | apply below_drew | refine below_set ?_ (by first | omega | (simp; done) | (simp; omega)))
          case measure => simp [intOf]
      | 2, _ =>
        obtain rfl : z = 2 := hz
        have ix : ∀ w : World, (Instr.index 93 (.agg #[.int .i64 a, .int .i64 c, .int .i64 a, .int .i64 d, .int .i64 b, .int .i64 c, .int .i64 b, .int .i64 d]) (.int .i64 2)).run Tryd.prog w = .ok (.agg #[.int .i64 b, .int .i64 c]) w := fun _ => by kernel_rfl
        go_wp2_with fail
        refine (interval_times.calls b c _ true _ T2).mono ?_
        rintro e w' ⟨rfl, ⟨nd, rfl⟩⟩
        go_wp2
        all_goals
          have eL : interval_Mul.L a b c d 3 = (if interval_Mul.P a b c d 2 < interval_Mul.L a b c d 2 then interval_Mul.P a b c d 2 else interval_Mul.L a b c d 2) := rfl
          have eH : interval_Mul.H a b c d 3 = (if interval_Mul.H a b c d 2 < interval_Mul.P a b c d 2 then interval_Mul.P a b c d 2 else interval_Mul.H a b c d 2) := rfl
          go_roundw
          case rel =>
            refine ⟨3, 3, by omega, rfl, by first | rfl | go_num, ⟨?_⟩, ⟨?_⟩, ⟨?_⟩⟩
            · first
              | (rw [eL, eH, if_pos (show interval_Mul.P a b c d 2 < interval_Mul.L a b c d 2 by omega), if_pos (show interval_Mul.H a b c d 2 < interval_Mul.P a b c d 2 by omega)]; (with_reducible repeat (first | refine blk_drewN ?_ _ | refine blk_drew ?_ | refine blk_alloc ?_ _)); refine blk_put (cs := #[.int .i64 (interval_Mul.P a b c d 2), .int .i64 (interval_Mul.H a b c d 2)]) ?_ 1 _ rfl; (with_reducible repeat (first | refine blk_drewN ?_ _ | refine blk_drew ?_ | refine blk_alloc ?_ _)); refine blk_put (cs := #[.int .i64 (interval_Mul.L a b c d 2), .int .i64 (interval_Mul.H a b c d 2)]) ?_ 0 _ rfl; (with_reducible repeat (first | refine blk_drewN ?_ _ | refine blk_drew ?_ | refine blk_alloc ?_ _)); exact KR.out)
              | (rw [eL, eH, if_pos (show interval_Mul.P a b c d 2 < interval_Mul.L a b c d 2 by omega), if_neg (show ¬ interval_Mul.H a b c d 2 < interval_Mul.P a b c d 2 by omega)]; (with_reducible repeat (first | refine blk_drewN ?_ _ | refine blk_drew ?_ | refine blk_alloc ?_ _)); refine blk_put (cs := #[.int .i64 (interval_Mul.L a b c d 2), .int .i64 (interval_Mul.H a b c d 2)]) ?_ 0 _ rfl; (with_reducible repeat (first | refine blk_drewN ?_ _ | refine blk_drew ?_ | refine blk_alloc ?_ _)); exact KR.out)
              | (rw [eL, eH, if_neg (show ¬ interval_Mul.P a b c d 2 < interval_Mul.L a b c d 2 by omega), if_pos (show interval_Mul.H a b c d 2 < interval_Mul.P a b c d 2 by omega)]; (with_reducible repeat (first | refine blk_drewN ?_ _ | refine blk_drew ?_ | refine blk_alloc ?_ _)); refine blk_put (cs := #[.int .i64 (interval_Mul.L a b c d 2), .int .i64 (interval_Mul.H a b c d 2)]) ?_ 1 _ rfl; (with_reducible repeat (first | refine blk_drewN ?_ _ | refine blk_drew ?_ | refine blk_alloc ?_ _)); exact KR.out)
              | (rw [eL, eH, if_neg (show ¬ interval_Mul.P a b c d 2 < interval_Mul.L a b c d 2 by omega), if_neg (show ¬ interval_Mul.H a b c d 2 < interval_Mul.P a b c d 2 by omega)]; (with_reducible repeat (first | refine blk_drewN ?_ _ | refine blk_drew ?_ | refine blk_alloc ?_ _)); exact KR.out)
            · repeat (first | exact KO.out | (with_reducible refine blk_drewN ?_ _) | (with_reducible refine blk_drew ?_) | (with_reducible refine blk_alloc ?_ _) | refine blk_far ?_ (by first | (simp; done) | (simp; omega)) _)
            · repeat (first | exact KB.out | apply below_alloc | apply pw_below_drewN | apply below_drew | refine below_set ?_ (by first | omega | (simp; done) | (simp; omega)))
          case measure => simp [intOf]
      | 3, _ =>
        obtain rfl : z = 3 := hz
        have ix : ∀ w : World, (Instr.index 93 (.agg #[.int .i64 a, .int .i64 c, .int .i64 a, .int .i64 d, .int .i64 b, .int .i64 c, .int .i64 b, .int .i64 d]) (.int .i64 3)).run Tryd.prog w = .ok (.agg #[.int .i64 b, .int .i64 d]) w := fun _ => by kernel_rfl
        go_wp2_with fail
        refine (interval_times.calls b d _ true _ T3).mono ?_
        rintro e w' ⟨rfl, ⟨nd, rfl⟩⟩
        go_wp2
        all_goals
          have eL : interval_Mul.L a b c d 4 = (if interval_Mul.P a b c d 3 < interval_Mul.L a b c d 3 then interval_Mul.P a b c d 3 else interval_Mul.L a b c d 3) := rfl
          have eH : interval_Mul.H a b c d 4 = (if interval_Mul.H a b c d 3 < interval_Mul.P a b c d 3 then interval_Mul.P a b c d 3 else interval_Mul.H a b c d 3) := rfl
          go_roundw
          case rel =>
            refine ⟨4, 4, by omega, rfl, by first | rfl | go_num, ⟨?_⟩, ⟨?_⟩, ⟨?_⟩⟩
            · first
              | (rw [eL, eH, if_pos (show interval_Mul.P a b c d 3 < interval_Mul.L a b c d 3 by omega), if_pos (show interval_Mul.H a b c d 3 < interval_Mul.P a b c d 3 by omega)]; (with_reducible repeat (first | refine blk_drewN ?_ _ | refine blk_drew ?_ | refine blk_alloc ?_ _)); refine blk_put (cs := #[.int .i64 (interval_Mul.P a b c d 3), .int .i64 (interval_Mul.H a b c d 3)]) ?_ 1 _ rfl; (with_reducible repeat (first | refine blk_drewN ?_ _ | refine blk_drew ?_ | refine blk_alloc ?_ _)); refine blk_put (cs := #[.int .i64 (interval_Mul.L a b c d 3), .int .i64 (interval_Mul.H a b c d 3)]) ?_ 0 _ rfl; (with_reducible repeat (first | refine blk_drewN ?_ _ | refine blk_drew ?_ | refine blk_alloc ?_ _)); exact KR.out)
              | (rw [eL, eH, if_pos (show interval_Mul.P a b c d 3 < interval_Mul.L a b c d 3 by omega), if_neg (show ¬ interval_Mul.H a b c d 3 < interval_Mul.P a b c d 3 by omega)]; (with_reducible repeat (first | refine blk_drewN ?_ _ | refine blk_drew ?_ | refine blk_alloc ?_ _)); refine blk_put (cs := #[.int .i64 (interval_Mul.L a b c d 3), .int .i64 (interval_Mul.H a b c d 3)]) ?_ 0 _ rfl; (with_reducible repeat (first | refine blk_drewN ?_ _ | refine blk_drew ?_ | refine blk_alloc ?_ _)); exact KR.out)
              | (rw [eL, eH, if_neg (show ¬ interval_Mul.P a b c d 3 < interval_Mul.L a b c d 3 by omega), if_pos (show interval_Mul.H a b c d 3 < interval_Mul.P a b c d 3 by omega)]; (with_reducible repeat (first | refine blk_drewN ?_ _ | refine blk_drew ?_ | refine blk_alloc ?_ _)); refine blk_put (cs := #[.int .i64 (interval_Mul.L a b c d 3), .int .i64 (interval_Mul.H a b c d 3)]) ?_ 1 _ rfl; (with_reducible repeat (first | refine blk_drewN ?_ _ | refine blk_drew ?_ | refine blk_alloc ?_ _)); exact KR.out)
              | (rw [eL, eH, if_neg (show ¬ interval_Mul.P a b c d 3 < interval_Mul.L a b c d 3 by omega), if_neg (show ¬ interval_Mul.H a b c d 3 < interval_Mul.P a b c d 3 by omega)]; (with_reducible repeat (first | refine blk_drewN ?_ _ | refine blk_drew ?_ | refine blk_alloc ?_ _)); exact KR.out)
            · repeat (first | exact KO.out | (with_reducible refine blk_drewN ?_ _) | (with_reducible refine blk_drew ?_) | (with_reducible refine blk_alloc ?_ _) | refine blk_far ?_ (by first | (simp; done) | (simp; omega)) _)
            · repeat (first | exact KB.out | apply below_alloc | apply pw_below_drewN | apply below_drew | refine below_set ?_ (by first | omega | (simp; done) | (simp; omega)))
          case measure => simp [intOf]
      | 4, _ =>
        obtain rfl : z = 4 := hz
        have ho0 : wr.cell? ⟨w.heap.size + 1 + 1, 0, none⟩ = some (.int .i64 0) := (blk_cell KO.out 0).trans rfl
        have ho1 : wr.cell? ⟨w.heap.size + 1 + 1, 1, none⟩ = some (.int .i64 0) := (blk_cell KO.out 1).trans rfl
        have hof0 := blk_frozen KO.out 0
        have hof1 := blk_frozen KO.out 1
        go_wp2
        refine bodyPost_ret (results_ct rfl _ _ (w.heap.size + 1 + 1) 28 #[.int .i64 (interval_Mul.L a b c d 4), .int .i64 (interval_Mul.H a b c d 4)] (0, 0) _ rfl (by
          (with_reducible repeat (first | refine blk_drewN ?_ _ | refine blk_drew ?_ | refine blk_alloc ?_ _)); refine blk_put (cs := #[.int .i64 (interval_Mul.L a b c d 4), .int .i64 (0)]) ?_ 1 _ rfl; (with_reducible repeat (first | refine blk_drewN ?_ _ | refine blk_drew ?_ | refine blk_alloc ?_ _)); refine blk_put (cs := #[.int .i64 0, .int .i64 0]) ?_ 0 _ rfl; (with_reducible repeat (first | refine blk_drewN ?_ _ | refine blk_drew ?_ | refine blk_alloc ?_ _)); exact KO.out) Tryd.underlying28 rfl (by kernel_rfl)) rfl ⟨rfl, ?_⟩
        repeat (first | exact KB.out | apply below_alloc | apply pw_below_drewN | apply below_drew | refine below_set ?_ (by first | omega | (simp; done) | (simp; omega)))
  · rw [if_neg hp] at h; cases h

end Go.Proofs.YtgmjgnojjbajdaaDoor.JR
