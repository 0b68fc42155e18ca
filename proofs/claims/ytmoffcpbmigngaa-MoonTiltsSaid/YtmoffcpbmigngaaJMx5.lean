-- Made by a program of this session (wip/hp.py, over the kit's print) out of the translation. Not trusted: Lean checks it.
import Derived.Test.YtmoffcpbmigngaaJMx0
import Derived.Test.YtmoffcpbmigngaaJMx1
import Derived.Test.YtmoffcpbmigngaaJMx4
namespace Go.Proofs.Ytmoffcpbmigngaa.JM
open Go.RowKit Go.Proofs.YtmoffcpbmigngaaW.PrintWords Go.Proofs.YtmoffcpbmigngaaW.PrintLast Go.Proofs.YtmoffcpbmigngaaW.PrintMore
attribute [local go_sem] max2_int min2_int max_two min_two max_three min_three max_four min_four   -- for this text's walks alone
set_option linter.unusedVariables false
set_option linter.unusedSimpArgs false

/-! ### trig_octant: function 92 -/
set_option maxHeartbeats 8000000 in
set_option maxRecDepth 100000 in
theorem trig_octant.calls (k : Nat) (a0 : Int) (r1 : Int) (r2 : Int) (w : World) (h : trig_octant.f k a0 = some (r1, r2)) :
  Calls Try.prog 92 #[.int .i64 a0] w fun e w' => e = .returned (.tuple #[.int .i64 r1, .int .i64 r2]) ∧ Below w.heap.size w w' := by
 have HB := Aside0.mk (Below.refl w.heap.size w)
 have H : ((trig_mul.f (wrap64 ((wrap64 (a0 * 7244019458)) + (wrap64 (Int.tdiv (wrap64 (a0 * 77122842)) 1000000000)))) (wrap64 ((wrap64 (a0 * 7244019458)) + (wrap64 (Int.tdiv (wrap64 (a0 * 77122842)) 1000000000))))).bind fun t113 => (trig_octant.l0 k t113 (wrap64 ((wrap64 (a0 * 7244019458)) + (wrap64 (Int.tdiv (wrap64 (a0 * 77122842)) 1000000000)))) 1152921504606846976 (wrap64 ((wrap64 (a0 * 7244019458)) + (wrap64 (Int.tdiv (wrap64 (a0 * 77122842)) 1000000000)))) 1152921504606846976 1)) = some (r1, r2) := h
 clear h
 replace H := Option.bind_eq_some_iff.mp H
 obtain ⟨t113, A20, H⟩ := H
 replace H : (trig_octant.l0 k t113 (wrap64 ((wrap64 (a0 * 7244019458)) + (wrap64 (Int.tdiv (wrap64 (a0 * 77122842)) 1000000000)))) 1152921504606846976 (wrap64 ((wrap64 (a0 * 7244019458)) + (wrap64 (Int.tdiv (wrap64 (a0 * 77122842)) 1000000000)))) 1152921504606846976 1) = some (r1, r2) := H
 have A2 := Aside0.mk A20
 clear A20
 have H' := Aside0.mk H
 clear H
 go_enter Try.func92, Try.ntmps92
 go_wp2_with (first | ((with_reducible refine gate_callee (f := 107) rfl ?_); refine goesL_ (some 19) rfl rfl Try.func107 (by kernel_rfl) rfl #[.int .i64 (wrap64 ((wrap64 (a0 * 7244019458)) + (wrap64 (Int.tdiv (wrap64 (a0 * 77122842)) 1000000000)))), .int .i64 (wrap64 ((wrap64 (a0 * 7244019458)) + (wrap64 (Int.tdiv (wrap64 (a0 * 77122842)) 1000000000))))] rfl (by (try simp only [List.map_toArray, List.map_cons, List.map_nil]); first | done | rfl | (simp only [List.length_drop, List.length_take]; rfl) | (rw [wrap_in_ (n := a0 * 7244019458) (by omega) (by omega)]; rw [wrap_in_ (n := a0 * 77122842) (by omega) (by omega)]; rfl)) ?_; (with_reducible refine (trig_mul.calls (wrap64 ((wrap64 (a0 * 7244019458)) + (wrap64 (Int.tdiv (wrap64 (a0 * 77122842)) 1000000000)))) (wrap64 ((wrap64 (a0 * 7244019458)) + (wrap64 (Int.tdiv (wrap64 (a0 * 77122842)) 1000000000)))) t113 _ A2.out).mono ?_); rintro e w' ⟨rfl, ⟨nd, rfl⟩⟩; refine ⟨_, rfl, ?_⟩))
 go_loopg [6, 7, 8, 9, 10] k (fun kq v6 v7 v8 v9 v10 w' => ∃ (x6_1 : Int) (x7_1 : Int) (x8_1 : Int) (x9_1 : Int) (x10_1 : Int), v6 = .int .i64 x6_1 ∧ v7 = .int .i64 x7_1 ∧ v8 = .int .i64 x8_1 ∧ v9 = .int .i64 x9_1 ∧ v10 = .int .i64 x10_1 ∧ Aside0 (trig_octant.l0 kq t113 x6_1 x7_1 x8_1 x9_1 x10_1 = some (r1, r2)) ∧ Aside0 (kq ≤ k) ∧ Aside0 (Below w.heap.size w w'))
 case atStart => exact ⟨(wrap64 ((wrap64 (a0 * 7244019458)) + (wrap64 (Int.tdiv (wrap64 (a0 * 77122842)) 1000000000)))), (1152921504606846976), (wrap64 ((wrap64 (a0 * 7244019458)) + (wrap64 (Int.tdiv (wrap64 (a0 * 77122842)) 1000000000)))), (1152921504606846976), (1), (by first | rfl | (simp; done) | (simp [*]; done)), (by first | rfl | (simp; done) | (simp [*]; done)), (by first | rfl | (simp; done) | (simp [*]; done)), (by first | rfl | (simp; done) | (simp [*]; done)), (by first | rfl | (simp; done) | (simp [*]; done)), H', ⟨Nat.le_refl _⟩, ⟨by repeat (first | (with_reducible first | exact HB.out | apply below_alloc | apply pw_below_drewN | apply below_drew1) | exact HB.out)⟩⟩
 case round =>
  clear H'
  try clear c1
  try clear p2
  obtain ⟨x6_1, x7_1, x8_1, x9_1, x10_1, rfl, rfl, rfl, rfl, rfl, HA, HK1, HB⟩ := hrel
  cases gk with
  | zero => exact absurd HA.out (by simp [trig_octant.l0])
  | succ k1 =>
   have H := HA.out
   clear HA
   simp only [trig_octant.l0] at H
   by_cases c3 : x10_1 ≤ 9
   ·
    rw [if_pos c3] at H
    have c3b0 : decide (x10_1 ≤ 9) = true := decide_eq_true c3
    clear c3
    replace H := Option.bind_eq_some_iff.mp H
    obtain ⟨t114, A40, H⟩ := H
    replace H : (if (wrap64 ((wrap64 ((wrap64 ((wrap64 (2 * x10_1)) - 1)) * 2)) * x10_1)) = 0 then (none) else ((trig_mul.f x8_1 t113).bind fun t115 => (if (wrap64 ((wrap64 (2 * x10_1)) * (wrap64 ((wrap64 (2 * x10_1)) + 1)))) = 0 then (none) else (if (Int.tmod x10_1 2) = 1 then (trig_octant.l0 k1 t113 (wrap64 (x6_1 - (wrap64 (Int.tdiv t115 (wrap64 ((wrap64 (2 * x10_1)) * (wrap64 ((wrap64 (2 * x10_1)) + 1)))))))) (wrap64 (x7_1 - (wrap64 (Int.tdiv t114 (wrap64 ((wrap64 ((wrap64 ((wrap64 (2 * x10_1)) - 1)) * 2)) * x10_1)))))) (wrap64 (Int.tdiv t115 (wrap64 ((wrap64 (2 * x10_1)) * (wrap64 ((wrap64 (2 * x10_1)) + 1)))))) (wrap64 (Int.tdiv t114 (wrap64 ((wrap64 ((wrap64 ((wrap64 (2 * x10_1)) - 1)) * 2)) * x10_1)))) (wrap64 (x10_1 + 1))) else (trig_octant.l0 k1 t113 (wrap64 (x6_1 + (wrap64 (Int.tdiv t115 (wrap64 ((wrap64 (2 * x10_1)) * (wrap64 ((wrap64 (2 * x10_1)) + 1)))))))) (wrap64 (x7_1 + (wrap64 (Int.tdiv t114 (wrap64 ((wrap64 ((wrap64 ((wrap64 (2 * x10_1)) - 1)) * 2)) * x10_1)))))) (wrap64 (Int.tdiv t115 (wrap64 ((wrap64 (2 * x10_1)) * (wrap64 ((wrap64 (2 * x10_1)) + 1)))))) (wrap64 (Int.tdiv t114 (wrap64 ((wrap64 ((wrap64 ((wrap64 (2 * x10_1)) - 1)) * 2)) * x10_1)))) (wrap64 (x10_1 + 1))))))) = some (r1, r2) := H
    have A4 := Aside0.mk A40
    clear A40
    by_cases c5 : (wrap64 ((wrap64 ((wrap64 ((wrap64 (2 * x10_1)) - 1)) * 2)) * x10_1)) = 0
    ·
     rw [if_pos c5] at H
     exact absurd H (by simp)
    ·
     rw [if_neg c5] at H
     have c5b0 : ((wrap64 ((wrap64 ((wrap64 ((wrap64 (2 * x10_1)) - 1)) * 2)) * x10_1)) == 0) = false := beq_eq_false_iff_ne.mpr c5
     have c5b1 : ((wrap64 ((wrap64 ((wrap64 ((wrap64 (2 * x10_1)) - 1)) * 2)) * x10_1)) != 0) = true := bne_iff_ne.mpr c5
     replace H := Option.bind_eq_some_iff.mp H
     obtain ⟨t115, A60, H⟩ := H
     replace H : (if (wrap64 ((wrap64 (2 * x10_1)) * (wrap64 ((wrap64 (2 * x10_1)) + 1)))) = 0 then (none) else (if (Int.tmod x10_1 2) = 1 then (trig_octant.l0 k1 t113 (wrap64 (x6_1 - (wrap64 (Int.tdiv t115 (wrap64 ((wrap64 (2 * x10_1)) * (wrap64 ((wrap64 (2 * x10_1)) + 1)))))))) (wrap64 (x7_1 - (wrap64 (Int.tdiv t114 (wrap64 ((wrap64 ((wrap64 ((wrap64 (2 * x10_1)) - 1)) * 2)) * x10_1)))))) (wrap64 (Int.tdiv t115 (wrap64 ((wrap64 (2 * x10_1)) * (wrap64 ((wrap64 (2 * x10_1)) + 1)))))) (wrap64 (Int.tdiv t114 (wrap64 ((wrap64 ((wrap64 ((wrap64 (2 * x10_1)) - 1)) * 2)) * x10_1)))) (wrap64 (x10_1 + 1))) else (trig_octant.l0 k1 t113 (wrap64 (x6_1 + (wrap64 (Int.tdiv t115 (wrap64 ((wrap64 (2 * x10_1)) * (wrap64 ((wrap64 (2 * x10_1)) + 1)))))))) (wrap64 (x7_1 + (wrap64 (Int.tdiv t114 (wrap64 ((wrap64 ((wrap64 ((wrap64 (2 * x10_1)) - 1)) * 2)) * x10_1)))))) (wrap64 (Int.tdiv t115 (wrap64 ((wrap64 (2 * x10_1)) * (wrap64 ((wrap64 (2 * x10_1)) + 1)))))) (wrap64 (Int.tdiv t114 (wrap64 ((wrap64 ((wrap64 ((wrap64 (2 * x10_1)) - 1)) * 2)) * x10_1)))) (wrap64 (x10_1 + 1))))) = some (r1, r2) := H
     have A6 := Aside0.mk A60
     clear A60
     by_cases c7 : (wrap64 ((wrap64 (2 * x10_1)) * (wrap64 ((wrap64 (2 * x10_1)) + 1)))) = 0
     ·
      rw [if_pos c7] at H
      exact absurd H (by simp)
     ·
      rw [if_neg c7] at H
      have c7b0 : ((wrap64 ((wrap64 (2 * x10_1)) * (wrap64 ((wrap64 (2 * x10_1)) + 1)))) == 0) = false := beq_eq_false_iff_ne.mpr c7
      have c7b1 : ((wrap64 ((wrap64 (2 * x10_1)) * (wrap64 ((wrap64 (2 * x10_1)) + 1)))) != 0) = true := bne_iff_ne.mpr c7
      by_cases c8 : (Int.tmod x10_1 2) = 1
      ·
       rw [if_pos c8] at H
       have c8b0 : ((Int.tmod x10_1 2) == 1) = true := beq_iff_eq.mpr c8
       have c8b1 : ((Int.tmod x10_1 2) != 1) = false := bne_eq_false_iff_eq.mpr c8
       clear c8
       have H' := Aside0.mk H
       clear H
       go_wp2_with (first | ((with_reducible refine gate_callee (f := 107) rfl ?_); refine goesL_ (some 28) rfl rfl Try.func107 (by kernel_rfl) rfl #[.int .i64 x9_1, .int .i64 t113] rfl (by (try simp only [List.map_toArray, List.map_cons, List.map_nil]); first | done | rfl | (simp only [List.length_drop, List.length_take]; rfl)) ?_; (with_reducible refine (trig_mul.calls x9_1 t113 t114 _ A4.out).mono ?_); rintro e w' ⟨rfl, ⟨nd, rfl⟩⟩; refine ⟨_, rfl, ?_⟩) | ((with_reducible refine gate_callee (f := 107) rfl ?_); refine goesL_ (some 38) rfl rfl Try.func107 (by kernel_rfl) rfl #[.int .i64 x8_1, .int .i64 t113] rfl (by (try simp only [List.map_toArray, List.map_cons, List.map_nil]); first | done | rfl | (simp only [List.length_drop, List.length_take]; rfl)) ?_; (with_reducible refine (trig_mul.calls x8_1 t113 t115 _ A6.out).mono ?_); rintro e w' ⟨rfl, ⟨nd, rfl⟩⟩; refine ⟨_, rfl, ?_⟩))
       go_roundg k1
       case measure => have := HK1.out; omega
       case rel => exact ⟨(wrap64 (x6_1 - (wrap64 (Int.tdiv t115 (wrap64 ((wrap64 (2 * x10_1)) * (wrap64 ((wrap64 (2 * x10_1)) + 1)))))))), (wrap64 (x7_1 - (wrap64 (Int.tdiv t114 (wrap64 ((wrap64 ((wrap64 ((wrap64 (2 * x10_1)) - 1)) * 2)) * x10_1)))))), (wrap64 (Int.tdiv t115 (wrap64 ((wrap64 (2 * x10_1)) * (wrap64 ((wrap64 (2 * x10_1)) + 1)))))), (wrap64 (Int.tdiv t114 (wrap64 ((wrap64 ((wrap64 ((wrap64 (2 * x10_1)) - 1)) * 2)) * x10_1)))), (wrap64 (x10_1 + 1)), (by first | rfl | (simp; done) | (simp [*]; done)), (by first | rfl | (simp; done) | (simp [*]; done)), (by first | rfl | (simp; done) | (simp [*]; done)), (by first | rfl | (simp; done) | (simp [*]; done)), (by first | rfl | (simp; done) | (simp [*]; done)), H', ⟨by have := HK1.out; omega⟩, ⟨by repeat (first | (with_reducible first | exact HB.out | apply below_alloc | apply pw_below_drewN | apply below_drew1) | exact HB.out)⟩⟩
      ·
       rw [if_neg c8] at H
       have c8b0 : ((Int.tmod x10_1 2) == 1) = false := beq_eq_false_iff_ne.mpr c8
       have c8b1 : ((Int.tmod x10_1 2) != 1) = true := bne_iff_ne.mpr c8
       have H' := Aside0.mk H
       clear H
       go_wp2_with (first | ((with_reducible refine gate_callee (f := 107) rfl ?_); refine goesL_ (some 28) rfl rfl Try.func107 (by kernel_rfl) rfl #[.int .i64 x9_1, .int .i64 t113] rfl (by (try simp only [List.map_toArray, List.map_cons, List.map_nil]); first | done | rfl | (simp only [List.length_drop, List.length_take]; rfl)) ?_; (with_reducible refine (trig_mul.calls x9_1 t113 t114 _ A4.out).mono ?_); rintro e w' ⟨rfl, ⟨nd, rfl⟩⟩; refine ⟨_, rfl, ?_⟩) | ((with_reducible refine gate_callee (f := 107) rfl ?_); refine goesL_ (some 38) rfl rfl Try.func107 (by kernel_rfl) rfl #[.int .i64 x8_1, .int .i64 t113] rfl (by (try simp only [List.map_toArray, List.map_cons, List.map_nil]); first | done | rfl | (simp only [List.length_drop, List.length_take]; rfl)) ?_; (with_reducible refine (trig_mul.calls x8_1 t113 t115 _ A6.out).mono ?_); rintro e w' ⟨rfl, ⟨nd, rfl⟩⟩; refine ⟨_, rfl, ?_⟩))
       go_roundg k1
       case measure => have := HK1.out; omega
       case rel => exact ⟨(wrap64 (x6_1 + (wrap64 (Int.tdiv t115 (wrap64 ((wrap64 (2 * x10_1)) * (wrap64 ((wrap64 (2 * x10_1)) + 1)))))))), (wrap64 (x7_1 + (wrap64 (Int.tdiv t114 (wrap64 ((wrap64 ((wrap64 ((wrap64 (2 * x10_1)) - 1)) * 2)) * x10_1)))))), (wrap64 (Int.tdiv t115 (wrap64 ((wrap64 (2 * x10_1)) * (wrap64 ((wrap64 (2 * x10_1)) + 1)))))), (wrap64 (Int.tdiv t114 (wrap64 ((wrap64 ((wrap64 ((wrap64 (2 * x10_1)) - 1)) * 2)) * x10_1)))), (wrap64 (x10_1 + 1)), (by first | rfl | (simp; done) | (simp [*]; done)), (by first | rfl | (simp; done) | (simp [*]; done)), (by first | rfl | (simp; done) | (simp [*]; done)), (by first | rfl | (simp; done) | (simp [*]; done)), (by first | rfl | (simp; done) | (simp [*]; done)), H', ⟨by have := HK1.out; omega⟩, ⟨by repeat (first | (with_reducible first | exact HB.out | apply below_alloc | apply pw_below_drewN | apply below_drew1) | exact HB.out)⟩⟩
   ·
    rw [if_neg c3] at H
    have c3b0 : decide (x10_1 ≤ 9) = false := decide_eq_false c3
    clear c3
    obtain ⟨ji9, hji9⟩ : ∃ j_ : Int, (mx 0 x6_1) = j_ := ⟨_, rfl⟩
    replace H : (some (ji9, mn 1152921504606846976 x7_1)) = some (r1, r2) := by first | (rw [hji9] at H; exact H) | (simp only [hji9] at H ⊢; exact H)
    have hji9_ : (if 0 < x6_1 then x6_1 else 0) = ji9 := hji9
    obtain ⟨ji10, hji10⟩ : ∃ j_ : Int, (mn 1152921504606846976 x7_1) = j_ := ⟨_, rfl⟩
    replace H : (some (ji9, ji10)) = some (r1, r2) := by first | (rw [hji10] at H; exact H) | (simp only [hji10] at H ⊢; exact H)
    have hji10_ : (if x7_1 < 1152921504606846976 then x7_1 else 1152921504606846976) = ji10 := hji10
    simp only [Option.some.injEq, Prod.mk.injEq] at H
    obtain ⟨rfl, rfl⟩ := H
    go_wp2
    go_ret2
    exact ⟨by first | rfl | (simp [errW_none, errW_some] <;> rfl) | (simp only [← hji9, ← hji10]; first | rfl | (simp [errW_none, errW_some] <;> rfl)) | (simp [*, errW_none, errW_some] <;> rfl), by repeat (first | (with_reducible first | exact HB.out | apply below_alloc | apply pw_below_drewN | apply below_drew1) | exact HB.out)⟩

/-! ### trig_rounded: function 93 -/
set_option maxHeartbeats 8000000 in
set_option maxRecDepth 100000 in
theorem trig_rounded.calls (a0 : Int) (r1 : Int) (r2 : Int) (w : World) (h : trig_rounded.f a0 = some (r1, r2)) :
  Calls Try.prog 93 #[.int .i64 a0] w fun e w' => e = .returned (.agg #[.int .i64 r1, .int .i64 r2]) ∧ Below w.heap.size w w' := by
 have hu23 := Try.underlying23
 have HB := Aside0.mk (Below.refl w.heap.size w)
 have H : (some (mx (-1000000000) (wrap64 (((wrap64 ((wrap64 ((a0 / 1073741824) * 1000000000)) + ((wrap64 ((Go.bits .and .i64 a0 1073741823) * 1000000000)) / 1073741824))) / 1073741824) - 1)), mn 1000000000 (wrap64 (((wrap64 ((wrap64 ((a0 / 1073741824) * 1000000000)) + ((wrap64 ((Go.bits .and .i64 a0 1073741823) * 1000000000)) / 1073741824))) / 1073741824) + 2)))) = some (r1, r2) := h
 clear h
 obtain ⟨ji2, hji2⟩ : ∃ j_ : Int, (mx (-1000000000) (wrap64 (((wrap64 ((wrap64 ((a0 / 1073741824) * 1000000000)) + ((wrap64 ((Go.bits .and .i64 a0 1073741823) * 1000000000)) / 1073741824))) / 1073741824) - 1))) = j_ := ⟨_, rfl⟩
 replace H : (some (ji2, mn 1000000000 (wrap64 (((wrap64 ((wrap64 ((a0 / 1073741824) * 1000000000)) + ((wrap64 ((Go.bits .and .i64 a0 1073741823) * 1000000000)) / 1073741824))) / 1073741824) + 2)))) = some (r1, r2) := by first | (rw [hji2] at H; exact H) | (simp only [hji2] at H ⊢; exact H)
 have hji2_ : (if (-1000000000) < (wrap64 (((wrap64 ((wrap64 ((a0 / 1073741824) * 1000000000)) + ((wrap64 ((Go.bits .and .i64 a0 1073741823) * 1000000000)) / 1073741824))) / 1073741824) - 1)) then (wrap64 (((wrap64 ((wrap64 ((a0 / 1073741824) * 1000000000)) + ((wrap64 ((Go.bits .and .i64 a0 1073741823) * 1000000000)) / 1073741824))) / 1073741824) - 1)) else (-1000000000)) = ji2 := hji2
 obtain ⟨ji3, hji3⟩ : ∃ j_ : Int, (mn 1000000000 (wrap64 (((wrap64 ((wrap64 ((a0 / 1073741824) * 1000000000)) + ((wrap64 ((Go.bits .and .i64 a0 1073741823) * 1000000000)) / 1073741824))) / 1073741824) + 2))) = j_ := ⟨_, rfl⟩
 replace H : (some (ji2, ji3)) = some (r1, r2) := by first | (rw [hji3] at H; exact H) | (simp only [hji3] at H ⊢; exact H)
 (try (have hji3h : ji3 ≤ 1000000000 := by (rw [← hji3]; unfold mn; (repeat' split) <;> omega)))
 (try (have hji3g : ji3 ≤ 64 := by omega))
 have hji3_ : (if (wrap64 (((wrap64 ((wrap64 ((a0 / 1073741824) * 1000000000)) + ((wrap64 ((Go.bits .and .i64 a0 1073741823) * 1000000000)) / 1073741824))) / 1073741824) + 2)) < 1000000000 then (wrap64 (((wrap64 ((wrap64 ((a0 / 1073741824) * 1000000000)) + ((wrap64 ((Go.bits .and .i64 a0 1073741823) * 1000000000)) / 1073741824))) / 1073741824) + 2)) else 1000000000) = ji3 := hji3
 simp only [Option.some.injEq, Prod.mk.injEq] at H
 obtain ⟨rfl, rfl⟩ := H
 go_enter Try.func93, Try.ntmps93
 go_wp2_with (first | ((with_reducible refine gate_dst (N := 2) rfl ?_); refine box_event ?hg (N := 2) ?hd (cs := #[.int .i64 0, .int .i64 0]) (t := 23) ?hr ?_; (case hd => rfl); (case hg => rfl); (case hr => first | (go_simp; done) | (go_simp; rfl)); intro gb116 hg w4 hbox hb; have BK116 := Aside0.mk hbox; have GE116 := ge_ (hb_ HB.out) hg; replace HB := hx_ HB hb; clear hb hbox hg; have hcz5_0 : w4.cell? ⟨gb116, 0, none⟩ = some (.int .i64 0) := (blk_cell BK116.out 0).trans rfl; have hcz5_1 : w4.cell? ⟨gb116, 1, none⟩ = some (.int .i64 0) := (blk_cell BK116.out 1).trans rfl; have hfz5_0 := blk_frozen BK116.out 0; have hfz5_1 := blk_frozen BK116.out 1))
 refine bodyPost_ret (results_cell_row rfl _ _ gb116 23 #[.int .i64 ji2, .int .i64 ji3] (0, 0) _ rfl (gr_ (blk_put (cs := #[.int .i64 ji2, .int .i64 0]) (gr_ (blk_put (cs := #[.int .i64 0, .int .i64 0]) (gr_ BK116.out) 0 _ rfl)) 1 _ rfl)) Try.underlying23 rfl (by kernel_rfl)) rfl ?_
 exact ⟨by first | rfl | (simp [errW_none, errW_some] <;> rfl) | (simp only [← hji2, ← hji3]; first | rfl | (simp [errW_none, errW_some] <;> rfl)) | (simp [*, errW_none, errW_some] <;> rfl), by repeat (first | (with_reducible first | exact HB.out | apply below_alloc | apply pw_below_drewN | apply below_drew1 | refine below_set ?_ GE116.out) | exact HB.out)⟩

/-! ### trig_minus: function 94 -/
set_option maxHeartbeats 8000000 in
set_option maxRecDepth 100000 in
theorem trig_minus.calls (a0_0 : Int) (a0_1 : Int) (r1 : Int) (r2 : Int) (w : World) (h : trig_minus.f a0_0 a0_1 = some (r1, r2)) :
  Calls Try.prog 94 #[.agg #[.int .i64 a0_0, .int .i64 a0_1]] w fun e w' => e = .returned (.agg #[.int .i64 r1, .int .i64 r2]) ∧ Below w.heap.size w w' := by
 have hu23 := Try.underlying23
 have HB := Aside0.mk (Below.refl w.heap.size w)
 have H : (some (wrap64 (-a0_1), wrap64 (-a0_0))) = some (r1, r2) := h
 clear h
 simp only [Option.some.injEq, Prod.mk.injEq] at H
 obtain ⟨rfl, rfl⟩ := H
 go_enter Try.func94, Try.ntmps94
 go_wp2_with (first | ((with_reducible refine gate_dst (N := 1) rfl ?_); refine box_event ?hg (N := 1) ?hd (cs := #[.int .i64 a0_0, .int .i64 a0_1]) (t := 23) ?hr ?_; (case hd => rfl); (case hg => rfl); (case hr => first | (go_simp; done) | (go_simp; rfl)); intro gb117 hg w2 hbox hb; have BK117 := Aside0.mk hbox; have GE117 := ge_ (hb_ HB.out) hg; replace HB := hx_ HB hb; clear hb hbox hg) | ((with_reducible refine gate_dst (N := 2) rfl ?_); refine box_event ?hg (N := 2) ?hd (cs := #[.int .i64 0, .int .i64 0]) (t := 23) ?hr ?_; (case hd => rfl); (case hg => rfl); (case hr => first | (go_simp; done) | (go_simp; rfl)); intro gb118 hg w3 hbox hb; have BK118 := Aside0.mk hbox; have GE118 := ge_ (hb_ HB.out) hg; have NB117_118 := nb_ (gr_ BK117.out) hg; replace BK117 := nx_ BK117 hb; replace HB := hx_ HB hb; clear hb hbox hg; have hnb4 := NB117_118.out; have hnc4 := NB117_118.out.symm; have hcz5_0 : w3.cell? ⟨gb117, 0, none⟩ = some (.int .i64 a0_0) := (blk_cell BK117.out 0).trans rfl; have hcz5_1 : w3.cell? ⟨gb117, 1, none⟩ = some (.int .i64 a0_1) := (blk_cell BK117.out 1).trans rfl; have hfz5_0 := blk_frozen BK117.out 0; have hfz5_1 := blk_frozen BK117.out 1; have hcz6_0 : w3.cell? ⟨gb118, 0, none⟩ = some (.int .i64 0) := (blk_cell BK118.out 0).trans rfl; have hcz6_1 : w3.cell? ⟨gb118, 1, none⟩ = some (.int .i64 0) := (blk_cell BK118.out 1).trans rfl; have hfz6_0 := blk_frozen BK118.out 0; have hfz6_1 := blk_frozen BK118.out 1))
 refine bodyPost_ret (results_cell_row rfl _ _ gb118 23 #[.int .i64 (wrap64 (-a0_1)), .int .i64 (wrap64 (-a0_0))] (0, 0) _ rfl (gr_ (blk_put (cs := #[.int .i64 (wrap64 (-a0_1)), .int .i64 0]) (gr_ (blk_put (cs := #[.int .i64 0, .int .i64 0]) (gr_ BK118.out) 0 _ rfl)) 1 _ rfl)) Try.underlying23 rfl (by kernel_rfl)) rfl ?_
 exact ⟨by first | rfl | (simp [errW_none, errW_some] <;> rfl) | (simp [*, errW_none, errW_some] <;> rfl), by repeat (first | (with_reducible first | exact HB.out | apply below_alloc | apply pw_below_drewN | apply below_drew1 | refine below_set ?_ GE117.out | refine below_set ?_ GE118.out) | exact HB.out)⟩

end Go.Proofs.Ytmoffcpbmigngaa.JM
