-- Made by a program of this session (wip/hp.py, over the kit's print) out of the translation. Not trusted: Lean checks it.
import Derived.Test.YtimehbdleognkaaJEx0
import Derived.Test.YtimehbdleognkaaJEx1
import Derived.Test.YtimehbdleognkaaJEx12
namespace Go.Proofs.Ytimehbdleognkaa.JE
open Go.RowKit Go.Proofs.YtimehbdleognkaaW.PrintWords Go.Proofs.YtimehbdleognkaaW.PrintLast Go.Proofs.YtimehbdleognkaaW.PrintMore
attribute [local go_sem] max2_int min2_int max_two min_two max_three min_three max_four min_four   -- for this text's walks alone
set_option linter.unusedVariables false
set_option linter.unusedSimpArgs false

/-! ### series_Narrow: function 16 -/
-- hand
-- body
set_option maxHeartbeats 8000000 in
set_option maxRecDepth 100000 in
theorem series_Narrow.calls (sg : Nat → Int → Option Int) (fv : FuncId) (fn : Func) (cap : Array Value) (hfv : Try.prog.funcs[fv]? = some fn) (hnm : (fn.name == "runtime.NumGoroutine") = false) (hbd : fn.body.isSome = true) (k : Nat) (a0 : Int) (a1 : Int) (a2 : Int) (a3 : Int) (r1 : Int) (r2 : Int) (r3 : Int) (w : World) (hS : ∀ (k : Nat) (x r : Int) (w' : World), Below w.heap.size w w' → sg k x = some r → Calls Try.prog fv (#[.int .i64 x] ++ cap) w' fun e w'' => e = .returned (.int .i64 r) ∧ Below w'.heap.size w' w'') (h : series_Narrow.f sg k a0 a1 a2 a3 = some (r1, r2, r3)) :
    Calls Try.prog 16 #[.int .i64 a0, .int .i64 a1, .int .i64 a2, .func (.func fv) #[] cap] w fun e w' => e = .returned (.tuple #[.agg #[.int .i64 r1, .int .i64 r2], .int .i64 r3]) ∧ Below w.heap.size w w' := by
  have hu34 := Try.underlying28
  have HB := Aside0.mk (Below.refl w.heap.size w)
  have H : (series_Narrow.l0 sg k a0 a1 a2 a3) = some (r1, r2, r3) := h
  clear h
  have H' := Aside0.mk H
  clear H
  go_enter Try.func16, Try.ntmps16
  go_wp2_with (first | ((with_reducible refine gate_dst (N := 8) rfl ?_); refine box_event ?hg (N := 8) ?hd (cs := #[.int .i64 0, .int .i64 0]) (t := 28) ?hr ?_; (case hd => rfl); (case hg => rfl); (case hr => first | (go_simp; done) | (go_simp; rfl)); intro gb239 hg w5 hbox hb; have n0_ := Aside0.mk (below_step (by repeat (first | (with_reducible first | exact HB.out | apply below_alloc | apply pw_below_drewN | apply below_drew1) | exact HB.out)) hb); have n1_ := Aside0.mk (hbox); have n2_ := Aside0.mk ((by rw [hg]; exact (below_size (by repeat (first | (with_reducible first | exact HB.out | apply below_alloc | apply pw_below_drewN | apply below_drew1) | exact HB.out))) : w.heap.size ≤ gb239)); have n3_ := Aside0.mk ((by rw [hg]; exact (below_size (by repeat (first | (with_reducible first | exact HB.out | apply below_alloc | apply pw_below_drewN | apply below_drew1) | exact HB.out))) : w.heap.size ≤ gb239)); clear HB; have HB := n0_; have BK239 := n1_; have GW239 := n2_; have GE239 := n3_; clear n0_ n1_ n2_ n3_; clear hb hbox hg))
  go_loopg [0, 1] k (fun kq v0 v1 w' => ∃ (x0_1 : Int) (x1_1 : Int), v0 = .int .i64 x0_1 ∧ v1 = .int .i64 x1_1 ∧ Aside0 (series_Narrow.l0 sg kq x0_1 x1_1 a2 a3 = some (r1, r2, r3)) ∧ Aside0 (kq ≤ k) ∧ Aside0 (w'.heap[gb239]? = some (.cells #[.int .i64 0, .int .i64 0] 28 (0, 0))) ∧ Aside0 (Below w.heap.size w w'))
  case atStart => exact ⟨(a0), (a1), (by first | rfl | (simp; done) | (simp [*]; done)), (by first | rfl | (simp; done) | (simp [*]; done)), H', ⟨Nat.le_refl _⟩, ⟨by (with_reducible repeat (first | refine blk_drewN ?_ _ | refine blk_drew ?_ | refine blk_alloc ?_ _)); exact BK239.out⟩, ⟨by repeat (first | (with_reducible first | exact HB.out | apply below_alloc | apply pw_below_drewN | apply below_drew1 | refine below_set ?_ GE239.out) | exact HB.out)⟩⟩
  case round =>
    clear H'
    try clear p2
    try clear c5
    obtain ⟨x0_1, x1_1, rfl, rfl, HA, HK1, BK239, HB⟩ := hrel
    cases gk with
    | zero => exact absurd HA.out (by simp [series_Narrow.l0])
    | succ k1 =>
      have H := HA.out
      clear HA
      simp only [series_Narrow.l0] at H
      by_cases c6 : (wrap64 (x1_1 - x0_1)) > a2
      · rw [if_pos c6] at H
        have c6b0 : decide (a2 < (wrap64 (x1_1 - x0_1))) = true := decide_eq_true c6
        clear c6
        replace H := Option.bind_eq_some_iff.mp H
        obtain ⟨t240, A70, H⟩ := H
        replace H : (if t240 < 0 then (series_Narrow.l0 sg k1 (wrap64 (x0_1 + (wrap64 (Int.tdiv (wrap64 (x1_1 - x0_1)) 2)))) x1_1 a2 a3) else (if t240 > 0 then (series_Narrow.l0 sg k1 x0_1 (wrap64 (x0_1 + (wrap64 (Int.tdiv (wrap64 (x1_1 - x0_1)) 2)))) a2 a3) else (series_Narrow.l1 sg k1 x0_1 x1_1 a2 a3 (wrap64 (x0_1 + (wrap64 (Int.tdiv (wrap64 (x1_1 - x0_1)) 2)))) (wrap64 (x0_1 + (wrap64 (Int.tdiv (wrap64 (x1_1 - x0_1)) 2))))))) = some (r1, r2, r3) := H
        have A7 := Aside0.mk A70
        clear A70
        by_cases c8 : t240 < 0
        · rw [if_pos c8] at H
          have c8b0 : decide (t240 < 0) = true := decide_eq_true c8
          clear c8
          have H' := Aside0.mk H
          clear H
          go_wp2_with (first | ((with_reducible refine gate_value rfl ?_); refine goesV_ (some 29) rfl rfl hfv hnm hbd rfl (by first | rfl | (simp; done)) #[.int .i64 (wrap64 (x0_1 + (wrap64 (Int.tdiv (wrap64 (x1_1 - x0_1)) 2))))] (by (try simp only [List.map_toArray, List.map_cons, List.map_nil]); first | done | rfl | (simp only [List.length_drop, List.length_take]; rfl) | (rw [wrap_in_ (n := x1_1 - x0_1) (by omega) (by omega)]; rfl)) ?_; (with_reducible refine (hS k1 (wrap64 (x0_1 + (wrap64 (Int.tdiv (wrap64 (x1_1 - x0_1)) 2)))) t240 _ (by repeat (first | (with_reducible first | exact HB.out | apply below_alloc | apply pw_below_drewN | apply below_drew1 | refine below_set ?_ GE239.out) | exact HB.out)) A7.out).mono ?_); rintro e w9 ⟨rfl, hb⟩; refine ⟨_, rfl, ?_⟩; have n0_ := Aside0.mk (blk_below (g := gb239) (o := .cells #[.int .i64 0, .int .i64 0] 28 (0, 0)) (by (with_reducible repeat (first | refine blk_drewN ?_ _ | refine blk_drew ?_ | refine blk_alloc ?_ _)); exact BK239.out) hb); have n1_ := Aside0.mk (below_step (by repeat (first | (with_reducible first | exact HB.out | apply below_alloc | apply pw_below_drewN | apply below_drew1 | refine below_set ?_ GE239.out) | exact HB.out)) hb); clear BK239; clear HB; have BK239 := n0_; have HB := n1_; clear n0_ n1_; (try clear hb); (try clear hb2); (try clear hk); (try clear hi)))
          go_roundg k1
          case measure => have := HK1.out; omega
          case rel => exact ⟨(wrap64 (x0_1 + (wrap64 (Int.tdiv (wrap64 (x1_1 - x0_1)) 2)))), (x1_1), (by first | rfl | (simp; done) | (simp [*]; done)), (by first | rfl | (simp; done) | (simp [*]; done)), H', ⟨by have := HK1.out; omega⟩, ⟨by (with_reducible repeat (first | refine blk_drewN ?_ _ | refine blk_drew ?_ | refine blk_alloc ?_ _)); exact BK239.out⟩, ⟨by repeat (first | (with_reducible first | exact HB.out | apply below_alloc | apply pw_below_drewN | apply below_drew1 | refine below_set ?_ GE239.out) | exact HB.out)⟩⟩
        · rw [if_neg c8] at H
          have c8b0 : decide (t240 < 0) = false := decide_eq_false c8
          clear c8
          by_cases c10 : t240 > 0
          · rw [if_pos c10] at H
            have c10b0 : decide (0 < t240) = true := decide_eq_true c10
            clear c10
            have H' := Aside0.mk H
            clear H
            go_wp2_with (first | ((with_reducible refine gate_value rfl ?_); refine goesV_ (some 29) rfl rfl hfv hnm hbd rfl (by first | rfl | (simp; done)) #[.int .i64 (wrap64 (x0_1 + (wrap64 (Int.tdiv (wrap64 (x1_1 - x0_1)) 2))))] (by (try simp only [List.map_toArray, List.map_cons, List.map_nil]); first | done | rfl | (simp only [List.length_drop, List.length_take]; rfl) | (rw [wrap_in_ (n := x1_1 - x0_1) (by omega) (by omega)]; rfl)) ?_; (with_reducible refine (hS k1 (wrap64 (x0_1 + (wrap64 (Int.tdiv (wrap64 (x1_1 - x0_1)) 2)))) t240 _ (by repeat (first | (with_reducible first | exact HB.out | apply below_alloc | apply pw_below_drewN | apply below_drew1 | refine below_set ?_ GE239.out) | exact HB.out)) A7.out).mono ?_); rintro e w11 ⟨rfl, hb⟩; refine ⟨_, rfl, ?_⟩; have n0_ := Aside0.mk (blk_below (g := gb239) (o := .cells #[.int .i64 0, .int .i64 0] 28 (0, 0)) (by (with_reducible repeat (first | refine blk_drewN ?_ _ | refine blk_drew ?_ | refine blk_alloc ?_ _)); exact BK239.out) hb); have n1_ := Aside0.mk (below_step (by repeat (first | (with_reducible first | exact HB.out | apply below_alloc | apply pw_below_drewN | apply below_drew1 | refine below_set ?_ GE239.out) | exact HB.out)) hb); clear BK239; clear HB; have BK239 := n0_; have HB := n1_; clear n0_ n1_; (try clear hb); (try clear hb2); (try clear hk); (try clear hi)))
            go_roundg k1
            case measure => have := HK1.out; omega
            case rel => exact ⟨(x0_1), (wrap64 (x0_1 + (wrap64 (Int.tdiv (wrap64 (x1_1 - x0_1)) 2)))), (by first | rfl | (simp; done) | (simp [*]; done)), (by first | rfl | (simp; done) | (simp [*]; done)), H', ⟨by have := HK1.out; omega⟩, ⟨by (with_reducible repeat (first | refine blk_drewN ?_ _ | refine blk_drew ?_ | refine blk_alloc ?_ _)); exact BK239.out⟩, ⟨by repeat (first | (with_reducible first | exact HB.out | apply below_alloc | apply pw_below_drewN | apply below_drew1 | refine below_set ?_ GE239.out) | exact HB.out)⟩⟩
          · rw [if_neg c10] at H
            have c10b0 : decide (0 < t240) = false := decide_eq_false c10
            clear c10
            have H' := Aside0.mk H
            clear H
            go_wp2_with (first | ((with_reducible refine gate_value rfl ?_); refine goesV_ (some 29) rfl rfl hfv hnm hbd rfl (by first | rfl | (simp; done)) #[.int .i64 (wrap64 (x0_1 + (wrap64 (Int.tdiv (wrap64 (x1_1 - x0_1)) 2))))] (by (try simp only [List.map_toArray, List.map_cons, List.map_nil]); first | done | rfl | (simp only [List.length_drop, List.length_take]; rfl) | (rw [wrap_in_ (n := x1_1 - x0_1) (by omega) (by omega)]; rfl)) ?_; (with_reducible refine (hS k1 (wrap64 (x0_1 + (wrap64 (Int.tdiv (wrap64 (x1_1 - x0_1)) 2)))) t240 _ (by repeat (first | (with_reducible first | exact HB.out | apply below_alloc | apply pw_below_drewN | apply below_drew1 | refine below_set ?_ GE239.out) | exact HB.out)) A7.out).mono ?_); rintro e w12 ⟨rfl, hb⟩; refine ⟨_, rfl, ?_⟩; have n0_ := Aside0.mk (blk_below (g := gb239) (o := .cells #[.int .i64 0, .int .i64 0] 28 (0, 0)) (by (with_reducible repeat (first | refine blk_drewN ?_ _ | refine blk_drew ?_ | refine blk_alloc ?_ _)); exact BK239.out) hb); have n1_ := Aside0.mk (below_step (by repeat (first | (with_reducible first | exact HB.out | apply below_alloc | apply pw_below_drewN | apply below_drew1 | refine below_set ?_ GE239.out) | exact HB.out)) hb); clear BK239; clear HB; have BK239 := n0_; have HB := n1_; clear n0_ n1_; (try clear hb); (try clear hb2); (try clear hk); (try clear hi)))
            go_loopg [0, 12] k1 (fun kq v0 v12 w' => ∃ (x0_2 : Int) (x12_2 : Int), v0 = .int .i64 x0_2 ∧ v12 = .int .i64 x12_2 ∧ Aside0 (series_Narrow.l1 sg kq x0_2 x1_1 a2 a3 (wrap64 (x0_1 + (wrap64 (Int.tdiv (wrap64 (x1_1 - x0_1)) 2)))) x12_2 = some (r1, r2, r3)) ∧ Aside0 (kq ≤ k1) ∧ Aside0 (w'.heap[gb239]? = some (.cells #[.int .i64 0, .int .i64 0] 28 (0, 0))) ∧ Aside0 (Below w.heap.size w w'))
            case atStart => exact ⟨(x0_1), (wrap64 (x0_1 + (wrap64 (Int.tdiv (wrap64 (x1_1 - x0_1)) 2)))), (by first | rfl | (simp; done) | (simp [*]; done)), (by first | rfl | (simp; done) | (simp [*]; done)), H', ⟨Nat.le_refl _⟩, ⟨by (with_reducible repeat (first | refine blk_drewN ?_ _ | refine blk_drew ?_ | refine blk_alloc ?_ _)); exact BK239.out⟩, ⟨by repeat (first | (with_reducible first | exact HB.out | apply below_alloc | apply pw_below_drewN | apply below_drew1 | refine below_set ?_ GE239.out) | exact HB.out)⟩⟩
            case round =>
              clear H'
              try clear c1
              try clear p2
              try clear c5
              try clear c6
              try clear c6b0
              try clear p6
              try clear c8
              try clear c8b0
              try clear c10
              try clear c10b0
              try clear p2
              obtain ⟨x0_2, x12_2, rfl, rfl, HA, HK2, BK239, HB⟩ := hrel
              cases gk with
              | zero => exact absurd HA.out (by simp [series_Narrow.l1])
              | succ k2 =>
                have H := HA.out
                clear HA
                simp only [series_Narrow.l1] at H
                by_cases c13 : (wrap64 (x12_2 - x0_2)) > 1
                · rw [if_pos c13] at H
                  have c13b0 : decide (1 < (wrap64 (x12_2 - x0_2))) = true := decide_eq_true c13
                  clear c13
                  replace H := Option.bind_eq_some_iff.mp H
                  obtain ⟨t241, A140, H⟩ := H
                  replace H : (if t241 < 0 then (series_Narrow.l1 sg k2 (wrap64 (x0_2 + (wrap64 (Int.tdiv (wrap64 (x12_2 - x0_2)) 2)))) x1_1 a2 a3 (wrap64 (x0_1 + (wrap64 (Int.tdiv (wrap64 (x1_1 - x0_1)) 2)))) x12_2) else (series_Narrow.l1 sg k2 x0_2 x1_1 a2 a3 (wrap64 (x0_1 + (wrap64 (Int.tdiv (wrap64 (x1_1 - x0_1)) 2)))) (wrap64 (x0_2 + (wrap64 (Int.tdiv (wrap64 (x12_2 - x0_2)) 2)))))) = some (r1, r2, r3) := H
                  have A14 := Aside0.mk A140
                  clear A140
                  by_cases c15 : t241 < 0
                  · rw [if_pos c15] at H
                    have c15b0 : decide (t241 < 0) = true := decide_eq_true c15
                    clear c15
                    have H' := Aside0.mk H
                    clear H
                    go_wp2_with (first | ((with_reducible refine gate_value rfl ?_); refine goesV_ (some 49) rfl rfl hfv hnm hbd rfl (by first | rfl | (simp; done)) #[.int .i64 (wrap64 (x0_2 + (wrap64 (Int.tdiv (wrap64 (x12_2 - x0_2)) 2))))] (by (try simp only [List.map_toArray, List.map_cons, List.map_nil]); first | done | rfl | (simp only [List.length_drop, List.length_take]; rfl) | (rw [wrap_in_ (n := x12_2 - x0_2) (by omega) (by omega)]; rfl)) ?_; (with_reducible refine (hS k2 (wrap64 (x0_2 + (wrap64 (Int.tdiv (wrap64 (x12_2 - x0_2)) 2)))) t241 _ (by repeat (first | (with_reducible first | exact HB.out | apply below_alloc | apply pw_below_drewN | apply below_drew1 | refine below_set ?_ GE239.out) | exact HB.out)) A14.out).mono ?_); rintro e w16 ⟨rfl, hb⟩; refine ⟨_, rfl, ?_⟩; have n0_ := Aside0.mk (blk_below (g := gb239) (o := .cells #[.int .i64 0, .int .i64 0] 28 (0, 0)) (by (with_reducible repeat (first | refine blk_drewN ?_ _ | refine blk_drew ?_ | refine blk_alloc ?_ _)); exact BK239.out) hb); have n1_ := Aside0.mk (below_step (by repeat (first | (with_reducible first | exact HB.out | apply below_alloc | apply pw_below_drewN | apply below_drew1 | refine below_set ?_ GE239.out) | exact HB.out)) hb); clear BK239; clear HB; have BK239 := n0_; have HB := n1_; clear n0_ n1_; (try clear hb); (try clear hb2); (try clear hk); (try clear hi)))
                    go_roundg k2
                    case measure => have := HK1.out; have := HK2.out; omega
                    case rel => exact ⟨(wrap64 (x0_2 + (wrap64 (Int.tdiv (wrap64 (x12_2 - x0_2)) 2)))), (x12_2), (by first | rfl | (simp; done) | (simp [*]; done)), (by first | rfl | (simp; done) | (simp [*]; done)), H', ⟨by have := HK1.out; have := HK2.out; omega⟩, ⟨by (with_reducible repeat (first | refine blk_drewN ?_ _ | refine blk_drew ?_ | refine blk_alloc ?_ _)); exact BK239.out⟩, ⟨by repeat (first | (with_reducible first | exact HB.out | apply below_alloc | apply pw_below_drewN | apply below_drew1 | refine below_set ?_ GE239.out) | exact HB.out)⟩⟩
                  · rw [if_neg c15] at H
                    have c15b0 : decide (t241 < 0) = false := decide_eq_false c15
                    clear c15
                    have H' := Aside0.mk H
                    clear H
                    go_wp2_with (first | ((with_reducible refine gate_value rfl ?_); refine goesV_ (some 49) rfl rfl hfv hnm hbd rfl (by first | rfl | (simp; done)) #[.int .i64 (wrap64 (x0_2 + (wrap64 (Int.tdiv (wrap64 (x12_2 - x0_2)) 2))))] (by (try simp only [List.map_toArray, List.map_cons, List.map_nil]); first | done | rfl | (simp only [List.length_drop, List.length_take]; rfl) | (rw [wrap_in_ (n := x12_2 - x0_2) (by omega) (by omega)]; rfl)) ?_; (with_reducible refine (hS k2 (wrap64 (x0_2 + (wrap64 (Int.tdiv (wrap64 (x12_2 - x0_2)) 2)))) t241 _ (by repeat (first | (with_reducible first | exact HB.out | apply below_alloc | apply pw_below_drewN | apply below_drew1 | refine below_set ?_ GE239.out) | exact HB.out)) A14.out).mono ?_); rintro e w17 ⟨rfl, hb⟩; refine ⟨_, rfl, ?_⟩; have n0_ := Aside0.mk (blk_below (g := gb239) (o := .cells #[.int .i64 0, .int .i64 0] 28 (0, 0)) (by (with_reducible repeat (first | refine blk_drewN ?_ _ | refine blk_drew ?_ | refine blk_alloc ?_ _)); exact BK239.out) hb); have n1_ := Aside0.mk (below_step (by repeat (first | (with_reducible first | exact HB.out | apply below_alloc | apply pw_below_drewN | apply below_drew1 | refine below_set ?_ GE239.out) | exact HB.out)) hb); clear BK239; clear HB; have BK239 := n0_; have HB := n1_; clear n0_ n1_; (try clear hb); (try clear hb2); (try clear hk); (try clear hi)))
                    go_roundg k2
                    case measure => have := HK1.out; have := HK2.out; omega
                    case rel => exact ⟨(x0_2), (wrap64 (x0_2 + (wrap64 (Int.tdiv (wrap64 (x12_2 - x0_2)) 2)))), (by first | rfl | (simp; done) | (simp [*]; done)), (by first | rfl | (simp; done) | (simp [*]; done)), H', ⟨by have := HK1.out; have := HK2.out; omega⟩, ⟨by (with_reducible repeat (first | refine blk_drewN ?_ _ | refine blk_drew ?_ | refine blk_alloc ?_ _)); exact BK239.out⟩, ⟨by repeat (first | (with_reducible first | exact HB.out | apply below_alloc | apply pw_below_drewN | apply below_drew1 | refine below_set ?_ GE239.out) | exact HB.out)⟩⟩
                · rw [if_neg c13] at H
                  have c13b0 : decide (1 < (wrap64 (x12_2 - x0_2))) = false := decide_eq_false c13
                  clear c13
                  have H' := Aside0.mk H
                  clear H
                  go_wp2
                  go_loopg [1, 14] k2 (fun kq v1 v14 w' => ∃ (x1_3 : Int) (x14_3 : Int), v1 = .int .i64 x1_3 ∧ v14 = .int .i64 x14_3 ∧ Aside0 (series_Narrow.l2 sg kq x0_2 x1_3 a2 a3 x14_3 = some (r1, r2, r3)) ∧ Aside0 (kq ≤ k2) ∧ Aside0 (w'.heap[gb239]? = some (.cells #[.int .i64 0, .int .i64 0] 28 (0, 0))) ∧ Aside0 (Below w.heap.size w w'))
                  case atStart => exact ⟨(x1_1), ((wrap64 (x0_1 + (wrap64 (Int.tdiv (wrap64 (x1_1 - x0_1)) 2))))), (by first | rfl | (simp; done) | (simp [*]; done)), (by first | rfl | (simp; done) | (simp [*]; done)), H', ⟨Nat.le_refl _⟩, ⟨by (with_reducible repeat (first | refine blk_drewN ?_ _ | refine blk_drew ?_ | refine blk_alloc ?_ _)); exact BK239.out⟩, ⟨by repeat (first | (with_reducible first | exact HB.out | apply below_alloc | apply pw_below_drewN | apply below_drew1 | refine below_set ?_ GE239.out) | exact HB.out)⟩⟩
                  case round =>
                    clear H'
                    try clear c1
                    try clear p2
                    try clear c5
                    try clear c6
                    try clear c6b0
                    try clear p6
                    try clear c8
                    try clear c8b0
                    try clear c10
                    try clear c10b0
                    try clear c13
                    try clear c13b0
                    try clear c15
                    try clear c15b0
                    try clear p2
                    try clear p6
                    obtain ⟨x1_3, x14_3, rfl, rfl, HA, HK3, BK239, HB⟩ := hrel
                    cases gk with
                    | zero => exact absurd HA.out (by simp [series_Narrow.l2])
                    | succ k3 =>
                      have H := HA.out
                      clear HA
                      simp only [series_Narrow.l2] at H
                      by_cases c18 : (wrap64 (x1_3 - x14_3)) > 1
                      · rw [if_pos c18] at H
                        have c18b0 : decide (1 < (wrap64 (x1_3 - x14_3))) = true := decide_eq_true c18
                        clear c18
                        replace H := Option.bind_eq_some_iff.mp H
                        obtain ⟨t242, A190, H⟩ := H
                        replace H : (if t242 > 0 then (series_Narrow.l2 sg k3 x0_2 (wrap64 (x14_3 + (wrap64 (Int.tdiv (wrap64 (x1_3 - x14_3)) 2)))) a2 a3 x14_3) else (series_Narrow.l2 sg k3 x0_2 x1_3 a2 a3 (wrap64 (x14_3 + (wrap64 (Int.tdiv (wrap64 (x1_3 - x14_3)) 2)))))) = some (r1, r2, r3) := H
                        have A19 := Aside0.mk A190
                        clear A190
                        by_cases c20 : t242 > 0
                        · rw [if_pos c20] at H
                          have c20b0 : decide (0 < t242) = true := decide_eq_true c20
                          clear c20
                          have H' := Aside0.mk H
                          clear H
                          go_wp2_with (first | ((with_reducible refine gate_value rfl ?_); refine goesV_ (some 66) rfl rfl hfv hnm hbd rfl (by first | rfl | (simp; done)) #[.int .i64 (wrap64 (x14_3 + (wrap64 (Int.tdiv (wrap64 (x1_3 - x14_3)) 2))))] (by (try simp only [List.map_toArray, List.map_cons, List.map_nil]); first | done | rfl | (simp only [List.length_drop, List.length_take]; rfl) | (rw [wrap_in_ (n := x1_3 - x14_3) (by omega) (by omega)]; rfl)) ?_; (with_reducible refine (hS k3 (wrap64 (x14_3 + (wrap64 (Int.tdiv (wrap64 (x1_3 - x14_3)) 2)))) t242 _ (by repeat (first | (with_reducible first | exact HB.out | apply below_alloc | apply pw_below_drewN | apply below_drew1 | refine below_set ?_ GE239.out) | exact HB.out)) A19.out).mono ?_); rintro e w21 ⟨rfl, hb⟩; refine ⟨_, rfl, ?_⟩; have n0_ := Aside0.mk (blk_below (g := gb239) (o := .cells #[.int .i64 0, .int .i64 0] 28 (0, 0)) (by (with_reducible repeat (first | refine blk_drewN ?_ _ | refine blk_drew ?_ | refine blk_alloc ?_ _)); exact BK239.out) hb); have n1_ := Aside0.mk (below_step (by repeat (first | (with_reducible first | exact HB.out | apply below_alloc | apply pw_below_drewN | apply below_drew1 | refine below_set ?_ GE239.out) | exact HB.out)) hb); clear BK239; clear HB; have BK239 := n0_; have HB := n1_; clear n0_ n1_; (try clear hb); (try clear hb2); (try clear hk); (try clear hi)))
                          go_roundg k3
                          case measure => have := HK1.out; have := HK2.out; have := HK3.out; omega
                          case rel => exact ⟨(wrap64 (x14_3 + (wrap64 (Int.tdiv (wrap64 (x1_3 - x14_3)) 2)))), (x14_3), (by first | rfl | (simp; done) | (simp [*]; done)), (by first | rfl | (simp; done) | (simp [*]; done)), H', ⟨by have := HK1.out; have := HK2.out; have := HK3.out; omega⟩, ⟨by (with_reducible repeat (first | refine blk_drewN ?_ _ | refine blk_drew ?_ | refine blk_alloc ?_ _)); exact BK239.out⟩, ⟨by repeat (first | (with_reducible first | exact HB.out | apply below_alloc | apply pw_below_drewN | apply below_drew1 | refine below_set ?_ GE239.out) | exact HB.out)⟩⟩
                        · rw [if_neg c20] at H
                          have c20b0 : decide (0 < t242) = false := decide_eq_false c20
                          clear c20
                          have H' := Aside0.mk H
                          clear H
                          go_wp2_with (first | ((with_reducible refine gate_value rfl ?_); refine goesV_ (some 66) rfl rfl hfv hnm hbd rfl (by first | rfl | (simp; done)) #[.int .i64 (wrap64 (x14_3 + (wrap64 (Int.tdiv (wrap64 (x1_3 - x14_3)) 2))))] (by (try simp only [List.map_toArray, List.map_cons, List.map_nil]); first | done | rfl | (simp only [List.length_drop, List.length_take]; rfl) | (rw [wrap_in_ (n := x1_3 - x14_3) (by omega) (by omega)]; rfl)) ?_; (with_reducible refine (hS k3 (wrap64 (x14_3 + (wrap64 (Int.tdiv (wrap64 (x1_3 - x14_3)) 2)))) t242 _ (by repeat (first | (with_reducible first | exact HB.out | apply below_alloc | apply pw_below_drewN | apply below_drew1 | refine below_set ?_ GE239.out) | exact HB.out)) A19.out).mono ?_); rintro e w22 ⟨rfl, hb⟩; refine ⟨_, rfl, ?_⟩; have n0_ := Aside0.mk (blk_below (g := gb239) (o := .cells #[.int .i64 0, .int .i64 0] 28 (0, 0)) (by (with_reducible repeat (first | refine blk_drewN ?_ _ | refine blk_drew ?_ | refine blk_alloc ?_ _)); exact BK239.out) hb); have n1_ := Aside0.mk (below_step (by repeat (first | (with_reducible first | exact HB.out | apply below_alloc | apply pw_below_drewN | apply below_drew1 | refine below_set ?_ GE239.out) | exact HB.out)) hb); clear BK239; clear HB; have BK239 := n0_; have HB := n1_; clear n0_ n1_; (try clear hb); (try clear hb2); (try clear hk); (try clear hi)))
                          go_roundg k3
                          case measure => have := HK1.out; have := HK2.out; have := HK3.out; omega
                          case rel => exact ⟨(x1_3), (wrap64 (x14_3 + (wrap64 (Int.tdiv (wrap64 (x1_3 - x14_3)) 2)))), (by first | rfl | (simp; done) | (simp [*]; done)), (by first | rfl | (simp; done) | (simp [*]; done)), H', ⟨by have := HK1.out; have := HK2.out; have := HK3.out; omega⟩, ⟨by (with_reducible repeat (first | refine blk_drewN ?_ _ | refine blk_drew ?_ | refine blk_alloc ?_ _)); exact BK239.out⟩, ⟨by repeat (first | (with_reducible first | exact HB.out | apply below_alloc | apply pw_below_drewN | apply below_drew1 | refine below_set ?_ GE239.out) | exact HB.out)⟩⟩
                      · rw [if_neg c18] at H
                        have c18b0 : decide (1 < (wrap64 (x1_3 - x14_3))) = false := decide_eq_false c18
                        clear c18
                        by_cases c23 : (wrap64 (x1_3 - x0_2)) > a2
                        · rw [if_pos c23] at H
                          have c23b0 : decide (a2 < (wrap64 (x1_3 - x0_2))) = true := decide_eq_true c23
                          clear c23
                          simp only [Option.some.injEq, Prod.mk.injEq] at H
                          obtain ⟨rfl, rfl, rfl⟩ := H
                          have hcz24_0 : wr.cell? ⟨gb239, 0, none⟩ = some (.int .i64 0) := (blk_cell BK239.out 0).trans rfl
                          have hcz24_1 : wr.cell? ⟨gb239, 1, none⟩ = some (.int .i64 0) := (blk_cell BK239.out 1).trans rfl
                          have hfz24_0 := blk_frozen BK239.out 0
                          have hfz24_1 := blk_frozen BK239.out 1
                          go_wp2
                          refine bodyPost_ret (results_ct rfl _ _ gb239 28 #[.int .i64 0, .int .i64 0] (0, 0) _ rfl (by (with_reducible repeat (first | refine blk_drewN ?_ _ | refine blk_drew ?_ | refine blk_alloc ?_ _)); refine blk_put (cs := #[.int .i64 0, .int .i64 0]) ?_ 1 _ rfl; (with_reducible repeat (first | refine blk_drewN ?_ _ | refine blk_drew ?_ | refine blk_alloc ?_ _)); refine blk_put (cs := #[.int .i64 0, .int .i64 0]) ?_ 0 _ rfl; (with_reducible repeat (first | refine blk_drewN ?_ _ | refine blk_drew ?_ | refine blk_alloc ?_ _)); exact BK239.out) Try.underlying28 rfl (by kernel_rfl)) rfl ?_
                          exact ⟨by first | rfl | (simp [errW_none, errW_some] <;> rfl) | (simp [*, errW_none, errW_some] <;> rfl), by repeat (first | (with_reducible first | exact HB.out | apply below_alloc | apply pw_below_drewN | apply below_drew1 | refine below_set ?_ GE239.out) | exact HB.out)⟩
                        · rw [if_neg c23] at H
                          have c23b0 : decide (a2 < (wrap64 (x1_3 - x0_2))) = false := decide_eq_false c23
                          clear c23
                          simp only [Option.some.injEq, Prod.mk.injEq] at H
                          obtain ⟨rfl, rfl, rfl⟩ := H
                          have hcz25_0 : wr.cell? ⟨gb239, 0, none⟩ = some (.int .i64 0) := (blk_cell BK239.out 0).trans rfl
                          have hcz25_1 : wr.cell? ⟨gb239, 1, none⟩ = some (.int .i64 0) := (blk_cell BK239.out 1).trans rfl
                          have hfz25_0 := blk_frozen BK239.out 0
                          have hfz25_1 := blk_frozen BK239.out 1
                          go_wp2
                          refine bodyPost_ret (results_ct rfl _ _ gb239 28 #[.int .i64 x0_2, .int .i64 x1_3] (0, 0) _ rfl (by (with_reducible repeat (first | refine blk_drewN ?_ _ | refine blk_drew ?_ | refine blk_alloc ?_ _)); refine blk_put (cs := #[.int .i64 x0_2, .int .i64 0]) ?_ 1 _ rfl; (with_reducible repeat (first | refine blk_drewN ?_ _ | refine blk_drew ?_ | refine blk_alloc ?_ _)); refine blk_put (cs := #[.int .i64 0, .int .i64 0]) ?_ 0 _ rfl; (with_reducible repeat (first | refine blk_drewN ?_ _ | refine blk_drew ?_ | refine blk_alloc ?_ _)); exact BK239.out) Try.underlying28 rfl (by kernel_rfl)) rfl ?_
                          exact ⟨by first | rfl | (simp [errW_none, errW_some] <;> rfl) | (simp [*, errW_none, errW_some] <;> rfl), by repeat (first | (with_reducible first | exact HB.out | apply below_alloc | apply pw_below_drewN | apply below_drew1 | refine below_set ?_ GE239.out) | exact HB.out)⟩
      · rw [if_neg c6] at H
        have c6b0 : decide (a2 < (wrap64 (x1_1 - x0_1))) = false := decide_eq_false c6
        clear c6
        simp only [Option.some.injEq, Prod.mk.injEq] at H
        obtain ⟨rfl, rfl, rfl⟩ := H
        have hcz26_0 : wr.cell? ⟨gb239, 0, none⟩ = some (.int .i64 0) := (blk_cell BK239.out 0).trans rfl
        have hcz26_1 : wr.cell? ⟨gb239, 1, none⟩ = some (.int .i64 0) := (blk_cell BK239.out 1).trans rfl
        have hfz26_0 := blk_frozen BK239.out 0
        have hfz26_1 := blk_frozen BK239.out 1
        go_wp2
        refine bodyPost_ret (results_ct rfl _ _ gb239 28 #[.int .i64 x0_1, .int .i64 x1_1] (0, 0) _ rfl (by (with_reducible repeat (first | refine blk_drewN ?_ _ | refine blk_drew ?_ | refine blk_alloc ?_ _)); refine blk_put (cs := #[.int .i64 x0_1, .int .i64 0]) ?_ 1 _ rfl; (with_reducible repeat (first | refine blk_drewN ?_ _ | refine blk_drew ?_ | refine blk_alloc ?_ _)); refine blk_put (cs := #[.int .i64 0, .int .i64 0]) ?_ 0 _ rfl; (with_reducible repeat (first | refine blk_drewN ?_ _ | refine blk_drew ?_ | refine blk_alloc ?_ _)); exact BK239.out) Try.underlying28 rfl (by kernel_rfl)) rfl ?_
        exact ⟨by first | rfl | (simp [errW_none, errW_some] <;> rfl) | (simp [*, errW_none, errW_some] <;> rfl), by repeat (first | (with_reducible first | exact HB.out | apply below_alloc | apply pw_below_drewN | apply below_drew1 | refine below_set ?_ GE239.out) | exact HB.out)⟩

/-! ### phase_Find: function 8 -/
-- hand
-- body
set_option maxHeartbeats 8000000 in
set_option maxRecDepth 100000 in
theorem phase_Find_1.calls (k : Nat) (q x r : Int) (g : Nat) (w : World) (hcz : w.cell? ⟨g, 0, none⟩ = some (.int .i64 q)) (h : phase_Sign.f k q x = some r) :
    Calls Try.prog 17 #[.int .i64 x, .pointer (some ⟨g, 0, none⟩)] w fun e w' => e = .returned (.int .i64 r) ∧ Below w.heap.size w w' := by
  have HB := Aside0.mk (Below.refl w.heap.size w)
  have A1 := Aside0.mk h
  clear h
  go_enter Try.func17, Try.ntmps17
  go_wp2_with (first | ((with_reducible refine gate_callee (f := 15) rfl ?_); refine goesL_ (some 6) rfl rfl Try.func15 (by kernel_rfl) rfl #[.int .i64 q, .int .i64 x] rfl (by (try simp only [List.map_toArray, List.map_cons, List.map_nil]); first | done | rfl | (simp only [List.length_drop, List.length_take]; rfl)) ?_; (with_reducible refine (phase_Sign.calls k q x r _ A1.out).mono ?_); rintro e w51 ⟨rfl, hb⟩; refine ⟨_, rfl, ?_⟩; have n0_ := Aside0.mk (below_step (by repeat (first | (with_reducible first | exact HB.out | apply below_alloc | apply pw_below_drewN | apply below_drew1) | exact HB.out)) hb); clear HB; have HB := n0_; clear n0_; (try clear hb)))
  go_ret
  exact ⟨by first | rfl | (simp [errW_none, errW_some] <;> rfl) | (simp [*, errW_none, errW_some] <;> rfl), by repeat (first | (with_reducible first | exact HB.out | apply below_alloc | apply pw_below_drewN | apply below_drew1) | exact HB.out)⟩
theorem phase_Find_1.callsV (k : Nat) (q x r : Int) (g : Nat) (w : World) (hh : w.heap[g]? = some (.cells #[.int .i64 q] 3 (0, 0))) (h : phase_Sign.f k q x = some r) :
    Calls Try.prog 17 (#[.int .i64 x] ++ #[.pointer (some ⟨g, 0, none⟩)]) w fun e w' => e = .returned (.int .i64 r) ∧ Below w.heap.size w w' := phase_Find_1.calls k q x r g w ((blk_cell hh 0).trans rfl) h
set_option maxHeartbeats 8000000 in
set_option maxRecDepth 100000 in
theorem phase_Find.calls (k : Nat) (a0 : Int) (a1 : Int) (r1 : Int) (r2 : Int) (r3 : Int) (w : World) (h : phase_Find.f k a0 a1 = some (r1, r2, r3)) :
    Calls Try.prog 8 #[.int .i64 a0, .int .i64 a1] w fun e w' => e = .returned (.tuple #[.agg #[.int .i64 r1, .int .i64 r2], .int .i64 r3]) ∧ Below w.heap.size w w' := by
  have hu34 := Try.underlying28
  have HB := Aside0.mk (Below.refl w.heap.size w)
  unfold phase_Find.f at h
  by_cases c : 0 ≤ a1 ∧ a1 ≤ 3 ∧ -100000 ≤ a0 ∧ a0 ≤ 100000
  rotate_left
  · rw [if_neg c] at h; simp at h
  rw [if_pos c] at h
  have d1 : decide (a1 < 0) = false := decide_eq_false (by omega)
  have d2 : decide (3 < a1) = false := decide_eq_false (by omega)
  have d3 : decide (a0 < -100000) = false := decide_eq_false (by omega)
  have d4 : decide (100000 < a0) = false := decide_eq_false (by omega)
  clear c
  obtain ⟨s, hs, h⟩ := Option.bind_eq_some_iff.mp h
  have A1 := Aside0.mk hs
  clear hs
  by_cases c : s < 0
  rotate_left
  · rw [if_neg c] at h; simp at h
  rw [if_pos c] at h
  have d5 : decide (0 ≤ s) = false := decide_eq_false (by omega)
  clear c
  obtain ⟨u, hu, h⟩ := Option.bind_eq_some_iff.mp h
  have A2 := Aside0.mk hu
  clear hu
  by_cases c : 0 < u
  rotate_left
  · rw [if_neg c] at h; simp at h
  rw [if_pos c] at h
  have d6 : decide (u ≤ 0) = false := decide_eq_false (by omega)
  clear c
  have A3 := Aside0.mk h
  clear h
  have hmf : ∀ (fn : Fn) (first cap : Array Value) (w : World), (Instr.makeFunc fn first cap).run Try.prog w = .ok (.func fn first cap) w := fun _ _ _ _ => rfl
  go_enter Try.func8, Try.ntmps8
  go_wp2_with (first | ((with_reducible refine gate_dst (N := 3) rfl ?_); refine box_event ?hg (N := 3) ?hd (cs := #[.int .i64 a1]) (t := 3) ?hr ?_; (case hd => rfl); (case hg => rfl); (case hr => first | (go_simp; done) | (go_simp; rfl)); intro gb1 hg w51 hbox hb; have n0_ := Aside0.mk (below_step (by repeat (first | (with_reducible first | exact HB.out | apply below_alloc | apply pw_below_drewN | apply below_drew1) | exact HB.out)) hb); have n1_ := Aside0.mk (hbox); have n2_ := Aside0.mk ((by rw [hg]; exact (below_size (by repeat (first | (with_reducible first | exact HB.out | apply below_alloc | apply pw_below_drewN | apply below_drew1) | exact HB.out))) : w.heap.size ≤ gb1)); clear HB; have HB := n0_; have BK1 := n1_; have GE1 := n2_; clear n0_ n1_ n2_; clear hb hbox hg) | ((with_reducible refine gate_dst (N := 4) rfl ?_); refine box_event ?hg (N := 4) ?hd (cs := #[.int .i64 0, .int .i64 0]) (t := 28) ?hr ?_; (case hd => rfl); (case hg => rfl); (case hr => first | (go_simp; done) | (go_simp; rfl)); intro gb2 hg w52 hbox hb; have n0_ := Aside0.mk (blk_below (g := gb1) (o := .cells #[.int .i64 a1] 3 (0, 0)) (by (with_reducible repeat (first | refine blk_drewN ?_ _ | refine blk_drew ?_ | refine blk_alloc ?_ _)); exact BK1.out) hb); have n1_ := Aside0.mk (below_step (by repeat (first | (with_reducible first | exact HB.out | apply below_alloc | apply pw_below_drewN | apply below_drew1 | refine below_set ?_ GE1.out) | exact HB.out)) hb); have n2_ := Aside0.mk (hbox); have n3_ := Aside0.mk ((by rw [hg]; exact (below_size (by repeat (first | (with_reducible first | exact HB.out | apply below_alloc | apply pw_below_drewN | apply below_drew1 | refine below_set ?_ GE1.out) | exact HB.out))) : w.heap.size ≤ gb2)); have n4_ := Aside0.mk ((by rw [hg]; exact Nat.ne_of_lt (blk_lt (g := gb1) (o := .cells #[.int .i64 a1] 3 (0, 0)) (by (with_reducible repeat (first | refine blk_drewN ?_ _ | refine blk_drew ?_ | refine blk_alloc ?_ _)); exact BK1.out)) : gb1 ≠ gb2)); have n5_ := Aside0.mk ((by rw [hg]; exact Nat.ne_of_gt (blk_lt (g := gb1) (o := .cells #[.int .i64 a1] 3 (0, 0)) (by (with_reducible repeat (first | refine blk_drewN ?_ _ | refine blk_drew ?_ | refine blk_alloc ?_ _)); exact BK1.out)) : gb2 ≠ gb1)); clear BK1; clear HB; have BK1 := n0_; have HB := n1_; have BK2 := n2_; have GE2 := n3_; have NB1_2 := n4_; have NB2_1 := n5_; clear n0_ n1_ n2_ n3_ n4_ n5_; clear hb hbox hg; have hcz52_0_0 : w52.cell? ⟨gb1, 0, none⟩ = some (.int .i64 a1) := (blk_cell BK1.out 0).trans rfl; have hfz52_0_0 := blk_frozen BK1.out 0) | ((with_reducible refine gate_callee (f := 15) rfl ?_); refine goesL_ (some 35) rfl rfl Try.func15 (by kernel_rfl) rfl #[.int .i64 a1, .int .i64 (phase_Find.lo a0 a1)] rfl (by (try simp only [List.map_toArray, List.map_cons, List.map_nil]); first | done | rfl | (simp only [List.length_drop, List.length_take]; rfl)) ?_; (with_reducible refine (phase_Sign.calls k a1 (phase_Find.lo a0 a1) s _ A1.out).mono ?_); rintro e w53 ⟨rfl, hb⟩; refine ⟨_, rfl, ?_⟩; have n0_ := Aside0.mk (blk_below (g := gb1) (o := .cells #[.int .i64 a1] 3 (0, 0)) (by (with_reducible repeat (first | refine blk_drewN ?_ _ | refine blk_drew ?_ | refine blk_alloc ?_ _)); exact BK1.out) hb); have n1_ := Aside0.mk (blk_below (g := gb2) (o := .cells #[.int .i64 0, .int .i64 0] 28 (0, 0)) (by (with_reducible repeat (first | refine blk_drewN ?_ _ | refine blk_drew ?_ | refine blk_alloc ?_ _)); exact BK2.out) hb); have n2_ := Aside0.mk (below_step (by repeat (first | (with_reducible first | exact HB.out | apply below_alloc | apply pw_below_drewN | apply below_drew1 | refine below_set ?_ GE1.out | refine below_set ?_ GE2.out) | exact HB.out)) hb); clear BK1; clear BK2; clear HB; have BK1 := n0_; have BK2 := n1_; have HB := n2_; clear n0_ n1_ n2_; (try clear hb); have hcz53_0_0 : w53.cell? ⟨gb1, 0, none⟩ = some (.int .i64 a1) := (blk_cell BK1.out 0).trans rfl; have hfz53_0_0 := blk_frozen BK1.out 0) | ((with_reducible refine gate_callee (f := 15) rfl ?_); refine goesW_ (some 40) rfl (by first | rfl | (simp [Region.wanted, yielded]; done) | (go_simp; done)) Try.func15 (by kernel_rfl) rfl #[.int .i64 a1, .int .i64 (phase_Find.hi a0 a1)] rfl (by (try simp only [List.map_toArray, List.map_cons, List.map_nil]); first | done | rfl | (simp only [List.length_drop, List.length_take]; rfl)) ?_; (with_reducible refine (phase_Sign.calls k a1 (phase_Find.hi a0 a1) u _ A2.out).mono ?_); rintro e w54 ⟨rfl, hb⟩; refine ⟨_, rfl, ?_⟩; have n0_ := Aside0.mk (blk_below (g := gb1) (o := .cells #[.int .i64 a1] 3 (0, 0)) (by (with_reducible repeat (first | refine blk_drewN ?_ _ | refine blk_drew ?_ | refine blk_alloc ?_ _)); exact BK1.out) hb); have n1_ := Aside0.mk (blk_below (g := gb2) (o := .cells #[.int .i64 0, .int .i64 0] 28 (0, 0)) (by (with_reducible repeat (first | refine blk_drewN ?_ _ | refine blk_drew ?_ | refine blk_alloc ?_ _)); exact BK2.out) hb); have n2_ := Aside0.mk (below_step (by repeat (first | (with_reducible first | exact HB.out | apply below_alloc | apply pw_below_drewN | apply below_drew1 | refine below_set ?_ GE1.out | refine below_set ?_ GE2.out) | exact HB.out)) hb); clear BK1; clear BK2; clear HB; have BK1 := n0_; have BK2 := n1_; have HB := n2_; clear n0_ n1_ n2_; (try clear hb); have hcz54_0_0 : w54.cell? ⟨gb1, 0, none⟩ = some (.int .i64 a1) := (blk_cell BK1.out 0).trans rfl; have hfz54_0_0 := blk_frozen BK1.out 0) | ((with_reducible refine gate_callee (f := 16) rfl ?_); refine goesL_ (some 47) rfl rfl Try.func16 (by kernel_rfl) rfl #[.int .i64 (phase_Find.lo a0 a1), .int .i64 (phase_Find.hi a0 a1), .int .i64 600000, .func (.func 17) #[] #[.pointer (some ⟨gb1, 0, none⟩)]] rfl (by (try simp only [List.map_toArray, List.map_cons, List.map_nil]); first | done | rfl | (simp only [List.length_drop, List.length_take]; rfl)) ?_; (with_reducible refine (series_Narrow.calls (fun k x => phase_Sign.f k a1 x) 17 _ #[.pointer (some ⟨gb1, 0, none⟩)] Try.func17 (by kernel_rfl) rfl k (phase_Find.lo a0 a1) (phase_Find.hi a0 a1) 600000 0 r1 r2 r3 _ (fun k x r w' hb_ hs_ => phase_Find_1.callsV k a1 x r gb1 w' (blk_below (g := gb1) (o := .cells #[.int .i64 a1] 3 (0, 0)) BK1.out hb_) hs_) A3.out).mono ?_); rintro e w55 ⟨rfl, hb⟩; refine ⟨_, rfl, ?_⟩; have n0_ := Aside0.mk (blk_below (g := gb1) (o := .cells #[.int .i64 a1] 3 (0, 0)) (by (with_reducible repeat (first | refine blk_drewN ?_ _ | refine blk_drew ?_ | refine blk_alloc ?_ _)); exact BK1.out) hb); have n1_ := Aside0.mk (blk_below (g := gb2) (o := .cells #[.int .i64 0, .int .i64 0] 28 (0, 0)) (by (with_reducible repeat (first | refine blk_drewN ?_ _ | refine blk_drew ?_ | refine blk_alloc ?_ _)); exact BK2.out) hb); have n2_ := Aside0.mk (below_step (by repeat (first | (with_reducible first | exact HB.out | apply below_alloc | apply pw_below_drewN | apply below_drew1 | refine below_set ?_ GE1.out | refine below_set ?_ GE2.out) | exact HB.out)) hb); clear BK1; clear BK2; clear HB; have BK1 := n0_; have BK2 := n1_; have HB := n2_; clear n0_ n1_ n2_; (try clear hb); have hcz55_0_0 : w55.cell? ⟨gb2, 0, none⟩ = some (.int .i64 0) := (blk_cell BK2.out 0).trans rfl; have hfz55_0_0 := blk_frozen BK2.out 0; have hcz55_0_1 : w55.cell? ⟨gb2, 1, none⟩ = some (.int .i64 0) := (blk_cell BK2.out 1).trans rfl; have hfz55_0_1 := blk_frozen BK2.out 1))
  refine bodyPost_ret (results_ct rfl _ _ gb2 28 #[.int .i64 r1, .int .i64 r2] (0, 0) _ rfl (by (with_reducible repeat (first | refine blk_drewN ?_ _ | refine blk_drew ?_ | refine blk_alloc ?_ _)); refine blk_put (cs := #[.int .i64 r1, .int .i64 0]) ?_ 1 _ rfl; (with_reducible repeat (first | refine blk_drewN ?_ _ | refine blk_drew ?_ | refine blk_alloc ?_ _)); refine blk_put (cs := #[.int .i64 0, .int .i64 0]) ?_ 0 _ rfl; (with_reducible repeat (first | refine blk_drewN ?_ _ | refine blk_drew ?_ | refine blk_alloc ?_ _)); exact BK2.out) Try.underlying28 rfl (by kernel_rfl)) rfl ?_
  exact ⟨by first | rfl | (simp [errW_none, errW_some] <;> rfl) | (simp [*, errW_none, errW_some] <;> rfl), by repeat (first | (with_reducible first | exact HB.out | apply below_alloc | apply pw_below_drewN | apply below_drew1 | refine below_set ?_ GE1.out | refine below_set ?_ GE2.out) | exact HB.out)⟩

end Go.Proofs.Ytimehbdleognkaa.JE
