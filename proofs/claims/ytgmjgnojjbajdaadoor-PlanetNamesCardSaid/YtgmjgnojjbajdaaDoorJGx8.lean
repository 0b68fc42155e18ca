-- Made by a program of this session (wip/hp.py, over the kit's print) out of the translation. Not trusted: Lean checks it.
import Derived.Test.YtgmjgnojjbajdaaDoorJGx0
import Derived.Test.YtgmjgnojjbajdaaDoorJGx1
import Derived.Test.YtgmjgnojjbajdaaDoorJGx6
import Derived.Test.YtgmjgnojjbajdaaDoorJGx7
namespace Go.Proofs.YtgmjgnojjbajdaaDoor.JG
open Go.RowKit Go.Proofs.YtgmjgnojjbajdaaDoorW.PrintWords Go.Proofs.YtgmjgnojjbajdaaDoorW.PrintLast Go.Proofs.YtgmjgnojjbajdaaDoorW.PrintMore
attribute [local go_sem] max2_int min2_int max_two min_two max_three min_three max_four min_four   -- for this text's walks alone
set_option linter.unusedVariables false
set_option linter.unusedSimpArgs false

/-! ### interval_Scale: function 29 -/
-- hand
-- body
set_option maxHeartbeats 8000000 in
set_option maxRecDepth 100000 in
theorem interval_Scale.neg_ (a b m d p q : Int) (w : World) (n1 : decide (m < 0) = true) (CK : Aside0 (interval_Check.f 1 a b = some 0)) (wa : wrap64 (-a) = -a) (wb : wrap64 (-b) = -b) (wm : wrap64 (-m) = -m) (wa2 : wrap64 a = a) (d1 : decide (d < 1) = false) (d2 : decide (1000000000 < d) = false) (d3 : decide (m < -1000000000) = false) (d4 : decide (1000000000 < m) = false)
    (P1 : Aside0 (interval_part.f 1 (-b) (-m) d = some (p, true))) (P2 : Aside0 (interval_part.f 1 a (-m) d = some (q, true))) (wh : wrap64 (-q) = -q) :
    Calls Tryd.prog 29 #[.agg #[.int .i64 a, .int .i64 b], .int .i64 m, .int .i64 d] w fun e w' => e = .returned (.tuple #[.agg #[.int .i64 p, .int .i64 (-q)], .int .i64 0]) ∧ Below w.heap.size w w' := by
  have hu := Tryd.underlying28
  go_enter Tryd.func29, Tryd.ntmps29
  go_wp2_with fail
  refine (interval_Check.calls 1 a b 0 _ CK.out).mono ?_
  rintro e w1 ⟨rfl, hb⟩
  have BA := Aside0.mk (blk_below (g := w.heap.size) (o := .cells #[.int .i64 a, .int .i64 b] 28 (0, 0)) (blk_alloc (blk_new w _) _) hb)
  have BR := Aside0.mk (blk_below (g := w.heap.size + 1) (o := .cells #[.int .i64 0, .int .i64 0] 28 (0, 0)) (by have h_ := blk_new (w.alloc (.cells #[.int .i64 a, .int .i64 b] 28 (0, 0))) (.cells #[.int .i64 0, .int .i64 0] 28 (0, 0)); simpa using h_) hb)
  have HB := Aside0.mk (below_step (w := w) (by repeat (first | exact Below.refl _ _ | apply below_alloc | apply pw_below_drewN | apply below_drew | refine below_set ?_ (by first | omega | (simp; done) | (simp; omega)))) hb)
  clear hb
  have a0 : w1.cell? ⟨w.heap.size, 0, none⟩ = some (.int .i64 a) := (blk_cell BA.out 0).trans rfl
  have a1 : w1.cell? ⟨w.heap.size, 1, none⟩ = some (.int .i64 b) := (blk_cell BA.out 1).trans rfl
  have af0 := blk_frozen BA.out 0
  have af1 := blk_frozen BA.out 1
  have c0 : w1.cell? ⟨w.heap.size + 1, 0, none⟩ = some (.int .i64 0) := (blk_cell BR.out 0).trans rfl
  have c1 : w1.cell? ⟨w.heap.size + 1, 1, none⟩ = some (.int .i64 0) := (blk_cell BR.out 1).trans rfl
  have cf0 := blk_frozen BR.out 0
  have cf1 := blk_frozen BR.out 1
  go_wp2_with fail
  refine (interval_part.calls 1 (-b) (-m) d _ true _ P1.out).mono ?_
  rintro e w' ⟨rfl, ⟨nd, rfl⟩⟩
  go_wp2_with fail
  refine (interval_part.calls 1 (a) (-m) d _ true _ P2.out).mono ?_
  rintro e w' ⟨rfl, ⟨nd2, rfl⟩⟩
  go_wp2
  refine bodyPost_ret (results_ct rfl _ _ (w.heap.size + 1) 28 #[.int .i64 p, .int .i64 (-q)] (0, 0) _ rfl (by
    (with_reducible repeat (first | refine blk_drewN ?_ _ | refine blk_drew ?_ | refine blk_alloc ?_ _)); refine blk_put (cs := #[.int .i64 p, .int .i64 0]) ?_ 1 _ rfl; (with_reducible repeat (first | refine blk_drewN ?_ _ | refine blk_drew ?_ | refine blk_alloc ?_ _)); refine blk_put (cs := #[.int .i64 0, .int .i64 0]) ?_ 0 _ rfl; (with_reducible repeat (first | refine blk_drewN ?_ _ | refine blk_drew ?_ | refine blk_alloc ?_ _))
    repeat (first | (with_reducible exact BR.out) | (with_reducible refine blk_drewN ?_ _) | (with_reducible refine blk_drew ?_) | (with_reducible refine blk_alloc ?_ _) | (with_reducible refine blk_far ?_ (by first | (simp; done) | (simp; omega)) _))) Tryd.underlying28 rfl (by kernel_rfl)) rfl ⟨rfl, ?_⟩
  repeat (first | (with_reducible exact HB.out) | apply below_alloc | apply pw_below_drewN | apply below_drew | refine below_set ?_ (by first | omega | (simp; done) | (simp; omega)))
set_option maxHeartbeats 8000000 in
set_option maxRecDepth 100000 in
theorem interval_Scale.pos_ (a b m d p q : Int) (w : World) (n1 : decide (m < 0) = false) (CK : Aside0 (interval_Check.f 1 a b = some 0)) (wa : wrap64 (-a) = -a) (wb : wrap64 (-b) = -b) (wm : wrap64 (-m) = -m) (wa2 : wrap64 a = a) (d1 : decide (d < 1) = false) (d2 : decide (1000000000 < d) = false) (d3 : decide (m < -1000000000) = false) (d4 : decide (1000000000 < m) = false)
    (P1 : Aside0 (interval_part.f 1 a m d = some (p, true))) (P2 : Aside0 (interval_part.f 1 (-b) m d = some (q, true))) (wh : wrap64 (-q) = -q) :
    Calls Tryd.prog 29 #[.agg #[.int .i64 a, .int .i64 b], .int .i64 m, .int .i64 d] w fun e w' => e = .returned (.tuple #[.agg #[.int .i64 p, .int .i64 (-q)], .int .i64 0]) ∧ Below w.heap.size w w' := by
  have hu := Tryd.underlying28
  go_enter Tryd.func29, Tryd.ntmps29
  go_wp2_with fail
  refine (interval_Check.calls 1 a b 0 _ CK.out).mono ?_
  rintro e w1 ⟨rfl, hb⟩
  have BA := Aside0.mk (blk_below (g := w.heap.size) (o := .cells #[.int .i64 a, .int .i64 b] 28 (0, 0)) (blk_alloc (blk_new w _) _) hb)
  have BR := Aside0.mk (blk_below (g := w.heap.size + 1) (o := .cells #[.int .i64 0, .int .i64 0] 28 (0, 0)) (by have h_ := blk_new (w.alloc (.cells #[.int .i64 a, .int .i64 b] 28 (0, 0))) (.cells #[.int .i64 0, .int .i64 0] 28 (0, 0)); simpa using h_) hb)
  have HB := Aside0.mk (below_step (w := w) (by repeat (first | exact Below.refl _ _ | apply below_alloc | apply pw_below_drewN | apply below_drew | refine below_set ?_ (by first | omega | (simp; done) | (simp; omega)))) hb)
  clear hb
  have a0 : w1.cell? ⟨w.heap.size, 0, none⟩ = some (.int .i64 a) := (blk_cell BA.out 0).trans rfl
  have a1 : w1.cell? ⟨w.heap.size, 1, none⟩ = some (.int .i64 b) := (blk_cell BA.out 1).trans rfl
  have af0 := blk_frozen BA.out 0
  have af1 := blk_frozen BA.out 1
  have c0 : w1.cell? ⟨w.heap.size + 1, 0, none⟩ = some (.int .i64 0) := (blk_cell BR.out 0).trans rfl
  have c1 : w1.cell? ⟨w.heap.size + 1, 1, none⟩ = some (.int .i64 0) := (blk_cell BR.out 1).trans rfl
  have cf0 := blk_frozen BR.out 0
  have cf1 := blk_frozen BR.out 1
  go_wp2_with fail
  refine (interval_part.calls 1 (a) (m) d _ true _ P1.out).mono ?_
  rintro e w' ⟨rfl, ⟨nd, rfl⟩⟩
  go_wp2_with fail
  refine (interval_part.calls 1 (-b) (m) d _ true _ P2.out).mono ?_
  rintro e w' ⟨rfl, ⟨nd2, rfl⟩⟩
  go_wp2
  refine bodyPost_ret (results_ct rfl _ _ (w.heap.size + 1) 28 #[.int .i64 p, .int .i64 (-q)] (0, 0) _ rfl (by
    (with_reducible repeat (first | refine blk_drewN ?_ _ | refine blk_drew ?_ | refine blk_alloc ?_ _)); refine blk_put (cs := #[.int .i64 p, .int .i64 0]) ?_ 1 _ rfl; (with_reducible repeat (first | refine blk_drewN ?_ _ | refine blk_drew ?_ | refine blk_alloc ?_ _)); refine blk_put (cs := #[.int .i64 0, .int .i64 0]) ?_ 0 _ rfl; (with_reducible repeat (first | refine blk_drewN ?_ _ | refine blk_drew ?_ | refine blk_alloc ?_ _))
    repeat (first | (with_reducible exact BR.out) | (with_reducible refine blk_drewN ?_ _) | (with_reducible refine blk_drew ?_) | (with_reducible refine blk_alloc ?_ _) | (with_reducible refine blk_far ?_ (by first | (simp; done) | (simp; omega)) _))) Tryd.underlying28 rfl (by kernel_rfl)) rfl ⟨rfl, ?_⟩
  repeat (first | (with_reducible exact HB.out) | apply below_alloc | apply pw_below_drewN | apply below_drew | refine below_set ?_ (by first | omega | (simp; done) | (simp; omega)))
set_option maxHeartbeats 4000000 in
set_option maxRecDepth 100000 in
theorem interval_Scale.calls (a b m d : Int) (r1 : Int) (r2 : Int) (r3 : Int) (w : World) (h : interval_Scale.f a b m d = some (r1, r2, r3)) :
    Calls Tryd.prog 29 #[.agg #[.int .i64 a, .int .i64 b], .int .i64 m, .int .i64 d] w fun e w' => e = .returned (.tuple #[.agg #[.int .i64 r1, .int .i64 r2], .int .i64 r3]) ∧ Below w.heap.size w w' := by
  have hu := Tryd.underlying28
  unfold interval_Scale.f at h
  by_cases hp : ScaleOk a b m d
  · rw [if_pos hp] at h
    simp only [Option.some.injEq, Prod.mk.injEq] at h
    obtain ⟨rfl, rfl, rfl⟩ := h
    obtain ⟨h1, h2, h3, h4, h5, h6, h7, h8, h9⟩ := hp
    have CK : Aside0 (interval_Check.f 1 a b = some 0) := ⟨by
      obtain ⟨a1, a2⟩ := h1
      obtain ⟨b1, b2⟩ := h3
      unfold interval_Check.f interval_out.f
      rw [if_neg (by omega), if_neg (by omega)]
      simp only [Option.bind_some, interval_Check.j0]
      rw [decide_eq_false (by omega), decide_eq_false (by omega)]
      simp only [Bool.false_eq_true, if_false]
      rw [if_neg (by omega)]⟩
    have wa : wrap64 (-a) = -a := wrap_in_ (by have := h1.1; have := h1.2; omega) (by have := h1.1; omega)
    have wb : wrap64 (-b) = -b := wrap_in_ (by have := h3.1; have := h3.2; omega) (by have := h3.1; omega)
    have wm : wrap64 (-m) = -m := wrap_in_ (by omega) (by omega)
    by_cases neg : m < 0
    · have n1 : decide (m < 0) = true := decide_eq_true neg
      rw [show interval_Scale.lo a b m d = (-b) * (-m) / d from if_pos neg] at h8 ⊢
      rw [show interval_Scale.hi a b m d = -(a * (-m) / d) from if_pos neg] at h9 ⊢
      have P1 := Aside0.mk (part_f_ (n := -b) (m := -m) (d := d) (by have := h3.1; have := h3.2; exact ⟨by omega, by omega⟩) (by omega) (by omega) h6 h7 h8)
      have P2 := Aside0.mk (part_f_ (n := a) (m := -m) (d := d) h1 (by omega) (by omega) h6 h7 (by have := h9.1; have := h9.2; exact ⟨by omega, by omega⟩))
      have wh : wrap64 (-(a * (-m) / d)) = -(a * (-m) / d) := wrap_in_ (by have := h9.1; omega) (by have := h9.2; omega)
      exact interval_Scale.neg_ a b m d _ _ w n1 CK wa wb wm (wrap_in_ (by have := h1.1; omega) (by have := h1.2; omega)) (decide_eq_false (by omega)) (decide_eq_false (by omega)) (decide_eq_false (by omega)) (decide_eq_false (by omega)) P1 P2 wh
    · have n1 : decide (m < 0) = false := decide_eq_false neg
      rw [show interval_Scale.lo a b m d = a * m / d from if_neg neg] at h8 ⊢
      rw [show interval_Scale.hi a b m d = -((-b) * m / d) from if_neg neg] at h9 ⊢
      have P1 := Aside0.mk (part_f_ (n := a) (m := m) (d := d) h1 (by omega) (by omega) h6 h7 h8)
      have P2 := Aside0.mk (part_f_ (n := -b) (m := m) (d := d) (by have := h3.1; have := h3.2; exact ⟨by omega, by omega⟩) (by omega) (by omega) h6 h7 (by have := h9.1; have := h9.2; exact ⟨by omega, by omega⟩))
      have wh : wrap64 (-((-b) * m / d)) = -((-b) * m / d) := wrap_in_ (by have := h9.1; omega) (by have := h9.2; omega)
      exact interval_Scale.pos_ a b m d _ _ w n1 CK wa wb wm (wrap_in_ (by have := h1.1; omega) (by have := h1.2; omega)) (decide_eq_false (by omega)) (decide_eq_false (by omega)) (decide_eq_false (by omega)) (decide_eq_false (by omega)) P1 P2 wh
  · rw [if_neg hp] at h; cases h

end Go.Proofs.YtgmjgnojjbajdaaDoor.JG
