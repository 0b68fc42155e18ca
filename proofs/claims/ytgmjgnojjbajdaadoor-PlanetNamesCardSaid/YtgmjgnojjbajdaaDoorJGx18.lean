-- Made by a program of this session (wip/hp.py, over the kit's print) out of the translation. Not trusted: Lean checks it.
import Derived.Test.YtgmjgnojjbajdaaDoorJGx0
import Derived.Test.YtgmjgnojjbajdaaDoorJGx1
import Derived.Test.YtgmjgnojjbajdaaDoorJGx9
import Derived.Test.YtgmjgnojjbajdaaDoorJGx17
namespace Go.Proofs.YtgmjgnojjbajdaaDoor.JG
open Go.RowKit Go.Proofs.YtgmjgnojjbajdaaDoorW.PrintWords Go.Proofs.YtgmjgnojjbajdaaDoorW.PrintLast Go.Proofs.YtgmjgnojjbajdaaDoorW.PrintMore
attribute [local go_sem] max2_int min2_int max_two min_two max_three min_three max_four min_four   -- for this text's walks alone
set_option linter.unusedVariables false
set_option linter.unusedSimpArgs false

/-! ### trig_direction: function 48 -/
set_option maxHeartbeats 8000000 in
set_option maxRecDepth 100000 in
theorem trig_direction.calls (k : Nat) (a0 : Int) (a1 : Int) (r1 : Int) (r2 : Int) (w : World) (h : trig_direction.f k a0 a1 = some (r1, r2)) :
    Calls Tryd.prog 48 #[.int .i64 a0, .int .i64 a1] w fun e w' => e = .returned (.agg #[.int .i64 r1, .int .i64 r2]) ∧ Below w.heap.size w w' := by
  have hu28 := Tryd.underlying28
  have HB := Aside0.mk (Below.refl w.heap.size w)
  have H : (if a0 < 0 then (trig_direction.j0 k a0 a1 (wrap64 (-a0)) a1) else (trig_direction.j0 k a0 a1 a0 a1)) = some (r1, r2) := h
  clear h
  have HC3 := Aside0.mk H
  clear H
  go_enter Tryd.func48, Tryd.ntmps48
  go_upto_if 13 with (first | ((with_reducible refine gate_dst (N := 4) rfl ?_); refine box_event ?hg (N := 4) ?hd (cs := #[.int .i64 0, .int .i64 0]) (t := 28) ?hr ?_; (case hd => rfl); (case hg => rfl); (case hr => first | (go_simp; done) | (go_simp; rfl)); intro gb224 hg w4 hbox hb; have BK224 := Aside0.mk hbox; have GE224 := gez_ (hbz_ HB.out) hg; replace HB := hxz_ HB hb; clear hb hbox hg))
  (try simp only [Act.put, List.setIfInBounds_toArray, List.set_cons_zero, List.set_cons_succ])
  go_cut [5] (fun v5 wc => ∃ (kq : Nat) (x5_2 : Int), v5 = .int .i64 x5_2 ∧ Aside0 (trig_direction.j0 kq a0 a1 x5_2 a1 = some (r1, r2)) ∧ Aside0 (kq ≤ k) ∧ Aside0 (wc.heap[gb224]? = some (.cells #[.int .i64 0, .int .i64 0] 28 (0, 0))) ∧ Aside0 (Below w.heap.size w wc))
  case first =>
    have H := HC3.out
    clear HC3
    by_cases c5 : a0 < 0
    · rw [if_pos c5] at H
      have c5b0 : decide (a0 < 0) = true := decide_eq_true c5
      clear c5
      (first | rw [c5b0] | (simp only [i64_w, i32_w]; rw [c5b0]) | rw [c5b1] | skip)
      have H' := Aside0.mk H
      clear H
      go_wp2
      go_meet
      case rel => exact ⟨_, (wrap64 (-a0)), (by first | rfl | (simp; done) | (simp [*]; done)), H', ⟨by first | omega | exact Nat.le_refl _⟩, ⟨(grz_ BK224.out)⟩, ⟨by repeat (first | (with_reducible first | exact HB.out | apply below_alloc | apply pw_below_drewN | apply below_drew1 | refine below_set ?_ GE224.out) | exact HB.out)⟩⟩
    · rw [if_neg c5] at H
      have c5b0 : decide (a0 < 0) = false := decide_eq_false c5
      clear c5
      (first | rw [c5b0] | (simp only [i64_w, i32_w]; rw [c5b0]) | rw [c5b1] | skip)
      have H' := Aside0.mk H
      clear H
      go_wp2
      go_meet
      case rel => exact ⟨_, (a0), (by first | rfl | (simp; done) | (simp [*]; done)), H', ⟨by first | omega | exact Nat.le_refl _⟩, ⟨(grz_ BK224.out)⟩, ⟨by repeat (first | (with_reducible first | exact HB.out | apply below_alloc | apply pw_below_drewN | apply below_drew1 | refine below_set ?_ GE224.out) | exact HB.out)⟩⟩
  case rest =>
    clear HC3
    try clear p2
    try clear c4
    try clear c5
    try clear c5b0
    obtain ⟨kq, x5_2, rfl, HA, HJ2, BK224, HB⟩ := hcut
    cases kq with
    | zero => exact absurd HA.out (by simp [trig_direction.j0])
    | succ kj2 =>
      have H := HA.out
      clear HA
      simp only [trig_direction.j0] at H
      have HC6 := Aside0.mk H
      clear H
      go_upto_if 17 with (fail)
      go_cut [6] (fun v6 wc => ∃ (kq : Nat) (x6_5 : Int), v6 = .int .i64 x6_5 ∧ Aside0 (trig_direction.j1 kq a0 a1 x5_2 x6_5 = some (r1, r2)) ∧ Aside0 (kq ≤ kj2) ∧ Aside0 (wc.heap[gb224]? = some (.cells #[.int .i64 0, .int .i64 0] 28 (0, 0))) ∧ Aside0 (Below w.heap.size w wc))
      case first =>
        have H := HC6.out
        clear HC6
        by_cases c7 : a1 < 0
        · rw [if_pos c7] at H
          have c7b0 : decide (a1 < 0) = true := decide_eq_true c7
          clear c7
          (first | rw [c7b0] | (simp only [i64_w, i32_w]; rw [c7b0]) | rw [c7b1] | skip)
          have H' := Aside0.mk H
          clear H
          go_wp2
          go_meet
          case rel => exact ⟨_, (wrap64 (-a1)), (by first | rfl | (simp; done) | (simp [*]; done)), H', ⟨by have := HJ2.out; first | omega | exact Nat.le_refl _⟩, ⟨(grz_ BK224.out)⟩, ⟨by repeat (first | (with_reducible first | exact HB.out | apply below_alloc | apply pw_below_drewN | apply below_drew1 | refine below_set ?_ GE224.out) | exact HB.out)⟩⟩
        · rw [if_neg c7] at H
          have c7b0 : decide (a1 < 0) = false := decide_eq_false c7
          clear c7
          (first | rw [c7b0] | (simp only [i64_w, i32_w]; rw [c7b0]) | rw [c7b1] | skip)
          have H' := Aside0.mk H
          clear H
          go_wp2
          go_meet
          case rel => exact ⟨_, (a1), (by first | rfl | (simp; done) | (simp [*]; done)), H', ⟨by have := HJ2.out; first | omega | exact Nat.le_refl _⟩, ⟨(grz_ BK224.out)⟩, ⟨by repeat (first | (with_reducible first | exact HB.out | apply below_alloc | apply pw_below_drewN | apply below_drew1 | refine below_set ?_ GE224.out) | exact HB.out)⟩⟩
      case rest =>
        clear HC6
        try clear p2
        try clear c4
        try clear c5
        try clear c5b0
        try clear p6
        try clear c7
        try clear c7b0
        try clear p2
        obtain ⟨kq, x6_5, rfl, HA, HJ5, BK224, HB⟩ := hcut
        cases kq with
        | zero => exact absurd HA.out (by simp [trig_direction.j1])
        | succ kj5 =>
          have H := HA.out
          clear HA
          simp only [trig_direction.j1] at H
          have HC8 := Aside0.mk H
          clear H
          go_upto_if 22 with (first | ((with_reducible refine gate_dst (N := 7) rfl ?_); refine box_event ?hg (N := 7) ?hd (cs := #[.int .i64 0, .int .i64 0]) (t := 28) ?hr ?_; (case hd => rfl); (case hg => rfl); (case hr => first | (go_simp; done) | (go_simp; rfl)); intro gb225 hg w9 hbox hb; have BK225 := Aside0.mk hbox; have GE225 := gez_ (hbz_ HB.out) hg; have NB224_225 := nbz_ (grz_ BK224.out) hg; replace BK224 := nxz_ BK224 hb; replace HB := hxz_ HB hb; clear hb hbox hg))
          (try simp only [Act.put, List.setIfInBounds_toArray, List.set_cons_zero, List.set_cons_succ])
          go_cut [] (fun wc => ∃ (kq : Nat) (x226000_7 : Int) (x226001_7 : Int), Aside0 (trig_direction.j2 kq a0 a1 x226000_7 x226001_7 = some (r1, r2)) ∧ Aside0 (kq ≤ kj5) ∧ Aside0 (wc.heap[gb224]? = some (.cells #[.int .i64 0, .int .i64 0] 28 (0, 0))) ∧ Aside0 (wc.heap[gb225]? = some (.cells #[.int .i64 x226000_7, .int .i64 x226001_7] 28 (0, 0))) ∧ Aside0 (Below w.heap.size w wc))
          case first =>
            have H := HC8.out
            clear HC8
            by_cases c10 : x5_2 ≤ x6_5
            · rw [if_pos c10] at H
              have c10b0 : decide (x5_2 ≤ x6_5) = true := decide_eq_true c10
              clear c10
              (first | rw [c10b0] | (simp only [i64_w, i32_w]; rw [c10b0]) | rw [c10b1] | skip)
              replace H := Option.bind_eq_some_iff.mp H
              obtain ⟨t226, A110, H⟩ := H
              replace H : (trig_direction.j2 kj5 a0 a1 (wrap64 (t226 - 1)) (wrap64 (t226 + 2))) = some (r1, r2) := H
              have A11 := Aside0.mk A110
              clear A110
              have H' := Aside0.mk H
              clear H
              go_wp2_with (first | ((with_reducible refine gate_callee (f := 61) rfl ?_); refine goesL_ (some 25) rfl rfl Tryd.func61 (by kernel_rfl) rfl #[.int .i64 x5_2, .int .i64 x6_5] rfl (by (try simp only [List.map_toArray, List.map_cons, List.map_nil]); first | done | rfl | (simp only [List.length_drop, List.length_take]; rfl)) ?_; (with_reducible refine (trig_acute.calls kj5 x5_2 x6_5 t226 _ A11.out).mono ?_); rintro e w12 ⟨rfl, hb⟩; refine ⟨_, rfl, ?_⟩; replace BK224 := nxz_ BK224 hb; replace BK225 := nxz_ BK225 hb; replace HB := hxz_ HB hb; (try clear hb); (try clear hb2); (try clear hk); (try clear hi); have hnb13 := NB224_225.out.symm; have hnc13 := NB224_225.out; have hcz14_0 : w12.cell? ⟨gb225, 0, none⟩ = some (.int .i64 0) := (blk_cell BK225.out 0).trans rfl; have hcz14_1 : w12.cell? ⟨gb225, 1, none⟩ = some (.int .i64 0) := (blk_cell BK225.out 1).trans rfl; have hfz14_0 := blk_frozen BK225.out 0; have hfz14_1 := blk_frozen BK225.out 1))
              go_meet
              case rel => exact ⟨_, (wrap64 (t226 - 1)), (wrap64 (t226 + 2)), H', ⟨by have := HJ2.out; have := HJ5.out; first | omega | exact Nat.le_refl _⟩, ⟨(grz_ (blk_far (grz_ (blk_far (grz_ BK224.out) NB224_225.out _)) NB224_225.out _))⟩, ⟨(grz_ (blk_put (cs := #[.int .i64 (wrap64 (t226 - 1)), .int .i64 0]) (grz_ (blk_put (cs := #[.int .i64 0, .int .i64 0]) (grz_ BK225.out) 0 _ rfl)) 1 _ rfl))⟩, ⟨by repeat (first | (with_reducible first | exact HB.out | apply below_alloc | apply pw_below_drewN | apply below_drew1 | refine below_set ?_ GE224.out | refine below_set ?_ GE225.out) | exact HB.out)⟩⟩
            · rw [if_neg c10] at H
              have c10b0 : decide (x5_2 ≤ x6_5) = false := decide_eq_false c10
              clear c10
              (first | rw [c10b0] | (simp only [i64_w, i32_w]; rw [c10b0]) | rw [c10b1] | skip)
              replace H := Option.bind_eq_some_iff.mp H
              obtain ⟨t227, A150, H⟩ := H
              replace H : (trig_direction.j2 kj5 a0 a1 (wrap64 ((wrap64 (250000000 - t227)) - 2)) (wrap64 ((wrap64 (250000000 - t227)) + 1))) = some (r1, r2) := H
              have A15 := Aside0.mk A150
              clear A150
              have H' := Aside0.mk H
              clear H
              go_wp2_with (first | ((with_reducible refine gate_callee (f := 61) rfl ?_); refine goesL_ (some 33) rfl rfl Tryd.func61 (by kernel_rfl) rfl #[.int .i64 x6_5, .int .i64 x5_2] rfl (by (try simp only [List.map_toArray, List.map_cons, List.map_nil]); first | done | rfl | (simp only [List.length_drop, List.length_take]; rfl)) ?_; (with_reducible refine (trig_acute.calls kj5 x6_5 x5_2 t227 _ A15.out).mono ?_); rintro e w16 ⟨rfl, hb⟩; refine ⟨_, rfl, ?_⟩; replace BK224 := nxz_ BK224 hb; replace BK225 := nxz_ BK225 hb; replace HB := hxz_ HB hb; (try clear hb); (try clear hb2); (try clear hk); (try clear hi); have hnb17 := NB224_225.out.symm; have hnc17 := NB224_225.out; have hcz18_0 : w16.cell? ⟨gb225, 0, none⟩ = some (.int .i64 0) := (blk_cell BK225.out 0).trans rfl; have hcz18_1 : w16.cell? ⟨gb225, 1, none⟩ = some (.int .i64 0) := (blk_cell BK225.out 1).trans rfl; have hfz18_0 := blk_frozen BK225.out 0; have hfz18_1 := blk_frozen BK225.out 1))
              go_meet
              case rel => exact ⟨_, (wrap64 ((wrap64 (250000000 - t227)) - 2)), (wrap64 ((wrap64 (250000000 - t227)) + 1)), H', ⟨by have := HJ2.out; have := HJ5.out; first | omega | exact Nat.le_refl _⟩, ⟨(grz_ (blk_far (grz_ (blk_far (grz_ BK224.out) NB224_225.out _)) NB224_225.out _))⟩, ⟨(grz_ (blk_put (cs := #[.int .i64 (wrap64 ((wrap64 (250000000 - t227)) - 2)), .int .i64 0]) (grz_ (blk_put (cs := #[.int .i64 0, .int .i64 0]) (grz_ BK225.out) 0 _ rfl)) 1 _ rfl))⟩, ⟨by repeat (first | (with_reducible first | exact HB.out | apply below_alloc | apply pw_below_drewN | apply below_drew1 | refine below_set ?_ GE224.out | refine below_set ?_ GE225.out) | exact HB.out)⟩⟩
          case rest =>
            clear HC8
            try clear c1
            try clear p2
            try clear c4
            try clear c5
            try clear c5b0
            try clear c6
            try clear p6
            try clear c7
            try clear c7b0
            try clear c10
            try clear c10b0
            try clear c13
            try clear c17
            try clear hcz14_0
            try clear hcz14_1
            try clear hcz18_0
            try clear hcz18_1
            try clear hfz14_0
            try clear hfz14_1
            try clear hfz18_0
            try clear hfz18_1
            try clear p2
            try clear p6
            obtain ⟨kq, x226000_7, x226001_7, HA, HJ7, BK224, BK225, HB⟩ := hcut
            cases kq with
            | zero => exact absurd HA.out (by simp [trig_direction.j2])
            | succ kj7 =>
              have H := HA.out
              clear HA
              simp only [trig_direction.j2] at H
              by_cases c19 : a1 < 0
              · rw [if_pos c19] at H
                have c19b0 : decide (a1 < 0) = true := decide_eq_true c19
                clear c19
                by_cases c20 : a0 < 0
                · rw [if_pos c20] at H
                  have c20b0 : decide (a0 < 0) = true := decide_eq_true c20
                  clear c20
                  replace H := Option.bind_eq_some_iff.mp H
                  obtain ⟨⟨t228, t229⟩, A210, H⟩ := H
                  replace H : (some (t228, t229)) = some (r1, r2) := H
                  have A21 := Aside0.mk A210
                  clear A210
                  simp only [Option.some.injEq, Prod.mk.injEq] at H
                  obtain ⟨rfl, rfl⟩ := H
                  have hnb22 := NB224_225.out.symm
                  have hnc22 := NB224_225.out
                  have hcz23_0 : wc.cell? ⟨gb225, 0, none⟩ = some (.int .i64 x226000_7) := (blk_cell BK225.out 0).trans rfl
                  have hcz23_1 : wc.cell? ⟨gb225, 1, none⟩ = some (.int .i64 x226001_7) := (blk_cell BK225.out 1).trans rfl
                  have hfz23_0 := blk_frozen BK225.out 0
                  have hfz23_1 := blk_frozen BK225.out 1
                  go_wp2_with (first | ((with_reducible refine gate_callee (f := 60) rfl ?_); refine goesL_ (some 53) rfl rfl Tryd.func60 (by kernel_rfl) rfl #[.agg #[.int .i64 (wrap64 (500000000 - x226001_7)), .int .i64 (wrap64 (500000000 - x226000_7))]] rfl (by (try simp only [List.map_toArray, List.map_cons, List.map_nil]); first | done | rfl | (simp only [List.length_drop, List.length_take]; rfl) | (rw [wrap_in_ (n := 500000000 - x226001_7) (by omega) (by omega)]; rw [wrap_in_ (n := 500000000 - x226000_7) (by omega) (by omega)]; rfl)) ?_; (with_reducible refine (trig_minus.calls (wrap64 (500000000 - x226001_7)) (wrap64 (500000000 - x226000_7)) t228 t229 _ A21.out).mono ?_); rintro e w24 ⟨rfl, hb⟩; refine ⟨_, rfl, ?_⟩; replace BK224 := Aside0.mk (blk_below (g := gb224) (o := .cells #[.int .i64 0, .int .i64 0] 28 (0, 0)) (grz_ (blk_far (grz_ (blk_far (grz_ BK224.out) NB224_225.out _)) NB224_225.out _)) hb); replace BK225 := Aside0.mk (blk_below (g := gb225) (o := .cells #[.int .i64 (wrap64 (500000000 - x226001_7)), .int .i64 (wrap64 (500000000 - x226000_7))] 28 (0, 0)) (grz_ (blk_put (cs := #[.int .i64 (wrap64 (500000000 - x226001_7)), .int .i64 x226001_7]) (grz_ (blk_put (cs := #[.int .i64 x226000_7, .int .i64 x226001_7]) (grz_ BK225.out) 0 _ rfl)) 1 _ rfl)) hb); replace HB := Aside0.mk (below_step (by repeat (first | (with_reducible first | exact HB.out | apply below_alloc | apply pw_below_drewN | apply below_drew1 | refine below_set ?_ GE225.out) | exact HB.out)) hb); (try clear hb); (try clear hb2); (try clear hk); (try clear hi); have hcz25_0 : w24.cell? ⟨gb225, 0, none⟩ = some (.int .i64 (wrap64 (500000000 - x226001_7))) := (blk_cell BK225.out 0).trans rfl; have hcz25_1 : w24.cell? ⟨gb225, 1, none⟩ = some (.int .i64 (wrap64 (500000000 - x226000_7))) := (blk_cell BK225.out 1).trans rfl; have hfz25_0 := blk_frozen BK225.out 0; have hfz25_1 := blk_frozen BK225.out 1; have hcz26_0 : w24.cell? ⟨gb224, 0, none⟩ = some (.int .i64 0) := (blk_cell BK224.out 0).trans rfl; have hcz26_1 : w24.cell? ⟨gb224, 1, none⟩ = some (.int .i64 0) := (blk_cell BK224.out 1).trans rfl; have hfz26_0 := blk_frozen BK224.out 0; have hfz26_1 := blk_frozen BK224.out 1))
                  refine bodyPost_ret (results_cell_row rfl _ _ gb224 28 #[.int .i64 t228, .int .i64 t229] (0, 0) _ rfl (grz_ (blk_put (cs := #[.int .i64 t228, .int .i64 0]) (grz_ (blk_put (cs := #[.int .i64 0, .int .i64 0]) (grz_ (blk_far (grz_ (blk_far (grz_ BK224.out) NB224_225.out _)) NB224_225.out _)) 0 _ rfl)) 1 _ rfl)) Tryd.underlying28 rfl (by kernel_rfl)) rfl ?_
                  exact ⟨by first | rfl | (simp [errW_none, errW_some] <;> rfl) | (simp [*, errW_none, errW_some] <;> rfl), by repeat (first | (with_reducible first | exact HB.out | apply below_alloc | apply pw_below_drewN | apply below_drew1 | refine below_set ?_ GE224.out | refine below_set ?_ GE225.out) | exact HB.out)⟩
                · rw [if_neg c20] at H
                  have c20b0 : decide (a0 < 0) = false := decide_eq_false c20
                  clear c20
                  simp only [Option.some.injEq, Prod.mk.injEq] at H
                  obtain ⟨rfl, rfl⟩ := H
                  have hnb27 := NB224_225.out.symm
                  have hnc27 := NB224_225.out
                  have hcz28_0 : wc.cell? ⟨gb225, 0, none⟩ = some (.int .i64 x226000_7) := (blk_cell BK225.out 0).trans rfl
                  have hcz28_1 : wc.cell? ⟨gb225, 1, none⟩ = some (.int .i64 x226001_7) := (blk_cell BK225.out 1).trans rfl
                  have hfz28_0 := blk_frozen BK225.out 0
                  have hfz28_1 := blk_frozen BK225.out 1
                  have hcz29_0 : wc.cell? ⟨gb224, 0, none⟩ = some (.int .i64 0) := (blk_cell BK224.out 0).trans rfl
                  have hcz29_1 : wc.cell? ⟨gb224, 1, none⟩ = some (.int .i64 0) := (blk_cell BK224.out 1).trans rfl
                  have hfz29_0 := blk_frozen BK224.out 0
                  have hfz29_1 := blk_frozen BK224.out 1
                  go_wp2
                  refine bodyPost_ret (results_cell_row rfl _ _ gb224 28 #[.int .i64 (wrap64 (500000000 - x226001_7)), .int .i64 (wrap64 (500000000 - x226000_7))] (0, 0) _ rfl (grz_ (blk_put (cs := #[.int .i64 (wrap64 (500000000 - x226001_7)), .int .i64 0]) (grz_ (blk_put (cs := #[.int .i64 0, .int .i64 0]) (grz_ (blk_far (grz_ (blk_far (grz_ BK224.out) NB224_225.out _)) NB224_225.out _)) 0 _ rfl)) 1 _ rfl)) Tryd.underlying28 rfl (by kernel_rfl)) rfl ?_
                  exact ⟨by first | rfl | (simp [errW_none, errW_some] <;> rfl) | (simp [*, errW_none, errW_some] <;> rfl), by repeat (first | (with_reducible first | exact HB.out | apply below_alloc | apply pw_below_drewN | apply below_drew1 | refine below_set ?_ GE224.out | refine below_set ?_ GE225.out) | exact HB.out)⟩
              · rw [if_neg c19] at H
                have c19b0 : decide (a1 < 0) = false := decide_eq_false c19
                clear c19
                by_cases c30 : a0 < 0
                · rw [if_pos c30] at H
                  have c30b0 : decide (a0 < 0) = true := decide_eq_true c30
                  clear c30
                  replace H := Option.bind_eq_some_iff.mp H
                  obtain ⟨⟨t230, t231⟩, A310, H⟩ := H
                  replace H : (some (t230, t231)) = some (r1, r2) := H
                  have A31 := Aside0.mk A310
                  clear A310
                  simp only [Option.some.injEq, Prod.mk.injEq] at H
                  obtain ⟨rfl, rfl⟩ := H
                  have hnb32 := NB224_225.out.symm
                  have hnc32 := NB224_225.out
                  have hcz33_0 : wc.cell? ⟨gb225, 0, none⟩ = some (.int .i64 x226000_7) := (blk_cell BK225.out 0).trans rfl
                  have hcz33_1 : wc.cell? ⟨gb225, 1, none⟩ = some (.int .i64 x226001_7) := (blk_cell BK225.out 1).trans rfl
                  have hfz33_0 := blk_frozen BK225.out 0
                  have hfz33_1 := blk_frozen BK225.out 1
                  go_wp2_with (first | ((with_reducible refine gate_callee (f := 60) rfl ?_); refine goesL_ (some 53) rfl rfl Tryd.func60 (by kernel_rfl) rfl #[.agg #[.int .i64 x226000_7, .int .i64 x226001_7]] rfl (by (try simp only [List.map_toArray, List.map_cons, List.map_nil]); first | done | rfl | (simp only [List.length_drop, List.length_take]; rfl)) ?_; (with_reducible refine (trig_minus.calls x226000_7 x226001_7 t230 t231 _ A31.out).mono ?_); rintro e w34 ⟨rfl, hb⟩; refine ⟨_, rfl, ?_⟩; replace BK224 := nxz_ BK224 hb; replace BK225 := nxz_ BK225 hb; replace HB := hxz_ HB hb; (try clear hb); (try clear hb2); (try clear hk); (try clear hi); have hcz35_0 : w34.cell? ⟨gb225, 0, none⟩ = some (.int .i64 x226000_7) := (blk_cell BK225.out 0).trans rfl; have hcz35_1 : w34.cell? ⟨gb225, 1, none⟩ = some (.int .i64 x226001_7) := (blk_cell BK225.out 1).trans rfl; have hfz35_0 := blk_frozen BK225.out 0; have hfz35_1 := blk_frozen BK225.out 1; have hcz36_0 : w34.cell? ⟨gb224, 0, none⟩ = some (.int .i64 0) := (blk_cell BK224.out 0).trans rfl; have hcz36_1 : w34.cell? ⟨gb224, 1, none⟩ = some (.int .i64 0) := (blk_cell BK224.out 1).trans rfl; have hfz36_0 := blk_frozen BK224.out 0; have hfz36_1 := blk_frozen BK224.out 1))
                  refine bodyPost_ret (results_cell_row rfl _ _ gb224 28 #[.int .i64 t230, .int .i64 t231] (0, 0) _ rfl (grz_ (blk_put (cs := #[.int .i64 t230, .int .i64 0]) (grz_ (blk_put (cs := #[.int .i64 0, .int .i64 0]) (grz_ (blk_far (grz_ (blk_far (grz_ BK224.out) NB224_225.out _)) NB224_225.out _)) 0 _ rfl)) 1 _ rfl)) Tryd.underlying28 rfl (by kernel_rfl)) rfl ?_
                  exact ⟨by first | rfl | (simp [errW_none, errW_some] <;> rfl) | (simp [*, errW_none, errW_some] <;> rfl), by repeat (first | (with_reducible first | exact HB.out | apply below_alloc | apply pw_below_drewN | apply below_drew1 | refine below_set ?_ GE224.out | refine below_set ?_ GE225.out) | exact HB.out)⟩
                · rw [if_neg c30] at H
                  have c30b0 : decide (a0 < 0) = false := decide_eq_false c30
                  clear c30
                  simp only [Option.some.injEq, Prod.mk.injEq] at H
                  obtain ⟨rfl, rfl⟩ := H
                  have hnb37 := NB224_225.out.symm
                  have hnc37 := NB224_225.out
                  have hcz38_0 : wc.cell? ⟨gb225, 0, none⟩ = some (.int .i64 x226000_7) := (blk_cell BK225.out 0).trans rfl
                  have hcz38_1 : wc.cell? ⟨gb225, 1, none⟩ = some (.int .i64 x226001_7) := (blk_cell BK225.out 1).trans rfl
                  have hfz38_0 := blk_frozen BK225.out 0
                  have hfz38_1 := blk_frozen BK225.out 1
                  have hcz39_0 : wc.cell? ⟨gb224, 0, none⟩ = some (.int .i64 0) := (blk_cell BK224.out 0).trans rfl
                  have hcz39_1 : wc.cell? ⟨gb224, 1, none⟩ = some (.int .i64 0) := (blk_cell BK224.out 1).trans rfl
                  have hfz39_0 := blk_frozen BK224.out 0
                  have hfz39_1 := blk_frozen BK224.out 1
                  go_wp2
                  refine bodyPost_ret (results_cell_row rfl _ _ gb224 28 #[.int .i64 x226000_7, .int .i64 x226001_7] (0, 0) _ rfl (grz_ (blk_put (cs := #[.int .i64 x226000_7, .int .i64 0]) (grz_ (blk_put (cs := #[.int .i64 0, .int .i64 0]) (grz_ BK224.out) 0 _ rfl)) 1 _ rfl)) Tryd.underlying28 rfl (by kernel_rfl)) rfl ?_
                  exact ⟨by first | rfl | (simp [errW_none, errW_some] <;> rfl) | (simp [*, errW_none, errW_some] <;> rfl), by repeat (first | (with_reducible first | exact HB.out | apply below_alloc | apply pw_below_drewN | apply below_drew1 | refine below_set ?_ GE224.out | refine below_set ?_ GE225.out) | exact HB.out)⟩

end Go.Proofs.YtgmjgnojjbajdaaDoor.JG
