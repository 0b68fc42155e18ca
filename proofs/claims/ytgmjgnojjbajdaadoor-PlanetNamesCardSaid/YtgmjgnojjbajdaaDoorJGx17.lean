-- Made by a program of this session (wip/hp.py, over the kit's print) out of the translation. Not trusted: Lean checks it.
import Derived.Test.YtgmjgnojjbajdaaDoorJGx0
import Derived.Test.YtgmjgnojjbajdaaDoorJGx1
import Derived.Test.YtgmjgnojjbajdaaDoorJGx9
import Derived.Test.YtgmjgnojjbajdaaDoorJGx16
namespace Go.Proofs.YtgmjgnojjbajdaaDoor.JG
open Go.RowKit Go.Proofs.YtgmjgnojjbajdaaDoorW.PrintWords Go.Proofs.YtgmjgnojjbajdaaDoorW.PrintLast Go.Proofs.YtgmjgnojjbajdaaDoorW.PrintMore
attribute [local go_sem] max2_int min2_int max_two min_two max_three min_three max_four min_four   -- for this text's walks alone
set_option linter.unusedVariables false
set_option linter.unusedSimpArgs false

/-! ### trig_acute: function 61 -/
set_option maxHeartbeats 8000000 in
set_option maxRecDepth 100000 in
theorem trig_acute.calls (k : Nat) (a0 : Int) (a1 : Int) (r : Int) (w : World) (h : trig_acute.f k a0 a1 = some r) :
    Calls Tryd.prog 61 #[.int .i64 a0, .int .i64 a1] w fun e w' => e = .returned (.int .i64 r) ∧ Below w.heap.size w w' := by
  have HB := Aside0.mk (Below.refl w.heap.size w)
  have H : (trig_acute.l0 k a0 a1) = some r := h
  clear h
  have H' := Aside0.mk H
  clear H
  go_enter Tryd.func61, Tryd.ntmps61
  go_wp2
  go_loopg [0, 1] k (fun kq v0 v1 w' => ∃ (x0_1 : Int) (x1_1 : Int), v0 = .int .i64 x0_1 ∧ v1 = .int .i64 x1_1 ∧ Aside0 (trig_acute.l0 kq x0_1 x1_1 = some r) ∧ Aside0 (kq ≤ k) ∧ Aside0 (Below w.heap.size w w'))
  case atStart => exact ⟨(a0), (a1), (by first | rfl | (simp; done) | (simp [*]; done)), (by first | rfl | (simp; done) | (simp [*]; done)), H', ⟨Nat.le_refl _⟩, ⟨by repeat (first | (with_reducible first | exact HB.out | apply below_alloc | apply pw_below_drewN | apply below_drew1) | exact HB.out)⟩⟩
  case round =>
    clear H'
    try clear p2
    obtain ⟨x0_1, x1_1, rfl, rfl, HA, HK1, HB⟩ := hrel
    cases gk with
    | zero => exact absurd HA.out (by simp [trig_acute.l0])
    | succ k1 =>
      have H := HA.out
      clear HA
      simp only [trig_acute.l0] at H
      by_cases c3 : x1_1 ≥ 2147483648
      · rw [if_pos c3] at H
        have c3b0 : decide (2147483648 ≤ x1_1) = true := decide_eq_true c3
        clear c3
        have H' := Aside0.mk H
        clear H
        go_wp2
        go_roundg k1
        case measure => have := HK1.out; omega
        case rel => exact ⟨(x0_1 / 2), (x1_1 / 2), (by first | rfl | (simp; done) | (simp [*]; done)), (by first | rfl | (simp; done) | (simp [*]; done)), H', ⟨by have := HK1.out; omega⟩, ⟨by repeat (first | (with_reducible first | exact HB.out | apply below_alloc | apply pw_below_drewN | apply below_drew1) | exact HB.out)⟩⟩
      · rw [if_neg c3] at H
        have c3b0 : decide (2147483648 ≤ x1_1) = false := decide_eq_false c3
        clear c3
        have H' := Aside0.mk H
        clear H
        go_wp2
        go_loopg [0, 1] k1 (fun kq v0 v1 w' => ∃ (x0_2 : Int) (x1_2 : Int), v0 = .int .i64 x0_2 ∧ v1 = .int .i64 x1_2 ∧ Aside0 (trig_acute.l1 kq x0_2 x1_2 = some r) ∧ Aside0 (kq ≤ k1) ∧ Aside0 (Below w.heap.size w w'))
        case atStart => exact ⟨(x0_1), (x1_1), (by first | rfl | (simp; done) | (simp [*]; done)), (by first | rfl | (simp; done) | (simp [*]; done)), H', ⟨Nat.le_refl _⟩, ⟨by repeat (first | (with_reducible first | exact HB.out | apply below_alloc | apply pw_below_drewN | apply below_drew1) | exact HB.out)⟩⟩
        case round =>
          clear H'
          try clear p2
          try clear c3
          try clear c3b0
          try clear p2
          obtain ⟨x0_2, x1_2, rfl, rfl, HA, HK2, HB⟩ := hrel
          cases gk with
          | zero => exact absurd HA.out (by simp [trig_acute.l1])
          | succ k2 =>
            have H := HA.out
            clear HA
            simp only [trig_acute.l1] at H
            by_cases c4 : x1_2 < 1073741824
            · rw [if_pos c4] at H
              have c4b0 : decide (x1_2 < 1073741824) = true := decide_eq_true c4
              clear c4
              have H' := Aside0.mk H
              clear H
              go_wp2
              go_roundg k2
              case measure => have := HK1.out; have := HK2.out; omega
              case rel => exact ⟨(wrap64 (x0_2 * 2)), (wrap64 (x1_2 * 2)), (by first | rfl | (simp; done) | (simp [*]; done)), (by first | rfl | (simp; done) | (simp [*]; done)), H', ⟨by have := HK1.out; have := HK2.out; omega⟩, ⟨by repeat (first | (with_reducible first | exact HB.out | apply below_alloc | apply pw_below_drewN | apply below_drew1) | exact HB.out)⟩⟩
            · rw [if_neg c4] at H
              have c4b0 : decide (x1_2 < 1073741824) = false := decide_eq_false c4
              clear c4
              by_cases c5 : x1_2 = 0
              · rw [if_pos c5] at H
                exact absurd H (by simp)
              · rw [if_neg c5] at H
                have c5b0 : (x1_2 == 0) = false := beq_eq_false_iff_ne.mpr c5
                have c5b1 : (x1_2 != 0) = true := bne_iff_ne.mpr c5
                have H' := Aside0.mk H
                clear H
                go_wp2
                go_loopg [6, 30] k2 (fun kq v6 v30 w' => ∃ (x6_3 : Int) (x30_3 : Int), v6 = .int .i64 x6_3 ∧ v30 = .int .i64 x30_3 ∧ Aside0 (trig_acute.l2 kq (wrap64 (Int.tdiv (wrap64 (x0_2 * 2147483648)) x1_2)) x6_3 x30_3 = some r) ∧ Aside0 (kq ≤ k2) ∧ Aside0 (Below w.heap.size w w'))
                case atStart => exact ⟨((wrap64 ((wrap64 (Int.tdiv (wrap64 (x0_2 * 2147483648)) x1_2)) * 125000000)) / 2147483648), (0), (by first | rfl | (simp; done) | (simp [*]; done)), (by first | rfl | (simp; done) | (simp [*]; done)), H', ⟨Nat.le_refl _⟩, ⟨by repeat (first | (with_reducible first | exact HB.out | apply below_alloc | apply pw_below_drewN | apply below_drew1) | exact HB.out)⟩⟩
                case round =>
                  clear H'
                  try clear p2
                  try clear c3
                  try clear c3b0
                  try clear c4
                  try clear c4b0
                  try clear c5
                  try clear c5b0
                  try clear c5b1
                  try clear p2
                  obtain ⟨x6_3, x30_3, rfl, rfl, HA, HK3, HB⟩ := hrel
                  cases gk with
                  | zero => exact absurd HA.out (by simp [trig_acute.l2])
                  | succ k3 =>
                    have H := HA.out
                    clear HA
                    simp only [trig_acute.l2] at H
                    by_cases c6 : x30_3 < 4
                    · rw [if_pos c6] at H
                      have c6b0 : decide (x30_3 < 4) = true := decide_eq_true c6
                      clear c6
                      replace H := Option.bind_eq_some_iff.mp H
                      obtain ⟨⟨t220, t221⟩, A70, H⟩ := H
                      replace H : (if (wrap64 (Int.tdiv (wrap64 ((wrap64 ((t221 / 1073741824) * 2147483648)) + (wrap64 ((wrap64 (Int.tdiv (wrap64 (x0_2 * 2147483648)) x1_2)) * (t220 / 1073741824))))) 159154943)) = 0 then (none) else (trig_acute.l2 k3 (wrap64 (Int.tdiv (wrap64 (x0_2 * 2147483648)) x1_2)) (mx 0 (mn 125000000 (wrap64 (x6_3 - (wrap64 (Int.tdiv (wrap64 ((wrap64 ((t220 / 1073741824) * 2147483648)) - (wrap64 ((wrap64 (Int.tdiv (wrap64 (x0_2 * 2147483648)) x1_2)) * (t221 / 1073741824))))) (wrap64 (Int.tdiv (wrap64 ((wrap64 ((t221 / 1073741824) * 2147483648)) + (wrap64 ((wrap64 (Int.tdiv (wrap64 (x0_2 * 2147483648)) x1_2)) * (t220 / 1073741824))))) 159154943)))))))) (wrap64 (x30_3 + 1)))) = some r := H
                      have A7 := Aside0.mk A70
                      clear A70
                      by_cases c8 : (wrap64 (Int.tdiv (wrap64 ((wrap64 ((t221 / 1073741824) * 2147483648)) + (wrap64 ((wrap64 (Int.tdiv (wrap64 (x0_2 * 2147483648)) x1_2)) * (t220 / 1073741824))))) 159154943)) = 0
                      · rw [if_pos c8] at H
                        exact absurd H (by simp)
                      · rw [if_neg c8] at H
                        have c8b0 : ((wrap64 (Int.tdiv (wrap64 ((wrap64 ((t221 / 1073741824) * 2147483648)) + (wrap64 ((wrap64 (Int.tdiv (wrap64 (x0_2 * 2147483648)) x1_2)) * (t220 / 1073741824))))) 159154943)) == 0) = false := beq_eq_false_iff_ne.mpr c8
                        have c8b1 : ((wrap64 (Int.tdiv (wrap64 ((wrap64 ((t221 / 1073741824) * 2147483648)) + (wrap64 ((wrap64 (Int.tdiv (wrap64 (x0_2 * 2147483648)) x1_2)) * (t220 / 1073741824))))) 159154943)) != 0) = true := bne_iff_ne.mpr c8
                        obtain ⟨ji9, hji9⟩ : ∃ j_ : Int, (mn 125000000 (wrap64 (x6_3 - (wrap64 (Int.tdiv (wrap64 ((wrap64 ((t220 / 1073741824) * 2147483648)) - (wrap64 ((wrap64 (Int.tdiv (wrap64 (x0_2 * 2147483648)) x1_2)) * (t221 / 1073741824))))) (wrap64 (Int.tdiv (wrap64 ((wrap64 ((t221 / 1073741824) * 2147483648)) + (wrap64 ((wrap64 (Int.tdiv (wrap64 (x0_2 * 2147483648)) x1_2)) * (t220 / 1073741824))))) 159154943))))))) = j_ := ⟨_, rfl⟩
                        replace H : (trig_acute.l2 k3 (wrap64 (Int.tdiv (wrap64 (x0_2 * 2147483648)) x1_2)) (mx 0 (ji9)) (wrap64 (x30_3 + 1))) = some r := by first | (rw [hji9] at H; exact H) | (simp only [hji9] at H ⊢; exact H)
                        (try rw [hji9] at A7)
                        have hji9_ : (if (wrap64 (x6_3 - (wrap64 (Int.tdiv (wrap64 ((wrap64 ((t220 / 1073741824) * 2147483648)) - (wrap64 ((wrap64 (Int.tdiv (wrap64 (x0_2 * 2147483648)) x1_2)) * (t221 / 1073741824))))) (wrap64 (Int.tdiv (wrap64 ((wrap64 ((t221 / 1073741824) * 2147483648)) + (wrap64 ((wrap64 (Int.tdiv (wrap64 (x0_2 * 2147483648)) x1_2)) * (t220 / 1073741824))))) 159154943)))))) < 125000000 then (wrap64 (x6_3 - (wrap64 (Int.tdiv (wrap64 ((wrap64 ((t220 / 1073741824) * 2147483648)) - (wrap64 ((wrap64 (Int.tdiv (wrap64 (x0_2 * 2147483648)) x1_2)) * (t221 / 1073741824))))) (wrap64 (Int.tdiv (wrap64 ((wrap64 ((t221 / 1073741824) * 2147483648)) + (wrap64 ((wrap64 (Int.tdiv (wrap64 (x0_2 * 2147483648)) x1_2)) * (t220 / 1073741824))))) 159154943)))))) else 125000000) = ji9 := hji9
                        obtain ⟨ji10, hji10⟩ : ∃ j_ : Int, (mx 0 (ji9)) = j_ := ⟨_, rfl⟩
                        replace H : (trig_acute.l2 k3 (wrap64 (Int.tdiv (wrap64 (x0_2 * 2147483648)) x1_2)) ji10 (wrap64 (x30_3 + 1))) = some r := by first | (rw [hji10] at H; exact H) | (simp only [hji10] at H ⊢; exact H)
                        (try rw [hji10] at A7)
                        have hji10_ : (if 0 < (ji9) then (ji9) else 0) = ji10 := hji10
                        have H' := Aside0.mk H
                        clear H
                        go_wp2_with (first | ((with_reducible refine gate_callee (f := 58) rfl ?_); refine goesL_ (some 34) rfl rfl Tryd.func58 (by kernel_rfl) rfl #[.int .i64 x6_3] rfl (by (try simp only [List.map_toArray, List.map_cons, List.map_nil]); first | done | rfl | (simp only [List.length_drop, List.length_take]; rfl)) ?_; (with_reducible refine (trig_octant.calls k3 x6_3 t220 t221 _ A7.out).mono ?_); rintro e w11 ⟨rfl, hb⟩; refine ⟨_, rfl, ?_⟩; replace HB := hxz_ HB hb; (try clear hb); (try clear hb2); (try clear hk); (try clear hi)))
                        go_roundg k3
                        case measure => have := HK1.out; have := HK2.out; have := HK3.out; omega
                        case rel => exact ⟨(ji10), (wrap64 (x30_3 + 1)), (by first | rfl | (simp; done) | (simp only [← hji10] <;> (first | rfl | simp)) | (simp [*]; done)), (by first | rfl | (simp; done) | (simp [*]; done)), H', ⟨by have := HK1.out; have := HK2.out; have := HK3.out; omega⟩, ⟨by repeat (first | (with_reducible first | exact HB.out | apply below_alloc | apply pw_below_drewN | apply below_drew1) | exact HB.out)⟩⟩
                    · rw [if_neg c6] at H
                      have c6b0 : decide (x30_3 < 4) = false := decide_eq_false c6
                      clear c6
                      have HC12 := Aside0.mk H
                      clear H
                      go_upto_block 6 with (fail)
                      go_cut [6] (fun v6 wc => ∃ (kq : Nat) (x6_11 : Int), v6 = .int .i64 x6_11 ∧ Aside0 (trig_acute.j4 kq (wrap64 (Int.tdiv (wrap64 (x0_2 * 2147483648)) x1_2)) x6_11 = some r) ∧ Aside0 (kq ≤ k3) ∧ Aside0 (Below w.heap.size w wc))
                      case first =>
                        have H := HC12.out
                        clear HC12
                        have H' := Aside0.mk H
                        clear H
                        go_wp2
                        go_loopg [6] k3 (fun kq v6 w' => ∃ (x6_4 : Int), v6 = .int .i64 x6_4 ∧ Aside0 (trig_acute.l3 kq (wrap64 (Int.tdiv (wrap64 (x0_2 * 2147483648)) x1_2)) x6_4 = some r) ∧ Aside0 (kq ≤ k3) ∧ Aside0 (Below w.heap.size w w'))
                        case atStart => exact ⟨(x6_3), (by first | rfl | (simp; done) | (simp [*]; done)), H', ⟨Nat.le_refl _⟩, ⟨by repeat (first | (with_reducible first | exact HB.out | apply below_alloc | apply pw_below_drewN | apply below_drew1) | exact HB.out)⟩⟩
                        case round =>
                          clear H'
                          try clear p2
                          try clear c3
                          try clear c3b0
                          try clear c4
                          try clear c4b0
                          try clear c5
                          try clear c5b0
                          try clear c5b1
                          try clear c6
                          try clear c6b0
                          try clear p6
                          try clear c8
                          try clear c8b0
                          try clear c8b1
                          try clear p2
                          obtain ⟨x6_4, rfl, HA, HK4, HB⟩ := hrel
                          cases gk with
                          | zero => exact absurd HA.out (by simp [trig_acute.l3])
                          | succ k4 =>
                            have H := HA.out
                            clear HA
                            simp only [trig_acute.l3] at H
                            by_cases c13 : x6_4 > 0
                            · rw [if_pos c13] at H
                              have c13b0 : decide (0 < x6_4) = true := decide_eq_true c13
                              clear c13
                              (first | rw [c13b0] | (simp only [i64_w, i32_w]; rw [c13b0]) | rw [c13b1] | skip)
                              replace H := Option.bind_eq_some_iff.mp H
                              obtain ⟨t222, A140, H⟩ := H
                              replace H : (if t222 = true then (trig_acute.j4 k4 (wrap64 (Int.tdiv (wrap64 (x0_2 * 2147483648)) x1_2)) x6_4) else (trig_acute.l3 k4 (wrap64 (Int.tdiv (wrap64 (x0_2 * 2147483648)) x1_2)) (wrap64 (x6_4 - 1)))) = some r := H
                              have A14 := Aside0.mk A140
                              clear A140
                              by_cases c15 : t222 = true
                              · subst c15
                                have H1 : (trig_acute.j4 k4 (wrap64 (Int.tdiv (wrap64 (x0_2 * 2147483648)) x1_2)) x6_4) = some r := by rw [if_pos rfl] at H; exact H
                                clear H
                                have H := H1
                                clear H1
                                have H' := Aside0.mk H
                                clear H
                                go_wp2_with (first | (go_at_call 66; (with_reducible refine (trig_reaches.calls k4 (wrap64 (Int.tdiv (wrap64 (x0_2 * 2147483648)) x1_2)) x6_4 true _ A14.out).mono ?_); rintro e w16 ⟨rfl, hb⟩; replace HB := hxz_ HB hb; (try clear hb); (try clear hb2); (try clear hk); (try clear hi)))
                                go_meet
                                case rel => exact ⟨_, (x6_4), (by first | rfl | (simp; done) | (simp [*]; done)), H', ⟨by have := HK1.out; have := HK2.out; have := HK3.out; have := HK4.out; first | omega | exact Nat.le_refl _⟩, ⟨by repeat (first | (with_reducible first | exact HB.out | apply below_alloc | apply pw_below_drewN | apply below_drew1) | exact HB.out)⟩⟩
                              · replace c15 := Bool.eq_false_iff.mpr c15
                                subst c15
                                have H1 : (trig_acute.l3 k4 (wrap64 (Int.tdiv (wrap64 (x0_2 * 2147483648)) x1_2)) (wrap64 (x6_4 - 1))) = some r := by rw [if_neg (show ¬ (false = true) by decide)] at H; exact H
                                clear H
                                have H := H1
                                clear H1
                                have H' := Aside0.mk H
                                clear H
                                go_wp2_with (first | (go_at_call 66; (with_reducible refine (trig_reaches.calls k4 (wrap64 (Int.tdiv (wrap64 (x0_2 * 2147483648)) x1_2)) x6_4 false _ A14.out).mono ?_); rintro e w17 ⟨rfl, hb⟩; replace HB := hxz_ HB hb; (try clear hb); (try clear hb2); (try clear hk); (try clear hi)))
                                go_roundg k4
                                case measure => have := HK1.out; have := HK2.out; have := HK3.out; have := HK4.out; omega
                                case rel => exact ⟨(wrap64 (x6_4 - 1)), (by first | rfl | (simp; done) | (simp [*]; done)), H', ⟨by have := HK1.out; have := HK2.out; have := HK3.out; have := HK4.out; omega⟩, ⟨by repeat (first | (with_reducible first | exact HB.out | apply below_alloc | apply pw_below_drewN | apply below_drew1) | exact HB.out)⟩⟩
                            · rw [if_neg c13] at H
                              have c13b0 : decide (0 < x6_4) = false := decide_eq_false c13
                              clear c13
                              (first | rw [c13b0] | (simp only [i64_w, i32_w]; rw [c13b0]) | rw [c13b1] | skip)
                              have H' := Aside0.mk H
                              clear H
                              go_wp2
                              go_meet
                              case rel => exact ⟨_, (x6_4), (by first | rfl | (simp; done) | (simp [*]; done)), H', ⟨by have := HK1.out; have := HK2.out; have := HK3.out; have := HK4.out; first | omega | exact Nat.le_refl _⟩, ⟨by repeat (first | (with_reducible first | exact HB.out | apply below_alloc | apply pw_below_drewN | apply below_drew1) | exact HB.out)⟩⟩
                      case rest =>
                        clear HC12
                        try clear c1
                        try clear p2
                        try clear c3
                        try clear c3b0
                        try clear c4
                        try clear c4b0
                        try clear c5
                        try clear c5b0
                        try clear c5b1
                        try clear c6
                        try clear c6b0
                        try clear p6
                        try clear c8
                        try clear c8b0
                        try clear c8b1
                        try clear c13
                        try clear c13b0
                        try clear c15
                        try clear p2
                        try clear p6
                        obtain ⟨kq, x6_11, rfl, HA, HJ11, HB⟩ := hcut
                        cases kq with
                        | zero => exact absurd HA.out (by simp [trig_acute.j4])
                        | succ kj11 =>
                          have H := HA.out
                          clear HA
                          simp only [trig_acute.j4] at H
                          have H' := Aside0.mk H
                          clear H
                          go_wp2
                          go_loopg [6] kj11 (fun kq v6 w' => ∃ (x6_5 : Int), v6 = .int .i64 x6_5 ∧ Aside0 (trig_acute.l4 kq (wrap64 (Int.tdiv (wrap64 (x0_2 * 2147483648)) x1_2)) x6_5 = some r) ∧ Aside0 (kq ≤ kj11) ∧ Aside0 (Below w.heap.size w w'))
                          case atStart => exact ⟨(x6_11), (by first | rfl | (simp; done) | (simp [*]; done)), H', ⟨Nat.le_refl _⟩, ⟨by repeat (first | (with_reducible first | exact HB.out | apply below_alloc | apply pw_below_drewN | apply below_drew1) | exact HB.out)⟩⟩
                          case round =>
                            clear H'
                            try clear c1
                            try clear p2
                            try clear c3
                            try clear c3b0
                            try clear c4
                            try clear c4b0
                            try clear c5
                            try clear c5b0
                            try clear c5b1
                            try clear c6
                            try clear c6b0
                            try clear p6
                            try clear c8
                            try clear c8b0
                            try clear c8b1
                            try clear c13
                            try clear c13b0
                            try clear c15
                            try clear p2
                            try clear p6
                            obtain ⟨x6_5, rfl, HA, HK5, HB⟩ := hrel
                            cases gk with
                            | zero => exact absurd HA.out (by simp [trig_acute.l4])
                            | succ k5 =>
                              have H := HA.out
                              clear HA
                              simp only [trig_acute.l4] at H
                              by_cases c18 : x6_5 < 125000000
                              · rw [if_pos c18] at H
                                have c18b0 : decide (x6_5 < 125000000) = true := decide_eq_true c18
                                clear c18
                                replace H := Option.bind_eq_some_iff.mp H
                                obtain ⟨t223, A190, H⟩ := H
                                replace H : (if t223 = true then (trig_acute.l4 k5 (wrap64 (Int.tdiv (wrap64 (x0_2 * 2147483648)) x1_2)) (wrap64 (x6_5 + 1))) else (some x6_5)) = some r := H
                                have A19 := Aside0.mk A190
                                clear A190
                                by_cases c20 : t223 = true
                                · subst c20
                                  have H1 : (trig_acute.l4 k5 (wrap64 (Int.tdiv (wrap64 (x0_2 * 2147483648)) x1_2)) (wrap64 (x6_5 + 1))) = some r := by rw [if_pos rfl] at H; exact H
                                  clear H
                                  have H := H1
                                  clear H1
                                  have H' := Aside0.mk H
                                  clear H
                                  go_wp2_with (first | (go_at_call 66; (with_reducible refine (trig_reaches.calls k5 (wrap64 (Int.tdiv (wrap64 (x0_2 * 2147483648)) x1_2)) (wrap64 (x6_5 + 1)) true _ A19.out).mono ?_); rintro e w21 ⟨rfl, hb⟩; replace HB := hxz_ HB hb; (try clear hb); (try clear hb2); (try clear hk); (try clear hi)))
                                  go_roundg k5
                                  case measure => have := HK1.out; have := HK2.out; have := HK3.out; have := HJ11.out; have := HK5.out; omega
                                  case rel => exact ⟨(wrap64 (x6_5 + 1)), (by first | rfl | (simp; done) | (simp [*]; done)), H', ⟨by have := HK1.out; have := HK2.out; have := HK3.out; have := HJ11.out; have := HK5.out; omega⟩, ⟨by repeat (first | (with_reducible first | exact HB.out | apply below_alloc | apply pw_below_drewN | apply below_drew1) | exact HB.out)⟩⟩
                                · replace c20 := Bool.eq_false_iff.mpr c20
                                  subst c20
                                  have H1 : (some x6_5) = some r := by rw [if_neg (show ¬ (false = true) by decide)] at H; exact H
                                  clear H
                                  have H := H1
                                  clear H1
                                  obtain rfl := Option.some.inj H
                                  go_wp2_with (first | (go_at_call 66; (with_reducible refine (trig_reaches.calls k5 (wrap64 (Int.tdiv (wrap64 (x0_2 * 2147483648)) x1_2)) (wrap64 (x6_5 + 1)) false _ A19.out).mono ?_); rintro e w22 ⟨rfl, hb⟩; replace HB := hxz_ HB hb; (try clear hb); (try clear hb2); (try clear hk); (try clear hi)))
                                  go_ret
                                  exact ⟨by first | rfl | (simp [errW_none, errW_some] <;> rfl) | (simp [*, errW_none, errW_some] <;> rfl), by repeat (first | (with_reducible first | exact HB.out | apply below_alloc | apply pw_below_drewN | apply below_drew1) | exact HB.out)⟩
                              · rw [if_neg c18] at H
                                have c18b0 : decide (x6_5 < 125000000) = false := decide_eq_false c18
                                clear c18
                                obtain rfl := Option.some.inj H
                                go_wp2
                                go_ret
                                exact ⟨by first | rfl | (simp [errW_none, errW_some] <;> rfl) | (simp [*, errW_none, errW_some] <;> rfl), by repeat (first | (with_reducible first | exact HB.out | apply below_alloc | apply pw_below_drewN | apply below_drew1) | exact HB.out)⟩

end Go.Proofs.YtgmjgnojjbajdaaDoor.JG
