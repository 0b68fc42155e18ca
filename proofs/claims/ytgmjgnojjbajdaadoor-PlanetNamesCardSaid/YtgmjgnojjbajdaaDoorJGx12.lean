-- Made by a program of this session (wip/hp.py, over the kit's print) out of the translation. Not trusted: Lean checks it.
import Derived.Test.YtgmjgnojjbajdaaDoorJGx0
import Derived.Test.YtgmjgnojjbajdaaDoorJGx1
import Derived.Test.YtgmjgnojjbajdaaDoorJGx8
import Derived.Test.YtgmjgnojjbajdaaDoorJGx11
namespace Go.Proofs.YtgmjgnojjbajdaaDoor.JG
open Go.RowKit Go.Proofs.YtgmjgnojjbajdaaDoorW.PrintWords Go.Proofs.YtgmjgnojjbajdaaDoorW.PrintLast Go.Proofs.YtgmjgnojjbajdaaDoorW.PrintMore
attribute [local go_sem] max2_int min2_int max_two min_two max_three min_three max_four min_four   -- for this text's walks alone
set_option linter.unusedVariables false
set_option linter.unusedSimpArgs false

/-! ### series_sum: function 39 -/
def series_sum.T5 : Bool × List (List Nat × List Nat) := (true, [([], []), ([0], [0]), ([], []), ([1, 2], [1, 2]), ([3], [3]), ([], []), ([5], [5]), ([4, 6], [4, 6]), ([7, 3, 0, 1, 2, 3, 4, 5, 6, 7], [7])])
def series_sum.B5 : List Nat := [0, 1, 0, 7, 15, 0, 32, 127, 255]
theorem series_sum.tab5 : rtab .any (opsOf Tryd.f39 5) = series_sum.T5 := by kernel_rfl
theorem series_sum.bits5 : waitsOk series_sum.T5.2 series_sum.B5 = true := by kernel_rfl
def series_sum.T8 : Bool × List (List Nat × List Nat) := (true, [([], []), ([0], [0]), ([], []), ([2], [2]), ([1, 3], [1, 3]), ([], []), ([5], [5]), ([], []), ([7], [7]), ([6, 8], [6, 8]), ([0, 1, 2, 3, 4, 5, 6], []), ([10, 4, 0, 1, 2, 3, 4, 5, 6], [4, 10]), ([0, 1, 2, 3, 4, 5, 6, 7, 8, 9, 10, 11], []), ([12, 9, 11, 0, 1, 2, 3, 4, 5, 6, 7, 8, 9, 10, 11], [9, 12])])
def series_sum.B8 : List Nat := [0, 1, 0, 4, 15, 0, 32, 0, 128, 480, 127, 1151, 4095, 8191]
theorem series_sum.tab8 : rtab .any (opsOf Tryd.f39 8) = series_sum.T8 := by kernel_rfl
theorem series_sum.bits8 : waitsOk series_sum.T8.2 series_sum.B8 = true := by kernel_rfl
set_option maxHeartbeats 8000000 in
set_option maxRecDepth 100000 in
theorem series_sum.calls (k : Nat) (a0_0 : Int) (a0_1 : Int) (A0_2 : Option Addr) (c0_2 : Nat) (l0_2 : List (S85)) (a0_3 : Int) (a1 : Int) (r1 : Int) (r2 : Int) (w : World) (hr0_2 : Kd.C k85 w A0_2 l0_2.length l0_2) (hc0_2 : l0_2.length ≤ c0_2) (h : series_sum.f k a0_0 a0_1 l0_2 a0_3 a1 = some (r1, r2)) :
    Calls Tryd.prog 39 #[.agg #[.int .i64 a0_0, .int .i64 a0_1, .slice A0_2 l0_2.length c0_2, .int .i64 a0_3], .int .i64 a1] w fun e w' => e = .returned (.agg #[.int .i64 r1, .int .i64 r2]) ∧ Below w.heap.size w w' := by
  have hu57 := Tryd.underlying57
  have hu28 := Tryd.underlying28
  have hu85 := Tryd.underlying85
  have HR0_2 := Aside0.mk hr0_2
  have HC0_2 := Aside0.mk hc0_2
  clear hr0_2 hc0_2
  have HB := Aside0.mk (Below.refl w.heap.size w)
  have H : (series_sum.l0 k a1 l0_2 (l0_2.length : Int) 0 (wrap64 (a0_0 - a0_3)) (wrap64 (a0_0 + a0_3))) = some (r1, r2) := h
  clear h
  have H' := Aside0.mk H
  clear H
  go_enter Tryd.func39, Tryd.ntmps39
  go_wp2_with (first | ((with_reducible refine gate_dst (N := 2) rfl ?_); refine box_event ?hg (N := 2) ?hd (cs := #[.int .i64 a0_0, .int .i64 a0_1, .slice A0_2 l0_2.length c0_2, .int .i64 a0_3]) (t := 57) ?hr ?_; (case hd => rfl); (case hg => rfl); (case hr => first | (go_simp; done) | (go_simp; rfl)); intro gb172 hg w3 hbox hb; have BK172 := Aside0.mk hbox; have GE172 := gez_ (hbz_ HB.out) hg; replace HB := hxz_ HB hb; clear hb hbox hg) | ((with_reducible refine gate_dst (N := 4) rfl ?_); refine box_event ?hg (N := 4) ?hd (cs := #[.int .i64 0, .int .i64 0]) (t := 28) ?hr ?_; (case hd => rfl); (case hg => rfl); (case hr => first | (go_simp; done) | (go_simp; rfl)); intro gb173 hg w4 hbox hb; have BK173 := Aside0.mk hbox; have GE173 := gez_ (hbz_ HB.out) hg; have NB172_173 := nbz_ (grz_ BK172.out) hg; replace BK172 := nxz_ BK172 hb; replace HB := hxz_ HB hb; clear hb hbox hg; have hnb5 := NB172_173.out; have hnc5 := NB172_173.out.symm; have hcz6_0 : w4.cell? ⟨gb172, 0, none⟩ = some (.int .i64 a0_0) := (blk_cell BK172.out 0).trans rfl; have hcz6_1 : w4.cell? ⟨gb172, 1, none⟩ = some (.int .i64 a0_1) := (blk_cell BK172.out 1).trans rfl; have hcz6_2 : w4.cell? ⟨gb172, 2, none⟩ = some (.slice A0_2 l0_2.length c0_2) := (blk_cell BK172.out 2).trans rfl; have hcz6_3 : w4.cell? ⟨gb172, 3, none⟩ = some (.int .i64 a0_3) := (blk_cell BK172.out 3).trans rfl; have hfz6_0 := blk_frozen BK172.out 0; have hfz6_1 := blk_frozen BK172.out 1; have hfz6_2 := blk_frozen BK172.out 2; have hfz6_3 := blk_frozen BK172.out 3) | ((with_reducible refine gate_dst (N := 5) rfl ?_); refine box_event ?hg (N := 5) ?hd (cs := #[.int .i64 0, .int .i64 0]) (t := 28) ?hr ?_; (case hd => rfl); (case hg => rfl); (case hr => first | (go_simp; done) | (go_simp; rfl)); intro gb174 hg w7 hbox hb; have BK174 := Aside0.mk hbox; have GE174 := gez_ (hbz_ HB.out) hg; have NB172_174 := nbz_ (grz_ BK172.out) hg; have NB173_174 := nbz_ (grz_ BK173.out) hg; replace BK172 := nxz_ BK172 hb; replace BK173 := nxz_ BK173 hb; replace HB := hxz_ HB hb; clear hb hbox hg; have hnb8 := NB172_174.out.symm; have hnc8 := NB172_174.out; have hnb9 := NB173_174.out.symm; have hnc9 := NB173_174.out; have hcz10_0 : w7.cell? ⟨gb174, 0, none⟩ = some (.int .i64 0) := (blk_cell BK174.out 0).trans rfl; have hcz10_1 : w7.cell? ⟨gb174, 1, none⟩ = some (.int .i64 0) := (blk_cell BK174.out 1).trans rfl; have hfz10_0 := blk_frozen BK174.out 0; have hfz10_1 := blk_frozen BK174.out 1; have hcz11_0 : w7.cell? ⟨gb172, 0, none⟩ = some (.int .i64 a0_0) := (blk_cell BK172.out 0).trans rfl; have hcz11_1 : w7.cell? ⟨gb172, 1, none⟩ = some (.int .i64 a0_1) := (blk_cell BK172.out 1).trans rfl; have hcz11_2 : w7.cell? ⟨gb172, 2, none⟩ = some (.slice A0_2 l0_2.length c0_2) := (blk_cell BK172.out 2).trans rfl; have hcz11_3 : w7.cell? ⟨gb172, 3, none⟩ = some (.int .i64 a0_3) := (blk_cell BK172.out 3).trans rfl; have hfz11_0 := blk_frozen BK172.out 0; have hfz11_1 := blk_frozen BK172.out 1; have hfz11_2 := blk_frozen BK172.out 2; have hfz11_3 := blk_frozen BK172.out 3))
  go_loopg [27] k (fun kq v27 w' => ∃ (x27_1 : Int) (x175000_1 : Int) (x175001_1 : Int), v27 = .int .i64 x27_1 ∧ Aside0 (series_sum.l0 kq a1 l0_2 (l0_2.length : Int) x27_1 x175000_1 x175001_1 = some (r1, r2)) ∧ Aside0 (kq ≤ k) ∧ Aside0 (w'.heap[gb172]? = some (.cells #[.int .i64 a0_0, .int .i64 a0_1, (.slice A0_2 l0_2.length c0_2), .int .i64 a0_3] 57 (0, 0))) ∧ Aside0 (w'.heap[gb173]? = some (.cells #[.int .i64 0, .int .i64 0] 28 (0, 0))) ∧ Aside0 (w'.heap[gb174]? = some (.cells #[.int .i64 x175000_1, .int .i64 x175001_1] 28 (0, 0))) ∧ Aside0 (Below w.heap.size w w'))
  case atStart => exact ⟨(0), (wrap64 (a0_0 - a0_3)), (wrap64 (a0_0 + a0_3)), (by first | rfl | (simp; done) | (simp [*]; done)), H', ⟨Nat.le_refl _⟩, ⟨(grz_ (blk_far (grz_ (blk_far (grz_ BK172.out) NB172_174.out _)) NB172_174.out _))⟩, ⟨(grz_ (blk_far (grz_ (blk_far (grz_ BK173.out) NB173_174.out _)) NB173_174.out _))⟩, ⟨(grz_ (blk_put (cs := #[.int .i64 (wrap64 (a0_0 - a0_3)), .int .i64 0]) (grz_ (blk_put (cs := #[.int .i64 0, .int .i64 0]) (grz_ BK174.out) 0 _ rfl)) 1 _ rfl))⟩, ⟨by repeat (first | (with_reducible first | exact HB.out | apply below_alloc | apply pw_below_drewN | apply below_drew1 | refine below_set ?_ GE172.out | refine below_set ?_ GE173.out | refine below_set ?_ GE174.out) | exact HB.out)⟩⟩
  case round =>
    clear H'
    try clear p2
    try clear c3
    try clear c5
    try clear p6
    try clear c8
    try clear c9
    try clear hcz10_0
    try clear hcz10_1
    try clear hcz11_0
    try clear hcz11_1
    try clear hcz11_2
    try clear hcz11_3
    try clear hcz6_0
    try clear hcz6_1
    try clear hcz6_2
    try clear hcz6_3
    try clear hfz10_0
    try clear hfz10_1
    try clear hfz11_0
    try clear hfz11_1
    try clear hfz11_2
    try clear hfz11_3
    try clear hfz6_0
    try clear hfz6_1
    try clear hfz6_2
    try clear hfz6_3
    obtain ⟨x27_1, x175000_1, x175001_1, rfl, HA, HK1, BK172, BK173, BK174, HB⟩ := hrel
    cases gk with
    | zero => exact absurd HA.out (by simp [series_sum.l0])
    | succ k1 =>
      have H := HA.out
      clear HA
      simp only [series_sum.l0] at H
      by_cases c12 : x27_1 < (l0_2.length : Int)
      · rw [if_pos c12] at H
        have c12b0 : decide (x27_1 < (l0_2.length : Int)) = true := decide_eq_true c12
        clear c12
        by_cases c13 : 0 ≤ x27_1
        · rw [if_pos c13] at H
          have c13b0 : decide (0 ≤ x27_1) = true := decide_eq_true c13
          clear c13
          by_cases c14 : x27_1 < (l0_2.length : Int)
          · rw [if_pos c14] at H
            have c14b0 : decide (x27_1 < (l0_2.length : Int)) = true := decide_eq_true c14
            clear c14
            replace H := Option.bind_eq_some_iff.mp H
            obtain ⟨t177, A150, H⟩ := H
            replace H : ((trig_SinOver.f k1 (wrap64 ((wrap64 (Int.tdiv t177 1000000)) + ((rd_T85 l0_2 x27_1).f1))) (wrap64 ((wrap64 ((wrap64 (Int.tdiv t177 1000000)) + ((rd_T85 l0_2 x27_1).f1))) + 1))).bind fun bt178 => ((interval_Scale.f bt178.1 bt178.2.1 ((rd_T85 l0_2 x27_1).f0) 1000000000).bind fun bt182 => (series_sum.l0 k1 a1 l0_2 (l0_2.length : Int) (wrap64 (x27_1 + 1)) (wrap64 (x175000_1 + bt182.1)) (wrap64 (x175001_1 + bt182.2.1))))) = some (r1, r2) := H
            have A15 := Aside0.mk A150
            clear A150
            replace H := Option.bind_eq_some_iff.mp H
            obtain ⟨⟨t178, t179, t180⟩, A160, H⟩ := H
            replace H : ((interval_Scale.f t178 t179 ((rd_T85 l0_2 x27_1).f0) 1000000000).bind fun bt182 => (series_sum.l0 k1 a1 l0_2 (l0_2.length : Int) (wrap64 (x27_1 + 1)) (wrap64 (x175000_1 + bt182.1)) (wrap64 (x175001_1 + bt182.2.1)))) = some (r1, r2) := H
            have A16 := Aside0.mk A160
            clear A160
            replace H := Option.bind_eq_some_iff.mp H
            obtain ⟨⟨t182, t183, t184⟩, A170, H⟩ := H
            replace H : (series_sum.l0 k1 a1 l0_2 (l0_2.length : Int) (wrap64 (x27_1 + 1)) (wrap64 (x175000_1 + t182)) (wrap64 (x175001_1 + t183))) = some (r1, r2) := H
            have A17 := Aside0.mk A170
            clear A170
            have H' := Aside0.mk H
            clear H
            have p175 : 0 ≤ (x27_1 : Int) := of_decide_eq_true (by first | (with_reducible assumption) | assumption)
            have q175 : x27_1 < (l0_2.length : Int) := of_decide_eq_true (by first | (with_reducible assumption) | assumption)
            obtain ⟨ad175, e175, hx175_0, hx175_1, hx175_2⟩ := at_T85 HR0_2.out x27_1 p175 q175
            cases e175
            replace hx175_0 := (HB.out.cell (World.block_lt_of_cell? w _ hx175_0)).trans hx175_0
            replace hx175_1 := (HB.out.cell (World.block_lt_of_cell? w _ hx175_1)).trans hx175_1
            replace hx175_2 := (HB.out.cell (World.block_lt_of_cell? w _ hx175_2)).trans hx175_2
            replace p175 := eq_true p175
            replace q175 := eq_true q175
            try go_wp2_with (first | ((with_reducible refine gate_dst (N := 7) rfl ?_); refine box_event ?hg (N := 7) ?hd (cs := #[.int .i64 0, .int .i64 0, .int .i64 0]) (t := 85) ?hr ?_; (case hd => rfl); (case hg => rfl); (case hr => first | (go_simp; done) | (go_simp; rfl)); intro gb176 hg w18 hbox hb; have BK176 := Aside0.mk hbox; have GE176 := gez_ (hbz_ HB.out) hg; have NB172_176 := nbz_ (grz_ BK172.out) hg; have NB173_176 := nbz_ (grz_ BK173.out) hg; have NB174_176 := nbz_ (grz_ BK174.out) hg; replace BK172 := nxz_ BK172 hb; replace BK173 := nxz_ BK173 hb; replace BK174 := nxz_ BK174 hb; replace HB := hxz_ HB hb; clear hb hbox hg; have hnb19 := NB172_176.out.symm; have hnc19 := NB172_176.out; have hnb20 := NB173_176.out.symm; have hnc20 := NB173_176.out; have hnb21 := NB174_176.out.symm; have hnc21 := NB174_176.out; have hcz22_0 : w18.cell? ⟨gb176, 0, none⟩ = some (.int .i64 0) := (blk_cell BK176.out 0).trans rfl; have hcz22_1 : w18.cell? ⟨gb176, 1, none⟩ = some (.int .i64 0) := (blk_cell BK176.out 1).trans rfl; have hcz22_2 : w18.cell? ⟨gb176, 2, none⟩ = some (.int .i64 0) := (blk_cell BK176.out 2).trans rfl; have hfz22_0 := blk_frozen BK176.out 0; have hfz22_1 := blk_frozen BK176.out 1; have hfz22_2 := blk_frozen BK176.out 2))
            have n0_ : Aside0 ((((w18.setCell ⟨gb176, 0, none⟩ (.int .i64 ((rd_T85 l0_2 x27_1).f0))).setCell ⟨gb176, 1, none⟩ (.int .i64 ((rd_T85 l0_2 x27_1).f1))).setCell ⟨gb176, 2, none⟩ (.int .i64 ((rd_T85 l0_2 x27_1).f2))).heap[gb172]? = some (.cells #[.int .i64 a0_0, .int .i64 a0_1, .slice (some ad175) l0_2.length c0_2, .int .i64 a0_3] 57 (0, 0))) := ⟨(grz_ (blk_far (grz_ (blk_far (grz_ (blk_far (grz_ BK172.out) NB172_176.out _)) NB172_176.out _)) NB172_176.out _))⟩
            have n1_ : Aside0 ((((w18.setCell ⟨gb176, 0, none⟩ (.int .i64 ((rd_T85 l0_2 x27_1).f0))).setCell ⟨gb176, 1, none⟩ (.int .i64 ((rd_T85 l0_2 x27_1).f1))).setCell ⟨gb176, 2, none⟩ (.int .i64 ((rd_T85 l0_2 x27_1).f2))).heap[gb173]? = some (.cells #[.int .i64 0, .int .i64 0] 28 (0, 0))) := ⟨(grz_ (blk_far (grz_ (blk_far (grz_ (blk_far (grz_ BK173.out) NB173_176.out _)) NB173_176.out _)) NB173_176.out _))⟩
            have n2_ : Aside0 ((((w18.setCell ⟨gb176, 0, none⟩ (.int .i64 ((rd_T85 l0_2 x27_1).f0))).setCell ⟨gb176, 1, none⟩ (.int .i64 ((rd_T85 l0_2 x27_1).f1))).setCell ⟨gb176, 2, none⟩ (.int .i64 ((rd_T85 l0_2 x27_1).f2))).heap[gb174]? = some (.cells #[.int .i64 x175000_1, .int .i64 x175001_1] 28 (0, 0))) := ⟨(grz_ (blk_far (grz_ (blk_far (grz_ (blk_far (grz_ BK174.out) NB174_176.out _)) NB174_176.out _)) NB174_176.out _))⟩
            have n3_ : Aside0 ((((w18.setCell ⟨gb176, 0, none⟩ (.int .i64 ((rd_T85 l0_2 x27_1).f0))).setCell ⟨gb176, 1, none⟩ (.int .i64 ((rd_T85 l0_2 x27_1).f1))).setCell ⟨gb176, 2, none⟩ (.int .i64 ((rd_T85 l0_2 x27_1).f2))).heap[gb176]? = some (.cells #[.int .i64 ((rd_T85 l0_2 x27_1).f0), .int .i64 ((rd_T85 l0_2 x27_1).f1), .int .i64 ((rd_T85 l0_2 x27_1).f2)] 85 (0, 0))) := ⟨(grz_ (blk_put (cs := #[.int .i64 ((rd_T85 l0_2 x27_1).f0), .int .i64 ((rd_T85 l0_2 x27_1).f1), .int .i64 0]) (grz_ (blk_put (cs := #[.int .i64 ((rd_T85 l0_2 x27_1).f0), .int .i64 0, .int .i64 0]) (grz_ (blk_put (cs := #[.int .i64 0, .int .i64 0, .int .i64 0]) (grz_ BK176.out) 0 _ rfl)) 1 _ rfl)) 2 _ rfl))⟩
            have n4_ : Aside0 (Below w.heap.size w (((w18.setCell ⟨gb176, 0, none⟩ (.int .i64 ((rd_T85 l0_2 x27_1).f0))).setCell ⟨gb176, 1, none⟩ (.int .i64 ((rd_T85 l0_2 x27_1).f1))).setCell ⟨gb176, 2, none⟩ (.int .i64 ((rd_T85 l0_2 x27_1).f2)))) := ⟨by repeat (first | (with_reducible first | exact HB.out | apply below_alloc | apply pw_below_drewN | apply below_drew1 | refine below_set ?_ GE172.out | refine below_set ?_ GE173.out | refine below_set ?_ GE174.out | refine below_set ?_ GE176.out) | exact HB.out)⟩
            (try clear BK172)
            (try clear BK173)
            (try clear BK174)
            (try clear BK176)
            (try clear HB)
            generalize (((w18.setCell ⟨gb176, 0, none⟩ (.int .i64 ((rd_T85 l0_2 x27_1).f0))).setCell ⟨gb176, 1, none⟩ (.int .i64 ((rd_T85 l0_2 x27_1).f1))).setCell ⟨gb176, 2, none⟩ (.int .i64 ((rd_T85 l0_2 x27_1).f2))) = w23 at n0_ n1_ n2_ n3_ n4_ ⊢
            have BK172 := n0_
            have BK173 := n1_
            have BK174 := n2_
            have BK176 := n3_
            have HB := n4_
            clear n0_ n1_ n2_ n3_ n4_
            have n0_ := Aside0.mk (blk_drew BK172.out)
            have n1_ := Aside0.mk (blk_drew BK173.out)
            have n2_ := Aside0.mk (blk_drew BK174.out)
            have n3_ := Aside0.mk (blk_drew BK176.out)
            have n4_ := Aside0.mk (below_drew1 HB.out)
            clear BK172
            clear BK173
            clear BK174
            clear BK176
            clear HB
            have BK172 := n0_
            have BK173 := n1_
            have BK174 := n2_
            have BK176 := n3_
            have HB := n4_
            clear n0_ n1_ n2_ n3_ n4_
            refine start_ (n := 9) (S := fun w' => w'.cell? ⟨gb176, 0, none⟩ = some (.int .i64 ((rd_T85 l0_2 x27_1).f0)) ∧ w'.cell? ⟨gb176, 1, none⟩ = some (.int .i64 ((rd_T85 l0_2 x27_1).f1)) ∧ w'.cell? ⟨gb176, 2, none⟩ = some (.int .i64 ((rd_T85 l0_2 x27_1).f2))) (ds := []) #[false, false, false, false, false, false, false, false, false] (by kernel_rfl) rfl rfl ⟨(blk_cell BK176.out 0).trans rfl, (blk_cell BK176.out 1).trans rfl, (blk_cell BK176.out 2).trans rfl⟩ (fun hHeld => ?_); refine with_tabW series_sum.tab5 series_sum.bits5 (fun HT_ HW_ => ?_)
            generalize w23.drew = w24 at BK172 BK173 BK174 BK176 HB hHeld ⊢
            refine pure_ (i := 0) (N := some 31) (v := ?_) (a' := ?_) #[true, false, false, false, false, false, false, false, false] rfl rfl (any_of HT_.out (by kernel_rfl)) (fun _ _ _ h => h) (Or.inl ⟨by rfl, ?_⟩) ?_ ?_
            rotate_left
            · intro w'
              go_simp
              with_reducible rfl
            rotate_left
            · simp only [Act.put, List.setIfInBounds_toArray, List.set_cons_zero, List.set_cons_succ, i64_w, i32_w]
              rfl
            refine pure_ (i := 2) (N := some 33) (v := ?_) (a' := ?_) #[true, false, true, false, false, false, false, false, false] rfl rfl (any_of HT_.out (by kernel_rfl)) (fun _ _ _ h => h) (Or.inl ⟨by rfl, ?_⟩) ?_ ?_
            rotate_left
            · intro w'
              go_simp
              with_reducible rfl
            rotate_left
            · simp only [Act.put, List.setIfInBounds_toArray, List.set_cons_zero, List.set_cons_succ, i64_w, i32_w]
              rfl
            refine pure_ (i := 5) (N := some 36) (v := ?_) (a' := ?_) #[true, false, true, false, false, true, false, false, false] rfl rfl (any_of HT_.out (by kernel_rfl)) (fun _ _ _ h => h) (Or.inl ⟨by rfl, ?_⟩) ?_ ?_
            rotate_left
            · intro w'
              go_simp
              with_reducible rfl
            rotate_left
            · simp only [Act.put, List.setIfInBounds_toArray, List.set_cons_zero, List.set_cons_succ, i64_w, i32_w]
              rfl
            refine take_ (i := 1) (N := some 32) (v := ?_) (a' := ?_) #[true, true, true, false, false, true, false, false, false] rfl rfl (take_ofW HT_.out HW_.out (by kernel_rfl)) (fun _ _ _ h => h) (Or.inl ⟨by rfl, ?_⟩) hHeld ?_ ?_
            rotate_left
            · rintro w' ⟨s0, s1, s2⟩
              go_simp
              with_reducible rfl
            rotate_left
            · simp only [Act.put, List.setIfInBounds_toArray, List.set_cons_zero, List.set_cons_succ, i64_w, i32_w]
              rfl
            refine take_ (i := 6) (N := some 37) (v := ?_) (a' := ?_) #[true, true, true, false, false, true, true, false, false] rfl rfl (take_ofW HT_.out HW_.out (by kernel_rfl)) (fun _ _ _ h => h) (Or.inl ⟨by rfl, ?_⟩) hHeld ?_ ?_
            rotate_left
            · rintro w' ⟨s0, s1, s2⟩
              go_simp
              with_reducible rfl
            rotate_left
            · simp only [Act.put, List.setIfInBounds_toArray, List.set_cons_zero, List.set_cons_succ, i64_w, i32_w]
              rfl
            refine one_ (i := 3) (N := some 34) #[true, true, true, true, false, true, true, false, false] rfl rfl (one_of HT_.out (by kernel_rfl)) (by decide) (fun K hK => ?_)
            refine goes_ Tryd.func40 (by kernel_rfl) rfl #[.int .i64 ((rd_T85 l0_2 x27_1).f2), .int .i64 a1] (by rfl) rfl rfl (by (try simp only [List.map_toArray, List.map_cons, List.map_nil]); first | done | rfl | (simp only [List.length_drop, List.length_take]; rfl)) ?_
            with_reducible refine (series_Turned.calls k1 ((rd_T85 l0_2 x27_1).f2) a1 t177 _ A15.out).mono ?_
            rintro e w' ⟨rfl, ⟨nd, rfl⟩⟩
            refine ⟨_, rfl, ?_⟩
            refine hK.out _ _ ⟨(blk_cell BK176.out 0).trans rfl, (blk_cell BK176.out 1).trans rfl, (blk_cell BK176.out 2).trans rfl⟩ (fun hHeld => ?_)
            clear hK K
            refine norm_ (a' := ?_) ?_ ?_
            rotate_left
            · show Act.put _ (some 34) _ = _
              simp only [Act.put, List.setIfInBounds_toArray, List.set_cons_zero, List.set_cons_succ, i64_w, i32_w]
              rfl
            refine pure_ (i := 4) (N := some 35) (v := ?_) (a' := ?_) #[true, true, true, true, true, true, true, false, false] rfl rfl (any_of HT_.out (by kernel_rfl)) (fun _ _ _ h => h) (Or.inl ⟨by rfl, ?_⟩) ?_ ?_
            rotate_left
            · intro w'
              go_simp
              with_reducible rfl
            rotate_left
            · simp only [Act.put, List.setIfInBounds_toArray, List.set_cons_zero, List.set_cons_succ, i64_w, i32_w]
              rfl
            refine pure_ (i := 7) (N := some 38) (v := ?_) (a' := ?_) #[true, true, true, true, true, true, true, true, false] rfl rfl (any_of HT_.out (by kernel_rfl)) (fun _ _ _ h => h) (Or.inl ⟨by rfl, ?_⟩) ?_ ?_
            rotate_left
            · intro w'
              go_simp
              with_reducible rfl
            rotate_left
            · simp only [Act.put, List.setIfInBounds_toArray, List.set_cons_zero, List.set_cons_succ, i64_w, i32_w]
              rfl
            refine pure_ (i := 8) (N := some 8) (v := ?_) (a' := ?_) #[true, true, true, true, true, true, true, true, true] rfl rfl (any_of HT_.out (by kernel_rfl)) (fun _ _ _ h => h) (Or.inl ⟨by rfl, ?_⟩) ?_ ?_
            rotate_left
            · intro w'
              go_simp
              with_reducible rfl
            rotate_left
            · simp only [Act.put, List.setIfInBounds_toArray, List.set_cons_zero, List.set_cons_succ, i64_w, i32_w]
              rfl
            refine done_ (done_of HT_.out (by kernel_rfl)) ?_
            try go_wp2_with (first | ((with_reducible refine gate_callee (f := 30) rfl ?_); refine goesL_ (some 44) rfl rfl Tryd.func30 (by kernel_rfl) rfl #[.agg #[.int .i64 (wrap64 ((wrap64 (Int.tdiv t177 1000000)) + ((rd_T85 l0_2 x27_1).f1))), .int .i64 (wrap64 ((wrap64 ((wrap64 (Int.tdiv t177 1000000)) + ((rd_T85 l0_2 x27_1).f1))) + 1))]] rfl (by (try simp only [List.map_toArray, List.map_cons, List.map_nil]); first | done | rfl | (simp only [List.length_drop, List.length_take]; rfl) | (rw [wrap_in_ (n := Int.tdiv t177 1000000) (by omega) (by omega)]; rfl)) ?_; (with_reducible refine (trig_SinOver.calls k1 (wrap64 ((wrap64 (Int.tdiv t177 1000000)) + ((rd_T85 l0_2 x27_1).f1))) (wrap64 ((wrap64 ((wrap64 (Int.tdiv t177 1000000)) + ((rd_T85 l0_2 x27_1).f1))) + 1)) t178 t179 t180 _ A16.out).mono ?_); rintro e w25 ⟨rfl, hb⟩; refine ⟨_, rfl, ?_⟩; replace BK172 := nxz_ BK172 hb; replace BK173 := nxz_ BK173 hb; replace BK174 := nxz_ BK174 hb; replace BK176 := nxz_ BK176 hb; replace HB := hxz_ HB hb; (try clear hb); (try clear hb2); (try clear hk); (try clear hi)) | ((with_reducible refine gate_dst (N := 9) rfl ?_); refine box_event ?hg (N := 9) ?hd (cs := #[.int .i64 0, .int .i64 0]) (t := 28) ?hr ?_; (case hd => rfl); (case hg => rfl); (case hr => first | (go_simp; done) | (go_simp; rfl)); intro gb181 hg w26 hbox hb; have BK181 := Aside0.mk hbox; have GE181 := gez_ (hbz_ HB.out) hg; have NB172_181 := nbz_ (grz_ BK172.out) hg; have NB173_181 := nbz_ (grz_ BK173.out) hg; have NB174_181 := nbz_ (grz_ BK174.out) hg; have NB176_181 := nbz_ (grz_ BK176.out) hg; replace BK172 := nxz_ BK172 hb; replace BK173 := nxz_ BK173 hb; replace BK174 := nxz_ BK174 hb; replace BK176 := nxz_ BK176 hb; replace HB := hxz_ HB hb; clear hb hbox hg; have hnb27 := NB172_181.out.symm; have hnc27 := NB172_181.out; have hnb28 := NB173_181.out.symm; have hnc28 := NB173_181.out; have hnb29 := NB174_181.out.symm; have hnc29 := NB174_181.out; have hnb30 := NB176_181.out.symm; have hnc30 := NB176_181.out; have hcz31_0 : w26.cell? ⟨gb181, 0, none⟩ = some (.int .i64 0) := (blk_cell BK181.out 0).trans rfl; have hcz31_1 : w26.cell? ⟨gb181, 1, none⟩ = some (.int .i64 0) := (blk_cell BK181.out 1).trans rfl; have hfz31_0 := blk_frozen BK181.out 0; have hfz31_1 := blk_frozen BK181.out 1; have hcz32_0 : w26.cell? ⟨gb176, 0, none⟩ = some (.int .i64 ((rd_T85 l0_2 x27_1).f0)) := (blk_cell BK176.out 0).trans rfl; have hcz32_1 : w26.cell? ⟨gb176, 1, none⟩ = some (.int .i64 ((rd_T85 l0_2 x27_1).f1)) := (blk_cell BK176.out 1).trans rfl; have hcz32_2 : w26.cell? ⟨gb176, 2, none⟩ = some (.int .i64 ((rd_T85 l0_2 x27_1).f2)) := (blk_cell BK176.out 2).trans rfl; have hfz32_0 := blk_frozen BK176.out 0; have hfz32_1 := blk_frozen BK176.out 1; have hfz32_2 := blk_frozen BK176.out 2) | ((with_reducible refine gate_callee (f := 29) rfl ?_); refine goesL_ (some 51) rfl rfl Tryd.func29 (by kernel_rfl) rfl #[.agg #[.int .i64 t178, .int .i64 t179], .int .i64 ((rd_T85 l0_2 x27_1).f0), .int .i64 1000000000] rfl (by (try simp only [List.map_toArray, List.map_cons, List.map_nil]); first | done | rfl | (simp only [List.length_drop, List.length_take]; rfl)) ?_; (with_reducible refine (interval_Scale.calls t178 t179 ((rd_T85 l0_2 x27_1).f0) 1000000000 t182 t183 t184 _ A17.out).mono ?_); rintro e w33 ⟨rfl, hb⟩; refine ⟨_, rfl, ?_⟩; replace BK172 := Aside0.mk (blk_below (g := gb172) (o := .cells #[.int .i64 a0_0, .int .i64 a0_1, .slice (some ad175) l0_2.length c0_2, .int .i64 a0_3] 57 (0, 0)) (grz_ (blk_far (grz_ (blk_far (grz_ BK172.out) NB172_181.out _)) NB172_181.out _)) hb); replace BK173 := Aside0.mk (blk_below (g := gb173) (o := .cells #[.int .i64 0, .int .i64 0] 28 (0, 0)) (grz_ (blk_far (grz_ (blk_far (grz_ BK173.out) NB173_181.out _)) NB173_181.out _)) hb); replace BK174 := Aside0.mk (blk_below (g := gb174) (o := .cells #[.int .i64 x175000_1, .int .i64 x175001_1] 28 (0, 0)) (grz_ (blk_far (grz_ (blk_far (grz_ BK174.out) NB174_181.out _)) NB174_181.out _)) hb); replace BK176 := Aside0.mk (blk_below (g := gb176) (o := .cells #[.int .i64 ((rd_T85 l0_2 x27_1).f0), .int .i64 ((rd_T85 l0_2 x27_1).f1), .int .i64 ((rd_T85 l0_2 x27_1).f2)] 85 (0, 0)) (grz_ (blk_far (grz_ (blk_far (grz_ BK176.out) NB176_181.out _)) NB176_181.out _)) hb); replace BK181 := Aside0.mk (blk_below (g := gb181) (o := .cells #[.int .i64 t178, .int .i64 t179] 28 (0, 0)) (grz_ (blk_put (cs := #[.int .i64 t178, .int .i64 0]) (grz_ (blk_put (cs := #[.int .i64 0, .int .i64 0]) (grz_ BK181.out) 0 _ rfl)) 1 _ rfl)) hb); replace HB := Aside0.mk (below_step (by repeat (first | (with_reducible first | exact HB.out | apply below_alloc | apply pw_below_drewN | apply below_drew1 | refine below_set ?_ GE181.out) | exact HB.out)) hb); (try clear hb); (try clear hb2); (try clear hk); (try clear hi)) | ((with_reducible refine gate_dst (N := 11) rfl ?_); refine box_event ?hg (N := 11) ?hd (cs := #[.int .i64 0, .int .i64 0]) (t := 28) ?hr ?_; (case hd => rfl); (case hg => rfl); (case hr => first | (go_simp; done) | (go_simp; rfl)); intro gb185 hg w34 hbox hb; have BK185 := Aside0.mk hbox; have GE185 := gez_ (hbz_ HB.out) hg; have NB172_185 := nbz_ (grz_ BK172.out) hg; have NB173_185 := nbz_ (grz_ BK173.out) hg; have NB174_185 := nbz_ (grz_ BK174.out) hg; have NB176_185 := nbz_ (grz_ BK176.out) hg; have NB181_185 := nbz_ (grz_ BK181.out) hg; replace BK172 := nxz_ BK172 hb; replace BK173 := nxz_ BK173 hb; replace BK174 := nxz_ BK174 hb; replace BK176 := nxz_ BK176 hb; replace BK181 := nxz_ BK181 hb; replace HB := hxz_ HB hb; clear hb hbox hg; have hnb35 := NB172_185.out.symm; have hnc35 := NB172_185.out; have hnb36 := NB173_185.out.symm; have hnc36 := NB173_185.out; have hnb37 := NB174_185.out.symm; have hnc37 := NB174_185.out; have hnb38 := NB176_185.out.symm; have hnc38 := NB176_185.out; have hnb39 := NB181_185.out.symm; have hnc39 := NB181_185.out; have hcz40_0 : w34.cell? ⟨gb185, 0, none⟩ = some (.int .i64 0) := (blk_cell BK185.out 0).trans rfl; have hcz40_1 : w34.cell? ⟨gb185, 1, none⟩ = some (.int .i64 0) := (blk_cell BK185.out 1).trans rfl; have hfz40_0 := blk_frozen BK185.out 0; have hfz40_1 := blk_frozen BK185.out 1))
            have n0_ : Aside0 (((w34.setCell ⟨gb185, 0, none⟩ (.int .i64 t182)).setCell ⟨gb185, 1, none⟩ (.int .i64 t183)).heap[gb172]? = some (.cells #[.int .i64 a0_0, .int .i64 a0_1, .slice (some ad175) l0_2.length c0_2, .int .i64 a0_3] 57 (0, 0))) := ⟨(grz_ (blk_far (grz_ (blk_far (grz_ BK172.out) NB172_185.out _)) NB172_185.out _))⟩
            have n1_ : Aside0 (((w34.setCell ⟨gb185, 0, none⟩ (.int .i64 t182)).setCell ⟨gb185, 1, none⟩ (.int .i64 t183)).heap[gb173]? = some (.cells #[.int .i64 0, .int .i64 0] 28 (0, 0))) := ⟨(grz_ (blk_far (grz_ (blk_far (grz_ BK173.out) NB173_185.out _)) NB173_185.out _))⟩
            have n2_ : Aside0 (((w34.setCell ⟨gb185, 0, none⟩ (.int .i64 t182)).setCell ⟨gb185, 1, none⟩ (.int .i64 t183)).heap[gb174]? = some (.cells #[.int .i64 x175000_1, .int .i64 x175001_1] 28 (0, 0))) := ⟨(grz_ (blk_far (grz_ (blk_far (grz_ BK174.out) NB174_185.out _)) NB174_185.out _))⟩
            have n3_ : Aside0 (((w34.setCell ⟨gb185, 0, none⟩ (.int .i64 t182)).setCell ⟨gb185, 1, none⟩ (.int .i64 t183)).heap[gb176]? = some (.cells #[.int .i64 ((rd_T85 l0_2 x27_1).f0), .int .i64 ((rd_T85 l0_2 x27_1).f1), .int .i64 ((rd_T85 l0_2 x27_1).f2)] 85 (0, 0))) := ⟨(grz_ (blk_far (grz_ (blk_far (grz_ BK176.out) NB176_185.out _)) NB176_185.out _))⟩
            have n4_ : Aside0 (((w34.setCell ⟨gb185, 0, none⟩ (.int .i64 t182)).setCell ⟨gb185, 1, none⟩ (.int .i64 t183)).heap[gb181]? = some (.cells #[.int .i64 t178, .int .i64 t179] 28 (0, 0))) := ⟨(grz_ (blk_far (grz_ (blk_far (grz_ BK181.out) NB181_185.out _)) NB181_185.out _))⟩
            have n5_ : Aside0 (((w34.setCell ⟨gb185, 0, none⟩ (.int .i64 t182)).setCell ⟨gb185, 1, none⟩ (.int .i64 t183)).heap[gb185]? = some (.cells #[.int .i64 t182, .int .i64 t183] 28 (0, 0))) := ⟨(grz_ (blk_put (cs := #[.int .i64 t182, .int .i64 0]) (grz_ (blk_put (cs := #[.int .i64 0, .int .i64 0]) (grz_ BK185.out) 0 _ rfl)) 1 _ rfl))⟩
            have n6_ : Aside0 (Below w.heap.size w ((w34.setCell ⟨gb185, 0, none⟩ (.int .i64 t182)).setCell ⟨gb185, 1, none⟩ (.int .i64 t183))) := ⟨by repeat (first | (with_reducible first | exact HB.out | apply below_alloc | apply pw_below_drewN | apply below_drew1 | refine below_set ?_ GE172.out | refine below_set ?_ GE173.out | refine below_set ?_ GE174.out | refine below_set ?_ GE176.out | refine below_set ?_ GE181.out | refine below_set ?_ GE185.out) | exact HB.out)⟩
            (try clear BK172)
            (try clear BK173)
            (try clear BK174)
            (try clear BK176)
            (try clear BK181)
            (try clear BK185)
            (try clear HB)
            generalize ((w34.setCell ⟨gb185, 0, none⟩ (.int .i64 t182)).setCell ⟨gb185, 1, none⟩ (.int .i64 t183)) = w41 at n0_ n1_ n2_ n3_ n4_ n5_ n6_ ⊢
            have BK172 := n0_
            have BK173 := n1_
            have BK174 := n2_
            have BK176 := n3_
            have BK181 := n4_
            have BK185 := n5_
            have HB := n6_
            clear n0_ n1_ n2_ n3_ n4_ n5_ n6_
            have n0_ := Aside0.mk (blk_drew BK172.out)
            have n1_ := Aside0.mk (blk_drew BK173.out)
            have n2_ := Aside0.mk (blk_drew BK174.out)
            have n3_ := Aside0.mk (blk_drew BK176.out)
            have n4_ := Aside0.mk (blk_drew BK181.out)
            have n5_ := Aside0.mk (blk_drew BK185.out)
            have n6_ := Aside0.mk (below_drew1 HB.out)
            clear BK172
            clear BK173
            clear BK174
            clear BK176
            clear BK181
            clear BK185
            clear HB
            have BK172 := n0_
            have BK173 := n1_
            have BK174 := n2_
            have BK176 := n3_
            have BK181 := n4_
            have BK185 := n5_
            have HB := n6_
            clear n0_ n1_ n2_ n3_ n4_ n5_ n6_
            refine start_ (n := 14) (S := fun w' => w'.cell? ⟨gb174, 0, none⟩ = some (.int .i64 x175000_1) ∧ w'.cell? ⟨gb174, 1, none⟩ = some (.int .i64 x175001_1) ∧ w'.cell? ⟨gb185, 0, none⟩ = some (.int .i64 t182) ∧ w'.cell? ⟨gb185, 1, none⟩ = some (.int .i64 t183)) (ds := [11, 13]) #[false, false, false, false, false, false, false, false, false, false, false, false, false, false] (by kernel_rfl) rfl rfl ⟨(blk_cell BK174.out 0).trans rfl, (blk_cell BK174.out 1).trans rfl, (blk_cell BK185.out 0).trans rfl, (blk_cell BK185.out 1).trans rfl⟩ (fun hHeld => ?_); refine with_tabW series_sum.tab8 series_sum.bits8 (fun HT_ HW_ => ?_)
            generalize w41.drew = w42 at BK172 BK173 BK174 BK176 BK181 BK185 HB hHeld ⊢
            refine pure_ (i := 0) (N := some 54) (v := ?_) (a' := ?_) #[true, false, false, false, false, false, false, false, false, false, false, false, false, false] rfl rfl (any_of HT_.out (by kernel_rfl)) (fun _ _ _ h => h) (Or.inl ⟨by rfl, ?_⟩) ?_ ?_
            rotate_left
            · intro w'
              go_simp
              with_reducible rfl
            rotate_left
            · simp only [Act.put, List.setIfInBounds_toArray, List.set_cons_zero, List.set_cons_succ, i64_w, i32_w]
              rfl
            refine pure_ (i := 2) (N := some 56) (v := ?_) (a' := ?_) #[true, false, true, false, false, false, false, false, false, false, false, false, false, false] rfl rfl (any_of HT_.out (by kernel_rfl)) (fun _ _ _ h => h) (Or.inl ⟨by rfl, ?_⟩) ?_ ?_
            rotate_left
            · intro w'
              go_simp
              with_reducible rfl
            rotate_left
            · simp only [Act.put, List.setIfInBounds_toArray, List.set_cons_zero, List.set_cons_succ, i64_w, i32_w]
              rfl
            refine pure_ (i := 5) (N := some 59) (v := ?_) (a' := ?_) #[true, false, true, false, false, true, false, false, false, false, false, false, false, false] rfl rfl (any_of HT_.out (by kernel_rfl)) (fun _ _ _ h => h) (Or.inl ⟨by rfl, ?_⟩) ?_ ?_
            rotate_left
            · intro w'
              go_simp
              with_reducible rfl
            rotate_left
            · simp only [Act.put, List.setIfInBounds_toArray, List.set_cons_zero, List.set_cons_succ, i64_w, i32_w]
              rfl
            refine pure_ (i := 7) (N := some 61) (v := ?_) (a' := ?_) #[true, false, true, false, false, true, false, true, false, false, false, false, false, false] rfl rfl (any_of HT_.out (by kernel_rfl)) (fun _ _ _ h => h) (Or.inl ⟨by rfl, ?_⟩) ?_ ?_
            rotate_left
            · intro w'
              go_simp
              with_reducible rfl
            rotate_left
            · simp only [Act.put, List.setIfInBounds_toArray, List.set_cons_zero, List.set_cons_succ, i64_w, i32_w]
              rfl
            refine take_ (i := 1) (N := some 55) (v := ?_) (a' := ?_) #[true, true, true, false, false, true, false, true, false, false, false, false, false, false] rfl rfl (take_ofW HT_.out HW_.out (by kernel_rfl)) (fun _ _ _ h => h) (Or.inl ⟨by rfl, ?_⟩) hHeld ?_ ?_
            rotate_left
            · rintro w' ⟨s0, s1, s2, s3⟩
              go_simp
              with_reducible rfl
            rotate_left
            · simp only [Act.put, List.setIfInBounds_toArray, List.set_cons_zero, List.set_cons_succ, i64_w, i32_w]
              rfl
            refine take_ (i := 3) (N := some 57) (v := ?_) (a' := ?_) #[true, true, true, true, false, true, false, true, false, false, false, false, false, false] rfl rfl (take_ofW HT_.out HW_.out (by kernel_rfl)) (fun _ _ _ h => h) (Or.inl ⟨by rfl, ?_⟩) hHeld ?_ ?_
            rotate_left
            · rintro w' ⟨s0, s1, s2, s3⟩
              go_simp
              with_reducible rfl
            rotate_left
            · simp only [Act.put, List.setIfInBounds_toArray, List.set_cons_zero, List.set_cons_succ, i64_w, i32_w]
              rfl
            refine pure_ (i := 4) (N := some 58) (v := ?_) (a' := ?_) #[true, true, true, true, true, true, false, true, false, false, false, false, false, false] rfl rfl (any_of HT_.out (by kernel_rfl)) (fun _ _ _ h => h) (Or.inl ⟨by rfl, ?_⟩) ?_ ?_
            rotate_left
            · intro w'
              go_simp
              with_reducible rfl
            rotate_left
            · simp only [Act.put, List.setIfInBounds_toArray, List.set_cons_zero, List.set_cons_succ, i64_w, i32_w]
              rfl
            refine take_ (i := 6) (N := some 60) (v := ?_) (a' := ?_) #[true, true, true, true, true, true, true, true, false, false, false, false, false, false] rfl rfl (take_ofW HT_.out HW_.out (by kernel_rfl)) (fun _ _ _ h => h) (Or.inl ⟨by rfl, ?_⟩) hHeld ?_ ?_
            rotate_left
            · rintro w' ⟨s0, s1, s2, s3⟩
              go_simp
              with_reducible rfl
            rotate_left
            · simp only [Act.put, List.setIfInBounds_toArray, List.set_cons_zero, List.set_cons_succ, i64_w, i32_w]
              rfl
            refine pure_ (i := 10) (N := some 64) (v := ?_) (a' := ?_) #[true, true, true, true, true, true, true, true, false, false, true, false, false, false] rfl rfl (any_of HT_.out (by kernel_rfl)) (fun _ _ _ h => h) (Or.inl ⟨by rfl, ?_⟩) ?_ ?_
            rotate_left
            · intro w'
              go_simp
              with_reducible rfl
            rotate_left
            · simp only [Act.put, List.setIfInBounds_toArray, List.set_cons_zero, List.set_cons_succ, i64_w, i32_w]
              rfl
            refine late_ (i := 8) (j := 11) (N := some 62) (v := ?_) (a1 := ?_) (W1 := ?_) ?_ (fun w' => w'.cell? ⟨gb185, 0, none⟩ = some (.int .i64 t182) ∧ w'.cell? ⟨gb185, 1, none⟩ = some (.int .i64 t183)) #[true, true, true, true, true, true, true, true, true, false, true, false, false, false] #[true, true, true, true, true, true, true, true, false, false, true, true, false, false] #[true, true, true, true, true, true, true, true, true, false, true, true, false, false] rfl rfl rfl rfl (by kernel_rfl) (by decide) (by decide) (Or.inl ⟨by rfl, ?_⟩) ⟨hHeld.2.2.1, hHeld.2.2.2⟩ ?_ ?_ (fun K hK => ?_) ?_ (fun hX => ?_) (fun hX => ?_)
            rotate_left 4
            · rintro w' ⟨s0, s1⟩
              go_simp
              with_reducible rfl
            rotate_left
            · simp only [Act.put, List.setIfInBounds_toArray, List.set_cons_zero, List.set_cons_succ, i64_w, i32_w]
              rfl
            · skip
              have hs43 : w42.cell? ⟨gb174, 0, none⟩ = some (.int .i64 x175000_1) := (blk_cell BK174.out 0).trans rfl
              have hfs43 := blk_frozen BK174.out 0
              have hns43_0 := NB172_174.out
              have hns43_1 := NB173_174.out
              have hns43_3 := NB174_176.out.symm
              have hns43_4 := NB174_181.out.symm
              have hns43_5 := NB174_185.out.symm
              have hms43_0 := NB172_174.out.symm
              have hms43_1 := NB173_174.out.symm
              have hms43_3 := NB174_176.out
              have hms43_4 := NB174_181.out
              have hms43_5 := NB174_185.out
              refine skip_ (w1 := ?_) (by rfl) rfl ?_ ?_
              rotate_left
              · go_simp
                rfl
              exact hK
            rotate_left
            · skip
              refine pure_ (i := 9) (N := some 63) (v := ?_) (a' := ?_) #[true, true, true, true, true, true, true, true, true, true, true, false, false, false] rfl rfl (any_of HT_.out (by kernel_rfl)) (fun _ _ _ h => h) (Or.inl ⟨by rfl, ?_⟩) ?_ ?_
              rotate_left
              · intro w'
                go_simp
                with_reducible rfl
              rotate_left
              · simp only [Act.put, List.setIfInBounds_toArray, List.set_cons_zero, List.set_cons_succ, i64_w, i32_w]
                rfl
              refine last_ (i := 11) (N := none) #[true, true, true, true, true, true, true, true, true, true, true, true, false, false] rfl rfl (one_of HT_.out (by kernel_rfl)) (by decide) (fun K hK => ?_)
              have hs43 : w42.cell? ⟨gb174, 0, none⟩ = some (.int .i64 x175000_1) := (blk_cell BK174.out 0).trans rfl
              have hfs43 := blk_frozen BK174.out 0
              have hns43_0 := NB172_174.out
              have hns43_1 := NB173_174.out
              have hns43_3 := NB174_176.out.symm
              have hns43_4 := NB174_181.out.symm
              have hns43_5 := NB174_185.out.symm
              have hms43_0 := NB172_174.out.symm
              have hms43_1 := NB173_174.out.symm
              have hms43_3 := NB174_176.out
              have hms43_4 := NB174_181.out
              have hms43_5 := NB174_185.out
              refine skip_ (w1 := ?_) (by rfl) rfl ?_ ?_
              rotate_left
              · go_simp
                rfl
              refine hK.out _ _ ?_
              clear hK K
              exact hX
            · skip
              refine pure_ (i := 9) (N := some 63) (v := ?_) (a' := ?_) #[true, true, true, true, true, true, true, true, true, true, true, true, false, false] rfl rfl (any_of HT_.out (by kernel_rfl)) (fun _ _ _ h => h) (Or.inl ⟨by rfl, ?_⟩) ?_ ?_
              rotate_left
              · intro w'
                go_simp
                with_reducible rfl
              rotate_left
              · simp only [Act.put, List.setIfInBounds_toArray, List.set_cons_zero, List.set_cons_succ, i64_w, i32_w]
                rfl
              exact hX
            · exact ⟨((cell_far (p := ⟨gb174, _, none⟩) NB174_185.out.symm _).trans (hHeld.2.2.1)), ((cell_far (p := ⟨gb174, _, none⟩) NB174_185.out.symm _).trans (hHeld.2.2.2))⟩
            refine pure_ (i := 12) (N := some 65) (v := ?_) (a' := ?_) #[true, true, true, true, true, true, true, true, true, true, true, true, true, false] rfl rfl (any_of HT_.out (by kernel_rfl)) (fun _ _ _ h => h) (Or.inl ⟨by rfl, ?_⟩) ?_ ?_
            rotate_left
            · intro w'
              go_simp
              with_reducible rfl
            rotate_left
            · simp only [Act.put, List.setIfInBounds_toArray, List.set_cons_zero, List.set_cons_succ, i64_w, i32_w]
              rfl
            refine last_ (i := 13) (N := none) #[true, true, true, true, true, true, true, true, true, true, true, true, true, true] rfl rfl (one_of HT_.out (by kernel_rfl)) (by decide) (fun K hK => ?_)
            have hs44 : w42.cell? ⟨gb174, 1, none⟩ = some (.int .i64 x175001_1) := (blk_cell BK174.out 1).trans rfl
            have hfs44 := blk_frozen BK174.out 1
            have hns44_0 := NB172_174.out
            have hns44_1 := NB173_174.out
            have hns44_3 := NB174_176.out.symm
            have hns44_4 := NB174_181.out.symm
            have hns44_5 := NB174_185.out.symm
            have hms44_0 := NB172_174.out.symm
            have hms44_1 := NB173_174.out.symm
            have hms44_3 := NB174_176.out
            have hms44_4 := NB174_181.out
            have hms44_5 := NB174_185.out
            refine skip_ (w1 := ?_) (by rfl) rfl ?_ ?_
            rotate_left
            · go_simp
              rfl
            refine hK.out _ _ ?_
            clear hK K
            refine done_ (done_of HT_.out (by kernel_rfl)) ?_
            try go_wp2
            go_roundg k1
            case measure => have := HK1.out; omega
            case rel => exact ⟨(wrap64 (x27_1 + 1)), (wrap64 (x175000_1 + t182)), (wrap64 (x175001_1 + t183)), (by first | rfl | (simp; done) | (simp [*]; done)), H', ⟨by have := HK1.out; omega⟩, ⟨(grz_ (blk_far (grz_ (blk_far (grz_ BK172.out) NB172_174.out _)) NB172_174.out _))⟩, ⟨(grz_ (blk_far (grz_ (blk_far (grz_ BK173.out) NB173_174.out _)) NB173_174.out _))⟩, ⟨(grz_ (blk_put (cs := #[.int .i64 (wrap64 (x175000_1 + t182)), .int .i64 x175001_1]) (grz_ (blk_put (cs := #[.int .i64 x175000_1, .int .i64 x175001_1]) (grz_ BK174.out) 0 _ rfl)) 1 _ rfl))⟩, ⟨by repeat (first | (with_reducible first | exact HB.out | apply below_alloc | apply pw_below_drewN | apply below_drew1 | refine below_set ?_ GE172.out | refine below_set ?_ GE173.out | refine below_set ?_ GE174.out | refine below_set ?_ GE176.out | refine below_set ?_ GE181.out | refine below_set ?_ GE185.out) | exact HB.out)⟩⟩
          · rw [if_neg c14] at H
            exact absurd H (by simp)
        · rw [if_neg c13] at H
          exact absurd H (by simp)
      · rw [if_neg c12] at H
        have c12b0 : decide (x27_1 < (l0_2.length : Int)) = false := decide_eq_false c12
        clear c12
        simp only [Option.some.injEq, Prod.mk.injEq] at H
        obtain ⟨rfl, rfl⟩ := H
        have hnb45 := NB172_174.out.symm
        have hnc45 := NB172_174.out
        have hnb46 := NB173_174.out.symm
        have hnc46 := NB173_174.out
        have hcz47_0 : wr.cell? ⟨gb174, 0, none⟩ = some (.int .i64 x175000_1) := (blk_cell BK174.out 0).trans rfl
        have hcz47_1 : wr.cell? ⟨gb174, 1, none⟩ = some (.int .i64 x175001_1) := (blk_cell BK174.out 1).trans rfl
        have hfz47_0 := blk_frozen BK174.out 0
        have hfz47_1 := blk_frozen BK174.out 1
        have hnb48 := NB172_173.out.symm
        have hnc48 := NB172_173.out
        have hcz49_0 : wr.cell? ⟨gb173, 0, none⟩ = some (.int .i64 0) := (blk_cell BK173.out 0).trans rfl
        have hcz49_1 : wr.cell? ⟨gb173, 1, none⟩ = some (.int .i64 0) := (blk_cell BK173.out 1).trans rfl
        have hfz49_0 := blk_frozen BK173.out 0
        have hfz49_1 := blk_frozen BK173.out 1
        go_wp2
        refine bodyPost_ret (results_cell_row rfl _ _ gb173 28 #[.int .i64 x175000_1, .int .i64 x175001_1] (0, 0) _ rfl (grz_ (blk_put (cs := #[.int .i64 x175000_1, .int .i64 0]) (grz_ (blk_put (cs := #[.int .i64 0, .int .i64 0]) (grz_ BK173.out) 0 _ rfl)) 1 _ rfl)) Tryd.underlying28 rfl (by kernel_rfl)) rfl ?_
        exact ⟨by first | rfl | (simp [errW_none, errW_some] <;> rfl) | (simp [*, errW_none, errW_some] <;> rfl), by repeat (first | (with_reducible first | exact HB.out | apply below_alloc | apply pw_below_drewN | apply below_drew1 | refine below_set ?_ GE172.out | refine below_set ?_ GE173.out | refine below_set ?_ GE174.out) | exact HB.out)⟩

end Go.Proofs.YtgmjgnojjbajdaaDoor.JG
