-- Made by a program of this session (wip/hp.py, over the kit's print) out of the translation. Not trusted: Lean checks it.
import Derived.Test.YtmoffcpbmigngaaJSx0
import Derived.Test.YtmoffcpbmigngaaJSx1
import Derived.Test.YtmoffcpbmigngaaJSx9
import Derived.Test.YtmoffcpbmigngaaJSx11
import Derived.Test.YtmoffcpbmigngaaJSx12
namespace Go.Proofs.Ytmoffcpbmigngaa.JS
open Go.RowKit Go.Proofs.YtmoffcpbmigngaaW.PrintWords Go.Proofs.YtmoffcpbmigngaaW.PrintLast Go.Proofs.YtmoffcpbmigngaaW.PrintMore
attribute [local go_sem] max2_int min2_int max_two min_two max_three min_three max_four min_four   -- for this text's walks alone
set_option linter.unusedVariables false
set_option linter.unusedSimpArgs false

/-! ### series_sum: function 99 -/
def series_sum.T5 : Bool × List (List Nat × List Nat) := (true, [([], []), ([0], [0]), ([], []), ([1, 2], [1, 2]), ([3], [3]), ([], []), ([5], [5]), ([4, 6], [4, 6]), ([7, 3, 0, 1, 2, 3, 4, 5, 6, 7], [7])])
def series_sum.B5 : List Nat := [0, 1, 0, 7, 15, 0, 32, 127, 255]
theorem series_sum.tab5 : rtab .any (opsOf Try.f99 5) = series_sum.T5 := by kernel_rfl
theorem series_sum.bits5 : waitsOk series_sum.T5.2 series_sum.B5 = true := by kernel_rfl
def series_sum.T8 : Bool × List (List Nat × List Nat) := (true, [([], []), ([0], [0]), ([], []), ([2], [2]), ([1, 3], [1, 3]), ([], []), ([5], [5]), ([], []), ([7], [7]), ([6, 8], [6, 8]), ([0, 1, 2, 3, 4, 5, 6], []), ([10, 4, 0, 1, 2, 3, 4, 5, 6], [4, 10]), ([0, 1, 2, 3, 4, 5, 6, 7, 8, 9, 10, 11], []), ([12, 9, 11, 0, 1, 2, 3, 4, 5, 6, 7, 8, 9, 10, 11], [9, 12])])
def series_sum.B8 : List Nat := [0, 1, 0, 4, 15, 0, 32, 0, 128, 480, 127, 1151, 4095, 8191]
theorem series_sum.tab8 : rtab .any (opsOf Try.f99 8) = series_sum.T8 := by kernel_rfl
theorem series_sum.bits8 : waitsOk series_sum.T8.2 series_sum.B8 = true := by kernel_rfl
set_option maxHeartbeats 8000000 in
set_option maxRecDepth 100000 in
theorem series_sum.calls (k : Nat) (a0_0 : Int) (a0_1 : Int) (A0_2 : Option Addr) (c0_2 : Nat) (l0_2 : List (S93)) (a0_3 : Int) (a1 : Int) (r1 : Int) (r2 : Int) (w : World) (hr0_2 : Kd.C k93 w A0_2 l0_2.length l0_2) (hc0_2 : l0_2.length ≤ c0_2) (h : series_sum.f k a0_0 a0_1 l0_2 a0_3 a1 = some (r1, r2)) :
  Calls Try.prog 99 #[.agg #[.int .i64 a0_0, .int .i64 a0_1, .slice A0_2 l0_2.length c0_2, .int .i64 a0_3], .int .i64 a1] w fun e w' => e = .returned (.agg #[.int .i64 r1, .int .i64 r2]) ∧ Below w.heap.size w w' := by
 have hu74 := Try.underlying74
 have hu23 := Try.underlying23
 have hu93 := Try.underlying93
 have HR0_2 := Aside0.mk hr0_2
 have HC0_2 := Aside0.mk hc0_2
 clear hr0_2 hc0_2
 have HB := Aside0.mk (Below.refl w.heap.size w)
 have H : (series_sum.l0 k a1 l0_2 (l0_2.length : Int) 0 (wrap64 (a0_0 - a0_3)) (wrap64 (a0_0 + a0_3))) = some (r1, r2) := h
 clear h
 have H' := Aside0.mk H
 clear H
 go_enter Try.func99, Try.ntmps99
 go_wp2_with (first | ((with_reducible refine gate_dst (N := 2) rfl ?_); refine box_event ?hg (N := 2) ?hd (cs := #[.int .i64 a0_0, .int .i64 a0_1, .slice A0_2 l0_2.length c0_2, .int .i64 a0_3]) (t := 74) ?hr ?_; (case hd => rfl); (case hg => rfl); (case hr => first | (go_simp; done) | (go_simp; rfl)); intro gb173 hg w3 hbox hb; have BK173 := Aside0.mk hbox; have GW173 := ge_ (hb_ HB.out) hg; have GE173 := ge_ (hb_ HB.out) hg; replace HB := hx_ HB hb; clear hb hbox hg) | ((with_reducible refine gate_dst (N := 4) rfl ?_); refine box_event ?hg (N := 4) ?hd (cs := #[.int .i64 0, .int .i64 0]) (t := 23) ?hr ?_; (case hd => rfl); (case hg => rfl); (case hr => first | (go_simp; done) | (go_simp; rfl)); intro gb174 hg w4 hbox hb; have BK174 := Aside0.mk hbox; have GW174 := ge_ (hb_ HB.out) hg; have GE174 := ge_ (hb_ HB.out) hg; have NB173_174 := nb_ (gr_ BK173.out) hg; have NB174_173 := bn_ (gr_ BK173.out) hg; replace BK173 := nx_ BK173 hb; replace HB := hx_ HB hb; clear hb hbox hg; have hnb5 := NB173_174.out; have hnc5 := NB174_173.out; have hcz6_0 : w4.cell? ⟨gb173, 0, none⟩ = some (.int .i64 a0_0) := (blk_cell BK173.out 0).trans rfl; have hcz6_1 : w4.cell? ⟨gb173, 1, none⟩ = some (.int .i64 a0_1) := (blk_cell BK173.out 1).trans rfl; have hcz6_2 : w4.cell? ⟨gb173, 2, none⟩ = some (.slice A0_2 l0_2.length c0_2) := (blk_cell BK173.out 2).trans rfl; have hcz6_3 : w4.cell? ⟨gb173, 3, none⟩ = some (.int .i64 a0_3) := (blk_cell BK173.out 3).trans rfl; have hfz6_0 := blk_frozen BK173.out 0; have hfz6_1 := blk_frozen BK173.out 1; have hfz6_2 := blk_frozen BK173.out 2; have hfz6_3 := blk_frozen BK173.out 3) | ((with_reducible refine gate_dst (N := 5) rfl ?_); refine box_event ?hg (N := 5) ?hd (cs := #[.int .i64 0, .int .i64 0]) (t := 23) ?hr ?_; (case hd => rfl); (case hg => rfl); (case hr => first | (go_simp; done) | (go_simp; rfl)); intro gb175 hg w7 hbox hb; have BK175 := Aside0.mk hbox; have GW175 := ge_ (hb_ HB.out) hg; have GE175 := ge_ (hb_ HB.out) hg; have NB173_175 := nb_ (gr_ BK173.out) hg; have NB175_173 := bn_ (gr_ BK173.out) hg; have NB174_175 := nb_ (gr_ BK174.out) hg; have NB175_174 := bn_ (gr_ BK174.out) hg; replace BK173 := nx_ BK173 hb; replace BK174 := nx_ BK174 hb; replace HB := hx_ HB hb; clear hb hbox hg; have hnb8 := NB175_173.out; have hnc8 := NB173_175.out; have hnb9 := NB175_174.out; have hnc9 := NB174_175.out; have hcz10_0 : w7.cell? ⟨gb175, 0, none⟩ = some (.int .i64 0) := (blk_cell BK175.out 0).trans rfl; have hcz10_1 : w7.cell? ⟨gb175, 1, none⟩ = some (.int .i64 0) := (blk_cell BK175.out 1).trans rfl; have hfz10_0 := blk_frozen BK175.out 0; have hfz10_1 := blk_frozen BK175.out 1; have hcz11_0 : w7.cell? ⟨gb173, 0, none⟩ = some (.int .i64 a0_0) := (blk_cell BK173.out 0).trans rfl; have hcz11_1 : w7.cell? ⟨gb173, 1, none⟩ = some (.int .i64 a0_1) := (blk_cell BK173.out 1).trans rfl; have hcz11_2 : w7.cell? ⟨gb173, 2, none⟩ = some (.slice A0_2 l0_2.length c0_2) := (blk_cell BK173.out 2).trans rfl; have hcz11_3 : w7.cell? ⟨gb173, 3, none⟩ = some (.int .i64 a0_3) := (blk_cell BK173.out 3).trans rfl; have hfz11_0 := blk_frozen BK173.out 0; have hfz11_1 := blk_frozen BK173.out 1; have hfz11_2 := blk_frozen BK173.out 2; have hfz11_3 := blk_frozen BK173.out 3))
 go_loopg [27] k (fun kq v27 w' => ∃ (x27_1 : Int) (x176000_1 : Int) (x176001_1 : Int), v27 = .int .i64 x27_1 ∧ Aside0 (series_sum.l0 kq a1 l0_2 (l0_2.length : Int) x27_1 x176000_1 x176001_1 = some (r1, r2)) ∧ Aside0 (kq ≤ k) ∧ Aside0 (w'.heap[gb173]? = some (.cells #[.int .i64 a0_0, .int .i64 a0_1, (.slice A0_2 l0_2.length c0_2), .int .i64 a0_3] 74 (0, 0))) ∧ Aside0 (w'.heap[gb174]? = some (.cells #[.int .i64 0, .int .i64 0] 23 (0, 0))) ∧ Aside0 (w'.heap[gb175]? = some (.cells #[.int .i64 x176000_1, .int .i64 x176001_1] 23 (0, 0))) ∧ Aside0 (Below w.heap.size w w'))
 case atStart => exact ⟨(0), (wrap64 (a0_0 - a0_3)), (wrap64 (a0_0 + a0_3)), (by first | rfl | (simp; done) | (simp [*]; done)), H', ⟨Nat.le_refl _⟩, ⟨(gr_ (blk_far (gr_ (blk_far (gr_ BK173.out) NB173_175.out _)) NB173_175.out _))⟩, ⟨(gr_ (blk_far (gr_ (blk_far (gr_ BK174.out) NB174_175.out _)) NB174_175.out _))⟩, ⟨(gr_ (blk_put (cs := #[.int .i64 (wrap64 (a0_0 - a0_3)), .int .i64 0]) (gr_ (blk_put (cs := #[.int .i64 0, .int .i64 0]) (gr_ BK175.out) 0 _ rfl)) 1 _ rfl))⟩, ⟨by repeat (first | (with_reducible first | exact HB.out | apply below_alloc | apply pw_below_drewN | apply below_drew1 | refine below_set ?_ GE173.out | refine below_set ?_ GE174.out | refine below_set ?_ GE175.out) | exact HB.out)⟩⟩
 case round =>
  clear H'
  try clear p2
  try clear c5
  try clear p6
  try clear c8
  try clear c9
  try clear hcz10_0
  try clear hcz10_1
  try clear hcz11_0
  try clear hcz11_1
  try clear hcz11_2
  try clear hcz11_3
  try clear hcz6_0
  try clear hcz6_1
  try clear hcz6_2
  try clear hcz6_3
  try clear hfz10_0
  try clear hfz10_1
  try clear hfz11_0
  try clear hfz11_1
  try clear hfz11_2
  try clear hfz11_3
  try clear hfz6_0
  try clear hfz6_1
  try clear hfz6_2
  try clear hfz6_3
  obtain ⟨x27_1, x176000_1, x176001_1, rfl, HA, HK1, BK173, BK174, BK175, HB⟩ := hrel
  cases gk with
  | zero => exact absurd HA.out (by simp [series_sum.l0])
  | succ k1 =>
   have H := HA.out
   clear HA
   simp only [series_sum.l0] at H
   by_cases c12 : x27_1 < (l0_2.length : Int)
   ·
    rw [if_pos c12] at H
    have c12b0 : decide (x27_1 < (l0_2.length : Int)) = true := decide_eq_true c12
    clear c12
    by_cases c13 : 0 ≤ x27_1
    ·
     rw [if_pos c13] at H
     have c13b0 : decide (0 ≤ x27_1) = true := decide_eq_true c13
     clear c13
     by_cases c14 : x27_1 < (l0_2.length : Int)
     ·
      rw [if_pos c14] at H
      have c14b0 : decide (x27_1 < (l0_2.length : Int)) = true := decide_eq_true c14
      clear c14
      replace H := Option.bind_eq_some_iff.mp H
      obtain ⟨t178, A150, H⟩ := H
      replace H : ((trig_SinOver.f k1 (wrap64 ((wrap64 (Int.tdiv t178 1000000)) + ((rd_T93 l0_2 x27_1).f1))) (wrap64 ((wrap64 ((wrap64 (Int.tdiv t178 1000000)) + ((rd_T93 l0_2 x27_1).f1))) + 1))).bind fun bt179 => ((interval_Scale.f bt179.1 bt179.2.1 ((rd_T93 l0_2 x27_1).f0) 1000000000).bind fun bt183 => (series_sum.l0 k1 a1 l0_2 (l0_2.length : Int) (wrap64 (x27_1 + 1)) (wrap64 (x176000_1 + bt183.1)) (wrap64 (x176001_1 + bt183.2.1))))) = some (r1, r2) := H
      have A15 := Aside0.mk A150
      clear A150
      replace H := Option.bind_eq_some_iff.mp H
      obtain ⟨⟨t179, t180, t181⟩, A160, H⟩ := H
      replace H : ((interval_Scale.f t179 t180 ((rd_T93 l0_2 x27_1).f0) 1000000000).bind fun bt183 => (series_sum.l0 k1 a1 l0_2 (l0_2.length : Int) (wrap64 (x27_1 + 1)) (wrap64 (x176000_1 + bt183.1)) (wrap64 (x176001_1 + bt183.2.1)))) = some (r1, r2) := H
      have A16 := Aside0.mk A160
      clear A160
      replace H := Option.bind_eq_some_iff.mp H
      obtain ⟨⟨t183, t184, t185⟩, A170, H⟩ := H
      replace H : (series_sum.l0 k1 a1 l0_2 (l0_2.length : Int) (wrap64 (x27_1 + 1)) (wrap64 (x176000_1 + t183)) (wrap64 (x176001_1 + t184))) = some (r1, r2) := H
      have A17 := Aside0.mk A170
      clear A170
      have H' := Aside0.mk H
      clear H
      have p176 : 0 ≤ (x27_1 : Int) := of_decide_eq_true (by first | (with_reducible assumption) | assumption)
      have q176 : x27_1 < (l0_2.length : Int) := of_decide_eq_true (by first | (with_reducible assumption) | assumption)
      obtain ⟨ad176, e176, hx176_0, hx176_1, hx176_2⟩ := at_T93 HR0_2.out x27_1 p176 q176
      cases e176
      replace hx176_0 := (HB.out.cell (World.block_lt_of_cell? w _ hx176_0)).trans hx176_0
      replace hx176_1 := (HB.out.cell (World.block_lt_of_cell? w _ hx176_1)).trans hx176_1
      replace hx176_2 := (HB.out.cell (World.block_lt_of_cell? w _ hx176_2)).trans hx176_2
      replace p176 := eq_true p176
      replace q176 := eq_true q176
      try go_wp2_with (first | ((with_reducible refine gate_dst (N := 7) rfl ?_); refine box_event ?hg (N := 7) ?hd (cs := #[.int .i64 0, .int .i64 0, .int .i64 0]) (t := 93) ?hr ?_; (case hd => rfl); (case hg => rfl); (case hr => first | (go_simp; done) | (go_simp; rfl)); intro gb177 hg w18 hbox hb; have BK177 := Aside0.mk hbox; have GW177 := ge_ (hb_ HB.out) hg; have GE177 := ge_ (hb_ HB.out) hg; have NB173_177 := nb_ (gr_ BK173.out) hg; have NB177_173 := bn_ (gr_ BK173.out) hg; have NB174_177 := nb_ (gr_ BK174.out) hg; have NB177_174 := bn_ (gr_ BK174.out) hg; have NB175_177 := nb_ (gr_ BK175.out) hg; have NB177_175 := bn_ (gr_ BK175.out) hg; replace BK173 := nx_ BK173 hb; replace BK174 := nx_ BK174 hb; replace BK175 := nx_ BK175 hb; replace HB := hx_ HB hb; clear hb hbox hg; have hnb19 := NB177_173.out; have hnc19 := NB173_177.out; have hnb20 := NB177_174.out; have hnc20 := NB174_177.out; have hnb21 := NB177_175.out; have hnc21 := NB175_177.out; have hcz22_0 : w18.cell? ⟨gb177, 0, none⟩ = some (.int .i64 0) := (blk_cell BK177.out 0).trans rfl; have hcz22_1 : w18.cell? ⟨gb177, 1, none⟩ = some (.int .i64 0) := (blk_cell BK177.out 1).trans rfl; have hcz22_2 : w18.cell? ⟨gb177, 2, none⟩ = some (.int .i64 0) := (blk_cell BK177.out 2).trans rfl; have hfz22_0 := blk_frozen BK177.out 0; have hfz22_1 := blk_frozen BK177.out 1; have hfz22_2 := blk_frozen BK177.out 2))
      have n0_ : Aside0 ((((w18.setCell ⟨gb177, 0, none⟩ (.int .i64 ((rd_T93 l0_2 x27_1).f0))).setCell ⟨gb177, 1, none⟩ (.int .i64 ((rd_T93 l0_2 x27_1).f1))).setCell ⟨gb177, 2, none⟩ (.int .i64 ((rd_T93 l0_2 x27_1).f2))).heap[gb173]? = some (.cells #[.int .i64 a0_0, .int .i64 a0_1, .slice (some ad176) l0_2.length c0_2, .int .i64 a0_3] 74 (0, 0))) := ⟨(gr_ (blk_far (gr_ (blk_far (gr_ (blk_far (gr_ BK173.out) NB173_177.out _)) NB173_177.out _)) NB173_177.out _))⟩
      have n1_ : Aside0 ((((w18.setCell ⟨gb177, 0, none⟩ (.int .i64 ((rd_T93 l0_2 x27_1).f0))).setCell ⟨gb177, 1, none⟩ (.int .i64 ((rd_T93 l0_2 x27_1).f1))).setCell ⟨gb177, 2, none⟩ (.int .i64 ((rd_T93 l0_2 x27_1).f2))).heap[gb174]? = some (.cells #[.int .i64 0, .int .i64 0] 23 (0, 0))) := ⟨(gr_ (blk_far (gr_ (blk_far (gr_ (blk_far (gr_ BK174.out) NB174_177.out _)) NB174_177.out _)) NB174_177.out _))⟩
      have n2_ : Aside0 ((((w18.setCell ⟨gb177, 0, none⟩ (.int .i64 ((rd_T93 l0_2 x27_1).f0))).setCell ⟨gb177, 1, none⟩ (.int .i64 ((rd_T93 l0_2 x27_1).f1))).setCell ⟨gb177, 2, none⟩ (.int .i64 ((rd_T93 l0_2 x27_1).f2))).heap[gb175]? = some (.cells #[.int .i64 x176000_1, .int .i64 x176001_1] 23 (0, 0))) := ⟨(gr_ (blk_far (gr_ (blk_far (gr_ (blk_far (gr_ BK175.out) NB175_177.out _)) NB175_177.out _)) NB175_177.out _))⟩
      have n3_ : Aside0 ((((w18.setCell ⟨gb177, 0, none⟩ (.int .i64 ((rd_T93 l0_2 x27_1).f0))).setCell ⟨gb177, 1, none⟩ (.int .i64 ((rd_T93 l0_2 x27_1).f1))).setCell ⟨gb177, 2, none⟩ (.int .i64 ((rd_T93 l0_2 x27_1).f2))).heap[gb177]? = some (.cells #[.int .i64 ((rd_T93 l0_2 x27_1).f0), .int .i64 ((rd_T93 l0_2 x27_1).f1), .int .i64 ((rd_T93 l0_2 x27_1).f2)] 93 (0, 0))) := ⟨(gr_ (blk_put (cs := #[.int .i64 ((rd_T93 l0_2 x27_1).f0), .int .i64 ((rd_T93 l0_2 x27_1).f1), .int .i64 0]) (gr_ (blk_put (cs := #[.int .i64 ((rd_T93 l0_2 x27_1).f0), .int .i64 0, .int .i64 0]) (gr_ (blk_put (cs := #[.int .i64 0, .int .i64 0, .int .i64 0]) (gr_ BK177.out) 0 _ rfl)) 1 _ rfl)) 2 _ rfl))⟩
      have n4_ : Aside0 (Below w.heap.size w (((w18.setCell ⟨gb177, 0, none⟩ (.int .i64 ((rd_T93 l0_2 x27_1).f0))).setCell ⟨gb177, 1, none⟩ (.int .i64 ((rd_T93 l0_2 x27_1).f1))).setCell ⟨gb177, 2, none⟩ (.int .i64 ((rd_T93 l0_2 x27_1).f2)))) := ⟨by repeat (first | (with_reducible first | exact HB.out | apply below_alloc | apply pw_below_drewN | apply below_drew1 | refine below_set ?_ GE173.out | refine below_set ?_ GE174.out | refine below_set ?_ GE175.out | refine below_set ?_ GE177.out) | exact HB.out)⟩
      (try clear BK173)
      (try clear BK174)
      (try clear BK175)
      (try clear BK177)
      (try clear HB)
      generalize (((w18.setCell ⟨gb177, 0, none⟩ (.int .i64 ((rd_T93 l0_2 x27_1).f0))).setCell ⟨gb177, 1, none⟩ (.int .i64 ((rd_T93 l0_2 x27_1).f1))).setCell ⟨gb177, 2, none⟩ (.int .i64 ((rd_T93 l0_2 x27_1).f2))) = w23 at n0_ n1_ n2_ n3_ n4_ ⊢
      have BK173 := n0_
      have BK174 := n1_
      have BK175 := n2_
      have BK177 := n3_
      have HB := n4_
      clear n0_ n1_ n2_ n3_ n4_
      have n0_ := Aside0.mk (blk_drew BK173.out)
      have n1_ := Aside0.mk (blk_drew BK174.out)
      have n2_ := Aside0.mk (blk_drew BK175.out)
      have n3_ := Aside0.mk (blk_drew BK177.out)
      have n4_ := Aside0.mk (below_drew1 HB.out)
      clear BK173
      clear BK174
      clear BK175
      clear BK177
      clear HB
      have BK173 := n0_
      have BK174 := n1_
      have BK175 := n2_
      have BK177 := n3_
      have HB := n4_
      clear n0_ n1_ n2_ n3_ n4_
      refine start_ (n := 9) (S := fun w' => w'.cell? ⟨gb177, 0, none⟩ = some (.int .i64 ((rd_T93 l0_2 x27_1).f0)) ∧ w'.cell? ⟨gb177, 1, none⟩ = some (.int .i64 ((rd_T93 l0_2 x27_1).f1)) ∧ w'.cell? ⟨gb177, 2, none⟩ = some (.int .i64 ((rd_T93 l0_2 x27_1).f2))) (ds := []) #[false, false, false, false, false, false, false, false, false] (by kernel_rfl) rfl rfl ⟨(blk_cell BK177.out 0).trans rfl, (blk_cell BK177.out 1).trans rfl, (blk_cell BK177.out 2).trans rfl⟩ (fun hHeld => ?_); refine with_tabW series_sum.tab5 series_sum.bits5 (fun HT_ HW_ => ?_)
      generalize w23.drew = w24 at BK173 BK174 BK175 BK177 HB hHeld ⊢
      refine pure_ (i := 0) (N := some 31) (v := ?_) (a' := ?_) #[true, false, false, false, false, false, false, false, false] rfl rfl (any_of HT_.out (by kernel_rfl)) (fun _ _ _ h => h) (Or.inl ⟨by rfl, ?_⟩) ?_ ?_
      rotate_left
      ·
       intro w'
       go_simp
       with_reducible rfl
      rotate_left
      ·
       simp only [Act.put, List.setIfInBounds_toArray, List.set_cons_zero, List.set_cons_succ, i64_w, i32_w]
       rfl
      refine pure_ (i := 2) (N := some 33) (v := ?_) (a' := ?_) #[true, false, true, false, false, false, false, false, false] rfl rfl (any_of HT_.out (by kernel_rfl)) (fun _ _ _ h => h) (Or.inl ⟨by rfl, ?_⟩) ?_ ?_
      rotate_left
      ·
       intro w'
       go_simp
       with_reducible rfl
      rotate_left
      ·
       simp only [Act.put, List.setIfInBounds_toArray, List.set_cons_zero, List.set_cons_succ, i64_w, i32_w]
       rfl
      refine pure_ (i := 5) (N := some 36) (v := ?_) (a' := ?_) #[true, false, true, false, false, true, false, false, false] rfl rfl (any_of HT_.out (by kernel_rfl)) (fun _ _ _ h => h) (Or.inl ⟨by rfl, ?_⟩) ?_ ?_
      rotate_left
      ·
       intro w'
       go_simp
       with_reducible rfl
      rotate_left
      ·
       simp only [Act.put, List.setIfInBounds_toArray, List.set_cons_zero, List.set_cons_succ, i64_w, i32_w]
       rfl
      refine take_ (i := 1) (N := some 32) (v := ?_) (a' := ?_) #[true, true, true, false, false, true, false, false, false] rfl rfl (take_ofW HT_.out HW_.out (by kernel_rfl)) (fun _ _ _ h => h) (Or.inl ⟨by rfl, ?_⟩) hHeld ?_ ?_
      rotate_left
      ·
       rintro w' ⟨s0, s1, s2⟩
       go_simp
       with_reducible rfl
      rotate_left
      ·
       simp only [Act.put, List.setIfInBounds_toArray, List.set_cons_zero, List.set_cons_succ, i64_w, i32_w]
       rfl
      refine take_ (i := 6) (N := some 37) (v := ?_) (a' := ?_) #[true, true, true, false, false, true, true, false, false] rfl rfl (take_ofW HT_.out HW_.out (by kernel_rfl)) (fun _ _ _ h => h) (Or.inl ⟨by rfl, ?_⟩) hHeld ?_ ?_
      rotate_left
      ·
       rintro w' ⟨s0, s1, s2⟩
       go_simp
       with_reducible rfl
      rotate_left
      ·
       simp only [Act.put, List.setIfInBounds_toArray, List.set_cons_zero, List.set_cons_succ, i64_w, i32_w]
       rfl
      refine one_ (i := 3) (N := some 34) #[true, true, true, true, false, true, true, false, false] rfl rfl (one_of HT_.out (by kernel_rfl)) (by decide) (fun K hK => ?_)
      refine goes_ Try.func100 (by kernel_rfl) rfl #[.int .i64 ((rd_T93 l0_2 x27_1).f2), .int .i64 a1] (by rfl) rfl rfl (by (try simp only [List.map_toArray, List.map_cons, List.map_nil]); first | done | rfl | (simp only [List.length_drop, List.length_take]; rfl)) ?_
      with_reducible refine (series_Turned.calls k1 ((rd_T93 l0_2 x27_1).f2) a1 t178 _ A15.out).mono ?_
      rintro e w' ⟨rfl, ⟨nd, rfl⟩⟩
      refine ⟨_, rfl, ?_⟩
      refine hK.out _ _ ⟨(blk_cell BK177.out 0).trans rfl, (blk_cell BK177.out 1).trans rfl, (blk_cell BK177.out 2).trans rfl⟩ (fun hHeld => ?_)
      clear hK K
      refine norm_ (a' := ?_) ?_ ?_
      rotate_left
      ·
       show Act.put _ (some 34) _ = _
       simp only [Act.put, List.setIfInBounds_toArray, List.set_cons_zero, List.set_cons_succ, i64_w, i32_w]
       rfl
      refine pure_ (i := 4) (N := some 35) (v := ?_) (a' := ?_) #[true, true, true, true, true, true, true, false, false] rfl rfl (any_of HT_.out (by kernel_rfl)) (fun _ _ _ h => h) (Or.inl ⟨by rfl, ?_⟩) ?_ ?_
      rotate_left
      ·
       intro w'
       go_simp
       with_reducible rfl
      rotate_left
      ·
       simp only [Act.put, List.setIfInBounds_toArray, List.set_cons_zero, List.set_cons_succ, i64_w, i32_w]
       rfl
      refine pure_ (i := 7) (N := some 38) (v := ?_) (a' := ?_) #[true, true, true, true, true, true, true, true, false] rfl rfl (any_of HT_.out (by kernel_rfl)) (fun _ _ _ h => h) (Or.inl ⟨by rfl, ?_⟩) ?_ ?_
      rotate_left
      ·
       intro w'
       go_simp
       with_reducible rfl
      rotate_left
      ·
       simp only [Act.put, List.setIfInBounds_toArray, List.set_cons_zero, List.set_cons_succ, i64_w, i32_w]
       rfl
      refine pure_ (i := 8) (N := some 8) (v := ?_) (a' := ?_) #[true, true, true, true, true, true, true, true, true] rfl rfl (any_of HT_.out (by kernel_rfl)) (fun _ _ _ h => h) (Or.inl ⟨by rfl, ?_⟩) ?_ ?_
      rotate_left
      ·
       intro w'
       go_simp
       with_reducible rfl
      rotate_left
      ·
       simp only [Act.put, List.setIfInBounds_toArray, List.set_cons_zero, List.set_cons_succ, i64_w, i32_w]
       rfl
      refine done_ (done_of HT_.out (by kernel_rfl)) ?_
      try go_wp2_with (first | ((with_reducible refine gate_callee (f := 17) rfl ?_); refine goesL_ (some 44) rfl rfl Try.func17 (by kernel_rfl) rfl #[.agg #[.int .i64 (wrap64 ((wrap64 (Int.tdiv t178 1000000)) + ((rd_T93 l0_2 x27_1).f1))), .int .i64 (wrap64 ((wrap64 ((wrap64 (Int.tdiv t178 1000000)) + ((rd_T93 l0_2 x27_1).f1))) + 1))]] rfl (by (try simp only [List.map_toArray, List.map_cons, List.map_nil]); first | done | rfl | (simp only [List.length_drop, List.length_take]; rfl) | (rw [wrap_in_ (n := Int.tdiv t178 1000000) (by omega) (by omega)]; rfl)) ?_; (with_reducible refine (trig_SinOver.calls k1 (wrap64 ((wrap64 (Int.tdiv t178 1000000)) + ((rd_T93 l0_2 x27_1).f1))) (wrap64 ((wrap64 ((wrap64 (Int.tdiv t178 1000000)) + ((rd_T93 l0_2 x27_1).f1))) + 1)) t179 t180 t181 _ A16.out).mono ?_); rintro e w25 ⟨rfl, hb⟩; refine ⟨_, rfl, ?_⟩; replace BK173 := nx_ BK173 hb; replace BK174 := nx_ BK174 hb; replace BK175 := nx_ BK175 hb; replace BK177 := nx_ BK177 hb; replace HB := hx_ HB hb; (try clear hb); (try clear hb2); (try clear hk); (try clear hi)) | ((with_reducible refine gate_dst (N := 9) rfl ?_); refine box_event ?hg (N := 9) ?hd (cs := #[.int .i64 0, .int .i64 0]) (t := 23) ?hr ?_; (case hd => rfl); (case hg => rfl); (case hr => first | (go_simp; done) | (go_simp; rfl)); intro gb182 hg w26 hbox hb; have BK182 := Aside0.mk hbox; have GW182 := ge_ (hb_ HB.out) hg; have GE182 := ge_ (hb_ HB.out) hg; have NB173_182 := nb_ (gr_ BK173.out) hg; have NB182_173 := bn_ (gr_ BK173.out) hg; have NB174_182 := nb_ (gr_ BK174.out) hg; have NB182_174 := bn_ (gr_ BK174.out) hg; have NB175_182 := nb_ (gr_ BK175.out) hg; have NB182_175 := bn_ (gr_ BK175.out) hg; have NB177_182 := nb_ (gr_ BK177.out) hg; have NB182_177 := bn_ (gr_ BK177.out) hg; replace BK173 := nx_ BK173 hb; replace BK174 := nx_ BK174 hb; replace BK175 := nx_ BK175 hb; replace BK177 := nx_ BK177 hb; replace HB := hx_ HB hb; clear hb hbox hg; have hnb27 := NB182_173.out; have hnc27 := NB173_182.out; have hnb28 := NB182_174.out; have hnc28 := NB174_182.out; have hnb29 := NB182_175.out; have hnc29 := NB175_182.out; have hnb30 := NB182_177.out; have hnc30 := NB177_182.out; have hcz31_0 : w26.cell? ⟨gb182, 0, none⟩ = some (.int .i64 0) := (blk_cell BK182.out 0).trans rfl; have hcz31_1 : w26.cell? ⟨gb182, 1, none⟩ = some (.int .i64 0) := (blk_cell BK182.out 1).trans rfl; have hfz31_0 := blk_frozen BK182.out 0; have hfz31_1 := blk_frozen BK182.out 1; have hcz32_0 : w26.cell? ⟨gb177, 0, none⟩ = some (.int .i64 ((rd_T93 l0_2 x27_1).f0)) := (blk_cell BK177.out 0).trans rfl; have hcz32_1 : w26.cell? ⟨gb177, 1, none⟩ = some (.int .i64 ((rd_T93 l0_2 x27_1).f1)) := (blk_cell BK177.out 1).trans rfl; have hcz32_2 : w26.cell? ⟨gb177, 2, none⟩ = some (.int .i64 ((rd_T93 l0_2 x27_1).f2)) := (blk_cell BK177.out 2).trans rfl; have hfz32_0 := blk_frozen BK177.out 0; have hfz32_1 := blk_frozen BK177.out 1; have hfz32_2 := blk_frozen BK177.out 2) | ((with_reducible refine gate_callee (f := 81) rfl ?_); refine goesL_ (some 51) rfl rfl Try.func81 (by kernel_rfl) rfl #[.agg #[.int .i64 t179, .int .i64 t180], .int .i64 ((rd_T93 l0_2 x27_1).f0), .int .i64 1000000000] rfl (by (try simp only [List.map_toArray, List.map_cons, List.map_nil]); first | done | rfl | (simp only [List.length_drop, List.length_take]; rfl)) ?_; (with_reducible refine (interval_Scale.calls t179 t180 ((rd_T93 l0_2 x27_1).f0) 1000000000 t183 t184 t185 _ A17.out).mono ?_); rintro e w33 ⟨rfl, hb⟩; refine ⟨_, rfl, ?_⟩; replace BK173 := Aside0.mk (blk_below (g := gb173) (o := .cells #[.int .i64 a0_0, .int .i64 a0_1, .slice (some ad176) l0_2.length c0_2, .int .i64 a0_3] 74 (0, 0)) (gr_ (blk_far (gr_ (blk_far (gr_ BK173.out) NB173_182.out _)) NB173_182.out _)) hb); replace BK174 := Aside0.mk (blk_below (g := gb174) (o := .cells #[.int .i64 0, .int .i64 0] 23 (0, 0)) (gr_ (blk_far (gr_ (blk_far (gr_ BK174.out) NB174_182.out _)) NB174_182.out _)) hb); replace BK175 := Aside0.mk (blk_below (g := gb175) (o := .cells #[.int .i64 x176000_1, .int .i64 x176001_1] 23 (0, 0)) (gr_ (blk_far (gr_ (blk_far (gr_ BK175.out) NB175_182.out _)) NB175_182.out _)) hb); replace BK177 := Aside0.mk (blk_below (g := gb177) (o := .cells #[.int .i64 ((rd_T93 l0_2 x27_1).f0), .int .i64 ((rd_T93 l0_2 x27_1).f1), .int .i64 ((rd_T93 l0_2 x27_1).f2)] 93 (0, 0)) (gr_ (blk_far (gr_ (blk_far (gr_ BK177.out) NB177_182.out _)) NB177_182.out _)) hb); replace BK182 := Aside0.mk (blk_below (g := gb182) (o := .cells #[.int .i64 t179, .int .i64 t180] 23 (0, 0)) (gr_ (blk_put (cs := #[.int .i64 t179, .int .i64 0]) (gr_ (blk_put (cs := #[.int .i64 0, .int .i64 0]) (gr_ BK182.out) 0 _ rfl)) 1 _ rfl)) hb); replace HB := Aside0.mk (below_step (by repeat (first | (with_reducible first | exact HB.out | apply below_alloc | apply pw_below_drewN | apply below_drew1 | refine below_set ?_ GE182.out) | exact HB.out)) hb); (try clear hb); (try clear hb2); (try clear hk); (try clear hi)) | ((with_reducible refine gate_dst (N := 11) rfl ?_); refine box_event ?hg (N := 11) ?hd (cs := #[.int .i64 0, .int .i64 0]) (t := 23) ?hr ?_; (case hd => rfl); (case hg => rfl); (case hr => first | (go_simp; done) | (go_simp; rfl)); intro gb186 hg w34 hbox hb; have BK186 := Aside0.mk hbox; have GW186 := ge_ (hb_ HB.out) hg; have GE186 := ge_ (hb_ HB.out) hg; have NB173_186 := nb_ (gr_ BK173.out) hg; have NB186_173 := bn_ (gr_ BK173.out) hg; have NB174_186 := nb_ (gr_ BK174.out) hg; have NB186_174 := bn_ (gr_ BK174.out) hg; have NB175_186 := nb_ (gr_ BK175.out) hg; have NB186_175 := bn_ (gr_ BK175.out) hg; have NB177_186 := nb_ (gr_ BK177.out) hg; have NB186_177 := bn_ (gr_ BK177.out) hg; have NB182_186 := nb_ (gr_ BK182.out) hg; have NB186_182 := bn_ (gr_ BK182.out) hg; replace BK173 := nx_ BK173 hb; replace BK174 := nx_ BK174 hb; replace BK175 := nx_ BK175 hb; replace BK177 := nx_ BK177 hb; replace BK182 := nx_ BK182 hb; replace HB := hx_ HB hb; clear hb hbox hg; have hnb35 := NB186_173.out; have hnc35 := NB173_186.out; have hnb36 := NB186_174.out; have hnc36 := NB174_186.out; have hnb37 := NB186_175.out; have hnc37 := NB175_186.out; have hnb38 := NB186_177.out; have hnc38 := NB177_186.out; have hnb39 := NB186_182.out; have hnc39 := NB182_186.out; have hcz40_0 : w34.cell? ⟨gb186, 0, none⟩ = some (.int .i64 0) := (blk_cell BK186.out 0).trans rfl; have hcz40_1 : w34.cell? ⟨gb186, 1, none⟩ = some (.int .i64 0) := (blk_cell BK186.out 1).trans rfl; have hfz40_0 := blk_frozen BK186.out 0; have hfz40_1 := blk_frozen BK186.out 1))
      have n0_ : Aside0 (((w34.setCell ⟨gb186, 0, none⟩ (.int .i64 t183)).setCell ⟨gb186, 1, none⟩ (.int .i64 t184)).heap[gb173]? = some (.cells #[.int .i64 a0_0, .int .i64 a0_1, .slice (some ad176) l0_2.length c0_2, .int .i64 a0_3] 74 (0, 0))) := ⟨(gr_ (blk_far (gr_ (blk_far (gr_ BK173.out) NB173_186.out _)) NB173_186.out _))⟩
      have n1_ : Aside0 (((w34.setCell ⟨gb186, 0, none⟩ (.int .i64 t183)).setCell ⟨gb186, 1, none⟩ (.int .i64 t184)).heap[gb174]? = some (.cells #[.int .i64 0, .int .i64 0] 23 (0, 0))) := ⟨(gr_ (blk_far (gr_ (blk_far (gr_ BK174.out) NB174_186.out _)) NB174_186.out _))⟩
      have n2_ : Aside0 (((w34.setCell ⟨gb186, 0, none⟩ (.int .i64 t183)).setCell ⟨gb186, 1, none⟩ (.int .i64 t184)).heap[gb175]? = some (.cells #[.int .i64 x176000_1, .int .i64 x176001_1] 23 (0, 0))) := ⟨(gr_ (blk_far (gr_ (blk_far (gr_ BK175.out) NB175_186.out _)) NB175_186.out _))⟩
      have n3_ : Aside0 (((w34.setCell ⟨gb186, 0, none⟩ (.int .i64 t183)).setCell ⟨gb186, 1, none⟩ (.int .i64 t184)).heap[gb177]? = some (.cells #[.int .i64 ((rd_T93 l0_2 x27_1).f0), .int .i64 ((rd_T93 l0_2 x27_1).f1), .int .i64 ((rd_T93 l0_2 x27_1).f2)] 93 (0, 0))) := ⟨(gr_ (blk_far (gr_ (blk_far (gr_ BK177.out) NB177_186.out _)) NB177_186.out _))⟩
      have n4_ : Aside0 (((w34.setCell ⟨gb186, 0, none⟩ (.int .i64 t183)).setCell ⟨gb186, 1, none⟩ (.int .i64 t184)).heap[gb182]? = some (.cells #[.int .i64 t179, .int .i64 t180] 23 (0, 0))) := ⟨(gr_ (blk_far (gr_ (blk_far (gr_ BK182.out) NB182_186.out _)) NB182_186.out _))⟩
      have n5_ : Aside0 (((w34.setCell ⟨gb186, 0, none⟩ (.int .i64 t183)).setCell ⟨gb186, 1, none⟩ (.int .i64 t184)).heap[gb186]? = some (.cells #[.int .i64 t183, .int .i64 t184] 23 (0, 0))) := ⟨(gr_ (blk_put (cs := #[.int .i64 t183, .int .i64 0]) (gr_ (blk_put (cs := #[.int .i64 0, .int .i64 0]) (gr_ BK186.out) 0 _ rfl)) 1 _ rfl))⟩
      have n6_ : Aside0 (Below w.heap.size w ((w34.setCell ⟨gb186, 0, none⟩ (.int .i64 t183)).setCell ⟨gb186, 1, none⟩ (.int .i64 t184))) := ⟨by repeat (first | (with_reducible first | exact HB.out | apply below_alloc | apply pw_below_drewN | apply below_drew1 | refine below_set ?_ GE173.out | refine below_set ?_ GE174.out | refine below_set ?_ GE175.out | refine below_set ?_ GE177.out | refine below_set ?_ GE182.out | refine below_set ?_ GE186.out) | exact HB.out)⟩
      (try clear BK173)
      (try clear BK174)
      (try clear BK175)
      (try clear BK177)
      (try clear BK182)
      (try clear BK186)
      (try clear HB)
      generalize ((w34.setCell ⟨gb186, 0, none⟩ (.int .i64 t183)).setCell ⟨gb186, 1, none⟩ (.int .i64 t184)) = w41 at n0_ n1_ n2_ n3_ n4_ n5_ n6_ ⊢
      have BK173 := n0_
      have BK174 := n1_
      have BK175 := n2_
      have BK177 := n3_
      have BK182 := n4_
      have BK186 := n5_
      have HB := n6_
      clear n0_ n1_ n2_ n3_ n4_ n5_ n6_
      have n0_ := Aside0.mk (blk_drew BK173.out)
      have n1_ := Aside0.mk (blk_drew BK174.out)
      have n2_ := Aside0.mk (blk_drew BK175.out)
      have n3_ := Aside0.mk (blk_drew BK177.out)
      have n4_ := Aside0.mk (blk_drew BK182.out)
      have n5_ := Aside0.mk (blk_drew BK186.out)
      have n6_ := Aside0.mk (below_drew1 HB.out)
      clear BK173
      clear BK174
      clear BK175
      clear BK177
      clear BK182
      clear BK186
      clear HB
      have BK173 := n0_
      have BK174 := n1_
      have BK175 := n2_
      have BK177 := n3_
      have BK182 := n4_
      have BK186 := n5_
      have HB := n6_
      clear n0_ n1_ n2_ n3_ n4_ n5_ n6_
      refine start_ (n := 14) (S := fun w' => w'.cell? ⟨gb175, 0, none⟩ = some (.int .i64 x176000_1) ∧ w'.cell? ⟨gb175, 1, none⟩ = some (.int .i64 x176001_1) ∧ w'.cell? ⟨gb186, 0, none⟩ = some (.int .i64 t183) ∧ w'.cell? ⟨gb186, 1, none⟩ = some (.int .i64 t184)) (ds := [11, 13]) #[false, false, false, false, false, false, false, false, false, false, false, false, false, false] (by kernel_rfl) rfl rfl ⟨(blk_cell BK175.out 0).trans rfl, (blk_cell BK175.out 1).trans rfl, (blk_cell BK186.out 0).trans rfl, (blk_cell BK186.out 1).trans rfl⟩ (fun hHeld => ?_); refine with_tabW series_sum.tab8 series_sum.bits8 (fun HT_ HW_ => ?_)
      generalize w41.drew = w42 at BK173 BK174 BK175 BK177 BK182 BK186 HB hHeld ⊢
      refine pure_ (i := 0) (N := some 54) (v := ?_) (a' := ?_) #[true, false, false, false, false, false, false, false, false, false, false, false, false, false] rfl rfl (any_of HT_.out (by kernel_rfl)) (fun _ _ _ h => h) (Or.inl ⟨by rfl, ?_⟩) ?_ ?_
      rotate_left
      ·
       intro w'
       go_simp
       with_reducible rfl
      rotate_left
      ·
       simp only [Act.put, List.setIfInBounds_toArray, List.set_cons_zero, List.set_cons_succ, i64_w, i32_w]
       rfl
      refine pure_ (i := 2) (N := some 56) (v := ?_) (a' := ?_) #[true, false, true, false, false, false, false, false, false, false, false, false, false, false] rfl rfl (any_of HT_.out (by kernel_rfl)) (fun _ _ _ h => h) (Or.inl ⟨by rfl, ?_⟩) ?_ ?_
      rotate_left
      ·
       intro w'
       go_simp
       with_reducible rfl
      rotate_left
      ·
       simp only [Act.put, List.setIfInBounds_toArray, List.set_cons_zero, List.set_cons_succ, i64_w, i32_w]
       rfl
      refine pure_ (i := 5) (N := some 59) (v := ?_) (a' := ?_) #[true, false, true, false, false, true, false, false, false, false, false, false, false, false] rfl rfl (any_of HT_.out (by kernel_rfl)) (fun _ _ _ h => h) (Or.inl ⟨by rfl, ?_⟩) ?_ ?_
      rotate_left
      ·
       intro w'
       go_simp
       with_reducible rfl
      rotate_left
      ·
       simp only [Act.put, List.setIfInBounds_toArray, List.set_cons_zero, List.set_cons_succ, i64_w, i32_w]
       rfl
      refine pure_ (i := 7) (N := some 61) (v := ?_) (a' := ?_) #[true, false, true, false, false, true, false, true, false, false, false, false, false, false] rfl rfl (any_of HT_.out (by kernel_rfl)) (fun _ _ _ h => h) (Or.inl ⟨by rfl, ?_⟩) ?_ ?_
      rotate_left
      ·
       intro w'
       go_simp
       with_reducible rfl
      rotate_left
      ·
       simp only [Act.put, List.setIfInBounds_toArray, List.set_cons_zero, List.set_cons_succ, i64_w, i32_w]
       rfl
      refine take_ (i := 1) (N := some 55) (v := ?_) (a' := ?_) #[true, true, true, false, false, true, false, true, false, false, false, false, false, false] rfl rfl (take_ofW HT_.out HW_.out (by kernel_rfl)) (fun _ _ _ h => h) (Or.inl ⟨by rfl, ?_⟩) hHeld ?_ ?_
      rotate_left
      ·
       rintro w' ⟨s0, s1, s2, s3⟩
       go_simp
       with_reducible rfl
      rotate_left
      ·
       simp only [Act.put, List.setIfInBounds_toArray, List.set_cons_zero, List.set_cons_succ, i64_w, i32_w]
       rfl
      refine take_ (i := 3) (N := some 57) (v := ?_) (a' := ?_) #[true, true, true, true, false, true, false, true, false, false, false, false, false, false] rfl rfl (take_ofW HT_.out HW_.out (by kernel_rfl)) (fun _ _ _ h => h) (Or.inl ⟨by rfl, ?_⟩) hHeld ?_ ?_
      rotate_left
      ·
       rintro w' ⟨s0, s1, s2, s3⟩
       go_simp
       with_reducible rfl
      rotate_left
      ·
       simp only [Act.put, List.setIfInBounds_toArray, List.set_cons_zero, List.set_cons_succ, i64_w, i32_w]
       rfl
      refine pure_ (i := 4) (N := some 58) (v := ?_) (a' := ?_) #[true, true, true, true, true, true, false, true, false, false, false, false, false, false] rfl rfl (any_of HT_.out (by kernel_rfl)) (fun _ _ _ h => h) (Or.inl ⟨by rfl, ?_⟩) ?_ ?_
      rotate_left
      ·
       intro w'
       go_simp
       with_reducible rfl
      rotate_left
      ·
       simp only [Act.put, List.setIfInBounds_toArray, List.set_cons_zero, List.set_cons_succ, i64_w, i32_w]
       rfl
      refine take_ (i := 6) (N := some 60) (v := ?_) (a' := ?_) #[true, true, true, true, true, true, true, true, false, false, false, false, false, false] rfl rfl (take_ofW HT_.out HW_.out (by kernel_rfl)) (fun _ _ _ h => h) (Or.inl ⟨by rfl, ?_⟩) hHeld ?_ ?_
      rotate_left
      ·
       rintro w' ⟨s0, s1, s2, s3⟩
       go_simp
       with_reducible rfl
      rotate_left
      ·
       simp only [Act.put, List.setIfInBounds_toArray, List.set_cons_zero, List.set_cons_succ, i64_w, i32_w]
       rfl
      refine pure_ (i := 10) (N := some 64) (v := ?_) (a' := ?_) #[true, true, true, true, true, true, true, true, false, false, true, false, false, false] rfl rfl (any_of HT_.out (by kernel_rfl)) (fun _ _ _ h => h) (Or.inl ⟨by rfl, ?_⟩) ?_ ?_
      rotate_left
      ·
       intro w'
       go_simp
       with_reducible rfl
      rotate_left
      ·
       simp only [Act.put, List.setIfInBounds_toArray, List.set_cons_zero, List.set_cons_succ, i64_w, i32_w]
       rfl
      refine late_ (i := 8) (j := 11) (N := some 62) (v := ?_) (a1 := ?_) (W1 := ?_) ?_ (fun w' => w'.cell? ⟨gb186, 0, none⟩ = some (.int .i64 t183) ∧ w'.cell? ⟨gb186, 1, none⟩ = some (.int .i64 t184)) #[true, true, true, true, true, true, true, true, true, false, true, false, false, false] #[true, true, true, true, true, true, true, true, false, false, true, true, false, false] #[true, true, true, true, true, true, true, true, true, false, true, true, false, false] rfl rfl rfl rfl (by kernel_rfl) (by decide) (by decide) (Or.inl ⟨by rfl, ?_⟩) ⟨hHeld.2.2.1, hHeld.2.2.2⟩ ?_ ?_ (fun K hK => ?_) ?_ (fun hX => ?_) (fun hX => ?_)
      rotate_left 4
      ·
       rintro w' ⟨s0, s1⟩
       go_simp
       with_reducible rfl
      rotate_left
      ·
       simp only [Act.put, List.setIfInBounds_toArray, List.set_cons_zero, List.set_cons_succ, i64_w, i32_w]
       rfl
      ·
       skip
       have hs43 : w42.cell? ⟨gb175, 0, none⟩ = some (.int .i64 x176000_1) := (blk_cell BK175.out 0).trans rfl
       have hfs43 := blk_frozen BK175.out 0
       have hns43_0 := NB173_175.out
       have hns43_1 := NB174_175.out
       have hns43_3 := NB177_175.out
       have hns43_4 := NB182_175.out
       have hns43_5 := NB186_175.out
       have hms43_0 := NB175_173.out
       have hms43_1 := NB175_174.out
       have hms43_3 := NB175_177.out
       have hms43_4 := NB175_182.out
       have hms43_5 := NB175_186.out
       refine skip_ (w1 := ?_) (by rfl) rfl ?_ ?_
       rotate_left
       ·
        go_simp
        rfl
       exact hK
      rotate_left
      ·
       skip
       refine pure_ (i := 9) (N := some 63) (v := ?_) (a' := ?_) #[true, true, true, true, true, true, true, true, true, true, true, false, false, false] rfl rfl (any_of HT_.out (by kernel_rfl)) (fun _ _ _ h => h) (Or.inl ⟨by rfl, ?_⟩) ?_ ?_
       rotate_left
       ·
        intro w'
        go_simp
        with_reducible rfl
       rotate_left
       ·
        simp only [Act.put, List.setIfInBounds_toArray, List.set_cons_zero, List.set_cons_succ, i64_w, i32_w]
        rfl
       refine last_ (i := 11) (N := none) #[true, true, true, true, true, true, true, true, true, true, true, true, false, false] rfl rfl (one_of HT_.out (by kernel_rfl)) (by decide) (fun K hK => ?_)
       have hs43 : w42.cell? ⟨gb175, 0, none⟩ = some (.int .i64 x176000_1) := (blk_cell BK175.out 0).trans rfl
       have hfs43 := blk_frozen BK175.out 0
       have hns43_0 := NB173_175.out
       have hns43_1 := NB174_175.out
       have hns43_3 := NB177_175.out
       have hns43_4 := NB182_175.out
       have hns43_5 := NB186_175.out
       have hms43_0 := NB175_173.out
       have hms43_1 := NB175_174.out
       have hms43_3 := NB175_177.out
       have hms43_4 := NB175_182.out
       have hms43_5 := NB175_186.out
       refine skip_ (w1 := ?_) (by rfl) rfl ?_ ?_
       rotate_left
       ·
        go_simp
        rfl
       refine hK.out _ _ ?_
       clear hK K
       exact hX
      ·
       skip
       refine pure_ (i := 9) (N := some 63) (v := ?_) (a' := ?_) #[true, true, true, true, true, true, true, true, true, true, true, true, false, false] rfl rfl (any_of HT_.out (by kernel_rfl)) (fun _ _ _ h => h) (Or.inl ⟨by rfl, ?_⟩) ?_ ?_
       rotate_left
       ·
        intro w'
        go_simp
        with_reducible rfl
       rotate_left
       ·
        simp only [Act.put, List.setIfInBounds_toArray, List.set_cons_zero, List.set_cons_succ, i64_w, i32_w]
        rfl
       exact hX
      ·
       exact ⟨((cell_far (p := ⟨gb175, _, none⟩) NB186_175.out _).trans (hHeld.2.2.1)), ((cell_far (p := ⟨gb175, _, none⟩) NB186_175.out _).trans (hHeld.2.2.2))⟩
      refine pure_ (i := 12) (N := some 65) (v := ?_) (a' := ?_) #[true, true, true, true, true, true, true, true, true, true, true, true, true, false] rfl rfl (any_of HT_.out (by kernel_rfl)) (fun _ _ _ h => h) (Or.inl ⟨by rfl, ?_⟩) ?_ ?_
      rotate_left
      ·
       intro w'
       go_simp
       with_reducible rfl
      rotate_left
      ·
       simp only [Act.put, List.setIfInBounds_toArray, List.set_cons_zero, List.set_cons_succ, i64_w, i32_w]
       rfl
      refine last_ (i := 13) (N := none) #[true, true, true, true, true, true, true, true, true, true, true, true, true, true] rfl rfl (one_of HT_.out (by kernel_rfl)) (by decide) (fun K hK => ?_)
      have hs44 : w42.cell? ⟨gb175, 1, none⟩ = some (.int .i64 x176001_1) := (blk_cell BK175.out 1).trans rfl
      have hfs44 := blk_frozen BK175.out 1
      have hns44_0 := NB173_175.out
      have hns44_1 := NB174_175.out
      have hns44_3 := NB177_175.out
      have hns44_4 := NB182_175.out
      have hns44_5 := NB186_175.out
      have hms44_0 := NB175_173.out
      have hms44_1 := NB175_174.out
      have hms44_3 := NB175_177.out
      have hms44_4 := NB175_182.out
      have hms44_5 := NB175_186.out
      refine skip_ (w1 := ?_) (by rfl) rfl ?_ ?_
      rotate_left
      ·
       go_simp
       rfl
      refine hK.out _ _ ?_
      clear hK K
      refine done_ (done_of HT_.out (by kernel_rfl)) ?_
      try go_wp2
      go_roundg k1
      case measure => have := HK1.out; omega
      case rel => exact ⟨(wrap64 (x27_1 + 1)), (wrap64 (x176000_1 + t183)), (wrap64 (x176001_1 + t184)), (by first | rfl | (simp; done) | (simp [*]; done)), H', ⟨by have := HK1.out; omega⟩, ⟨(gr_ (blk_far (gr_ (blk_far (gr_ BK173.out) NB173_175.out _)) NB173_175.out _))⟩, ⟨(gr_ (blk_far (gr_ (blk_far (gr_ BK174.out) NB174_175.out _)) NB174_175.out _))⟩, ⟨(gr_ (blk_put (cs := #[.int .i64 (wrap64 (x176000_1 + t183)), .int .i64 x176001_1]) (gr_ (blk_put (cs := #[.int .i64 x176000_1, .int .i64 x176001_1]) (gr_ BK175.out) 0 _ rfl)) 1 _ rfl))⟩, ⟨by repeat (first | (with_reducible first | exact HB.out | apply below_alloc | apply pw_below_drewN | apply below_drew1 | refine below_set ?_ GE173.out | refine below_set ?_ GE174.out | refine below_set ?_ GE175.out | refine below_set ?_ GE177.out | refine below_set ?_ GE182.out | refine below_set ?_ GE186.out) | exact HB.out)⟩⟩
     ·
      rw [if_neg c14] at H
      exact absurd H (by simp)
    ·
     rw [if_neg c13] at H
     exact absurd H (by simp)
   ·
    rw [if_neg c12] at H
    have c12b0 : decide (x27_1 < (l0_2.length : Int)) = false := decide_eq_false c12
    clear c12
    simp only [Option.some.injEq, Prod.mk.injEq] at H
    obtain ⟨rfl, rfl⟩ := H
    have hnb45 := NB175_173.out
    have hnc45 := NB173_175.out
    have hnb46 := NB175_174.out
    have hnc46 := NB174_175.out
    have hcz47_0 : wr.cell? ⟨gb175, 0, none⟩ = some (.int .i64 x176000_1) := (blk_cell BK175.out 0).trans rfl
    have hcz47_1 : wr.cell? ⟨gb175, 1, none⟩ = some (.int .i64 x176001_1) := (blk_cell BK175.out 1).trans rfl
    have hfz47_0 := blk_frozen BK175.out 0
    have hfz47_1 := blk_frozen BK175.out 1
    have hnb48 := NB174_173.out
    have hnc48 := NB173_174.out
    have hcz49_0 : wr.cell? ⟨gb174, 0, none⟩ = some (.int .i64 0) := (blk_cell BK174.out 0).trans rfl
    have hcz49_1 : wr.cell? ⟨gb174, 1, none⟩ = some (.int .i64 0) := (blk_cell BK174.out 1).trans rfl
    have hfz49_0 := blk_frozen BK174.out 0
    have hfz49_1 := blk_frozen BK174.out 1
    go_wp2
    refine bodyPost_ret (results_cell_row rfl _ _ gb174 23 #[.int .i64 x176000_1, .int .i64 x176001_1] (0, 0) _ rfl (gr_ (blk_put (cs := #[.int .i64 x176000_1, .int .i64 0]) (gr_ (blk_put (cs := #[.int .i64 0, .int .i64 0]) (gr_ BK174.out) 0 _ rfl)) 1 _ rfl)) Try.underlying23 rfl (by kernel_rfl)) rfl ?_
    exact ⟨by first | rfl | (simp [errW_none, errW_some] <;> rfl) | (simp [*, errW_none, errW_some] <;> rfl), by repeat (first | (with_reducible first | exact HB.out | apply below_alloc | apply pw_below_drewN | apply below_drew1 | refine below_set ?_ GE173.out | refine below_set ?_ GE174.out | refine below_set ?_ GE175.out) | exact HB.out)⟩

end Go.Proofs.Ytmoffcpbmigngaa.JS
