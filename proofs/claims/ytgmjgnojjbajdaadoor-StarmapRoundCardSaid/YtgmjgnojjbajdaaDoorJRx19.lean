-- Made by a program of this session (wip/hp.py, over the kit's print) out of the translation. Not trusted: Lean checks it.
import Derived.Test.YtgmjgnojjbajdaaDoorJRx0
import Derived.Test.YtgmjgnojjbajdaaDoorJRx1
import Derived.Test.YtgmjgnojjbajdaaDoorJRx8
import Derived.Test.YtgmjgnojjbajdaaDoorJRx17
import Derived.Test.YtgmjgnojjbajdaaDoorJRx18
namespace Go.Proofs.YtgmjgnojjbajdaaDoor.JR
open Go.RowKit Go.Proofs.YtgmjgnojjbajdaaDoorW.PrintWords Go.Proofs.YtgmjgnojjbajdaaDoorW.PrintLast Go.Proofs.YtgmjgnojjbajdaaDoorW.PrintMore
attribute [local go_sem] max2_int min2_int max_two min_two max_three min_three max_four min_four   -- for this text's walks alone
set_option linter.unusedVariables false
set_option linter.unusedSimpArgs false

/-! ### sun_Unit: function 52 -/
def sun_Unit.T1 : Bool × List (List Nat × List Nat) := (true, [([], []), ([0], [0]), ([], []), ([2, 1], [2]), ([1, 3, 3], [1, 3]), ([4], [4]), ([5], [5]), ([5], [5]), ([], []), ([8, 6, 4, 0, 1, 2, 3, 4, 5, 6, 8], [6, 8]), ([7, 9, 0, 1, 2, 3, 4, 5, 6, 7, 8, 9], [7])])
def sun_Unit.B1 : List Nat := [0, 1, 0, 7, 15, 31, 63, 63, 0, 383, 1023]
theorem sun_Unit.tab1 : rtab .any (opsOf Tryd.f52 1) = sun_Unit.T1 := by kernel_rfl
theorem sun_Unit.bits1 : waitsOk sun_Unit.T1.2 sun_Unit.B1 = true := by kernel_rfl
set_option maxHeartbeats 8000000 in
set_option maxRecDepth 100000 in
theorem sun_Unit.calls (a0_0 : Int) (a0_1 : Int) (a1_0 : Int) (a1_1 : Int) (r1 : Int) (r2 : Int) (w : World) (h : sun_Unit.f a0_0 a0_1 a1_0 a1_1 = some (r1, r2)) :
  Calls Tryd.prog 52 #[.agg #[.int .i64 a0_0, .int .i64 a0_1], .agg #[.int .i64 a1_0, .int .i64 a1_1]] w fun e w' => e = .returned (.agg #[.int .i64 r1, .int .i64 r2]) ∧ Below w.heap.size w w' := by
 have hu28 := Tryd.underlying28
 have HB := Aside0.mk (Below.refl w.heap.size w)
 have H : ((sun_Clamp.f a0_0 a0_1).bind fun bt233 => ((sun_Clamp.f a1_0 a1_1).bind fun bt235 => ((interval_Mul.f bt233.1 bt233.2 bt235.1 bt235.2).bind fun bt237 => ((interval_Scale.f bt237.1 bt237.2.1 1 1000000000).bind fun bt241 => (some (bt241.1, bt241.2.1)))))) = some (r1, r2) := h
 clear h
 replace H := Option.bind_eq_some_iff.mp H
 obtain ⟨⟨t233, t234⟩, A30, H⟩ := H
 replace H : ((sun_Clamp.f a1_0 a1_1).bind fun bt235 => ((interval_Mul.f t233 t234 bt235.1 bt235.2).bind fun bt237 => ((interval_Scale.f bt237.1 bt237.2.1 1 1000000000).bind fun bt241 => (some (bt241.1, bt241.2.1))))) = some (r1, r2) := H
 have A3 := Aside0.mk A30
 clear A30
 replace H := Option.bind_eq_some_iff.mp H
 obtain ⟨⟨t235, t236⟩, A40, H⟩ := H
 replace H : ((interval_Mul.f t233 t234 t235 t236).bind fun bt237 => ((interval_Scale.f bt237.1 bt237.2.1 1 1000000000).bind fun bt241 => (some (bt241.1, bt241.2.1)))) = some (r1, r2) := H
 have A4 := Aside0.mk A40
 clear A40
 replace H := Option.bind_eq_some_iff.mp H
 obtain ⟨⟨t237, t238, t239⟩, A50, H⟩ := H
 replace H : ((interval_Scale.f t237 t238 1 1000000000).bind fun bt241 => (some (bt241.1, bt241.2.1))) = some (r1, r2) := H
 have A5 := Aside0.mk A50
 clear A50
 replace H := Option.bind_eq_some_iff.mp H
 obtain ⟨⟨t241, t242, t243⟩, A60, H⟩ := H
 replace H : (some (t241, t242)) = some (r1, r2) := H
 have A6 := Aside0.mk A60
 clear A60
 simp only [Option.some.injEq, Prod.mk.injEq] at H
 obtain ⟨rfl, rfl⟩ := H
 go_enter Tryd.func52, Tryd.ntmps52
 try go_wp2_with (first | ((with_reducible refine gate_dst (N := 2) rfl ?_); refine box_event ?hg (N := 2) ?hd (cs := #[.int .i64 a0_0, .int .i64 a0_1]) (t := 28) ?hr ?_; (case hd => rfl); (case hg => rfl); (case hr => first | (go_simp; done) | (go_simp; rfl)); intro gb230 hg w7 hbox hb; have BK230 := Aside0.mk hbox; have GE230 := gez_ (hbz_ HB.out) hg; replace HB := hxz_ HB hb; clear hb hbox hg) | ((with_reducible refine gate_dst (N := 3) rfl ?_); refine box_event ?hg (N := 3) ?hd (cs := #[.int .i64 a1_0, .int .i64 a1_1]) (t := 28) ?hr ?_; (case hd => rfl); (case hg => rfl); (case hr => first | (go_simp; done) | (go_simp; rfl)); intro gb231 hg w8 hbox hb; have BK231 := Aside0.mk hbox; have GE231 := gez_ (hbz_ HB.out) hg; have NB230_231 := nbz_ (grz_ BK230.out) hg; replace BK230 := nxz_ BK230 hb; replace HB := hxz_ HB hb; clear hb hbox hg) | ((with_reducible refine gate_dst (N := 4) rfl ?_); refine box_event ?hg (N := 4) ?hd (cs := #[.int .i64 0, .int .i64 0]) (t := 28) ?hr ?_; (case hd => rfl); (case hg => rfl); (case hr => first | (go_simp; done) | (go_simp; rfl)); intro gb232 hg w9 hbox hb; have BK232 := Aside0.mk hbox; have GE232 := gez_ (hbz_ HB.out) hg; have NB230_232 := nbz_ (grz_ BK230.out) hg; have NB231_232 := nbz_ (grz_ BK231.out) hg; replace BK230 := nxz_ BK230 hb; replace BK231 := nxz_ BK231 hb; replace HB := hxz_ HB hb; clear hb hbox hg))
 have n0_ := Aside0.mk (blk_drew BK230.out)
 have n1_ := Aside0.mk (blk_drew BK231.out)
 have n2_ := Aside0.mk (blk_drew BK232.out)
 have n3_ := Aside0.mk (below_drew1 HB.out)
 clear BK230
 clear BK231
 clear BK232
 clear HB
 have BK230 := n0_
 have BK231 := n1_
 have BK232 := n2_
 have HB := n3_
 clear n0_ n1_ n2_ n3_
 refine start_ (n := 11) (S := fun w' => True) (ds := []) #[false, false, false, false, false, false, false, false, false, false, false] (by kernel_rfl) rfl rfl trivial (fun hHeld => ?_); refine with_tabW sun_Unit.tab1 sun_Unit.bits1 (fun HT_ HW_ => ?_)
 generalize w9.drew = w10 at BK230 BK231 BK232 HB hHeld ⊢
 refine inv_at [0, 1, 2, 3, 4, 5, 6, 7, 8, 9, 10] (fun a0_ b a w' => ∃ (gb240 : Nat) (m8_ : Value), a = putSel a0_ b [(0, 10, .agg #[.int .i64 a0_0, .int .i64 a0_1]), (1, 11, .agg #[.int .i64 t233, .int .i64 t234]), (2, 12, .agg #[.int .i64 a1_0, .int .i64 a1_1]), (3, 13, .agg #[.int .i64 t235, .int .i64 t236]), (4, 14, .tuple #[.agg #[.int .i64 t237, .int .i64 t238], .int .i64 t239]), (5, 9, .tuple #[.agg #[.int .i64 t237, .int .i64 t238], .int .i64 t239]), (6, 15, .agg #[.int .i64 t237, .int .i64 t238]), (7, 16, .int .i64 t239), (8, 5, m8_), (10, 6, .int .i64 t239)] ∧ (w'.heap[gb230]? = some (.cells #[.int .i64 a0_0, .int .i64 a0_1] 28 (0, 0))) ∧ (w'.heap[gb231]? = some (.cells #[.int .i64 a1_0, .int .i64 a1_1] 28 (0, 0))) ∧ (w'.heap[gb232]? = some (.cells #[.int .i64 0, .int .i64 0] 28 (0, 0))) ∧ (Below w.heap.size w w') ∧ (b 8 = true → b 9 = false → w'.heap[gb240]? = some (.cells #[.int .i64 0, .int .i64 0] 28 (0, 0))) ∧ (b 8 = true → w.heap.size ≤ gb240) ∧ (b 8 = true → w.heap.size ≤ gb240) ∧ (b 8 = true → gb230 ≠ gb240) ∧ (b 8 = true → gb240 ≠ gb230) ∧ (b 8 = true → gb231 ≠ gb240) ∧ (b 8 = true → gb240 ≠ gb231) ∧ (b 8 = true → gb232 ≠ gb240) ∧ (b 8 = true → gb240 ≠ gb232) ∧ (b 9 = true → w'.heap[gb240]? = some (.cells #[.int .i64 t237, .int .i64 t238] 28 (0, 0))) ∧ (b 8 = true → (m8_ : Value) = .pointer (some ⟨gb240, 0, none⟩))) HT_.out HW_.out (by kernel_rfl) (by kernel_rfl) ?_ ?_ ?_
 ·
  exact ⟨0, .bool false, by simp only [putSel, Bool.false_eq_true, if_false], BK230.out, BK231.out, BK232.out, HB.out, fun h_ => absurd h_ (by decide), fun h_ => absurd h_ (by decide), fun h_ => absurd h_ (by decide), fun h_ => absurd h_ (by decide), fun h_ => absurd h_ (by decide), fun h_ => absurd h_ (by decide), fun h_ => absurd h_ (by decide), fun h_ => absurd h_ (by decide), fun h_ => absurd h_ (by decide), fun h_ => absurd h_ (by decide), fun h_ => absurd h_ (by decide)⟩
 ·
  skip
  clear BK230 BK231 BK232 HB
  refine steps_cons ?_ ?_
  ·
   rintro b a w' ⟨gb240, m8_, ha, Q_BK230, Q_BK231, Q_BK232, Q_HB, Q_BK240, Q_GW240, Q_GE240, Q_NB230_240, Q_NB240_230, Q_NB231_240, Q_NB240_231, Q_NB232_240, Q_NB240_232, Q_BK240_e9, Q_X8_⟩ hb_ hon hoff
   refine ⟨_, rfl, fun K hK => ?_⟩
   have e2 : a.tmps[2]? = some (.pointer (some ⟨gb230, 0, none⟩)) := by rw [ha]; exact (putSel_off rfl).trans rfl
   replace ha := Aside0.mk ha
   have BK230 := Aside0.mk Q_BK230
   have BK231 := Aside0.mk Q_BK231
   have BK232 := Aside0.mk Q_BK232
   have HB := Aside0.mk Q_HB
   have hc0_ : w'.cell? ⟨gb230, 0, none⟩ = some (.int .i64 a0_0) := (blk_cell BK230.out 0).trans rfl
   have hc1_ : w'.cell? ⟨gb230, 1, none⟩ = some (.int .i64 a0_1) := (blk_cell BK230.out 1).trans rfl
   refine value_ (w1 := w') (v := .agg #[.int .i64 a0_0, .int .i64 a0_1]) (by rfl) rfl ?_ ?_
   ·
    go_simp
    (try simp only [i64_w])
    try rfl
   refine hK.out _ _ ⟨gb240, m8_, (by rw [ha.out]; exact putSel_upk 0 hb_ rfl rfl rfl), Q_BK230, Q_BK231, Q_BK232, Q_HB, Q_BK240, Q_GW240, Q_GE240, Q_NB230_240, Q_NB240_230, Q_NB231_240, Q_NB240_231, Q_NB232_240, Q_NB240_232, fun h0_ => absurd ((hoff 9 (by kernel_rfl)).symm.trans h0_) (by decide), Q_X8_⟩
  refine steps_cons ?_ ?_
  ·
   rintro b a w' ⟨gb240, m8_, ha, Q_BK230, Q_BK231, Q_BK232, Q_HB, Q_BK240, Q_GW240, Q_GE240, Q_NB230_240, Q_NB240_230, Q_NB231_240, Q_NB240_231, Q_NB232_240, Q_NB240_232, Q_BK240_e9, Q_X8_⟩ hb_ hon hoff
   refine ⟨_, rfl, fun K hK => ?_⟩
   have e10 : a.tmps[10]? = some (.agg #[.int .i64 a0_0, .int .i64 a0_1]) := by rw [ha]; exact putSel_on (e := (0, 10, .agg #[.int .i64 a0_0, .int .i64 a0_1])) 0 rfl rfl (hon 0 (by kernel_rfl)) rfl
   replace ha := Aside0.mk ha
   have BK230 := Aside0.mk Q_BK230
   have BK231 := Aside0.mk Q_BK231
   have BK232 := Aside0.mk Q_BK232
   have HB := Aside0.mk Q_HB
   refine goes_ Tryd.func53 (by kernel_rfl) rfl #[.agg #[.int .i64 a0_0, .int .i64 a0_1]] (by rfl) rfl rfl (by first | (simp only [List.map_toArray, List.map_cons, List.map_nil, Act.eval, Array.getD_eq_getD_getElem?, Option.getD_some, e10]; done) | (simp only [List.map_toArray, List.map_cons, List.map_nil, Act.eval, Array.getD_eq_getD_getElem?, Option.getD_some, e10]; rfl)) ?_
   with_reducible refine (sun_Clamp.calls a0_0 a0_1 t233 t234 _ A3.out).mono ?_
   rintro e w11 ⟨rfl, hb⟩
   refine ⟨_, rfl, ?_⟩
   have n0_ := Aside0.mk (blk_below (g := gb230) (o := .cells #[.int .i64 a0_0, .int .i64 a0_1] 28 (0, 0)) (grz_ BK230.out) hb)
   have n1_ := Aside0.mk (blk_below (g := gb231) (o := .cells #[.int .i64 a1_0, .int .i64 a1_1] 28 (0, 0)) (grz_ BK231.out) hb)
   have n2_ := Aside0.mk (blk_below (g := gb232) (o := .cells #[.int .i64 0, .int .i64 0] 28 (0, 0)) (grz_ BK232.out) hb)
   have n3_ := Aside0.mk (below_step (by repeat (first | (with_reducible first | exact HB.out | apply below_alloc | apply pw_below_drewN | apply below_drew1 | refine below_set ?_ GE230.out | refine below_set ?_ GE231.out | refine below_set ?_ GE232.out) | exact HB.out)) hb)
   have z_BK240 := fun (h0_ : b 8 = true) (h1_ : b 9 = false) => (show w11.heap[gb240]? = some (.cells #[.int .i64 0, .int .i64 0] 28 (0, 0)) from by first | exact (blk_below (g := gb240) (o := .cells #[.int .i64 0, .int .i64 0] 28 (0, 0)) (by (with_reducible repeat (first | refine blk_drewN ?_ _ | refine blk_drew ?_ | refine blk_alloc ?_ _)); exact (Q_BK240 h0_ h1_)) hb))
   clear BK230
   clear BK231
   clear BK232
   clear HB
   have BK230 := n0_
   have BK231 := n1_
   have BK232 := n2_
   have HB := n3_
   clear n0_ n1_ n2_ n3_
   (try clear hb)
   (try clear hb2)
   (try clear hk)
   (try clear hi)
   refine hK.out _ _ ⟨gb240, m8_, (by rw [ha.out]; exact putSel_upk 1 hb_ rfl rfl rfl), (grz_ BK230.out), (grz_ BK231.out), (grz_ BK232.out), (by repeat (first | (with_reducible first | exact HB.out | apply below_alloc | apply pw_below_drewN | apply below_drew1 | refine below_set ?_ GE230.out | refine below_set ?_ GE231.out | refine below_set ?_ GE232.out) | exact HB.out)), z_BK240, Q_GW240, Q_GE240, Q_NB230_240, Q_NB240_230, Q_NB231_240, Q_NB240_231, Q_NB232_240, Q_NB240_232, fun h0_ => absurd ((hoff 9 (by kernel_rfl)).symm.trans h0_) (by decide), Q_X8_⟩
  refine steps_cons ?_ ?_
  ·
   rintro b a w' ⟨gb240, m8_, ha, Q_BK230, Q_BK231, Q_BK232, Q_HB, Q_BK240, Q_GW240, Q_GE240, Q_NB230_240, Q_NB240_230, Q_NB231_240, Q_NB240_231, Q_NB232_240, Q_NB240_232, Q_BK240_e9, Q_X8_⟩ hb_ hon hoff
   refine ⟨_, rfl, fun K hK => ?_⟩
   have e3 : a.tmps[3]? = some (.pointer (some ⟨gb231, 0, none⟩)) := by rw [ha]; exact (putSel_off rfl).trans rfl
   replace ha := Aside0.mk ha
   have BK230 := Aside0.mk Q_BK230
   have BK231 := Aside0.mk Q_BK231
   have BK232 := Aside0.mk Q_BK232
   have HB := Aside0.mk Q_HB
   have hc0_ : w'.cell? ⟨gb231, 0, none⟩ = some (.int .i64 a1_0) := (blk_cell BK231.out 0).trans rfl
   have hc1_ : w'.cell? ⟨gb231, 1, none⟩ = some (.int .i64 a1_1) := (blk_cell BK231.out 1).trans rfl
   refine value_ (w1 := w') (v := .agg #[.int .i64 a1_0, .int .i64 a1_1]) (by rfl) rfl ?_ ?_
   ·
    go_simp
    (try simp only [i64_w])
    try rfl
   refine hK.out _ _ ⟨gb240, m8_, (by rw [ha.out]; exact putSel_upk 2 hb_ rfl rfl rfl), Q_BK230, Q_BK231, Q_BK232, Q_HB, Q_BK240, Q_GW240, Q_GE240, Q_NB230_240, Q_NB240_230, Q_NB231_240, Q_NB240_231, Q_NB232_240, Q_NB240_232, fun h0_ => absurd ((hoff 9 (by kernel_rfl)).symm.trans h0_) (by decide), Q_X8_⟩
  refine steps_cons ?_ ?_
  ·
   rintro b a w' ⟨gb240, m8_, ha, Q_BK230, Q_BK231, Q_BK232, Q_HB, Q_BK240, Q_GW240, Q_GE240, Q_NB230_240, Q_NB240_230, Q_NB231_240, Q_NB240_231, Q_NB232_240, Q_NB240_232, Q_BK240_e9, Q_X8_⟩ hb_ hon hoff
   refine ⟨_, rfl, fun K hK => ?_⟩
   have e12 : a.tmps[12]? = some (.agg #[.int .i64 a1_0, .int .i64 a1_1]) := by rw [ha]; exact putSel_on (e := (2, 12, .agg #[.int .i64 a1_0, .int .i64 a1_1])) 2 rfl rfl (hon 2 (by kernel_rfl)) rfl
   replace ha := Aside0.mk ha
   have BK230 := Aside0.mk Q_BK230
   have BK231 := Aside0.mk Q_BK231
   have BK232 := Aside0.mk Q_BK232
   have HB := Aside0.mk Q_HB
   refine goes_ Tryd.func53 (by kernel_rfl) rfl #[.agg #[.int .i64 a1_0, .int .i64 a1_1]] (by rfl) rfl rfl (by first | (simp only [List.map_toArray, List.map_cons, List.map_nil, Act.eval, Array.getD_eq_getD_getElem?, Option.getD_some, e12]; done) | (simp only [List.map_toArray, List.map_cons, List.map_nil, Act.eval, Array.getD_eq_getD_getElem?, Option.getD_some, e12]; rfl)) ?_
   with_reducible refine (sun_Clamp.calls a1_0 a1_1 t235 t236 _ A4.out).mono ?_
   rintro e w13 ⟨rfl, hb⟩
   refine ⟨_, rfl, ?_⟩
   have n0_ := Aside0.mk (blk_below (g := gb230) (o := .cells #[.int .i64 a0_0, .int .i64 a0_1] 28 (0, 0)) (grz_ BK230.out) hb)
   have n1_ := Aside0.mk (blk_below (g := gb231) (o := .cells #[.int .i64 a1_0, .int .i64 a1_1] 28 (0, 0)) (grz_ BK231.out) hb)
   have n2_ := Aside0.mk (blk_below (g := gb232) (o := .cells #[.int .i64 0, .int .i64 0] 28 (0, 0)) (grz_ BK232.out) hb)
   have n3_ := Aside0.mk (below_step (by repeat (first | (with_reducible first | exact HB.out | apply below_alloc | apply pw_below_drewN | apply below_drew1 | refine below_set ?_ GE230.out | refine below_set ?_ GE231.out | refine below_set ?_ GE232.out) | exact HB.out)) hb)
   have z_BK240 := fun (h0_ : b 8 = true) (h1_ : b 9 = false) => (show w13.heap[gb240]? = some (.cells #[.int .i64 0, .int .i64 0] 28 (0, 0)) from by first | exact (blk_below (g := gb240) (o := .cells #[.int .i64 0, .int .i64 0] 28 (0, 0)) (by (with_reducible repeat (first | refine blk_drewN ?_ _ | refine blk_drew ?_ | refine blk_alloc ?_ _)); exact (Q_BK240 h0_ h1_)) hb))
   clear BK230
   clear BK231
   clear BK232
   clear HB
   have BK230 := n0_
   have BK231 := n1_
   have BK232 := n2_
   have HB := n3_
   clear n0_ n1_ n2_ n3_
   (try clear hb)
   (try clear hb2)
   (try clear hk)
   (try clear hi)
   refine hK.out _ _ ⟨gb240, m8_, (by rw [ha.out]; exact putSel_upk 3 hb_ rfl rfl rfl), (grz_ BK230.out), (grz_ BK231.out), (grz_ BK232.out), (by repeat (first | (with_reducible first | exact HB.out | apply below_alloc | apply pw_below_drewN | apply below_drew1 | refine below_set ?_ GE230.out | refine below_set ?_ GE231.out | refine below_set ?_ GE232.out) | exact HB.out)), z_BK240, Q_GW240, Q_GE240, Q_NB230_240, Q_NB240_230, Q_NB231_240, Q_NB240_231, Q_NB232_240, Q_NB240_232, fun h0_ => absurd ((hoff 9 (by kernel_rfl)).symm.trans h0_) (by decide), Q_X8_⟩
  refine steps_cons ?_ ?_
  ·
   rintro b a w' ⟨gb240, m8_, ha, Q_BK230, Q_BK231, Q_BK232, Q_HB, Q_BK240, Q_GW240, Q_GE240, Q_NB230_240, Q_NB240_230, Q_NB231_240, Q_NB240_231, Q_NB232_240, Q_NB240_232, Q_BK240_e9, Q_X8_⟩ hb_ hon hoff
   refine ⟨_, rfl, fun K hK => ?_⟩
   have e11 : a.tmps[11]? = some (.agg #[.int .i64 t233, .int .i64 t234]) := by rw [ha]; exact putSel_on (e := (1, 11, .agg #[.int .i64 t233, .int .i64 t234])) 1 rfl rfl (hon 1 (by kernel_rfl)) rfl
   have e13 : a.tmps[13]? = some (.agg #[.int .i64 t235, .int .i64 t236]) := by rw [ha]; exact putSel_on (e := (3, 13, .agg #[.int .i64 t235, .int .i64 t236])) 3 rfl rfl (hon 3 (by kernel_rfl)) rfl
   replace ha := Aside0.mk ha
   have BK230 := Aside0.mk Q_BK230
   have BK231 := Aside0.mk Q_BK231
   have BK232 := Aside0.mk Q_BK232
   have HB := Aside0.mk Q_HB
   refine goes_ Tryd.func63 (by kernel_rfl) rfl #[.agg #[.int .i64 t233, .int .i64 t234], .agg #[.int .i64 t235, .int .i64 t236]] (by rfl) rfl rfl (by first | (simp only [List.map_toArray, List.map_cons, List.map_nil, Act.eval, Array.getD_eq_getD_getElem?, Option.getD_some, e11, e13]; done) | (simp only [List.map_toArray, List.map_cons, List.map_nil, Act.eval, Array.getD_eq_getD_getElem?, Option.getD_some, e11, e13]; rfl)) ?_
   with_reducible refine (interval_Mul.calls t233 t234 t235 t236 t237 t238 t239 _ A5.out).mono ?_
   rintro e w14 ⟨rfl, hb⟩
   refine ⟨_, rfl, ?_⟩
   have n0_ := Aside0.mk (blk_below (g := gb230) (o := .cells #[.int .i64 a0_0, .int .i64 a0_1] 28 (0, 0)) (grz_ BK230.out) hb)
   have n1_ := Aside0.mk (blk_below (g := gb231) (o := .cells #[.int .i64 a1_0, .int .i64 a1_1] 28 (0, 0)) (grz_ BK231.out) hb)
   have n2_ := Aside0.mk (blk_below (g := gb232) (o := .cells #[.int .i64 0, .int .i64 0] 28 (0, 0)) (grz_ BK232.out) hb)
   have n3_ := Aside0.mk (below_step (by repeat (first | (with_reducible first | exact HB.out | apply below_alloc | apply pw_below_drewN | apply below_drew1 | refine below_set ?_ GE230.out | refine below_set ?_ GE231.out | refine below_set ?_ GE232.out) | exact HB.out)) hb)
   have z_BK240 := fun (h0_ : b 8 = true) (h1_ : b 9 = false) => (show w14.heap[gb240]? = some (.cells #[.int .i64 0, .int .i64 0] 28 (0, 0)) from by first | exact (blk_below (g := gb240) (o := .cells #[.int .i64 0, .int .i64 0] 28 (0, 0)) (by (with_reducible repeat (first | refine blk_drewN ?_ _ | refine blk_drew ?_ | refine blk_alloc ?_ _)); exact (Q_BK240 h0_ h1_)) hb))
   clear BK230
   clear BK231
   clear BK232
   clear HB
   have BK230 := n0_
   have BK231 := n1_
   have BK232 := n2_
   have HB := n3_
   clear n0_ n1_ n2_ n3_
   (try clear hb)
   (try clear hb2)
   (try clear hk)
   (try clear hi)
   refine hK.out _ _ ⟨gb240, m8_, (by rw [ha.out]; exact putSel_upk 4 hb_ rfl rfl rfl), (grz_ BK230.out), (grz_ BK231.out), (grz_ BK232.out), (by repeat (first | (with_reducible first | exact HB.out | apply below_alloc | apply pw_below_drewN | apply below_drew1 | refine below_set ?_ GE230.out | refine below_set ?_ GE231.out | refine below_set ?_ GE232.out) | exact HB.out)), z_BK240, Q_GW240, Q_GE240, Q_NB230_240, Q_NB240_230, Q_NB231_240, Q_NB240_231, Q_NB232_240, Q_NB240_232, fun h0_ => absurd ((hoff 9 (by kernel_rfl)).symm.trans h0_) (by decide), Q_X8_⟩
  refine steps_cons ?_ ?_
  ·
   rintro b a w' ⟨gb240, m8_, ha, Q_BK230, Q_BK231, Q_BK232, Q_HB, Q_BK240, Q_GW240, Q_GE240, Q_NB230_240, Q_NB240_230, Q_NB231_240, Q_NB240_231, Q_NB232_240, Q_NB240_232, Q_BK240_e9, Q_X8_⟩ hb_ hon hoff
   refine ⟨_, rfl, fun K hK => ?_⟩
   have e14 : a.tmps[14]? = some (.tuple #[.agg #[.int .i64 t237, .int .i64 t238], .int .i64 t239]) := by rw [ha]; exact putSel_on (e := (4, 14, .tuple #[.agg #[.int .i64 t237, .int .i64 t238], .int .i64 t239])) 4 rfl rfl (hon 4 (by kernel_rfl)) rfl
   replace ha := Aside0.mk ha
   have BK230 := Aside0.mk Q_BK230
   have BK231 := Aside0.mk Q_BK231
   have BK232 := Aside0.mk Q_BK232
   have HB := Aside0.mk Q_HB
   refine value_ (w1 := w') (v := .tuple #[.agg #[.int .i64 t237, .int .i64 t238], .int .i64 t239]) (by rfl) rfl ?_ ?_
   ·
    go_simp
    (try simp only [i64_w])
    try rfl
   refine hK.out _ _ ⟨gb240, m8_, (by rw [ha.out]; exact putSel_upk 5 hb_ rfl rfl rfl), Q_BK230, Q_BK231, Q_BK232, Q_HB, Q_BK240, Q_GW240, Q_GE240, Q_NB230_240, Q_NB240_230, Q_NB231_240, Q_NB240_231, Q_NB232_240, Q_NB240_232, fun h0_ => absurd ((hoff 9 (by kernel_rfl)).symm.trans h0_) (by decide), Q_X8_⟩
  refine steps_cons ?_ ?_
  ·
   rintro b a w' ⟨gb240, m8_, ha, Q_BK230, Q_BK231, Q_BK232, Q_HB, Q_BK240, Q_GW240, Q_GE240, Q_NB230_240, Q_NB240_230, Q_NB231_240, Q_NB240_231, Q_NB232_240, Q_NB240_232, Q_BK240_e9, Q_X8_⟩ hb_ hon hoff
   refine ⟨_, rfl, fun K hK => ?_⟩
   have e9 : a.tmps[9]? = some (.tuple #[.agg #[.int .i64 t237, .int .i64 t238], .int .i64 t239]) := by rw [ha]; exact putSel_on (e := (5, 9, .tuple #[.agg #[.int .i64 t237, .int .i64 t238], .int .i64 t239])) 5 rfl rfl (hon 5 (by kernel_rfl)) rfl
   replace ha := Aside0.mk ha
   have BK230 := Aside0.mk Q_BK230
   have BK231 := Aside0.mk Q_BK231
   have BK232 := Aside0.mk Q_BK232
   have HB := Aside0.mk Q_HB
   refine value_ (w1 := w') (v := .agg #[.int .i64 t237, .int .i64 t238]) (by rfl) rfl ?_ ?_
   ·
    go_simp
    (try simp only [i64_w])
    try rfl
   refine hK.out _ _ ⟨gb240, m8_, (by rw [ha.out]; exact putSel_upk 6 hb_ rfl rfl rfl), Q_BK230, Q_BK231, Q_BK232, Q_HB, Q_BK240, Q_GW240, Q_GE240, Q_NB230_240, Q_NB240_230, Q_NB231_240, Q_NB240_231, Q_NB232_240, Q_NB240_232, fun h0_ => absurd ((hoff 9 (by kernel_rfl)).symm.trans h0_) (by decide), Q_X8_⟩
  refine steps_cons ?_ ?_
  ·
   rintro b a w' ⟨gb240, m8_, ha, Q_BK230, Q_BK231, Q_BK232, Q_HB, Q_BK240, Q_GW240, Q_GE240, Q_NB230_240, Q_NB240_230, Q_NB231_240, Q_NB240_231, Q_NB232_240, Q_NB240_232, Q_BK240_e9, Q_X8_⟩ hb_ hon hoff
   refine ⟨_, rfl, fun K hK => ?_⟩
   have e9 : a.tmps[9]? = some (.tuple #[.agg #[.int .i64 t237, .int .i64 t238], .int .i64 t239]) := by rw [ha]; exact putSel_on (e := (5, 9, .tuple #[.agg #[.int .i64 t237, .int .i64 t238], .int .i64 t239])) 5 rfl rfl (hon 5 (by kernel_rfl)) rfl
   replace ha := Aside0.mk ha
   have BK230 := Aside0.mk Q_BK230
   have BK231 := Aside0.mk Q_BK231
   have BK232 := Aside0.mk Q_BK232
   have HB := Aside0.mk Q_HB
   refine value_ (w1 := w') (v := .int .i64 t239) (by rfl) rfl ?_ ?_
   ·
    go_simp
    (try simp only [i64_w])
    try rfl
   refine hK.out _ _ ⟨gb240, m8_, (by rw [ha.out]; exact putSel_upk 7 hb_ rfl rfl rfl), Q_BK230, Q_BK231, Q_BK232, Q_HB, Q_BK240, Q_GW240, Q_GE240, Q_NB230_240, Q_NB240_230, Q_NB231_240, Q_NB240_231, Q_NB232_240, Q_NB240_232, Q_BK240_e9, Q_X8_⟩
  refine steps_cons ?_ ?_
  ·
   rintro b a w' ⟨gb240, m8_, ha, Q_BK230, Q_BK231, Q_BK232, Q_HB, Q_BK240, Q_GW240, Q_GE240, Q_NB230_240, Q_NB240_230, Q_NB231_240, Q_NB240_231, Q_NB232_240, Q_NB240_232, Q_BK240_e9, Q_X8_⟩ hb_ hon hoff
   refine ⟨_, rfl, fun K hK => ?_⟩
   replace ha := Aside0.mk ha
   have BK230 := Aside0.mk Q_BK230
   have BK231 := Aside0.mk Q_BK231
   have BK232 := Aside0.mk Q_BK232
   have HB := Aside0.mk Q_HB
   refine box_step ?hg (N := 5) ?hd (cs := #[.int .i64 0, .int .i64 0]) (t := 28) ?hr ?_; (case hd => rfl); (case hg => rfl); (case hr => first | (go_simp; done) | (go_simp; rfl))
   intro gb240 hg w11 hbox hb
   have BK240 := Aside0.mk hbox
   have GW240 := gez_ (hbz_ HB.out) hg
   have GE240 := gez_ (hbz_ HB.out) hg
   have NB230_240 := nbz_ (grz_ BK230.out) hg
   have NB231_240 := nbz_ (grz_ BK231.out) hg
   have NB232_240 := nbz_ (grz_ BK232.out) hg
   replace BK230 := nxz_ BK230 hb
   replace BK231 := nxz_ BK231 hb
   replace BK232 := nxz_ BK232 hb
   replace HB := hxz_ HB hb
   clear hb hbox hg
   refine hK.out _ _ ⟨gb240, (.pointer (some ⟨gb240, 0, none⟩)), (by rw [ha.out]; exact putSel_upk 8 hb_ rfl rfl rfl), (grz_ BK230.out), (grz_ BK231.out), (grz_ BK232.out), (by repeat (first | (with_reducible first | exact HB.out | apply below_alloc | apply pw_below_drewN | apply below_drew1 | refine below_set ?_ GE230.out | refine below_set ?_ GE231.out | refine below_set ?_ GE232.out | refine below_set ?_ GE240.out) | exact HB.out)), fun _ _ => (grz_ BK240.out), fun _ => GW240.out, fun _ => GE240.out, fun _ => NB230_240.out, fun _ => NB230_240.out.symm, fun _ => NB231_240.out, fun _ => NB231_240.out.symm, fun _ => NB232_240.out, fun _ => NB232_240.out.symm, fun h0_ => absurd ((hoff 9 (by kernel_rfl)).symm.trans h0_) (by decide), fun _ => rfl⟩
  refine steps_cons ?_ ?_
  ·
   rintro b a w' ⟨gb240, m8_, ha, Q_BK230, Q_BK231, Q_BK232, Q_HB, Q_BK240, Q_GW240, Q_GE240, Q_NB230_240, Q_NB240_230, Q_NB231_240, Q_NB240_231, Q_NB232_240, Q_NB240_232, Q_BK240_e9, Q_X8_⟩ hb_ hon hoff
   refine ⟨_, rfl, fun K hK => ?_⟩
   have e5 : a.tmps[5]? = some (m8_) := by rw [ha]; exact putSel_on (e := (8, 5, m8_)) 8 rfl rfl (hon 8 (by kernel_rfl)) rfl
   rw [Q_X8_ (hon 8 (by kernel_rfl))] at e5
   have e15 : a.tmps[15]? = some (.agg #[.int .i64 t237, .int .i64 t238]) := by rw [ha]; exact putSel_on (e := (6, 15, .agg #[.int .i64 t237, .int .i64 t238])) 6 rfl rfl (hon 6 (by kernel_rfl)) rfl
   replace ha := Aside0.mk ha
   have BK230 := Aside0.mk Q_BK230
   have BK231 := Aside0.mk Q_BK231
   have BK232 := Aside0.mk Q_BK232
   have HB := Aside0.mk Q_HB
   have BK240 := Aside0.mk (Q_BK240 (hon 8 (by kernel_rfl)) hb_)
   have GW240 := Aside0.mk (Q_GW240 (hon 8 (by kernel_rfl)))
   have GE240 := Aside0.mk (Q_GE240 (hon 8 (by kernel_rfl)))
   have NB230_240 := Aside0.mk (Q_NB230_240 (hon 8 (by kernel_rfl)))
   have NB240_230 := Aside0.mk (Q_NB240_230 (hon 8 (by kernel_rfl)))
   have NB231_240 := Aside0.mk (Q_NB231_240 (hon 8 (by kernel_rfl)))
   have NB240_231 := Aside0.mk (Q_NB240_231 (hon 8 (by kernel_rfl)))
   have NB232_240 := Aside0.mk (Q_NB232_240 (hon 8 (by kernel_rfl)))
   have NB240_232 := Aside0.mk (Q_NB240_232 (hon 8 (by kernel_rfl)))
   have hs16 : w'.cell? ⟨gb240, 0, none⟩ = some (.int .i64 0) := (blk_cell BK240.out 0).trans rfl
   have hfs16 := blk_frozen BK240.out 0
   have hns16_0 := NB230_240.out
   have hns16_1 := NB231_240.out
   have hns16_2 := NB232_240.out
   have hms16_0 := NB230_240.out.symm
   have hms16_1 := NB231_240.out.symm
   have hms16_2 := NB232_240.out.symm
   have hs17 : w'.cell? ⟨gb240, 1, none⟩ = some (.int .i64 0) := (blk_cell BK240.out 1).trans rfl
   have hfs17 := blk_frozen BK240.out 1
   have hns17_0 := NB230_240.out
   have hns17_1 := NB231_240.out
   have hns17_2 := NB232_240.out
   have hms17_0 := NB230_240.out.symm
   have hms17_1 := NB231_240.out.symm
   have hms17_2 := NB232_240.out.symm
   refine skip_ (w1 := ?_) (by rfl) rfl ?_ ?_
   rotate_left
   ·
    go_simp
    rfl
   refine hK.out _ _ ⟨gb240, m8_, (by rw [ha.out]; exact putSel_none (v := undef) rfl), (grz_ (blk_far (grz_ (blk_far (grz_ BK230.out) NB230_240.out _)) NB230_240.out _)), (grz_ (blk_far (grz_ (blk_far (grz_ BK231.out) NB231_240.out _)) NB231_240.out _)), (grz_ (blk_far (grz_ (blk_far (grz_ BK232.out) NB232_240.out _)) NB232_240.out _)), (by repeat (first | (with_reducible first | exact HB.out | apply below_alloc | apply pw_below_drewN | apply below_drew1 | refine below_set ?_ GE230.out | refine below_set ?_ GE231.out | refine below_set ?_ GE232.out | refine below_set ?_ GE240.out) | exact HB.out)), fun _ h1_ => absurd ((up_self b 9).symm.trans h1_) (by decide), fun _ => GW240.out, fun _ => GE240.out, fun _ => NB230_240.out, fun _ => NB230_240.out.symm, fun _ => NB231_240.out, fun _ => NB231_240.out.symm, fun _ => NB232_240.out, fun _ => NB232_240.out.symm, fun _ => (grz_ (blk_put (cs := #[.int .i64 t237, .int .i64 0]) (grz_ (blk_put (cs := #[.int .i64 0, .int .i64 0]) (grz_ BK240.out) 0 _ rfl)) 1 _ rfl)), Q_X8_⟩
  refine steps_cons ?_ ?_
  ·
   rintro b a w' ⟨gb240, m8_, ha, Q_BK230, Q_BK231, Q_BK232, Q_HB, Q_BK240, Q_GW240, Q_GE240, Q_NB230_240, Q_NB240_230, Q_NB231_240, Q_NB240_231, Q_NB232_240, Q_NB240_232, Q_BK240_e9, Q_X8_⟩ hb_ hon hoff
   refine ⟨_, rfl, fun K hK => ?_⟩
   have e16 : a.tmps[16]? = some (.int .i64 t239) := by rw [ha]; exact putSel_on (e := (7, 16, .int .i64 t239)) 7 rfl rfl (hon 7 (by kernel_rfl)) rfl
   replace ha := Aside0.mk ha
   have BK230 := Aside0.mk Q_BK230
   have BK231 := Aside0.mk Q_BK231
   have BK232 := Aside0.mk Q_BK232
   have HB := Aside0.mk Q_HB
   have GW240 := Aside0.mk (Q_GW240 (hon 8 (by kernel_rfl)))
   have GE240 := Aside0.mk (Q_GE240 (hon 8 (by kernel_rfl)))
   have NB230_240 := Aside0.mk (Q_NB230_240 (hon 8 (by kernel_rfl)))
   have NB240_230 := Aside0.mk (Q_NB240_230 (hon 8 (by kernel_rfl)))
   have NB231_240 := Aside0.mk (Q_NB231_240 (hon 8 (by kernel_rfl)))
   have NB240_231 := Aside0.mk (Q_NB240_231 (hon 8 (by kernel_rfl)))
   have NB232_240 := Aside0.mk (Q_NB232_240 (hon 8 (by kernel_rfl)))
   have NB240_232 := Aside0.mk (Q_NB240_232 (hon 8 (by kernel_rfl)))
   have BK240 := Aside0.mk (Q_BK240_e9 (hon 9 (by kernel_rfl)))
   refine value_ (w1 := w') (v := .int .i64 t239) (by rfl) rfl ?_ ?_
   ·
    go_simp
    (try simp only [i64_w])
    try rfl
   refine hK.out _ _ ⟨gb240, m8_, (by rw [ha.out]; exact putSel_upk 9 hb_ rfl rfl rfl), Q_BK230, Q_BK231, Q_BK232, Q_HB, fun _ h1_ => absurd ((hon 9 (by kernel_rfl)).symm.trans h1_) (by decide), Q_GW240, Q_GE240, Q_NB230_240, Q_NB240_230, Q_NB231_240, Q_NB240_231, Q_NB232_240, Q_NB240_232, Q_BK240_e9, Q_X8_⟩
  exact steps_nil
 rintro b a w17 hall ⟨gb240, m8_, ha, Q_BK230, Q_BK231, Q_BK232, Q_HB, Q_BK240, Q_GW240, Q_GE240, Q_NB230_240, Q_NB240_230, Q_NB231_240, Q_NB240_231, Q_NB232_240, Q_NB240_232, Q_BK240_e9, Q_X8_⟩
 clear BK230 BK231 BK232 HB
 have hb0_ := hall 0 (by kernel_rfl)
 have hb1_ := hall 1 (by kernel_rfl)
 have hb2_ := hall 2 (by kernel_rfl)
 have hb3_ := hall 3 (by kernel_rfl)
 have hb4_ := hall 4 (by kernel_rfl)
 have hb5_ := hall 5 (by kernel_rfl)
 have hb6_ := hall 6 (by kernel_rfl)
 have hb7_ := hall 7 (by kernel_rfl)
 have hb8_ := hall 8 (by kernel_rfl)
 have hb9_ := hall 9 (by kernel_rfl)
 have hb10_ := hall 10 (by kernel_rfl)
 subst ha
 obtain rfl := Q_X8_ hb8_
 simp only [putSel, hb0_, hb1_, hb2_, hb3_, hb4_, hb5_, hb6_, hb7_, hb8_, hb9_, hb10_, if_true, Act.put, List.setIfInBounds_toArray, List.set_cons_zero, List.set_cons_succ]
 have BK230 := Aside0.mk Q_BK230
 clear Q_BK230
 have BK231 := Aside0.mk Q_BK231
 clear Q_BK231
 have BK232 := Aside0.mk Q_BK232
 clear Q_BK232
 have HB := Aside0.mk Q_HB
 clear Q_HB
 clear Q_BK240
 have GW240 := Aside0.mk (Q_GW240 hb8_)
 clear Q_GW240
 have GE240 := Aside0.mk (Q_GE240 hb8_)
 clear Q_GE240
 have NB230_240 := Aside0.mk (Q_NB230_240 hb8_)
 clear Q_NB230_240
 have NB240_230 := Aside0.mk (Q_NB240_230 hb8_)
 clear Q_NB240_230
 have NB231_240 := Aside0.mk (Q_NB231_240 hb8_)
 clear Q_NB231_240
 have NB240_231 := Aside0.mk (Q_NB240_231 hb8_)
 clear Q_NB240_231
 have NB232_240 := Aside0.mk (Q_NB232_240 hb8_)
 clear Q_NB232_240
 have NB240_232 := Aside0.mk (Q_NB240_232 hb8_)
 clear Q_NB240_232
 have BK240 := Aside0.mk (Q_BK240_e9 hb9_)
 clear Q_BK240_e9
 clear hall hb0_ hb1_ hb2_ hb3_ hb4_ hb5_ hb6_ hb7_ hb8_ hb9_ hb10_
 have hnb18 := NB230_240.out.symm
 have hnc18 := NB230_240.out
 have hnb19 := NB231_240.out.symm
 have hnc19 := NB231_240.out
 have hnb20 := NB232_240.out.symm
 have hnc20 := NB232_240.out
 have hcz21_0 : w17.cell? ⟨gb240, 0, none⟩ = some (.int .i64 t237) := (blk_cell BK240.out 0).trans rfl
 have hcz21_1 : w17.cell? ⟨gb240, 1, none⟩ = some (.int .i64 t238) := (blk_cell BK240.out 1).trans rfl
 have hfz21_0 := blk_frozen BK240.out 0
 have hfz21_1 := blk_frozen BK240.out 1
 try go_wp2_with (first | ((with_reducible refine gate_callee (f := 29) rfl ?_); refine goesL_ (some 19) rfl rfl Tryd.func29 (by kernel_rfl) rfl #[.agg #[.int .i64 t237, .int .i64 t238], .int .i64 1, .int .i64 1000000000] rfl (by (try simp only [List.map_toArray, List.map_cons, List.map_nil]); first | done | rfl | (simp only [List.length_drop, List.length_take]; rfl)) ?_; (with_reducible refine (interval_Scale.calls t237 t238 1 1000000000 t241 t242 t243 _ A6.out).mono ?_); rintro e w22 ⟨rfl, hb⟩; refine ⟨_, rfl, ?_⟩; replace BK230 := nxz_ BK230 hb; replace BK231 := nxz_ BK231 hb; replace BK232 := nxz_ BK232 hb; replace BK240 := nxz_ BK240 hb; replace HB := hxz_ HB hb; (try clear hb); (try clear hb2); (try clear hk); (try clear hi)) | ((with_reducible refine gate_dst (N := 7) rfl ?_); refine box_event ?hg (N := 7) ?hd (cs := #[.int .i64 0, .int .i64 0]) (t := 28) ?hr ?_; (case hd => rfl); (case hg => rfl); (case hr => first | (go_simp; done) | (go_simp; rfl)); intro gb244 hg w23 hbox hb; have BK244 := Aside0.mk hbox; have GE244 := gez_ (hbz_ HB.out) hg; have NB230_244 := nbz_ (grz_ BK230.out) hg; have NB231_244 := nbz_ (grz_ BK231.out) hg; have NB232_244 := nbz_ (grz_ BK232.out) hg; have NB240_244 := nbz_ (grz_ BK240.out) hg; replace BK230 := nxz_ BK230 hb; replace BK231 := nxz_ BK231 hb; replace BK232 := nxz_ BK232 hb; replace BK240 := nxz_ BK240 hb; replace HB := hxz_ HB hb; clear hb hbox hg; have hnb24 := NB230_244.out.symm; have hnc24 := NB230_244.out; have hnb25 := NB231_244.out.symm; have hnc25 := NB231_244.out; have hnb26 := NB232_244.out.symm; have hnc26 := NB232_244.out; have hnb27 := NB240_244.out.symm; have hnc27 := NB240_244.out; have hcz28_0 : w23.cell? ⟨gb244, 0, none⟩ = some (.int .i64 0) := (blk_cell BK244.out 0).trans rfl; have hcz28_1 : w23.cell? ⟨gb244, 1, none⟩ = some (.int .i64 0) := (blk_cell BK244.out 1).trans rfl; have hfz28_0 := blk_frozen BK244.out 0; have hfz28_1 := blk_frozen BK244.out 1; have hnb29 := NB230_232.out.symm; have hnc29 := NB230_232.out; have hnb30 := NB231_232.out.symm; have hnc30 := NB231_232.out; have hcz31_0 : w23.cell? ⟨gb232, 0, none⟩ = some (.int .i64 0) := (blk_cell BK232.out 0).trans rfl; have hcz31_1 : w23.cell? ⟨gb232, 1, none⟩ = some (.int .i64 0) := (blk_cell BK232.out 1).trans rfl; have hfz31_0 := blk_frozen BK232.out 0; have hfz31_1 := blk_frozen BK232.out 1))
 refine bodyPost_ret (results_cell_row rfl _ _ gb232 28 #[.int .i64 t241, .int .i64 t242] (0, 0) _ rfl (grz_ (blk_put (cs := #[.int .i64 t241, .int .i64 0]) (grz_ (blk_put (cs := #[.int .i64 0, .int .i64 0]) (grz_ (blk_far (grz_ (blk_far (grz_ BK232.out) NB232_244.out _)) NB232_244.out _)) 0 _ rfl)) 1 _ rfl)) Tryd.underlying28 rfl (by kernel_rfl)) rfl ?_
 exact ⟨by first | rfl | (simp [errW_none, errW_some] <;> rfl) | (simp [*, errW_none, errW_some] <;> rfl), by repeat (first | (with_reducible first | exact HB.out | apply below_alloc | apply pw_below_drewN | apply below_drew1 | refine below_set ?_ GE230.out | refine below_set ?_ GE231.out | refine below_set ?_ GE232.out | refine below_set ?_ GE240.out | refine below_set ?_ GE244.out) | exact HB.out)⟩

end Go.Proofs.YtgmjgnojjbajdaaDoor.JR
