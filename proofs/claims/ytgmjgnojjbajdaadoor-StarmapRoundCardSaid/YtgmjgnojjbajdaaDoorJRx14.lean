-- Made by a program of this session (wip/hp.py, over the kit's print) out of the translation. Not trusted: Lean checks it.
import Derived.Test.YtgmjgnojjbajdaaDoorJRx0
import Derived.Test.YtgmjgnojjbajdaaDoorJRx1
import Derived.Test.YtgmjgnojjbajdaaDoorJRx13
namespace Go.Proofs.YtgmjgnojjbajdaaDoor.JR
open Go.RowKit Go.Proofs.YtgmjgnojjbajdaaDoorW.PrintWords Go.Proofs.YtgmjgnojjbajdaaDoorW.PrintLast Go.Proofs.YtgmjgnojjbajdaaDoorW.PrintMore
attribute [local go_sem] max2_int min2_int max_two min_two max_three min_three max_four min_four   -- for this text's walks alone
set_option linter.unusedVariables false
set_option linter.unusedSimpArgs false

/-! ### star_At: function 12 -/
def star_At.T8 : Bool × List (List Nat × List Nat) := (true, [([], []), ([], []), ([1], [1]), ([2], [2]), ([], []), ([4], [4]), ([5], [5]), ([3, 6], [3, 6]), ([0, 0], [0]), ([7, 8, 0, 1, 2, 3, 4, 5, 6, 7, 8], [7]), ([9, 0, 1, 2, 3, 4, 5, 6, 7, 8, 9], [])])
def star_At.B8 : List Nat := [0, 0, 2, 6, 0, 16, 48, 126, 1, 511, 1023]
theorem star_At.tab8 : rtab .any (opsOf Tryd.f12 8) = star_At.T8 := by kernel_rfl
theorem star_At.bits8 : waitsOk star_At.T8.2 star_At.B8 = true := by kernel_rfl
set_option maxHeartbeats 8000000 in
set_option maxRecDepth 100000 in
theorem star_At.calls (k : Nat) (a0 : ByteArray) (a1 : Int) (r1 : Int) (r2 : Int) (r3 : Int) (r4 : Int) (r5 : Int) (w : World) (h : star_At.f k a0 a1 = some (r1, r2, r3, r4, r5)) (ht_ : Aside0 (Tab_ w)) :
    Calls Tryd.prog 12 #[.string a0, .int .i64 a1] w fun e w' => e = .returned (.tuple #[.agg #[.int .i64 r1, .int .i64 r2], .agg #[.int .i64 r3, .int .i64 r4], .int .i64 r5]) ∧ Below w.heap.size w w' := by
  have hu28 := Tryd.underlying28
  have hu52 := Tryd.underlying52
  have hu57 := Tryd.underlying57
  have HB := Aside0.mk (Below.refl w.heap.size w)
  have h_ := h
  clear h
  unfold star_At.f at h_
  obtain ⟨i_, hi_, h2_⟩ := Option.bind_eq_some_iff.mp h_
  clear h_
  obtain ⟨i8_, hx_, hm_⟩ := lk_some hi_
  replace i8_ : i_ < 8 := i8_
  replace hx_ : (lx_ i_).1 = a0 := hx_
  replace hm_ : ∀ j, j < i_ → (lx_ j).1 ≠ a0 := hm_
  clear hi_
  obtain ⟨rs_, hrs_⟩ : ∃ z, z = (lx_ i_).2.1 := ⟨_, rfl⟩
  obtain ⟨ds_, hds_⟩ : ∃ z, z = (lx_ i_).2.2 := ⟨_, rfl⟩
  rw [← hrs_, ← hds_] at h2_
  unfold star_At.g at h2_
  have H : ((series_Angle.f k rs_ 97300000 ([] : List (S85)) 100 a1).bind fun bt197 => (if bt197.2.2 = 0 then (some (bt197.1, bt197.2.1, (wrap64 (ds_ - 100)), (wrap64 (ds_ + 100)), 0)) else (none))) = some (r1, r2, r3, r4, r5) := h2_
  clear h2_
  replace H := Option.bind_eq_some_iff.mp H
  obtain ⟨⟨t197, t198, t199⟩, A30, H⟩ := H
  replace H : (if t199 = 0 then (some (t197, t198, (wrap64 (ds_ - 100)), (wrap64 (ds_ + 100)), 0)) else (none)) = some (r1, r2, r3, r4, r5) := H
  have A3 := Aside0.mk A30
  clear A30
  by_cases c4 : t199 = 0
  · rw [if_pos c4] at H
    have c4b0 : (t199 == 0) = true := beq_iff_eq.mpr c4
    have c4b1 : (t199 != 0) = false := bne_eq_false_iff_eq.mpr c4
    clear c4
    simp only [Option.some.injEq, Prod.mk.injEq] at H
    obtain ⟨rfl, rfl, rfl, rfl, rfl⟩ := H
    go_enter Tryd.func12, Tryd.ntmps12
    go_upto_region 1 with (first | ((with_reducible refine gate_dst (N := 4) rfl ?_); refine box_event ?hg (N := 4) ?hd (cs := #[.int .i64 0, .int .i64 0]) (t := 28) ?hr ?_; (case hd => rfl); (case hg => rfl); (case hr => first | (go_simp; done) | (go_simp; rfl)); intro gb194 hg w5 hbox hb; have BK194 := Aside0.mk hbox; have GE194 := gez_ (hbz_ HB.out) hg; replace HB := hxz_ HB hb; clear hb hbox hg) | ((with_reducible refine gate_dst (N := 5) rfl ?_); refine box_event ?hg (N := 5) ?hd (cs := #[.int .i64 0, .int .i64 0]) (t := 28) ?hr ?_; (case hd => rfl); (case hg => rfl); (case hr => first | (go_simp; done) | (go_simp; rfl)); intro gb195 hg w6 hbox hb; have BK195 := Aside0.mk hbox; have GE195 := gez_ (hbz_ HB.out) hg; have NB194_195 := nbz_ (grz_ BK194.out) hg; replace BK194 := nxz_ BK194 hb; replace HB := hxz_ HB hb; clear hb hbox hg))
    have TB_ := tabz_ ht_ HB.out
    go_wp2_with (first | ((with_reducible refine gate_dst (N := 11) rfl ?_); refine Kd.event_run rfl (ldx_ rfl rfl TB_.out) ?_))
    clear TB_
    go_loopw [12] (fun v wr => ∃ j : Nat, j ≤ i_ ∧ v = .int .i64 (j : Int) ∧ Aside0 (wr.heap[gb194]? = some (.cells #[.int .i64 0, .int .i64 0] 28 (0, 0))) ∧ Aside0 (wr.heap[gb195]? = some (.cells #[.int .i64 0, .int .i64 0] 28 (0, 0))) ∧ Aside0 (Below w.heap.size w wr)) (fun v _ => 8 - (intOf v).toNat)
    case atStart => exact ⟨0, Nat.zero_le _, rfl, BK194, BK195, HB⟩
    case round =>
     clear BK194 BK195 HB
     obtain ⟨j_, hj_, rfl, BK194, BK195, HB⟩ := hrel
     have c8_ : (j_ : Int) < 8 := by omega
     have ix_ := ltix_ j_ (by omega)
     by_cases ji_ : j_ = i_
     rotate_left
     · have ne_ := hm_ j_ (by omega)
       generalize (lx_ j_).1 = nj_ at ix_ ne_
       generalize (lx_ j_).2.1 = rj_ at ix_
       generalize (lx_ j_).2.2 = dj_ at ix_
       have nb_ := ne_list_ ne_
       go_wp2_with (first | ((with_reducible refine gate_dst (N := 8) rfl ?_); refine box_event ?hg (N := 8) ?hd (cs := #[.string (⟨#[]⟩ : ByteArray), .int .i64 0, .int .i64 0]) (t := 52) ?hr ?_; (case hd => rfl); (case hg => rfl); (case hr => first | (go_simp; done) | (go_simp; rfl)); intro gb196 hg w7 hbox hb; have BK196 := Aside0.mk hbox; have GE196 := gez_ (hbz_ HB.out) hg; have NB194_196 := nbz_ (grz_ BK194.out) hg; have NB195_196 := nbz_ (grz_ BK195.out) hg; replace BK194 := nxz_ BK194 hb; replace BK195 := nxz_ BK195 hb; replace HB := hxz_ HB hb; clear hb hbox hg; have hnb8 := NB194_196.out.symm; have hnc8 := NB194_196.out; have hnb9 := NB195_196.out.symm; have hnc9 := NB195_196.out; have hcz10_0 : w7.cell? ⟨gb196, 0, none⟩ = some (.string (⟨#[]⟩ : ByteArray)) := (blk_cell BK196.out 0).trans rfl; have hcz10_1 : w7.cell? ⟨gb196, 1, none⟩ = some (.int .i64 0) := (blk_cell BK196.out 1).trans rfl; have hcz10_2 : w7.cell? ⟨gb196, 2, none⟩ = some (.int .i64 0) := (blk_cell BK196.out 2).trans rfl; have hfz10_0 := blk_frozen BK196.out 0; have hfz10_1 := blk_frozen BK196.out 1; have hfz10_2 := blk_frozen BK196.out 2))
       go_roundw
       case rel => exact ⟨j_ + 1, by omega, by first | rfl | (simp; done) | go_num, ⟨by repeat (first | exact BK194.out | (with_reducible refine blk_drewN ?_ _) | (with_reducible refine blk_drew ?_) | (with_reducible refine blk_alloc ?_ _) | refine blk_far ?_ NB194_196.out _)⟩, ⟨by repeat (first | exact BK195.out | (with_reducible refine blk_drewN ?_ _) | (with_reducible refine blk_drew ?_) | (with_reducible refine blk_alloc ?_ _) | refine blk_far ?_ NB195_196.out _)⟩, ⟨by repeat (first | exact HB.out | apply below_alloc | apply pw_below_drewN | apply below_drew1 | refine below_set ?_ GE196.out)⟩⟩
       case measure => simp [intOf]; omega
     subst ji_
     rw [hx_, ← hrs_, ← hds_] at ix_
     clear hx_ hrs_ hds_ hm_
     go_wp2_with (first | ((with_reducible refine gate_dst (N := 8) rfl ?_); refine box_event ?hg (N := 8) ?hd (cs := #[.string (⟨#[]⟩ : ByteArray), .int .i64 0, .int .i64 0]) (t := 52) ?hr ?_; (case hd => rfl); (case hg => rfl); (case hr => first | (go_simp; done) | (go_simp; rfl)); intro gb196 hg w7 hbox hb; have BK196 := Aside0.mk hbox; have GE196 := gez_ (hbz_ HB.out) hg; have NB194_196 := nbz_ (grz_ BK194.out) hg; have NB195_196 := nbz_ (grz_ BK195.out) hg; replace BK194 := nxz_ BK194 hb; replace BK195 := nxz_ BK195 hb; replace HB := hxz_ HB hb; clear hb hbox hg; have hnb8 := NB194_196.out.symm; have hnc8 := NB194_196.out; have hnb9 := NB195_196.out.symm; have hnc9 := NB195_196.out; have hcz10_0 : w7.cell? ⟨gb196, 0, none⟩ = some (.string (⟨#[]⟩ : ByteArray)) := (blk_cell BK196.out 0).trans rfl; have hcz10_1 : w7.cell? ⟨gb196, 1, none⟩ = some (.int .i64 0) := (blk_cell BK196.out 1).trans rfl; have hcz10_2 : w7.cell? ⟨gb196, 2, none⟩ = some (.int .i64 0) := (blk_cell BK196.out 2).trans rfl; have hfz10_0 := blk_frozen BK196.out 0; have hfz10_1 := blk_frozen BK196.out 1; have hfz10_2 := blk_frozen BK196.out 2) | ((with_reducible refine gate_callee (f := 24) rfl ?_); refine goesL_ (some 24) rfl rfl Tryd.func24 (by kernel_rfl) rfl #[.agg #[.int .i64 rs_, .int .i64 97300000, .slice none 0 0, .int .i64 100], .int .i64 a1] rfl (by (try simp only [List.map_toArray, List.map_cons, List.map_nil]); first | done | rfl | (simp only [List.length_drop, List.length_take]; rfl)) ?_; (refine (series_Angle.calls k rs_ 97300000 _ _ ([] : List (S85)) 100 a1 t197 t198 t199 _ ?side1 ?side2 A3.out).mono ?_); (case side1 => exact Kd.C_nil _ _); (case side2 => exact Nat.le_refl _); rintro e w11 ⟨rfl, hb⟩; refine ⟨_, rfl, ?_⟩; replace BK194 := Aside0.mk (blk_below (g := gb194) (o := .cells #[.int .i64 0, .int .i64 0] 28 (0, 0)) (grz_ (blk_far (grz_ (blk_far (grz_ (blk_far (grz_ BK194.out) NB194_196.out _)) NB194_196.out _)) NB194_196.out _)) hb); replace BK195 := Aside0.mk (blk_below (g := gb195) (o := .cells #[.int .i64 0, .int .i64 0] 28 (0, 0)) (grz_ (blk_far (grz_ (blk_far (grz_ (blk_far (grz_ BK195.out) NB195_196.out _)) NB195_196.out _)) NB195_196.out _)) hb); replace BK196 := Aside0.mk (blk_below (g := gb196) (o := .cells #[.string a0, .int .i64 rs_, .int .i64 ds_] 52 (0, 0)) (grz_ (blk_put (cs := #[.string a0, .int .i64 rs_, .int .i64 0]) (grz_ (blk_put (cs := #[.string a0, .int .i64 0, .int .i64 0]) (grz_ (blk_put (cs := #[.string (⟨#[]⟩ : ByteArray), .int .i64 0, .int .i64 0]) (grz_ BK196.out) 0 _ rfl)) 1 _ rfl)) 2 _ rfl)) hb); replace HB := Aside0.mk (below_step (by repeat (first | (with_reducible first | exact HB.out | apply below_alloc | apply pw_below_drewN | apply below_drew1 | refine below_set ?_ GE196.out) | exact HB.out)) hb); (try clear hb); (try clear hb2); (try clear hk); (try clear hi)) | ((with_reducible refine gate_dst (N := 9) rfl ?_); refine box_event ?hg (N := 9) ?hd (cs := #[.int .i64 0, .int .i64 0]) (t := 28) ?hr ?_; (case hd => rfl); (case hg => rfl); (case hr => first | (go_simp; done) | (go_simp; rfl)); intro gb200 hg w12 hbox hb; have BK200 := Aside0.mk hbox; have GE200 := gez_ (hbz_ HB.out) hg; have NB194_200 := nbz_ (grz_ BK194.out) hg; have NB195_200 := nbz_ (grz_ BK195.out) hg; have NB196_200 := nbz_ (grz_ BK196.out) hg; replace BK194 := nxz_ BK194 hb; replace BK195 := nxz_ BK195 hb; replace BK196 := nxz_ BK196 hb; replace HB := hxz_ HB hb; clear hb hbox hg; have hnb13 := NB194_200.out.symm; have hnc13 := NB194_200.out; have hnb14 := NB195_200.out.symm; have hnc14 := NB195_200.out; have hnb15 := NB196_200.out.symm; have hnc15 := NB196_200.out; have hcz16_0 : w12.cell? ⟨gb200, 0, none⟩ = some (.int .i64 0) := (blk_cell BK200.out 0).trans rfl; have hcz16_1 : w12.cell? ⟨gb200, 1, none⟩ = some (.int .i64 0) := (blk_cell BK200.out 1).trans rfl; have hfz16_0 := blk_frozen BK200.out 0; have hfz16_1 := blk_frozen BK200.out 1))
     have n0_ : Aside0 (((w12.setCell ⟨gb200, 0, none⟩ (.int .i64 t197)).setCell ⟨gb200, 1, none⟩ (.int .i64 t198)).heap[gb194]? = some (.cells #[.int .i64 0, .int .i64 0] 28 (0, 0))) := ⟨(grz_ (blk_far (grz_ (blk_far (grz_ BK194.out) NB194_200.out _)) NB194_200.out _))⟩
     have n1_ : Aside0 (((w12.setCell ⟨gb200, 0, none⟩ (.int .i64 t197)).setCell ⟨gb200, 1, none⟩ (.int .i64 t198)).heap[gb195]? = some (.cells #[.int .i64 0, .int .i64 0] 28 (0, 0))) := ⟨(grz_ (blk_far (grz_ (blk_far (grz_ BK195.out) NB195_200.out _)) NB195_200.out _))⟩
     have n2_ : Aside0 (((w12.setCell ⟨gb200, 0, none⟩ (.int .i64 t197)).setCell ⟨gb200, 1, none⟩ (.int .i64 t198)).heap[gb196]? = some (.cells #[.string a0, .int .i64 rs_, .int .i64 ds_] 52 (0, 0))) := ⟨(grz_ (blk_far (grz_ (blk_far (grz_ BK196.out) NB196_200.out _)) NB196_200.out _))⟩
     have n3_ : Aside0 (((w12.setCell ⟨gb200, 0, none⟩ (.int .i64 t197)).setCell ⟨gb200, 1, none⟩ (.int .i64 t198)).heap[gb200]? = some (.cells #[.int .i64 t197, .int .i64 t198] 28 (0, 0))) := ⟨(grz_ (blk_put (cs := #[.int .i64 t197, .int .i64 0]) (grz_ (blk_put (cs := #[.int .i64 0, .int .i64 0]) (grz_ BK200.out) 0 _ rfl)) 1 _ rfl))⟩
     have n4_ : Aside0 (Below w.heap.size w ((w12.setCell ⟨gb200, 0, none⟩ (.int .i64 t197)).setCell ⟨gb200, 1, none⟩ (.int .i64 t198))) := ⟨by repeat (first | (with_reducible first | exact HB.out | apply below_alloc | apply pw_below_drewN | apply below_drew1 | refine below_set ?_ GE194.out | refine below_set ?_ GE195.out | refine below_set ?_ GE196.out | refine below_set ?_ GE200.out) | exact HB.out)⟩
     (try clear BK194)
     (try clear BK195)
     (try clear BK196)
     (try clear BK200)
     (try clear HB)
     generalize ((w12.setCell ⟨gb200, 0, none⟩ (.int .i64 t197)).setCell ⟨gb200, 1, none⟩ (.int .i64 t198)) = w17 at n0_ n1_ n2_ n3_ n4_ ⊢
     have BK194 := n0_
     have BK195 := n1_
     have BK196 := n2_
     have BK200 := n3_
     have HB := n4_
     clear n0_ n1_ n2_ n3_ n4_
     have n0_ := Aside0.mk (blk_drew BK194.out)
     have n1_ := Aside0.mk (blk_drew BK195.out)
     have n2_ := Aside0.mk (blk_drew BK196.out)
     have n3_ := Aside0.mk (blk_drew BK200.out)
     have n4_ := Aside0.mk (below_drew1 HB.out)
     clear BK194
     clear BK195
     clear BK196
     clear BK200
     clear HB
     have BK194 := n0_
     have BK195 := n1_
     have BK196 := n2_
     have BK200 := n3_
     have HB := n4_
     clear n0_ n1_ n2_ n3_ n4_
     refine start_ (n := 11) (S := fun w' => w'.cell? ⟨gb200, 0, none⟩ = some (.int .i64 t197) ∧ w'.cell? ⟨gb200, 1, none⟩ = some (.int .i64 t198) ∧ w'.cell? ⟨gb196, 0, none⟩ = some (.string a0) ∧ w'.cell? ⟨gb196, 1, none⟩ = some (.int .i64 rs_) ∧ w'.cell? ⟨gb196, 2, none⟩ = some (.int .i64 ds_)) (ds := []) #[false, false, false, false, false, false, false, false, false, false, false] (by kernel_rfl) rfl rfl ⟨(blk_cell BK200.out 0).trans rfl, (blk_cell BK200.out 1).trans rfl, (blk_cell BK196.out 0).trans rfl, (blk_cell BK196.out 1).trans rfl, (blk_cell BK196.out 2).trans rfl⟩ (fun hHeld => ?_); refine with_tabW star_At.tab8 star_At.bits8 (fun HT_ HW_ => ?_)
     generalize w17.drew = w18 at BK194 BK195 BK196 BK200 HB hHeld ⊢
     refine pure_ (i := 1) (N := some 33) (v := ?_) (a' := ?_) #[false, true, false, false, false, false, false, false, false, false, false] rfl rfl (any_of HT_.out (by kernel_rfl)) (fun _ _ _ h => h) (Or.inl ⟨by rfl, ?_⟩) ?_ ?_
     rotate_left
     · intro w'
       go_simp
       with_reducible rfl
     rotate_left
     · simp only [Act.put, List.setIfInBounds_toArray, List.set_cons_zero, List.set_cons_succ, i64_w, i32_w]
       rfl
     refine pure_ (i := 4) (N := some 36) (v := ?_) (a' := ?_) #[false, true, false, false, true, false, false, false, false, false, false] rfl rfl (any_of HT_.out (by kernel_rfl)) (fun _ _ _ h => h) (Or.inl ⟨by rfl, ?_⟩) ?_ ?_
     rotate_left
     · intro w'
       go_simp
       with_reducible rfl
     rotate_left
     · simp only [Act.put, List.setIfInBounds_toArray, List.set_cons_zero, List.set_cons_succ, i64_w, i32_w]
       rfl
     refine take_ (i := 0) (N := some 32) (v := ?_) (a' := ?_) #[true, true, false, false, true, false, false, false, false, false, false] rfl rfl (take_ofW HT_.out HW_.out (by kernel_rfl)) (fun _ _ _ h => h) (Or.inl ⟨by rfl, ?_⟩) hHeld ?_ ?_
     rotate_left
     · rintro w' ⟨s0, s1, s2, s3, s4⟩
       go_simp
       with_reducible rfl
     rotate_left
     · simp only [Act.put, List.setIfInBounds_toArray, List.set_cons_zero, List.set_cons_succ, i64_w, i32_w]
       rfl
     refine take_ (i := 2) (N := some 34) (v := ?_) (a' := ?_) #[true, true, true, false, true, false, false, false, false, false, false] rfl rfl (take_ofW HT_.out HW_.out (by kernel_rfl)) (fun _ _ _ h => h) (Or.inl ⟨by rfl, ?_⟩) hHeld ?_ ?_
     rotate_left
     · rintro w' ⟨s0, s1, s2, s3, s4⟩
       go_simp
       with_reducible rfl
     rotate_left
     · simp only [Act.put, List.setIfInBounds_toArray, List.set_cons_zero, List.set_cons_succ, i64_w, i32_w]
       rfl
     refine pure_ (i := 3) (N := some 35) (v := ?_) (a' := ?_) #[true, true, true, true, true, false, false, false, false, false, false] rfl rfl (any_of HT_.out (by kernel_rfl)) (fun _ _ _ h => h) (Or.inl ⟨by rfl, ?_⟩) ?_ ?_
     rotate_left
     · intro w'
       go_simp
       with_reducible rfl
     rotate_left
     · simp only [Act.put, List.setIfInBounds_toArray, List.set_cons_zero, List.set_cons_succ, i64_w, i32_w]
       rfl
     refine take_ (i := 5) (N := some 37) (v := ?_) (a' := ?_) #[true, true, true, true, true, true, false, false, false, false, false] rfl rfl (take_ofW HT_.out HW_.out (by kernel_rfl)) (fun _ _ _ h => h) (Or.inl ⟨by rfl, ?_⟩) hHeld ?_ ?_
     rotate_left
     · rintro w' ⟨s0, s1, s2, s3, s4⟩
       go_simp
       with_reducible rfl
     rotate_left
     · simp only [Act.put, List.setIfInBounds_toArray, List.set_cons_zero, List.set_cons_succ, i64_w, i32_w]
       rfl
     refine pure_ (i := 6) (N := some 38) (v := ?_) (a' := ?_) #[true, true, true, true, true, true, true, false, false, false, false] rfl rfl (any_of HT_.out (by kernel_rfl)) (fun _ _ _ h => h) (Or.inl ⟨by rfl, ?_⟩) ?_ ?_
     rotate_left
     · intro w'
       go_simp
       with_reducible rfl
     rotate_left
     · simp only [Act.put, List.setIfInBounds_toArray, List.set_cons_zero, List.set_cons_succ, i64_w, i32_w]
       rfl
     refine pure_ (i := 7) (N := some 39) (v := ?_) (a' := ?_) #[true, true, true, true, true, true, true, true, false, false, false] rfl rfl (any_of HT_.out (by kernel_rfl)) (fun _ _ _ h => h) (Or.inl ⟨by rfl, ?_⟩) ?_ ?_
     rotate_left
     · intro w'
       go_simp
       with_reducible rfl
     rotate_left
     · simp only [Act.put, List.setIfInBounds_toArray, List.set_cons_zero, List.set_cons_succ, i64_w, i32_w]
       rfl
     refine one_ (i := 8) (N := none) #[true, true, true, true, true, true, true, true, true, false, false] rfl rfl (one_of HT_.out (by kernel_rfl)) (by decide) (fun K hK => ?_)
     have hs19 : w18.cell? ⟨gb194, 0, none⟩ = some (.int .i64 0) := (blk_cell BK194.out 0).trans rfl
     have hfs19 := blk_frozen BK194.out 0
     have hns19_1 := NB194_195.out.symm
     have hns19_2 := NB194_196.out.symm
     have hns19_3 := NB194_200.out.symm
     have hms19_1 := NB194_195.out
     have hms19_2 := NB194_196.out
     have hms19_3 := NB194_200.out
     have hs20 : w18.cell? ⟨gb194, 1, none⟩ = some (.int .i64 0) := (blk_cell BK194.out 1).trans rfl
     have hfs20 := blk_frozen BK194.out 1
     have hns20_1 := NB194_195.out.symm
     have hns20_2 := NB194_196.out.symm
     have hns20_3 := NB194_200.out.symm
     have hms20_1 := NB194_195.out
     have hms20_2 := NB194_196.out
     have hms20_3 := NB194_200.out
     refine skip_ (w1 := ?_) (by rfl) rfl ?_ ?_
     rotate_left
     · go_simp
       rfl
     refine hK.out _ _ ⟨((cell_far (p := ⟨gb194, _, none⟩) NB194_200.out.symm _).trans (((cell_far (p := ⟨gb194, _, none⟩) NB194_200.out.symm _).trans (hHeld.1)))), ((cell_far (p := ⟨gb194, _, none⟩) NB194_200.out.symm _).trans (((cell_far (p := ⟨gb194, _, none⟩) NB194_200.out.symm _).trans (hHeld.2.1)))), ((cell_far (p := ⟨gb194, _, none⟩) NB194_196.out.symm _).trans (((cell_far (p := ⟨gb194, _, none⟩) NB194_196.out.symm _).trans (hHeld.2.2.1)))), ((cell_far (p := ⟨gb194, _, none⟩) NB194_196.out.symm _).trans (((cell_far (p := ⟨gb194, _, none⟩) NB194_196.out.symm _).trans (hHeld.2.2.2.1)))), ((cell_far (p := ⟨gb194, _, none⟩) NB194_196.out.symm _).trans (((cell_far (p := ⟨gb194, _, none⟩) NB194_196.out.symm _).trans (hHeld.2.2.2.2))))⟩ (fun hHeld => ?_)
     clear hK K
     refine one_ (i := 9) (N := none) #[true, true, true, true, true, true, true, true, true, true, false] rfl rfl (one_of HT_.out (by kernel_rfl)) (by decide) (fun K hK => ?_)
     have hs21 : w18.cell? ⟨gb195, 0, none⟩ = some (.int .i64 0) := (blk_cell BK195.out 0).trans rfl
     have hfs21 := blk_frozen BK195.out 0
     have hns21_0 := NB194_195.out
     have hns21_2 := NB195_196.out.symm
     have hns21_3 := NB195_200.out.symm
     have hms21_0 := NB194_195.out.symm
     have hms21_2 := NB195_196.out
     have hms21_3 := NB195_200.out
     have hs22 : w18.cell? ⟨gb195, 1, none⟩ = some (.int .i64 0) := (blk_cell BK195.out 1).trans rfl
     have hfs22 := blk_frozen BK195.out 1
     have hns22_0 := NB194_195.out
     have hns22_2 := NB195_196.out.symm
     have hns22_3 := NB195_200.out.symm
     have hms22_0 := NB194_195.out.symm
     have hms22_2 := NB195_196.out
     have hms22_3 := NB195_200.out
     refine skip_ (w1 := ?_) (by rfl) rfl ?_ ?_
     rotate_left
     · go_simp
       rfl
     refine hK.out _ _ ⟨((cell_far (p := ⟨gb195, _, none⟩) NB195_200.out.symm _).trans (((cell_far (p := ⟨gb195, _, none⟩) NB195_200.out.symm _).trans (hHeld.1)))), ((cell_far (p := ⟨gb195, _, none⟩) NB195_200.out.symm _).trans (((cell_far (p := ⟨gb195, _, none⟩) NB195_200.out.symm _).trans (hHeld.2.1)))), ((cell_far (p := ⟨gb195, _, none⟩) NB195_196.out.symm _).trans (((cell_far (p := ⟨gb195, _, none⟩) NB195_196.out.symm _).trans (hHeld.2.2.1)))), ((cell_far (p := ⟨gb195, _, none⟩) NB195_196.out.symm _).trans (((cell_far (p := ⟨gb195, _, none⟩) NB195_196.out.symm _).trans (hHeld.2.2.2.1)))), ((cell_far (p := ⟨gb195, _, none⟩) NB195_196.out.symm _).trans (((cell_far (p := ⟨gb195, _, none⟩) NB195_196.out.symm _).trans (hHeld.2.2.2.2))))⟩ (fun hHeld => ?_)
     clear hK K
     refine pure_ (i := 10) (N := some 6) (v := ?_) (a' := ?_) #[true, true, true, true, true, true, true, true, true, true, true] rfl rfl (any_of HT_.out (by kernel_rfl)) (fun _ _ _ h => h) (Or.inl ⟨by rfl, ?_⟩) ?_ ?_
     rotate_left
     · intro w'
       go_simp
       with_reducible rfl
     rotate_left
     · simp only [Act.put, List.setIfInBounds_toArray, List.set_cons_zero, List.set_cons_succ, i64_w, i32_w]
       rfl
     refine done_ (done_of HT_.out (by kernel_rfl)) ?_
     try go_wp2
     refine bodyPost_ret (results_list (rs := [.cell 4 28, .cell 5 28, .tmp 6]) rfl (by simp) (.cell gb194 28 #[.int .i64 t197, .int .i64 t198] (0, 0) _ rfl (grz_ (blk_far (grz_ (blk_far (grz_ (blk_put (cs := #[.int .i64 t197, .int .i64 0]) (grz_ (blk_put (cs := #[.int .i64 0, .int .i64 0]) (grz_ BK194.out) 0 _ rfl)) 1 _ rfl)) NB194_195.out _)) NB194_195.out _)) Tryd.underlying28 rfl (by kernel_rfl) (.cell gb195 28 #[.int .i64 ((wrap64 (ds_ - 100))), .int .i64 ((wrap64 (ds_ + 100)))] (0, 0) _ rfl (grz_ (blk_put (cs := #[.int .i64 ((wrap64 (ds_ - 100))), .int .i64 0]) (grz_ (blk_put (cs := #[.int .i64 0, .int .i64 0]) (grz_ (blk_far (grz_ (blk_far (grz_ BK195.out) NB194_195.out.symm _)) NB194_195.out.symm _)) 0 _ rfl)) 1 _ rfl)) Tryd.underlying28 rfl (by kernel_rfl) (.tmp .nil)))) rfl ?_
     exact ⟨by first | rfl | (simp [errW_none, errW_some] <;> rfl) | (simp [*, errW_none, errW_some] <;> rfl), by repeat (first | (with_reducible first | exact HB.out | apply below_alloc | apply pw_below_drewN | apply below_drew1 | refine below_set ?_ GE194.out | refine below_set ?_ GE195.out | refine below_set ?_ GE196.out | refine below_set ?_ GE200.out) | exact HB.out)⟩
  · rw [if_neg c4] at H
    have c4b0 : (t199 == 0) = false := beq_eq_false_iff_ne.mpr c4
    have c4b1 : (t199 != 0) = true := bne_iff_ne.mpr c4
    exact absurd H (by simp)

end Go.Proofs.YtgmjgnojjbajdaaDoor.JR
