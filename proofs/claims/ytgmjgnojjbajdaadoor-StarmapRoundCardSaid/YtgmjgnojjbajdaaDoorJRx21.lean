-- Made by a program of this session (wip/hp.py, over the kit's print) out of the translation. Not trusted: Lean checks it.
import Derived.Test.YtgmjgnojjbajdaaDoorJRx0
import Derived.Test.YtgmjgnojjbajdaaDoorJRx1
import Derived.Test.YtgmjgnojjbajdaaDoorJRx10
import Derived.Test.YtgmjgnojjbajdaaDoorJRx11
import Derived.Test.YtgmjgnojjbajdaaDoorJRx15
import Derived.Test.YtgmjgnojjbajdaaDoorJRx16
import Derived.Test.YtgmjgnojjbajdaaDoorJRx17
import Derived.Test.YtgmjgnojjbajdaaDoorJRx19
namespace Go.Proofs.YtgmjgnojjbajdaaDoor.JR
open Go.RowKit Go.Proofs.YtgmjgnojjbajdaaDoorW.PrintWords Go.Proofs.YtgmjgnojjbajdaaDoorW.PrintLast Go.Proofs.YtgmjgnojjbajdaaDoorW.PrintMore
attribute [local go_sem] max2_int min2_int max_two min_two max_three min_three max_four min_four   -- for this text's walks alone
set_option linter.unusedVariables false
set_option linter.unusedSimpArgs false

/-! ### place_Ground: function 37 -/
def place_Ground.T11 : Bool × List (List Nat × List Nat) := (true, [([], []), ([], []), ([0, 1], [0, 1]), ([], []), ([], []), ([3, 4, 2], [3, 4]), ([], []), ([5, 6, 5], [5, 6]), ([], []), ([], []), ([8, 2, 7, 0, 1, 2, 8, 9], [2, 8]), ([9, 7, 10, 0, 1, 2, 3, 4, 5, 6, 7, 8, 9, 10], [7, 9])])
def place_Ground.B11 : List Nat := [0, 0, 3, 0, 0, 31, 0, 127, 0, 0, 1023, 2047]
theorem place_Ground.tab11 : rtab .any (opsOf Tryd.f37 11) = place_Ground.T11 := by kernel_rfl
theorem place_Ground.bits11 : waitsOk place_Ground.T11.2 place_Ground.B11 = true := by kernel_rfl
def place_Ground.T12 : Bool × List (List Nat × List Nat) := (true, [([], []), ([0], [0]), ([1], [1]), ([], []), ([3], [3]), ([4], [4]), ([2, 5], [2, 5]), ([], []), ([7], [7]), ([], []), ([9], [9]), ([8, 10], [8, 10]), ([], []), ([12], [12]), ([], []), ([14], [14]), ([13, 15], [13, 15]), ([11, 16], [11, 16]), ([17], [17]), ([6, 18, 0, 1, 2, 3, 4, 5, 6], [6]), ([18, 19, 0, 1, 2, 3, 4, 5, 6, 7, 8, 9, 10, 11, 12, 13, 14, 15, 16, 17, 18, 19], [18]), ([20, 0, 1, 2, 3, 4, 5, 6, 7, 8, 9, 10, 11, 12, 13, 14, 15, 16, 17, 18, 19, 20], [])])
def place_Ground.B12 : List Nat := [0, 1, 3, 0, 8, 24, 63, 0, 128, 0, 512, 1920, 0, 4096, 0, 16384, 61440, 130944, 262016, 524287, 1048575, 2097151]
theorem place_Ground.tab12 : rtab .any (opsOf Tryd.f37 12) = place_Ground.T12 := by kernel_rfl
theorem place_Ground.bits12 : waitsOk place_Ground.T12.2 place_Ground.B12 = true := by kernel_rfl
set_option maxHeartbeats 8000000 in
set_option maxRecDepth 100000 in
theorem place_Ground.calls (k : Nat) (a0_0 : Int) (a0_1 : Int) (a1_0 : Int) (a1_1 : Int) (a2_0 : Int) (a2_1 : Int) (a3 : Int) (r1 : Int) (r2 : Int) (r3 : Int) (r4 : Int) (r5 : Int) (w : World) (h : place_Ground.f k a0_0 a0_1 a1_0 a1_1 a2_0 a2_1 a3 = some (r1, r2, r3, r4, r5)) :
  Calls Tryd.prog 37 #[.agg #[.int .i64 a0_0, .int .i64 a0_1], .agg #[.int .i64 a1_0, .int .i64 a1_1], .agg #[.int .i64 a2_0, .int .i64 a2_1], .int .i64 a3] w fun e w' => e = .returned (.tuple #[.agg #[.int .i64 r1, .int .i64 r2], .agg #[.int .i64 r3, .int .i64 r4], .int .i64 r5]) ∧ Below w.heap.size w w' := by
 have hu41 := Tryd.underlying41
 have hu28 := Tryd.underlying28
 have HB := Aside0.mk (Below.refl w.heap.size w)
 have H : ((place_hour.f k a0_0 a0_1 a1_0 a1_1 a2_0 a2_1 a3).bind fun bt288 => (if bt288.2.2 = 0 then ((trig_Sin.f k a0_1).bind fun bt292 => ((trig_Cos.f k a0_1).bind fun bt296 => ((trig_SinOver.f k a2_0 a2_1).bind fun bt300 => ((trig_CosOver.f k a2_0 a2_1).bind fun bt304 => ((trig_SinOver.f k bt288.1 bt288.2.1).bind fun bt308 => ((trig_CosOver.f k bt288.1 bt288.2.1).bind fun bt312 => ((sun_Unit.f bt304.1 bt304.2.1 bt308.1 bt308.2.1).bind fun bt316 => ((sun_Unit.f bt296.1 bt296.2.1 bt300.1 bt300.2.1).bind fun bt319 => ((sun_Unit.f bt292.1 bt292.2.1 bt304.1 bt304.2.1).bind fun bt321 => ((sun_Unit.f bt321.1 bt321.2 bt312.1 bt312.2.1).bind fun bt323 => ((sun_Clamp.f (wrap64 (bt319.1 - bt323.2)) (wrap64 (bt319.2 - bt323.1))).bind fun bt327 => (some (wrap64 (-bt316.2), wrap64 (-bt316.1), bt327.1, bt327.2, 0))))))))))))) else (some (0, 0, 0, 0, bt288.2.2)))) = some (r1, r2, r3, r4, r5) := h
 clear h
 replace H := Option.bind_eq_some_iff.mp H
 obtain ⟨⟨t288, t289, t290⟩, A50, H⟩ := H
 replace H : (if t290 = 0 then ((trig_Sin.f k a0_1).bind fun bt292 => ((trig_Cos.f k a0_1).bind fun bt296 => ((trig_SinOver.f k a2_0 a2_1).bind fun bt300 => ((trig_CosOver.f k a2_0 a2_1).bind fun bt304 => ((trig_SinOver.f k t288 t289).bind fun bt308 => ((trig_CosOver.f k t288 t289).bind fun bt312 => ((sun_Unit.f bt304.1 bt304.2.1 bt308.1 bt308.2.1).bind fun bt316 => ((sun_Unit.f bt296.1 bt296.2.1 bt300.1 bt300.2.1).bind fun bt319 => ((sun_Unit.f bt292.1 bt292.2.1 bt304.1 bt304.2.1).bind fun bt321 => ((sun_Unit.f bt321.1 bt321.2 bt312.1 bt312.2.1).bind fun bt323 => ((sun_Clamp.f (wrap64 (bt319.1 - bt323.2)) (wrap64 (bt319.2 - bt323.1))).bind fun bt327 => (some (wrap64 (-bt316.2), wrap64 (-bt316.1), bt327.1, bt327.2, 0))))))))))))) else (some (0, 0, 0, 0, t290))) = some (r1, r2, r3, r4, r5) := H
 have A5 := Aside0.mk A50
 clear A50
 by_cases c6 : t290 = 0
 ·
  rw [if_pos c6] at H
  have c6b0 : (t290 == 0) = true := beq_iff_eq.mpr c6
  have c6b1 : (t290 != 0) = false := bne_eq_false_iff_eq.mpr c6
  clear c6
  replace H := Option.bind_eq_some_iff.mp H
  obtain ⟨⟨t292, t293, t294⟩, A70, H⟩ := H
  replace H : ((trig_Cos.f k a0_1).bind fun bt296 => ((trig_SinOver.f k a2_0 a2_1).bind fun bt300 => ((trig_CosOver.f k a2_0 a2_1).bind fun bt304 => ((trig_SinOver.f k t288 t289).bind fun bt308 => ((trig_CosOver.f k t288 t289).bind fun bt312 => ((sun_Unit.f bt304.1 bt304.2.1 bt308.1 bt308.2.1).bind fun bt316 => ((sun_Unit.f bt296.1 bt296.2.1 bt300.1 bt300.2.1).bind fun bt319 => ((sun_Unit.f t292 t293 bt304.1 bt304.2.1).bind fun bt321 => ((sun_Unit.f bt321.1 bt321.2 bt312.1 bt312.2.1).bind fun bt323 => ((sun_Clamp.f (wrap64 (bt319.1 - bt323.2)) (wrap64 (bt319.2 - bt323.1))).bind fun bt327 => (some (wrap64 (-bt316.2), wrap64 (-bt316.1), bt327.1, bt327.2, 0)))))))))))) = some (r1, r2, r3, r4, r5) := H
  have A7 := Aside0.mk A70
  clear A70
  replace H := Option.bind_eq_some_iff.mp H
  obtain ⟨⟨t296, t297, t298⟩, A80, H⟩ := H
  replace H : ((trig_SinOver.f k a2_0 a2_1).bind fun bt300 => ((trig_CosOver.f k a2_0 a2_1).bind fun bt304 => ((trig_SinOver.f k t288 t289).bind fun bt308 => ((trig_CosOver.f k t288 t289).bind fun bt312 => ((sun_Unit.f bt304.1 bt304.2.1 bt308.1 bt308.2.1).bind fun bt316 => ((sun_Unit.f t296 t297 bt300.1 bt300.2.1).bind fun bt319 => ((sun_Unit.f t292 t293 bt304.1 bt304.2.1).bind fun bt321 => ((sun_Unit.f bt321.1 bt321.2 bt312.1 bt312.2.1).bind fun bt323 => ((sun_Clamp.f (wrap64 (bt319.1 - bt323.2)) (wrap64 (bt319.2 - bt323.1))).bind fun bt327 => (some (wrap64 (-bt316.2), wrap64 (-bt316.1), bt327.1, bt327.2, 0))))))))))) = some (r1, r2, r3, r4, r5) := H
  have A8 := Aside0.mk A80
  clear A80
  replace H := Option.bind_eq_some_iff.mp H
  obtain ⟨⟨t300, t301, t302⟩, A90, H⟩ := H
  replace H : ((trig_CosOver.f k a2_0 a2_1).bind fun bt304 => ((trig_SinOver.f k t288 t289).bind fun bt308 => ((trig_CosOver.f k t288 t289).bind fun bt312 => ((sun_Unit.f bt304.1 bt304.2.1 bt308.1 bt308.2.1).bind fun bt316 => ((sun_Unit.f t296 t297 t300 t301).bind fun bt319 => ((sun_Unit.f t292 t293 bt304.1 bt304.2.1).bind fun bt321 => ((sun_Unit.f bt321.1 bt321.2 bt312.1 bt312.2.1).bind fun bt323 => ((sun_Clamp.f (wrap64 (bt319.1 - bt323.2)) (wrap64 (bt319.2 - bt323.1))).bind fun bt327 => (some (wrap64 (-bt316.2), wrap64 (-bt316.1), bt327.1, bt327.2, 0)))))))))) = some (r1, r2, r3, r4, r5) := H
  have A9 := Aside0.mk A90
  clear A90
  replace H := Option.bind_eq_some_iff.mp H
  obtain ⟨⟨t304, t305, t306⟩, A100, H⟩ := H
  replace H : ((trig_SinOver.f k t288 t289).bind fun bt308 => ((trig_CosOver.f k t288 t289).bind fun bt312 => ((sun_Unit.f t304 t305 bt308.1 bt308.2.1).bind fun bt316 => ((sun_Unit.f t296 t297 t300 t301).bind fun bt319 => ((sun_Unit.f t292 t293 t304 t305).bind fun bt321 => ((sun_Unit.f bt321.1 bt321.2 bt312.1 bt312.2.1).bind fun bt323 => ((sun_Clamp.f (wrap64 (bt319.1 - bt323.2)) (wrap64 (bt319.2 - bt323.1))).bind fun bt327 => (some (wrap64 (-bt316.2), wrap64 (-bt316.1), bt327.1, bt327.2, 0))))))))) = some (r1, r2, r3, r4, r5) := H
  have A10 := Aside0.mk A100
  clear A100
  replace H := Option.bind_eq_some_iff.mp H
  obtain ⟨⟨t308, t309, t310⟩, A110, H⟩ := H
  replace H : ((trig_CosOver.f k t288 t289).bind fun bt312 => ((sun_Unit.f t304 t305 t308 t309).bind fun bt316 => ((sun_Unit.f t296 t297 t300 t301).bind fun bt319 => ((sun_Unit.f t292 t293 t304 t305).bind fun bt321 => ((sun_Unit.f bt321.1 bt321.2 bt312.1 bt312.2.1).bind fun bt323 => ((sun_Clamp.f (wrap64 (bt319.1 - bt323.2)) (wrap64 (bt319.2 - bt323.1))).bind fun bt327 => (some (wrap64 (-bt316.2), wrap64 (-bt316.1), bt327.1, bt327.2, 0)))))))) = some (r1, r2, r3, r4, r5) := H
  have A11 := Aside0.mk A110
  clear A110
  replace H := Option.bind_eq_some_iff.mp H
  obtain ⟨⟨t312, t313, t314⟩, A120, H⟩ := H
  replace H : ((sun_Unit.f t304 t305 t308 t309).bind fun bt316 => ((sun_Unit.f t296 t297 t300 t301).bind fun bt319 => ((sun_Unit.f t292 t293 t304 t305).bind fun bt321 => ((sun_Unit.f bt321.1 bt321.2 t312 t313).bind fun bt323 => ((sun_Clamp.f (wrap64 (bt319.1 - bt323.2)) (wrap64 (bt319.2 - bt323.1))).bind fun bt327 => (some (wrap64 (-bt316.2), wrap64 (-bt316.1), bt327.1, bt327.2, 0))))))) = some (r1, r2, r3, r4, r5) := H
  have A12 := Aside0.mk A120
  clear A120
  replace H := Option.bind_eq_some_iff.mp H
  obtain ⟨⟨t316, t317⟩, A130, H⟩ := H
  replace H : ((sun_Unit.f t296 t297 t300 t301).bind fun bt319 => ((sun_Unit.f t292 t293 t304 t305).bind fun bt321 => ((sun_Unit.f bt321.1 bt321.2 t312 t313).bind fun bt323 => ((sun_Clamp.f (wrap64 (bt319.1 - bt323.2)) (wrap64 (bt319.2 - bt323.1))).bind fun bt327 => (some (wrap64 (-t317), wrap64 (-t316), bt327.1, bt327.2, 0)))))) = some (r1, r2, r3, r4, r5) := H
  have A13 := Aside0.mk A130
  clear A130
  replace H := Option.bind_eq_some_iff.mp H
  obtain ⟨⟨t319, t320⟩, A140, H⟩ := H
  replace H : ((sun_Unit.f t292 t293 t304 t305).bind fun bt321 => ((sun_Unit.f bt321.1 bt321.2 t312 t313).bind fun bt323 => ((sun_Clamp.f (wrap64 (t319 - bt323.2)) (wrap64 (t320 - bt323.1))).bind fun bt327 => (some (wrap64 (-t317), wrap64 (-t316), bt327.1, bt327.2, 0))))) = some (r1, r2, r3, r4, r5) := H
  have A14 := Aside0.mk A140
  clear A140
  replace H := Option.bind_eq_some_iff.mp H
  obtain ⟨⟨t321, t322⟩, A150, H⟩ := H
  replace H : ((sun_Unit.f t321 t322 t312 t313).bind fun bt323 => ((sun_Clamp.f (wrap64 (t319 - bt323.2)) (wrap64 (t320 - bt323.1))).bind fun bt327 => (some (wrap64 (-t317), wrap64 (-t316), bt327.1, bt327.2, 0)))) = some (r1, r2, r3, r4, r5) := H
  have A15 := Aside0.mk A150
  clear A150
  replace H := Option.bind_eq_some_iff.mp H
  obtain ⟨⟨t323, t324⟩, A160, H⟩ := H
  replace H : ((sun_Clamp.f (wrap64 (t319 - t324)) (wrap64 (t320 - t323))).bind fun bt327 => (some (wrap64 (-t317), wrap64 (-t316), bt327.1, bt327.2, 0))) = some (r1, r2, r3, r4, r5) := H
  have A16 := Aside0.mk A160
  clear A160
  replace H := Option.bind_eq_some_iff.mp H
  obtain ⟨⟨t327, t328⟩, A170, H⟩ := H
  replace H : (some (wrap64 (-t317), wrap64 (-t316), t327, t328, 0)) = some (r1, r2, r3, r4, r5) := H
  have A17 := Aside0.mk A170
  clear A170
  simp only [Option.some.injEq, Prod.mk.injEq] at H
  obtain ⟨rfl, rfl, rfl, rfl, rfl⟩ := H
  go_enter Tryd.func37, Tryd.ntmps37
  try go_wp2_with (first | ((with_reducible refine gate_dst (N := 4) rfl ?_); refine box_event ?hg (N := 4) ?hd (cs := #[.int .i64 a0_0, .int .i64 a0_1]) (t := 41) ?hr ?_; (case hd => rfl); (case hg => rfl); (case hr => first | (go_simp; done) | (go_simp; rfl)); intro gb283 hg w18 hbox hb; have BK283 := Aside0.mk hbox; have GE283 := gez_ (hbz_ HB.out) hg; replace HB := hxz_ HB hb; clear hb hbox hg) | ((with_reducible refine gate_dst (N := 5) rfl ?_); refine box_event ?hg (N := 5) ?hd (cs := #[.int .i64 a1_0, .int .i64 a1_1]) (t := 28) ?hr ?_; (case hd => rfl); (case hg => rfl); (case hr => first | (go_simp; done) | (go_simp; rfl)); intro gb284 hg w19 hbox hb; have BK284 := Aside0.mk hbox; have GE284 := gez_ (hbz_ HB.out) hg; have NB283_284 := nbz_ (grz_ BK283.out) hg; replace BK283 := nxz_ BK283 hb; replace HB := hxz_ HB hb; clear hb hbox hg) | ((with_reducible refine gate_dst (N := 6) rfl ?_); refine box_event ?hg (N := 6) ?hd (cs := #[.int .i64 a2_0, .int .i64 a2_1]) (t := 28) ?hr ?_; (case hd => rfl); (case hg => rfl); (case hr => first | (go_simp; done) | (go_simp; rfl)); intro gb285 hg w20 hbox hb; have BK285 := Aside0.mk hbox; have GE285 := gez_ (hbz_ HB.out) hg; have NB283_285 := nbz_ (grz_ BK283.out) hg; have NB284_285 := nbz_ (grz_ BK284.out) hg; replace BK283 := nxz_ BK283 hb; replace BK284 := nxz_ BK284 hb; replace HB := hxz_ HB hb; clear hb hbox hg) | ((with_reducible refine gate_dst (N := 8) rfl ?_); refine box_event ?hg (N := 8) ?hd (cs := #[.int .i64 0, .int .i64 0]) (t := 28) ?hr ?_; (case hd => rfl); (case hg => rfl); (case hr => first | (go_simp; done) | (go_simp; rfl)); intro gb286 hg w21 hbox hb; have BK286 := Aside0.mk hbox; have GE286 := gez_ (hbz_ HB.out) hg; have NB283_286 := nbz_ (grz_ BK283.out) hg; have NB284_286 := nbz_ (grz_ BK284.out) hg; have NB285_286 := nbz_ (grz_ BK285.out) hg; replace BK283 := nxz_ BK283 hb; replace BK284 := nxz_ BK284 hb; replace BK285 := nxz_ BK285 hb; replace HB := hxz_ HB hb; clear hb hbox hg) | ((with_reducible refine gate_dst (N := 9) rfl ?_); refine box_event ?hg (N := 9) ?hd (cs := #[.int .i64 0, .int .i64 0]) (t := 28) ?hr ?_; (case hd => rfl); (case hg => rfl); (case hr => first | (go_simp; done) | (go_simp; rfl)); intro gb287 hg w22 hbox hb; have BK287 := Aside0.mk hbox; have GE287 := gez_ (hbz_ HB.out) hg; have NB283_287 := nbz_ (grz_ BK283.out) hg; have NB284_287 := nbz_ (grz_ BK284.out) hg; have NB285_287 := nbz_ (grz_ BK285.out) hg; have NB286_287 := nbz_ (grz_ BK286.out) hg; replace BK283 := nxz_ BK283 hb; replace BK284 := nxz_ BK284 hb; replace BK285 := nxz_ BK285 hb; replace BK286 := nxz_ BK286 hb; replace HB := hxz_ HB hb; clear hb hbox hg; have hnb23 := NB283_284.out; have hnc23 := NB283_284.out.symm; have hnb24 := NB283_285.out; have hnc24 := NB283_285.out.symm; have hnb25 := NB283_286.out; have hnc25 := NB283_286.out.symm; have hnb26 := NB283_287.out; have hnc26 := NB283_287.out.symm; have hcz27_0 : w22.cell? ⟨gb283, 0, none⟩ = some (.int .i64 a0_0) := (blk_cell BK283.out 0).trans rfl; have hcz27_1 : w22.cell? ⟨gb283, 1, none⟩ = some (.int .i64 a0_1) := (blk_cell BK283.out 1).trans rfl; have hfz27_0 := blk_frozen BK283.out 0; have hfz27_1 := blk_frozen BK283.out 1; have hnb28 := NB284_285.out; have hnc28 := NB284_285.out.symm; have hnb29 := NB284_286.out; have hnc29 := NB284_286.out.symm; have hnb30 := NB284_287.out; have hnc30 := NB284_287.out.symm; have hcz31_0 : w22.cell? ⟨gb284, 0, none⟩ = some (.int .i64 a1_0) := (blk_cell BK284.out 0).trans rfl; have hcz31_1 : w22.cell? ⟨gb284, 1, none⟩ = some (.int .i64 a1_1) := (blk_cell BK284.out 1).trans rfl; have hfz31_0 := blk_frozen BK284.out 0; have hfz31_1 := blk_frozen BK284.out 1; have hnb32 := NB285_286.out; have hnc32 := NB285_286.out.symm; have hnb33 := NB285_287.out; have hnc33 := NB285_287.out.symm; have hcz34_0 : w22.cell? ⟨gb285, 0, none⟩ = some (.int .i64 a2_0) := (blk_cell BK285.out 0).trans rfl; have hcz34_1 : w22.cell? ⟨gb285, 1, none⟩ = some (.int .i64 a2_1) := (blk_cell BK285.out 1).trans rfl; have hfz34_0 := blk_frozen BK285.out 0; have hfz34_1 := blk_frozen BK285.out 1) | ((with_reducible refine gate_callee (f := 50) rfl ?_); refine goesL_ (some 33) rfl rfl Tryd.func50 (by kernel_rfl) rfl #[.agg #[.int .i64 a0_0, .int .i64 a0_1], .agg #[.int .i64 a1_0, .int .i64 a1_1], .agg #[.int .i64 a2_0, .int .i64 a2_1], .int .i64 a3] rfl (by (try simp only [List.map_toArray, List.map_cons, List.map_nil]); first | done | rfl | (simp only [List.length_drop, List.length_take]; rfl)) ?_; (with_reducible refine (place_hour.calls k a0_0 a0_1 a1_0 a1_1 a2_0 a2_1 a3 t288 t289 t290 _ A5.out).mono ?_); rintro e w35 ⟨rfl, hb⟩; refine ⟨_, rfl, ?_⟩; replace BK283 := nxz_ BK283 hb; replace BK284 := nxz_ BK284 hb; replace BK285 := nxz_ BK285 hb; replace BK286 := nxz_ BK286 hb; replace BK287 := nxz_ BK287 hb; replace HB := hxz_ HB hb; (try clear hb); (try clear hb2); (try clear hk); (try clear hi)) | ((with_reducible refine gate_dst (N := 11) rfl ?_); refine box_event ?hg (N := 11) ?hd (cs := #[.int .i64 0, .int .i64 0]) (t := 28) ?hr ?_; (case hd => rfl); (case hg => rfl); (case hr => first | (go_simp; done) | (go_simp; rfl)); intro gb291 hg w36 hbox hb; have BK291 := Aside0.mk hbox; have GE291 := gez_ (hbz_ HB.out) hg; have NB283_291 := nbz_ (grz_ BK283.out) hg; have NB285_291 := nbz_ (grz_ BK285.out) hg; have NB286_291 := nbz_ (grz_ BK286.out) hg; have NB287_291 := nbz_ (grz_ BK287.out) hg; replace BK283 := nxz_ BK283 hb; replace BK285 := nxz_ BK285 hb; replace BK286 := nxz_ BK286 hb; replace BK287 := nxz_ BK287 hb; replace HB := hxz_ HB hb; clear hb hbox hg; have hnb37 := NB283_291.out.symm; have hnc37 := NB283_291.out; have hnb38 := NB285_291.out.symm; have hnc38 := NB285_291.out; have hnb39 := NB286_291.out.symm; have hnc39 := NB286_291.out; have hnb40 := NB287_291.out.symm; have hnc40 := NB287_291.out; have hcz41_0 : w36.cell? ⟨gb291, 0, none⟩ = some (.int .i64 0) := (blk_cell BK291.out 0).trans rfl; have hcz41_1 : w36.cell? ⟨gb291, 1, none⟩ = some (.int .i64 0) := (blk_cell BK291.out 1).trans rfl; have hfz41_0 := blk_frozen BK291.out 0; have hfz41_1 := blk_frozen BK291.out 1; have hcz42_0 : w36.cell? ⟨gb283, 0, none⟩ = some (.int .i64 a0_0) := (blk_cell BK283.out 0).trans rfl; have hcz42_1 : w36.cell? ⟨gb283, 1, none⟩ = some (.int .i64 a0_1) := (blk_cell BK283.out 1).trans rfl; have hfz42_0 := blk_frozen BK283.out 0; have hfz42_1 := blk_frozen BK283.out 1) | ((with_reducible refine gate_callee (f := 45) rfl ?_); refine goesL_ (some 44) rfl rfl Tryd.func45 (by kernel_rfl) rfl #[.int .i64 a0_1] rfl (by (try simp only [List.map_toArray, List.map_cons, List.map_nil]); first | done | rfl | (simp only [List.length_drop, List.length_take]; rfl)) ?_; (with_reducible refine (trig_Sin.calls k a0_1 t292 t293 t294 _ A7.out).mono ?_); rintro e w43 ⟨rfl, hb⟩; refine ⟨_, rfl, ?_⟩; replace BK283 := Aside0.mk (blk_below (g := gb283) (o := .cells #[.int .i64 a0_0, .int .i64 a0_1] 41 (0, 0)) (grz_ (blk_far (grz_ (blk_far (grz_ BK283.out) NB283_291.out _)) NB283_291.out _)) hb); replace BK285 := Aside0.mk (blk_below (g := gb285) (o := .cells #[.int .i64 a2_0, .int .i64 a2_1] 28 (0, 0)) (grz_ (blk_far (grz_ (blk_far (grz_ BK285.out) NB285_291.out _)) NB285_291.out _)) hb); replace BK286 := Aside0.mk (blk_below (g := gb286) (o := .cells #[.int .i64 0, .int .i64 0] 28 (0, 0)) (grz_ (blk_far (grz_ (blk_far (grz_ BK286.out) NB286_291.out _)) NB286_291.out _)) hb); replace BK287 := Aside0.mk (blk_below (g := gb287) (o := .cells #[.int .i64 0, .int .i64 0] 28 (0, 0)) (grz_ (blk_far (grz_ (blk_far (grz_ BK287.out) NB287_291.out _)) NB287_291.out _)) hb); replace BK291 := Aside0.mk (blk_below (g := gb291) (o := .cells #[.int .i64 t288, .int .i64 t289] 28 (0, 0)) (grz_ (blk_put (cs := #[.int .i64 t288, .int .i64 0]) (grz_ (blk_put (cs := #[.int .i64 0, .int .i64 0]) (grz_ BK291.out) 0 _ rfl)) 1 _ rfl)) hb); replace HB := Aside0.mk (below_step (by repeat (first | (with_reducible first | exact HB.out | apply below_alloc | apply pw_below_drewN | apply below_drew1 | refine below_set ?_ GE291.out) | exact HB.out)) hb); (try clear hb); (try clear hb2); (try clear hk); (try clear hi)) | ((with_reducible refine gate_dst (N := 13) rfl ?_); refine box_event ?hg (N := 13) ?hd (cs := #[.int .i64 0, .int .i64 0]) (t := 28) ?hr ?_; (case hd => rfl); (case hg => rfl); (case hr => first | (go_simp; done) | (go_simp; rfl)); intro gb295 hg w44 hbox hb; have BK295 := Aside0.mk hbox; have GE295 := gez_ (hbz_ HB.out) hg; have NB283_295 := nbz_ (grz_ BK283.out) hg; have NB285_295 := nbz_ (grz_ BK285.out) hg; have NB286_295 := nbz_ (grz_ BK286.out) hg; have NB287_295 := nbz_ (grz_ BK287.out) hg; have NB291_295 := nbz_ (grz_ BK291.out) hg; replace BK283 := nxz_ BK283 hb; replace BK285 := nxz_ BK285 hb; replace BK286 := nxz_ BK286 hb; replace BK287 := nxz_ BK287 hb; replace BK291 := nxz_ BK291 hb; replace HB := hxz_ HB hb; clear hb hbox hg; have hnb45 := NB283_295.out.symm; have hnc45 := NB283_295.out; have hnb46 := NB285_295.out.symm; have hnc46 := NB285_295.out; have hnb47 := NB286_295.out.symm; have hnc47 := NB286_295.out; have hnb48 := NB287_295.out.symm; have hnc48 := NB287_295.out; have hnb49 := NB291_295.out.symm; have hnc49 := NB291_295.out; have hcz50_0 : w44.cell? ⟨gb295, 0, none⟩ = some (.int .i64 0) := (blk_cell BK295.out 0).trans rfl; have hcz50_1 : w44.cell? ⟨gb295, 1, none⟩ = some (.int .i64 0) := (blk_cell BK295.out 1).trans rfl; have hfz50_0 := blk_frozen BK295.out 0; have hfz50_1 := blk_frozen BK295.out 1; have hcz51_0 : w44.cell? ⟨gb283, 0, none⟩ = some (.int .i64 a0_0) := (blk_cell BK283.out 0).trans rfl; have hcz51_1 : w44.cell? ⟨gb283, 1, none⟩ = some (.int .i64 a0_1) := (blk_cell BK283.out 1).trans rfl; have hfz51_0 := blk_frozen BK283.out 0; have hfz51_1 := blk_frozen BK283.out 1) | ((with_reducible refine gate_callee (f := 51) rfl ?_); refine goesL_ (some 50) rfl rfl Tryd.func51 (by kernel_rfl) rfl #[.int .i64 a0_1] rfl (by (try simp only [List.map_toArray, List.map_cons, List.map_nil]); first | done | rfl | (simp only [List.length_drop, List.length_take]; rfl)) ?_; (with_reducible refine (trig_Cos.calls k a0_1 t296 t297 t298 _ A8.out).mono ?_); rintro e w52 ⟨rfl, hb⟩; refine ⟨_, rfl, ?_⟩; replace BK283 := Aside0.mk (blk_below (g := gb283) (o := .cells #[.int .i64 a0_0, .int .i64 a0_1] 41 (0, 0)) (grz_ (blk_far (grz_ (blk_far (grz_ BK283.out) NB283_295.out _)) NB283_295.out _)) hb); replace BK285 := Aside0.mk (blk_below (g := gb285) (o := .cells #[.int .i64 a2_0, .int .i64 a2_1] 28 (0, 0)) (grz_ (blk_far (grz_ (blk_far (grz_ BK285.out) NB285_295.out _)) NB285_295.out _)) hb); replace BK286 := Aside0.mk (blk_below (g := gb286) (o := .cells #[.int .i64 0, .int .i64 0] 28 (0, 0)) (grz_ (blk_far (grz_ (blk_far (grz_ BK286.out) NB286_295.out _)) NB286_295.out _)) hb); replace BK287 := Aside0.mk (blk_below (g := gb287) (o := .cells #[.int .i64 0, .int .i64 0] 28 (0, 0)) (grz_ (blk_far (grz_ (blk_far (grz_ BK287.out) NB287_295.out _)) NB287_295.out _)) hb); replace BK291 := Aside0.mk (blk_below (g := gb291) (o := .cells #[.int .i64 t288, .int .i64 t289] 28 (0, 0)) (grz_ (blk_far (grz_ (blk_far (grz_ BK291.out) NB291_295.out _)) NB291_295.out _)) hb); replace BK295 := Aside0.mk (blk_below (g := gb295) (o := .cells #[.int .i64 t292, .int .i64 t293] 28 (0, 0)) (grz_ (blk_put (cs := #[.int .i64 t292, .int .i64 0]) (grz_ (blk_put (cs := #[.int .i64 0, .int .i64 0]) (grz_ BK295.out) 0 _ rfl)) 1 _ rfl)) hb); replace HB := Aside0.mk (below_step (by repeat (first | (with_reducible first | exact HB.out | apply below_alloc | apply pw_below_drewN | apply below_drew1 | refine below_set ?_ GE295.out) | exact HB.out)) hb); (try clear hb); (try clear hb2); (try clear hk); (try clear hi)) | ((with_reducible refine gate_dst (N := 15) rfl ?_); refine box_event ?hg (N := 15) ?hd (cs := #[.int .i64 0, .int .i64 0]) (t := 28) ?hr ?_; (case hd => rfl); (case hg => rfl); (case hr => first | (go_simp; done) | (go_simp; rfl)); intro gb299 hg w53 hbox hb; have BK299 := Aside0.mk hbox; have GE299 := gez_ (hbz_ HB.out) hg; have NB285_299 := nbz_ (grz_ BK285.out) hg; have NB286_299 := nbz_ (grz_ BK286.out) hg; have NB287_299 := nbz_ (grz_ BK287.out) hg; have NB291_299 := nbz_ (grz_ BK291.out) hg; have NB295_299 := nbz_ (grz_ BK295.out) hg; replace BK285 := nxz_ BK285 hb; replace BK286 := nxz_ BK286 hb; replace BK287 := nxz_ BK287 hb; replace BK291 := nxz_ BK291 hb; replace BK295 := nxz_ BK295 hb; replace HB := hxz_ HB hb; clear hb hbox hg; have hnb54 := NB285_299.out.symm; have hnc54 := NB285_299.out; have hnb55 := NB286_299.out.symm; have hnc55 := NB286_299.out; have hnb56 := NB287_299.out.symm; have hnc56 := NB287_299.out; have hnb57 := NB291_299.out.symm; have hnc57 := NB291_299.out; have hnb58 := NB295_299.out.symm; have hnc58 := NB295_299.out; have hcz59_0 : w53.cell? ⟨gb299, 0, none⟩ = some (.int .i64 0) := (blk_cell BK299.out 0).trans rfl; have hcz59_1 : w53.cell? ⟨gb299, 1, none⟩ = some (.int .i64 0) := (blk_cell BK299.out 1).trans rfl; have hfz59_0 := blk_frozen BK299.out 0; have hfz59_1 := blk_frozen BK299.out 1; have hcz60_0 : w53.cell? ⟨gb285, 0, none⟩ = some (.int .i64 a2_0) := (blk_cell BK285.out 0).trans rfl; have hcz60_1 : w53.cell? ⟨gb285, 1, none⟩ = some (.int .i64 a2_1) := (blk_cell BK285.out 1).trans rfl; have hfz60_0 := blk_frozen BK285.out 0; have hfz60_1 := blk_frozen BK285.out 1) | ((with_reducible refine gate_callee (f := 30) rfl ?_); refine goesL_ (some 55) rfl rfl Tryd.func30 (by kernel_rfl) rfl #[.agg #[.int .i64 a2_0, .int .i64 a2_1]] rfl (by (try simp only [List.map_toArray, List.map_cons, List.map_nil]); first | done | rfl | (simp only [List.length_drop, List.length_take]; rfl)) ?_; (with_reducible refine (trig_SinOver.calls k a2_0 a2_1 t300 t301 t302 _ A9.out).mono ?_); rintro e w61 ⟨rfl, hb⟩; refine ⟨_, rfl, ?_⟩; replace BK285 := Aside0.mk (blk_below (g := gb285) (o := .cells #[.int .i64 a2_0, .int .i64 a2_1] 28 (0, 0)) (grz_ (blk_far (grz_ (blk_far (grz_ BK285.out) NB285_299.out _)) NB285_299.out _)) hb); replace BK286 := Aside0.mk (blk_below (g := gb286) (o := .cells #[.int .i64 0, .int .i64 0] 28 (0, 0)) (grz_ (blk_far (grz_ (blk_far (grz_ BK286.out) NB286_299.out _)) NB286_299.out _)) hb); replace BK287 := Aside0.mk (blk_below (g := gb287) (o := .cells #[.int .i64 0, .int .i64 0] 28 (0, 0)) (grz_ (blk_far (grz_ (blk_far (grz_ BK287.out) NB287_299.out _)) NB287_299.out _)) hb); replace BK291 := Aside0.mk (blk_below (g := gb291) (o := .cells #[.int .i64 t288, .int .i64 t289] 28 (0, 0)) (grz_ (blk_far (grz_ (blk_far (grz_ BK291.out) NB291_299.out _)) NB291_299.out _)) hb); replace BK295 := Aside0.mk (blk_below (g := gb295) (o := .cells #[.int .i64 t292, .int .i64 t293] 28 (0, 0)) (grz_ (blk_far (grz_ (blk_far (grz_ BK295.out) NB295_299.out _)) NB295_299.out _)) hb); replace BK299 := Aside0.mk (blk_below (g := gb299) (o := .cells #[.int .i64 t296, .int .i64 t297] 28 (0, 0)) (grz_ (blk_put (cs := #[.int .i64 t296, .int .i64 0]) (grz_ (blk_put (cs := #[.int .i64 0, .int .i64 0]) (grz_ BK299.out) 0 _ rfl)) 1 _ rfl)) hb); replace HB := Aside0.mk (below_step (by repeat (first | (with_reducible first | exact HB.out | apply below_alloc | apply pw_below_drewN | apply below_drew1 | refine below_set ?_ GE299.out) | exact HB.out)) hb); (try clear hb); (try clear hb2); (try clear hk); (try clear hi)) | ((with_reducible refine gate_dst (N := 17) rfl ?_); refine box_event ?hg (N := 17) ?hd (cs := #[.int .i64 0, .int .i64 0]) (t := 28) ?hr ?_; (case hd => rfl); (case hg => rfl); (case hr => first | (go_simp; done) | (go_simp; rfl)); intro gb303 hg w62 hbox hb; have BK303 := Aside0.mk hbox; have GE303 := gez_ (hbz_ HB.out) hg; have NB285_303 := nbz_ (grz_ BK285.out) hg; have NB286_303 := nbz_ (grz_ BK286.out) hg; have NB287_303 := nbz_ (grz_ BK287.out) hg; have NB291_303 := nbz_ (grz_ BK291.out) hg; have NB295_303 := nbz_ (grz_ BK295.out) hg; have NB299_303 := nbz_ (grz_ BK299.out) hg; replace BK285 := nxz_ BK285 hb; replace BK286 := nxz_ BK286 hb; replace BK287 := nxz_ BK287 hb; replace BK291 := nxz_ BK291 hb; replace BK295 := nxz_ BK295 hb; replace BK299 := nxz_ BK299 hb; replace HB := hxz_ HB hb; clear hb hbox hg; have hnb63 := NB285_303.out.symm; have hnc63 := NB285_303.out; have hnb64 := NB286_303.out.symm; have hnc64 := NB286_303.out; have hnb65 := NB287_303.out.symm; have hnc65 := NB287_303.out; have hnb66 := NB291_303.out.symm; have hnc66 := NB291_303.out; have hnb67 := NB295_303.out.symm; have hnc67 := NB295_303.out; have hnb68 := NB299_303.out.symm; have hnc68 := NB299_303.out; have hcz69_0 : w62.cell? ⟨gb303, 0, none⟩ = some (.int .i64 0) := (blk_cell BK303.out 0).trans rfl; have hcz69_1 : w62.cell? ⟨gb303, 1, none⟩ = some (.int .i64 0) := (blk_cell BK303.out 1).trans rfl; have hfz69_0 := blk_frozen BK303.out 0; have hfz69_1 := blk_frozen BK303.out 1; have hcz70_0 : w62.cell? ⟨gb285, 0, none⟩ = some (.int .i64 a2_0) := (blk_cell BK285.out 0).trans rfl; have hcz70_1 : w62.cell? ⟨gb285, 1, none⟩ = some (.int .i64 a2_1) := (blk_cell BK285.out 1).trans rfl; have hfz70_0 := blk_frozen BK285.out 0; have hfz70_1 := blk_frozen BK285.out 1) | ((with_reducible refine gate_callee (f := 31) rfl ?_); refine goesL_ (some 60) rfl rfl Tryd.func31 (by kernel_rfl) rfl #[.agg #[.int .i64 a2_0, .int .i64 a2_1]] rfl (by (try simp only [List.map_toArray, List.map_cons, List.map_nil]); first | done | rfl | (simp only [List.length_drop, List.length_take]; rfl)) ?_; (with_reducible refine (trig_CosOver.calls k a2_0 a2_1 t304 t305 t306 _ A10.out).mono ?_); rintro e w71 ⟨rfl, hb⟩; refine ⟨_, rfl, ?_⟩; replace BK285 := Aside0.mk (blk_below (g := gb285) (o := .cells #[.int .i64 a2_0, .int .i64 a2_1] 28 (0, 0)) (grz_ (blk_far (grz_ (blk_far (grz_ BK285.out) NB285_303.out _)) NB285_303.out _)) hb); replace BK286 := Aside0.mk (blk_below (g := gb286) (o := .cells #[.int .i64 0, .int .i64 0] 28 (0, 0)) (grz_ (blk_far (grz_ (blk_far (grz_ BK286.out) NB286_303.out _)) NB286_303.out _)) hb); replace BK287 := Aside0.mk (blk_below (g := gb287) (o := .cells #[.int .i64 0, .int .i64 0] 28 (0, 0)) (grz_ (blk_far (grz_ (blk_far (grz_ BK287.out) NB287_303.out _)) NB287_303.out _)) hb); replace BK291 := Aside0.mk (blk_below (g := gb291) (o := .cells #[.int .i64 t288, .int .i64 t289] 28 (0, 0)) (grz_ (blk_far (grz_ (blk_far (grz_ BK291.out) NB291_303.out _)) NB291_303.out _)) hb); replace BK295 := Aside0.mk (blk_below (g := gb295) (o := .cells #[.int .i64 t292, .int .i64 t293] 28 (0, 0)) (grz_ (blk_far (grz_ (blk_far (grz_ BK295.out) NB295_303.out _)) NB295_303.out _)) hb); replace BK299 := Aside0.mk (blk_below (g := gb299) (o := .cells #[.int .i64 t296, .int .i64 t297] 28 (0, 0)) (grz_ (blk_far (grz_ (blk_far (grz_ BK299.out) NB299_303.out _)) NB299_303.out _)) hb); replace BK303 := Aside0.mk (blk_below (g := gb303) (o := .cells #[.int .i64 t300, .int .i64 t301] 28 (0, 0)) (grz_ (blk_put (cs := #[.int .i64 t300, .int .i64 0]) (grz_ (blk_put (cs := #[.int .i64 0, .int .i64 0]) (grz_ BK303.out) 0 _ rfl)) 1 _ rfl)) hb); replace HB := Aside0.mk (below_step (by repeat (first | (with_reducible first | exact HB.out | apply below_alloc | apply pw_below_drewN | apply below_drew1 | refine below_set ?_ GE303.out) | exact HB.out)) hb); (try clear hb); (try clear hb2); (try clear hk); (try clear hi)) | ((with_reducible refine gate_dst (N := 19) rfl ?_); refine box_event ?hg (N := 19) ?hd (cs := #[.int .i64 0, .int .i64 0]) (t := 28) ?hr ?_; (case hd => rfl); (case hg => rfl); (case hr => first | (go_simp; done) | (go_simp; rfl)); intro gb307 hg w72 hbox hb; have BK307 := Aside0.mk hbox; have GE307 := gez_ (hbz_ HB.out) hg; have NB286_307 := nbz_ (grz_ BK286.out) hg; have NB287_307 := nbz_ (grz_ BK287.out) hg; have NB291_307 := nbz_ (grz_ BK291.out) hg; have NB295_307 := nbz_ (grz_ BK295.out) hg; have NB299_307 := nbz_ (grz_ BK299.out) hg; have NB303_307 := nbz_ (grz_ BK303.out) hg; replace BK286 := nxz_ BK286 hb; replace BK287 := nxz_ BK287 hb; replace BK291 := nxz_ BK291 hb; replace BK295 := nxz_ BK295 hb; replace BK299 := nxz_ BK299 hb; replace BK303 := nxz_ BK303 hb; replace HB := hxz_ HB hb; clear hb hbox hg; have hnb73 := NB286_307.out.symm; have hnc73 := NB286_307.out; have hnb74 := NB287_307.out.symm; have hnc74 := NB287_307.out; have hnb75 := NB291_307.out.symm; have hnc75 := NB291_307.out; have hnb76 := NB295_307.out.symm; have hnc76 := NB295_307.out; have hnb77 := NB299_307.out.symm; have hnc77 := NB299_307.out; have hnb78 := NB303_307.out.symm; have hnc78 := NB303_307.out; have hcz79_0 : w72.cell? ⟨gb307, 0, none⟩ = some (.int .i64 0) := (blk_cell BK307.out 0).trans rfl; have hcz79_1 : w72.cell? ⟨gb307, 1, none⟩ = some (.int .i64 0) := (blk_cell BK307.out 1).trans rfl; have hfz79_0 := blk_frozen BK307.out 0; have hfz79_1 := blk_frozen BK307.out 1; have hcz80_0 : w72.cell? ⟨gb291, 0, none⟩ = some (.int .i64 t288) := (blk_cell BK291.out 0).trans rfl; have hcz80_1 : w72.cell? ⟨gb291, 1, none⟩ = some (.int .i64 t289) := (blk_cell BK291.out 1).trans rfl; have hfz80_0 := blk_frozen BK291.out 0; have hfz80_1 := blk_frozen BK291.out 1) | ((with_reducible refine gate_callee (f := 30) rfl ?_); refine goesL_ (some 65) rfl rfl Tryd.func30 (by kernel_rfl) rfl #[.agg #[.int .i64 t288, .int .i64 t289]] rfl (by (try simp only [List.map_toArray, List.map_cons, List.map_nil]); first | done | rfl | (simp only [List.length_drop, List.length_take]; rfl)) ?_; (with_reducible refine (trig_SinOver.calls k t288 t289 t308 t309 t310 _ A11.out).mono ?_); rintro e w81 ⟨rfl, hb⟩; refine ⟨_, rfl, ?_⟩; replace BK286 := Aside0.mk (blk_below (g := gb286) (o := .cells #[.int .i64 0, .int .i64 0] 28 (0, 0)) (grz_ (blk_far (grz_ (blk_far (grz_ BK286.out) NB286_307.out _)) NB286_307.out _)) hb); replace BK287 := Aside0.mk (blk_below (g := gb287) (o := .cells #[.int .i64 0, .int .i64 0] 28 (0, 0)) (grz_ (blk_far (grz_ (blk_far (grz_ BK287.out) NB287_307.out _)) NB287_307.out _)) hb); replace BK291 := Aside0.mk (blk_below (g := gb291) (o := .cells #[.int .i64 t288, .int .i64 t289] 28 (0, 0)) (grz_ (blk_far (grz_ (blk_far (grz_ BK291.out) NB291_307.out _)) NB291_307.out _)) hb); replace BK295 := Aside0.mk (blk_below (g := gb295) (o := .cells #[.int .i64 t292, .int .i64 t293] 28 (0, 0)) (grz_ (blk_far (grz_ (blk_far (grz_ BK295.out) NB295_307.out _)) NB295_307.out _)) hb); replace BK299 := Aside0.mk (blk_below (g := gb299) (o := .cells #[.int .i64 t296, .int .i64 t297] 28 (0, 0)) (grz_ (blk_far (grz_ (blk_far (grz_ BK299.out) NB299_307.out _)) NB299_307.out _)) hb); replace BK303 := Aside0.mk (blk_below (g := gb303) (o := .cells #[.int .i64 t300, .int .i64 t301] 28 (0, 0)) (grz_ (blk_far (grz_ (blk_far (grz_ BK303.out) NB303_307.out _)) NB303_307.out _)) hb); replace BK307 := Aside0.mk (blk_below (g := gb307) (o := .cells #[.int .i64 t304, .int .i64 t305] 28 (0, 0)) (grz_ (blk_put (cs := #[.int .i64 t304, .int .i64 0]) (grz_ (blk_put (cs := #[.int .i64 0, .int .i64 0]) (grz_ BK307.out) 0 _ rfl)) 1 _ rfl)) hb); replace HB := Aside0.mk (below_step (by repeat (first | (with_reducible first | exact HB.out | apply below_alloc | apply pw_below_drewN | apply below_drew1 | refine below_set ?_ GE307.out) | exact HB.out)) hb); (try clear hb); (try clear hb2); (try clear hk); (try clear hi)) | ((with_reducible refine gate_dst (N := 21) rfl ?_); refine box_event ?hg (N := 21) ?hd (cs := #[.int .i64 0, .int .i64 0]) (t := 28) ?hr ?_; (case hd => rfl); (case hg => rfl); (case hr => first | (go_simp; done) | (go_simp; rfl)); intro gb311 hg w82 hbox hb; have BK311 := Aside0.mk hbox; have GE311 := gez_ (hbz_ HB.out) hg; have NB286_311 := nbz_ (grz_ BK286.out) hg; have NB287_311 := nbz_ (grz_ BK287.out) hg; have NB291_311 := nbz_ (grz_ BK291.out) hg; have NB295_311 := nbz_ (grz_ BK295.out) hg; have NB299_311 := nbz_ (grz_ BK299.out) hg; have NB303_311 := nbz_ (grz_ BK303.out) hg; have NB307_311 := nbz_ (grz_ BK307.out) hg; replace BK286 := nxz_ BK286 hb; replace BK287 := nxz_ BK287 hb; replace BK291 := nxz_ BK291 hb; replace BK295 := nxz_ BK295 hb; replace BK299 := nxz_ BK299 hb; replace BK303 := nxz_ BK303 hb; replace BK307 := nxz_ BK307 hb; replace HB := hxz_ HB hb; clear hb hbox hg; have hnb83 := NB286_311.out.symm; have hnc83 := NB286_311.out; have hnb84 := NB287_311.out.symm; have hnc84 := NB287_311.out; have hnb85 := NB291_311.out.symm; have hnc85 := NB291_311.out; have hnb86 := NB295_311.out.symm; have hnc86 := NB295_311.out; have hnb87 := NB299_311.out.symm; have hnc87 := NB299_311.out; have hnb88 := NB303_311.out.symm; have hnc88 := NB303_311.out; have hnb89 := NB307_311.out.symm; have hnc89 := NB307_311.out; have hcz90_0 : w82.cell? ⟨gb311, 0, none⟩ = some (.int .i64 0) := (blk_cell BK311.out 0).trans rfl; have hcz90_1 : w82.cell? ⟨gb311, 1, none⟩ = some (.int .i64 0) := (blk_cell BK311.out 1).trans rfl; have hfz90_0 := blk_frozen BK311.out 0; have hfz90_1 := blk_frozen BK311.out 1; have hcz91_0 : w82.cell? ⟨gb291, 0, none⟩ = some (.int .i64 t288) := (blk_cell BK291.out 0).trans rfl; have hcz91_1 : w82.cell? ⟨gb291, 1, none⟩ = some (.int .i64 t289) := (blk_cell BK291.out 1).trans rfl; have hfz91_0 := blk_frozen BK291.out 0; have hfz91_1 := blk_frozen BK291.out 1) | ((with_reducible refine gate_callee (f := 31) rfl ?_); refine goesL_ (some 70) rfl rfl Tryd.func31 (by kernel_rfl) rfl #[.agg #[.int .i64 t288, .int .i64 t289]] rfl (by (try simp only [List.map_toArray, List.map_cons, List.map_nil]); first | done | rfl | (simp only [List.length_drop, List.length_take]; rfl)) ?_; (with_reducible refine (trig_CosOver.calls k t288 t289 t312 t313 t314 _ A12.out).mono ?_); rintro e w92 ⟨rfl, hb⟩; refine ⟨_, rfl, ?_⟩; replace BK286 := Aside0.mk (blk_below (g := gb286) (o := .cells #[.int .i64 0, .int .i64 0] 28 (0, 0)) (grz_ (blk_far (grz_ (blk_far (grz_ BK286.out) NB286_311.out _)) NB286_311.out _)) hb); replace BK287 := Aside0.mk (blk_below (g := gb287) (o := .cells #[.int .i64 0, .int .i64 0] 28 (0, 0)) (grz_ (blk_far (grz_ (blk_far (grz_ BK287.out) NB287_311.out _)) NB287_311.out _)) hb); replace BK291 := Aside0.mk (blk_below (g := gb291) (o := .cells #[.int .i64 t288, .int .i64 t289] 28 (0, 0)) (grz_ (blk_far (grz_ (blk_far (grz_ BK291.out) NB291_311.out _)) NB291_311.out _)) hb); replace BK295 := Aside0.mk (blk_below (g := gb295) (o := .cells #[.int .i64 t292, .int .i64 t293] 28 (0, 0)) (grz_ (blk_far (grz_ (blk_far (grz_ BK295.out) NB295_311.out _)) NB295_311.out _)) hb); replace BK299 := Aside0.mk (blk_below (g := gb299) (o := .cells #[.int .i64 t296, .int .i64 t297] 28 (0, 0)) (grz_ (blk_far (grz_ (blk_far (grz_ BK299.out) NB299_311.out _)) NB299_311.out _)) hb); replace BK303 := Aside0.mk (blk_below (g := gb303) (o := .cells #[.int .i64 t300, .int .i64 t301] 28 (0, 0)) (grz_ (blk_far (grz_ (blk_far (grz_ BK303.out) NB303_311.out _)) NB303_311.out _)) hb); replace BK307 := Aside0.mk (blk_below (g := gb307) (o := .cells #[.int .i64 t304, .int .i64 t305] 28 (0, 0)) (grz_ (blk_far (grz_ (blk_far (grz_ BK307.out) NB307_311.out _)) NB307_311.out _)) hb); replace BK311 := Aside0.mk (blk_below (g := gb311) (o := .cells #[.int .i64 t308, .int .i64 t309] 28 (0, 0)) (grz_ (blk_put (cs := #[.int .i64 t308, .int .i64 0]) (grz_ (blk_put (cs := #[.int .i64 0, .int .i64 0]) (grz_ BK311.out) 0 _ rfl)) 1 _ rfl)) hb); replace HB := Aside0.mk (below_step (by repeat (first | (with_reducible first | exact HB.out | apply below_alloc | apply pw_below_drewN | apply below_drew1 | refine below_set ?_ GE311.out) | exact HB.out)) hb); (try clear hb); (try clear hb2); (try clear hk); (try clear hi)) | ((with_reducible refine gate_dst (N := 23) rfl ?_); refine box_event ?hg (N := 23) ?hd (cs := #[.int .i64 0, .int .i64 0]) (t := 28) ?hr ?_; (case hd => rfl); (case hg => rfl); (case hr => first | (go_simp; done) | (go_simp; rfl)); intro gb315 hg w93 hbox hb; have BK315 := Aside0.mk hbox; have GE315 := gez_ (hbz_ HB.out) hg; have NB286_315 := nbz_ (grz_ BK286.out) hg; have NB287_315 := nbz_ (grz_ BK287.out) hg; have NB295_315 := nbz_ (grz_ BK295.out) hg; have NB299_315 := nbz_ (grz_ BK299.out) hg; have NB303_315 := nbz_ (grz_ BK303.out) hg; have NB307_315 := nbz_ (grz_ BK307.out) hg; have NB311_315 := nbz_ (grz_ BK311.out) hg; replace BK286 := nxz_ BK286 hb; replace BK287 := nxz_ BK287 hb; replace BK295 := nxz_ BK295 hb; replace BK299 := nxz_ BK299 hb; replace BK303 := nxz_ BK303 hb; replace BK307 := nxz_ BK307 hb; replace BK311 := nxz_ BK311 hb; replace HB := hxz_ HB hb; clear hb hbox hg; have hnb94 := NB286_315.out.symm; have hnc94 := NB286_315.out; have hnb95 := NB287_315.out.symm; have hnc95 := NB287_315.out; have hnb96 := NB295_315.out.symm; have hnc96 := NB295_315.out; have hnb97 := NB299_315.out.symm; have hnc97 := NB299_315.out; have hnb98 := NB303_315.out.symm; have hnc98 := NB303_315.out; have hnb99 := NB307_315.out.symm; have hnc99 := NB307_315.out; have hnb100 := NB311_315.out.symm; have hnc100 := NB311_315.out; have hcz101_0 : w93.cell? ⟨gb315, 0, none⟩ = some (.int .i64 0) := (blk_cell BK315.out 0).trans rfl; have hcz101_1 : w93.cell? ⟨gb315, 1, none⟩ = some (.int .i64 0) := (blk_cell BK315.out 1).trans rfl; have hfz101_0 := blk_frozen BK315.out 0; have hfz101_1 := blk_frozen BK315.out 1; have hcz102_0 : w93.cell? ⟨gb307, 0, none⟩ = some (.int .i64 t304) := (blk_cell BK307.out 0).trans rfl; have hcz102_1 : w93.cell? ⟨gb307, 1, none⟩ = some (.int .i64 t305) := (blk_cell BK307.out 1).trans rfl; have hfz102_0 := blk_frozen BK307.out 0; have hfz102_1 := blk_frozen BK307.out 1; have hcz103_0 : w93.cell? ⟨gb311, 0, none⟩ = some (.int .i64 t308) := (blk_cell BK311.out 0).trans rfl; have hcz103_1 : w93.cell? ⟨gb311, 1, none⟩ = some (.int .i64 t309) := (blk_cell BK311.out 1).trans rfl; have hfz103_0 := blk_frozen BK311.out 0; have hfz103_1 := blk_frozen BK311.out 1) | ((with_reducible refine gate_callee (f := 52) rfl ?_); refine goesL_ (some 75) rfl rfl Tryd.func52 (by kernel_rfl) rfl #[.agg #[.int .i64 t304, .int .i64 t305], .agg #[.int .i64 t308, .int .i64 t309]] rfl (by (try simp only [List.map_toArray, List.map_cons, List.map_nil]); first | done | rfl | (simp only [List.length_drop, List.length_take]; rfl)) ?_; (with_reducible refine (sun_Unit.calls t304 t305 t308 t309 t316 t317 _ A13.out).mono ?_); rintro e w104 ⟨rfl, hb⟩; refine ⟨_, rfl, ?_⟩; replace BK286 := Aside0.mk (blk_below (g := gb286) (o := .cells #[.int .i64 0, .int .i64 0] 28 (0, 0)) (grz_ (blk_far (grz_ (blk_far (grz_ BK286.out) NB286_315.out _)) NB286_315.out _)) hb); replace BK287 := Aside0.mk (blk_below (g := gb287) (o := .cells #[.int .i64 0, .int .i64 0] 28 (0, 0)) (grz_ (blk_far (grz_ (blk_far (grz_ BK287.out) NB287_315.out _)) NB287_315.out _)) hb); replace BK295 := Aside0.mk (blk_below (g := gb295) (o := .cells #[.int .i64 t292, .int .i64 t293] 28 (0, 0)) (grz_ (blk_far (grz_ (blk_far (grz_ BK295.out) NB295_315.out _)) NB295_315.out _)) hb); replace BK299 := Aside0.mk (blk_below (g := gb299) (o := .cells #[.int .i64 t296, .int .i64 t297] 28 (0, 0)) (grz_ (blk_far (grz_ (blk_far (grz_ BK299.out) NB299_315.out _)) NB299_315.out _)) hb); replace BK303 := Aside0.mk (blk_below (g := gb303) (o := .cells #[.int .i64 t300, .int .i64 t301] 28 (0, 0)) (grz_ (blk_far (grz_ (blk_far (grz_ BK303.out) NB303_315.out _)) NB303_315.out _)) hb); replace BK307 := Aside0.mk (blk_below (g := gb307) (o := .cells #[.int .i64 t304, .int .i64 t305] 28 (0, 0)) (grz_ (blk_far (grz_ (blk_far (grz_ BK307.out) NB307_315.out _)) NB307_315.out _)) hb); replace BK311 := Aside0.mk (blk_below (g := gb311) (o := .cells #[.int .i64 t308, .int .i64 t309] 28 (0, 0)) (grz_ (blk_far (grz_ (blk_far (grz_ BK311.out) NB311_315.out _)) NB311_315.out _)) hb); replace BK315 := Aside0.mk (blk_below (g := gb315) (o := .cells #[.int .i64 t312, .int .i64 t313] 28 (0, 0)) (grz_ (blk_put (cs := #[.int .i64 t312, .int .i64 0]) (grz_ (blk_put (cs := #[.int .i64 0, .int .i64 0]) (grz_ BK315.out) 0 _ rfl)) 1 _ rfl)) hb); replace HB := Aside0.mk (below_step (by repeat (first | (with_reducible first | exact HB.out | apply below_alloc | apply pw_below_drewN | apply below_drew1 | refine below_set ?_ GE315.out) | exact HB.out)) hb); (try clear hb); (try clear hb2); (try clear hk); (try clear hi)) | ((with_reducible refine gate_dst (N := 25) rfl ?_); refine box_event ?hg (N := 25) ?hd (cs := #[.int .i64 0, .int .i64 0]) (t := 28) ?hr ?_; (case hd => rfl); (case hg => rfl); (case hr => first | (go_simp; done) | (go_simp; rfl)); intro gb318 hg w105 hbox hb; have BK318 := Aside0.mk hbox; have GE318 := gez_ (hbz_ HB.out) hg; have NB286_318 := nbz_ (grz_ BK286.out) hg; have NB287_318 := nbz_ (grz_ BK287.out) hg; have NB295_318 := nbz_ (grz_ BK295.out) hg; have NB299_318 := nbz_ (grz_ BK299.out) hg; have NB303_318 := nbz_ (grz_ BK303.out) hg; have NB307_318 := nbz_ (grz_ BK307.out) hg; have NB315_318 := nbz_ (grz_ BK315.out) hg; replace BK286 := nxz_ BK286 hb; replace BK287 := nxz_ BK287 hb; replace BK295 := nxz_ BK295 hb; replace BK299 := nxz_ BK299 hb; replace BK303 := nxz_ BK303 hb; replace BK307 := nxz_ BK307 hb; replace BK315 := nxz_ BK315 hb; replace HB := hxz_ HB hb; clear hb hbox hg; have hnb106 := NB286_318.out.symm; have hnc106 := NB286_318.out; have hnb107 := NB287_318.out.symm; have hnc107 := NB287_318.out; have hnb108 := NB295_318.out.symm; have hnc108 := NB295_318.out; have hnb109 := NB299_318.out.symm; have hnc109 := NB299_318.out; have hnb110 := NB303_318.out.symm; have hnc110 := NB303_318.out; have hnb111 := NB307_318.out.symm; have hnc111 := NB307_318.out; have hnb112 := NB315_318.out.symm; have hnc112 := NB315_318.out; have hcz113_0 : w105.cell? ⟨gb318, 0, none⟩ = some (.int .i64 0) := (blk_cell BK318.out 0).trans rfl; have hcz113_1 : w105.cell? ⟨gb318, 1, none⟩ = some (.int .i64 0) := (blk_cell BK318.out 1).trans rfl; have hfz113_0 := blk_frozen BK318.out 0; have hfz113_1 := blk_frozen BK318.out 1))
  have n0_ : Aside0 (((w105.setCell ⟨gb318, 0, none⟩ (.int .i64 t316)).setCell ⟨gb318, 1, none⟩ (.int .i64 t317)).heap[gb286]? = some (.cells #[.int .i64 0, .int .i64 0] 28 (0, 0))) := ⟨(grz_ (blk_far (grz_ (blk_far (grz_ BK286.out) NB286_318.out _)) NB286_318.out _))⟩
  have n1_ : Aside0 (((w105.setCell ⟨gb318, 0, none⟩ (.int .i64 t316)).setCell ⟨gb318, 1, none⟩ (.int .i64 t317)).heap[gb287]? = some (.cells #[.int .i64 0, .int .i64 0] 28 (0, 0))) := ⟨(grz_ (blk_far (grz_ (blk_far (grz_ BK287.out) NB287_318.out _)) NB287_318.out _))⟩
  have n2_ : Aside0 (((w105.setCell ⟨gb318, 0, none⟩ (.int .i64 t316)).setCell ⟨gb318, 1, none⟩ (.int .i64 t317)).heap[gb295]? = some (.cells #[.int .i64 t292, .int .i64 t293] 28 (0, 0))) := ⟨(grz_ (blk_far (grz_ (blk_far (grz_ BK295.out) NB295_318.out _)) NB295_318.out _))⟩
  have n3_ : Aside0 (((w105.setCell ⟨gb318, 0, none⟩ (.int .i64 t316)).setCell ⟨gb318, 1, none⟩ (.int .i64 t317)).heap[gb299]? = some (.cells #[.int .i64 t296, .int .i64 t297] 28 (0, 0))) := ⟨(grz_ (blk_far (grz_ (blk_far (grz_ BK299.out) NB299_318.out _)) NB299_318.out _))⟩
  have n4_ : Aside0 (((w105.setCell ⟨gb318, 0, none⟩ (.int .i64 t316)).setCell ⟨gb318, 1, none⟩ (.int .i64 t317)).heap[gb303]? = some (.cells #[.int .i64 t300, .int .i64 t301] 28 (0, 0))) := ⟨(grz_ (blk_far (grz_ (blk_far (grz_ BK303.out) NB303_318.out _)) NB303_318.out _))⟩
  have n5_ : Aside0 (((w105.setCell ⟨gb318, 0, none⟩ (.int .i64 t316)).setCell ⟨gb318, 1, none⟩ (.int .i64 t317)).heap[gb307]? = some (.cells #[.int .i64 t304, .int .i64 t305] 28 (0, 0))) := ⟨(grz_ (blk_far (grz_ (blk_far (grz_ BK307.out) NB307_318.out _)) NB307_318.out _))⟩
  have n6_ : Aside0 (((w105.setCell ⟨gb318, 0, none⟩ (.int .i64 t316)).setCell ⟨gb318, 1, none⟩ (.int .i64 t317)).heap[gb315]? = some (.cells #[.int .i64 t312, .int .i64 t313] 28 (0, 0))) := ⟨(grz_ (blk_far (grz_ (blk_far (grz_ BK315.out) NB315_318.out _)) NB315_318.out _))⟩
  have n7_ : Aside0 (((w105.setCell ⟨gb318, 0, none⟩ (.int .i64 t316)).setCell ⟨gb318, 1, none⟩ (.int .i64 t317)).heap[gb318]? = some (.cells #[.int .i64 t316, .int .i64 t317] 28 (0, 0))) := ⟨(grz_ (blk_put (cs := #[.int .i64 t316, .int .i64 0]) (grz_ (blk_put (cs := #[.int .i64 0, .int .i64 0]) (grz_ BK318.out) 0 _ rfl)) 1 _ rfl))⟩
  have n8_ : Aside0 (Below w.heap.size w ((w105.setCell ⟨gb318, 0, none⟩ (.int .i64 t316)).setCell ⟨gb318, 1, none⟩ (.int .i64 t317))) := ⟨by repeat (first | (with_reducible first | exact HB.out | apply below_alloc | apply pw_below_drewN | apply below_drew1 | refine below_set ?_ GE286.out | refine below_set ?_ GE287.out | refine below_set ?_ GE295.out | refine below_set ?_ GE299.out | refine below_set ?_ GE303.out | refine below_set ?_ GE307.out | refine below_set ?_ GE315.out | refine below_set ?_ GE318.out) | exact HB.out)⟩
  (try clear BK286)
  (try clear BK287)
  (try clear BK295)
  (try clear BK299)
  (try clear BK303)
  (try clear BK307)
  (try clear BK315)
  (try clear BK318)
  (try clear HB)
  generalize ((w105.setCell ⟨gb318, 0, none⟩ (.int .i64 t316)).setCell ⟨gb318, 1, none⟩ (.int .i64 t317)) = w114 at n0_ n1_ n2_ n3_ n4_ n5_ n6_ n7_ n8_ ⊢
  have BK286 := n0_
  have BK287 := n1_
  have BK295 := n2_
  have BK299 := n3_
  have BK303 := n4_
  have BK307 := n5_
  have BK315 := n6_
  have BK318 := n7_
  have HB := n8_
  clear n0_ n1_ n2_ n3_ n4_ n5_ n6_ n7_ n8_
  have n0_ := Aside0.mk (blk_drew BK286.out)
  have n1_ := Aside0.mk (blk_drew BK287.out)
  have n2_ := Aside0.mk (blk_drew BK295.out)
  have n3_ := Aside0.mk (blk_drew BK299.out)
  have n4_ := Aside0.mk (blk_drew BK303.out)
  have n5_ := Aside0.mk (blk_drew BK307.out)
  have n6_ := Aside0.mk (blk_drew BK315.out)
  have n7_ := Aside0.mk (blk_drew BK318.out)
  have n8_ := Aside0.mk (below_drew1 HB.out)
  clear BK286
  clear BK287
  clear BK295
  clear BK299
  clear BK303
  clear BK307
  clear BK315
  clear BK318
  clear HB
  have BK286 := n0_
  have BK287 := n1_
  have BK295 := n2_
  have BK299 := n3_
  have BK303 := n4_
  have BK307 := n5_
  have BK315 := n6_
  have BK318 := n7_
  have HB := n8_
  clear n0_ n1_ n2_ n3_ n4_ n5_ n6_ n7_ n8_
  refine start_ (n := 12) (S := fun w' => True) (ds := []) #[false, false, false, false, false, false, false, false, false, false, false, false] (by kernel_rfl) rfl rfl trivial (fun hHeld => ?_); refine with_tabW place_Ground.tab11 place_Ground.bits11 (fun HT_ HW_ => ?_)
  generalize w114.drew = w115 at BK286 BK287 BK295 BK299 BK303 BK307 BK315 BK318 HB hHeld ⊢
  refine inv_at [0, 1, 2, 3, 4, 5, 6, 7, 8, 9, 10, 11] (fun a0_ b a w' => ∃ (gb325 : Nat) (gb326 : Nat) (m8_ : Value) (m9_ : Value), a = putSel a0_ b [(0, 76, .agg #[.int .i64 t296, .int .i64 t297]), (1, 77, .agg #[.int .i64 t300, .int .i64 t301]), (2, 78, .agg #[.int .i64 t319, .int .i64 t320]), (3, 79, .agg #[.int .i64 t292, .int .i64 t293]), (4, 80, .agg #[.int .i64 t304, .int .i64 t305]), (5, 81, .agg #[.int .i64 t321, .int .i64 t322]), (6, 82, .agg #[.int .i64 t312, .int .i64 t313]), (7, 83, .agg #[.int .i64 t323, .int .i64 t324]), (8, 26, m8_), (9, 27, m9_)] ∧ (w'.heap[gb286]? = some (.cells #[.int .i64 0, .int .i64 0] 28 (0, 0))) ∧ (w'.heap[gb287]? = some (.cells #[.int .i64 0, .int .i64 0] 28 (0, 0))) ∧ (w'.heap[gb295]? = some (.cells #[.int .i64 t292, .int .i64 t293] 28 (0, 0))) ∧ (w'.heap[gb299]? = some (.cells #[.int .i64 t296, .int .i64 t297] 28 (0, 0))) ∧ (w'.heap[gb303]? = some (.cells #[.int .i64 t300, .int .i64 t301] 28 (0, 0))) ∧ (w'.heap[gb307]? = some (.cells #[.int .i64 t304, .int .i64 t305] 28 (0, 0))) ∧ (w'.heap[gb315]? = some (.cells #[.int .i64 t312, .int .i64 t313] 28 (0, 0))) ∧ (w'.heap[gb318]? = some (.cells #[.int .i64 t316, .int .i64 t317] 28 (0, 0))) ∧ (Below w.heap.size w w') ∧ (b 8 = true → b 9 = true → gb326 ≠ gb325) ∧ (b 8 = true → b 9 = true → gb325 ≠ gb326) ∧ (b 8 = true → b 10 = false → w'.heap[gb325]? = some (.cells #[.int .i64 0, .int .i64 0] 28 (0, 0))) ∧ (b 8 = true → w.heap.size ≤ gb325) ∧ (b 8 = true → w.heap.size ≤ gb325) ∧ (b 8 = true → gb286 ≠ gb325) ∧ (b 8 = true → gb325 ≠ gb286) ∧ (b 8 = true → gb287 ≠ gb325) ∧ (b 8 = true → gb325 ≠ gb287) ∧ (b 8 = true → gb295 ≠ gb325) ∧ (b 8 = true → gb325 ≠ gb295) ∧ (b 8 = true → gb299 ≠ gb325) ∧ (b 8 = true → gb325 ≠ gb299) ∧ (b 8 = true → gb303 ≠ gb325) ∧ (b 8 = true → gb325 ≠ gb303) ∧ (b 8 = true → gb307 ≠ gb325) ∧ (b 8 = true → gb325 ≠ gb307) ∧ (b 8 = true → gb315 ≠ gb325) ∧ (b 8 = true → gb325 ≠ gb315) ∧ (b 8 = true → gb318 ≠ gb325) ∧ (b 8 = true → gb325 ≠ gb318) ∧ (b 9 = true → b 11 = false → w'.heap[gb326]? = some (.cells #[.int .i64 0, .int .i64 0] 28 (0, 0))) ∧ (b 9 = true → w.heap.size ≤ gb326) ∧ (b 9 = true → w.heap.size ≤ gb326) ∧ (b 9 = true → gb286 ≠ gb326) ∧ (b 9 = true → gb326 ≠ gb286) ∧ (b 9 = true → gb287 ≠ gb326) ∧ (b 9 = true → gb326 ≠ gb287) ∧ (b 9 = true → gb295 ≠ gb326) ∧ (b 9 = true → gb326 ≠ gb295) ∧ (b 9 = true → gb299 ≠ gb326) ∧ (b 9 = true → gb326 ≠ gb299) ∧ (b 9 = true → gb303 ≠ gb326) ∧ (b 9 = true → gb326 ≠ gb303) ∧ (b 9 = true → gb307 ≠ gb326) ∧ (b 9 = true → gb326 ≠ gb307) ∧ (b 9 = true → gb315 ≠ gb326) ∧ (b 9 = true → gb326 ≠ gb315) ∧ (b 9 = true → gb318 ≠ gb326) ∧ (b 9 = true → gb326 ≠ gb318) ∧ (b 10 = true → w'.heap[gb325]? = some (.cells #[.int .i64 t319, .int .i64 t320] 28 (0, 0))) ∧ (b 11 = true → w'.heap[gb326]? = some (.cells #[.int .i64 t323, .int .i64 t324] 28 (0, 0))) ∧ (b 8 = true → (m8_ : Value) = .pointer (some ⟨gb325, 0, none⟩)) ∧ (b 9 = true → (m9_ : Value) = .pointer (some ⟨gb326, 0, none⟩))) HT_.out HW_.out (by kernel_rfl) (by kernel_rfl) ?_ ?_ ?_
  ·
   exact ⟨0, 0, .bool false, .bool false, by simp only [putSel, Bool.false_eq_true, if_false], BK286.out, BK287.out, BK295.out, BK299.out, BK303.out, BK307.out, BK315.out, BK318.out, HB.out, fun h_ => absurd h_ (by decide), fun h_ => absurd h_ (by decide), fun h_ => absurd h_ (by decide), fun h_ => absurd h_ (by decide), fun h_ => absurd h_ (by decide), fun h_ => absurd h_ (by decide), fun h_ => absurd h_ (by decide), fun h_ => absurd h_ (by decide), fun h_ => absurd h_ (by decide), fun h_ => absurd h_ (by decide), fun h_ => absurd h_ (by decide), fun h_ => absurd h_ (by decide), fun h_ => absurd h_ (by decide), fun h_ => absurd h_ (by decide), fun h_ => absurd h_ (by decide), fun h_ => absurd h_ (by decide), fun h_ => absurd h_ (by decide), fun h_ => absurd h_ (by decide), fun h_ => absurd h_ (by decide), fun h_ => absurd h_ (by decide), fun h_ => absurd h_ (by decide), fun h_ => absurd h_ (by decide), fun h_ => absurd h_ (by decide), fun h_ => absurd h_ (by decide), fun h_ => absurd h_ (by decide), fun h_ => absurd h_ (by decide), fun h_ => absurd h_ (by decide), fun h_ => absurd h_ (by decide), fun h_ => absurd h_ (by decide), fun h_ => absurd h_ (by decide), fun h_ => absurd h_ (by decide), fun h_ => absurd h_ (by decide), fun h_ => absurd h_ (by decide), fun h_ => absurd h_ (by decide), fun h_ => absurd h_ (by decide), fun h_ => absurd h_ (by decide), fun h_ => absurd h_ (by decide), fun h_ => absurd h_ (by decide), fun h_ => absurd h_ (by decide), fun h_ => absurd h_ (by decide), fun h_ => absurd h_ (by decide), fun h_ => absurd h_ (by decide), fun h_ => absurd h_ (by decide), fun h_ => absurd h_ (by decide)⟩
  ·
   skip
   clear BK286 BK287 BK295 BK299 BK303 BK307 BK315 BK318 HB
   refine steps_cons ?_ ?_
   ·
    rintro b a w' ⟨gb325, gb326, m8_, m9_, ha, Q_BK286, Q_BK287, Q_BK295, Q_BK299, Q_BK303, Q_BK307, Q_BK315, Q_BK318, Q_HB, Q_NB326_325, Q_NB325_326, Q_BK325, Q_GW325, Q_GE325, Q_NB286_325, Q_NB325_286, Q_NB287_325, Q_NB325_287, Q_NB295_325, Q_NB325_295, Q_NB299_325, Q_NB325_299, Q_NB303_325, Q_NB325_303, Q_NB307_325, Q_NB325_307, Q_NB315_325, Q_NB325_315, Q_NB318_325, Q_NB325_318, Q_BK326, Q_GW326, Q_GE326, Q_NB286_326, Q_NB326_286, Q_NB287_326, Q_NB326_287, Q_NB295_326, Q_NB326_295, Q_NB299_326, Q_NB326_299, Q_NB303_326, Q_NB326_303, Q_NB307_326, Q_NB326_307, Q_NB315_326, Q_NB326_315, Q_NB318_326, Q_NB326_318, Q_BK325_e10, Q_BK326_e11, Q_X8_, Q_X9_⟩ hb_ hon hoff
    refine ⟨_, rfl, fun K hK => ?_⟩
    have e15 : a.tmps[15]? = some (.pointer (some ⟨gb299, 0, none⟩)) := by rw [ha]; exact (putSel_off rfl).trans rfl
    replace ha := Aside0.mk ha
    have BK286 := Aside0.mk Q_BK286
    have BK287 := Aside0.mk Q_BK287
    have BK295 := Aside0.mk Q_BK295
    have BK299 := Aside0.mk Q_BK299
    have BK303 := Aside0.mk Q_BK303
    have BK307 := Aside0.mk Q_BK307
    have BK315 := Aside0.mk Q_BK315
    have BK318 := Aside0.mk Q_BK318
    have HB := Aside0.mk Q_HB
    have hc0_ : w'.cell? ⟨gb299, 0, none⟩ = some (.int .i64 t296) := (blk_cell BK299.out 0).trans rfl
    have hc1_ : w'.cell? ⟨gb299, 1, none⟩ = some (.int .i64 t297) := (blk_cell BK299.out 1).trans rfl
    refine value_ (w1 := w') (v := .agg #[.int .i64 t296, .int .i64 t297]) (by rfl) rfl ?_ ?_
    ·
     go_simp
     (try simp only [i64_w])
     try rfl
    refine hK.out _ _ ⟨gb325, gb326, m8_, m9_, (by rw [ha.out]; exact putSel_upk 0 hb_ rfl rfl rfl), Q_BK286, Q_BK287, Q_BK295, Q_BK299, Q_BK303, Q_BK307, Q_BK315, Q_BK318, Q_HB, Q_NB326_325, Q_NB325_326, Q_BK325, Q_GW325, Q_GE325, Q_NB286_325, Q_NB325_286, Q_NB287_325, Q_NB325_287, Q_NB295_325, Q_NB325_295, Q_NB299_325, Q_NB325_299, Q_NB303_325, Q_NB325_303, Q_NB307_325, Q_NB325_307, Q_NB315_325, Q_NB325_315, Q_NB318_325, Q_NB325_318, Q_BK326, Q_GW326, Q_GE326, Q_NB286_326, Q_NB326_286, Q_NB287_326, Q_NB326_287, Q_NB295_326, Q_NB326_295, Q_NB299_326, Q_NB326_299, Q_NB303_326, Q_NB326_303, Q_NB307_326, Q_NB326_307, Q_NB315_326, Q_NB326_315, Q_NB318_326, Q_NB326_318, fun h0_ => absurd ((hoff 10 (by kernel_rfl)).symm.trans h0_) (by decide), fun h0_ => absurd ((hoff 11 (by kernel_rfl)).symm.trans h0_) (by decide), Q_X8_, Q_X9_⟩
   refine steps_cons ?_ ?_
   ·
    rintro b a w' ⟨gb325, gb326, m8_, m9_, ha, Q_BK286, Q_BK287, Q_BK295, Q_BK299, Q_BK303, Q_BK307, Q_BK315, Q_BK318, Q_HB, Q_NB326_325, Q_NB325_326, Q_BK325, Q_GW325, Q_GE325, Q_NB286_325, Q_NB325_286, Q_NB287_325, Q_NB325_287, Q_NB295_325, Q_NB325_295, Q_NB299_325, Q_NB325_299, Q_NB303_325, Q_NB325_303, Q_NB307_325, Q_NB325_307, Q_NB315_325, Q_NB325_315, Q_NB318_325, Q_NB325_318, Q_BK326, Q_GW326, Q_GE326, Q_NB286_326, Q_NB326_286, Q_NB287_326, Q_NB326_287, Q_NB295_326, Q_NB326_295, Q_NB299_326, Q_NB326_299, Q_NB303_326, Q_NB326_303, Q_NB307_326, Q_NB326_307, Q_NB315_326, Q_NB326_315, Q_NB318_326, Q_NB326_318, Q_BK325_e10, Q_BK326_e11, Q_X8_, Q_X9_⟩ hb_ hon hoff
    refine ⟨_, rfl, fun K hK => ?_⟩
    have e17 : a.tmps[17]? = some (.pointer (some ⟨gb303, 0, none⟩)) := by rw [ha]; exact (putSel_off rfl).trans rfl
    replace ha := Aside0.mk ha
    have BK286 := Aside0.mk Q_BK286
    have BK287 := Aside0.mk Q_BK287
    have BK295 := Aside0.mk Q_BK295
    have BK299 := Aside0.mk Q_BK299
    have BK303 := Aside0.mk Q_BK303
    have BK307 := Aside0.mk Q_BK307
    have BK315 := Aside0.mk Q_BK315
    have BK318 := Aside0.mk Q_BK318
    have HB := Aside0.mk Q_HB
    have hc0_ : w'.cell? ⟨gb303, 0, none⟩ = some (.int .i64 t300) := (blk_cell BK303.out 0).trans rfl
    have hc1_ : w'.cell? ⟨gb303, 1, none⟩ = some (.int .i64 t301) := (blk_cell BK303.out 1).trans rfl
    refine value_ (w1 := w') (v := .agg #[.int .i64 t300, .int .i64 t301]) (by rfl) rfl ?_ ?_
    ·
     go_simp
     (try simp only [i64_w])
     try rfl
    refine hK.out _ _ ⟨gb325, gb326, m8_, m9_, (by rw [ha.out]; exact putSel_upk 1 hb_ rfl rfl rfl), Q_BK286, Q_BK287, Q_BK295, Q_BK299, Q_BK303, Q_BK307, Q_BK315, Q_BK318, Q_HB, Q_NB326_325, Q_NB325_326, Q_BK325, Q_GW325, Q_GE325, Q_NB286_325, Q_NB325_286, Q_NB287_325, Q_NB325_287, Q_NB295_325, Q_NB325_295, Q_NB299_325, Q_NB325_299, Q_NB303_325, Q_NB325_303, Q_NB307_325, Q_NB325_307, Q_NB315_325, Q_NB325_315, Q_NB318_325, Q_NB325_318, Q_BK326, Q_GW326, Q_GE326, Q_NB286_326, Q_NB326_286, Q_NB287_326, Q_NB326_287, Q_NB295_326, Q_NB326_295, Q_NB299_326, Q_NB326_299, Q_NB303_326, Q_NB326_303, Q_NB307_326, Q_NB326_307, Q_NB315_326, Q_NB326_315, Q_NB318_326, Q_NB326_318, fun h0_ => absurd ((hoff 10 (by kernel_rfl)).symm.trans h0_) (by decide), fun h0_ => absurd ((hoff 11 (by kernel_rfl)).symm.trans h0_) (by decide), Q_X8_, Q_X9_⟩
   refine steps_cons ?_ ?_
   ·
    rintro b a w' ⟨gb325, gb326, m8_, m9_, ha, Q_BK286, Q_BK287, Q_BK295, Q_BK299, Q_BK303, Q_BK307, Q_BK315, Q_BK318, Q_HB, Q_NB326_325, Q_NB325_326, Q_BK325, Q_GW325, Q_GE325, Q_NB286_325, Q_NB325_286, Q_NB287_325, Q_NB325_287, Q_NB295_325, Q_NB325_295, Q_NB299_325, Q_NB325_299, Q_NB303_325, Q_NB325_303, Q_NB307_325, Q_NB325_307, Q_NB315_325, Q_NB325_315, Q_NB318_325, Q_NB325_318, Q_BK326, Q_GW326, Q_GE326, Q_NB286_326, Q_NB326_286, Q_NB287_326, Q_NB326_287, Q_NB295_326, Q_NB326_295, Q_NB299_326, Q_NB326_299, Q_NB303_326, Q_NB326_303, Q_NB307_326, Q_NB326_307, Q_NB315_326, Q_NB326_315, Q_NB318_326, Q_NB326_318, Q_BK325_e10, Q_BK326_e11, Q_X8_, Q_X9_⟩ hb_ hon hoff
    refine ⟨_, rfl, fun K hK => ?_⟩
    have e76 : a.tmps[76]? = some (.agg #[.int .i64 t296, .int .i64 t297]) := by rw [ha]; exact putSel_on (e := (0, 76, .agg #[.int .i64 t296, .int .i64 t297])) 0 rfl rfl (hon 0 (by kernel_rfl)) rfl
    have e77 : a.tmps[77]? = some (.agg #[.int .i64 t300, .int .i64 t301]) := by rw [ha]; exact putSel_on (e := (1, 77, .agg #[.int .i64 t300, .int .i64 t301])) 1 rfl rfl (hon 1 (by kernel_rfl)) rfl
    replace ha := Aside0.mk ha
    have BK286 := Aside0.mk Q_BK286
    have BK287 := Aside0.mk Q_BK287
    have BK295 := Aside0.mk Q_BK295
    have BK299 := Aside0.mk Q_BK299
    have BK303 := Aside0.mk Q_BK303
    have BK307 := Aside0.mk Q_BK307
    have BK315 := Aside0.mk Q_BK315
    have BK318 := Aside0.mk Q_BK318
    have HB := Aside0.mk Q_HB
    refine goes_ Tryd.func52 (by kernel_rfl) rfl #[.agg #[.int .i64 t296, .int .i64 t297], .agg #[.int .i64 t300, .int .i64 t301]] (by rfl) rfl rfl (by first | (simp only [List.map_toArray, List.map_cons, List.map_nil, Act.eval, Array.getD_eq_getD_getElem?, Option.getD_some, e76, e77]; done) | (simp only [List.map_toArray, List.map_cons, List.map_nil, Act.eval, Array.getD_eq_getD_getElem?, Option.getD_some, e76, e77]; rfl)) ?_
    with_reducible refine (sun_Unit.calls t296 t297 t300 t301 t319 t320 _ A14.out).mono ?_
    rintro e w116 ⟨rfl, hb⟩
    refine ⟨_, rfl, ?_⟩
    have n0_ := Aside0.mk (blk_below (g := gb286) (o := .cells #[.int .i64 0, .int .i64 0] 28 (0, 0)) (grz_ BK286.out) hb)
    have n1_ := Aside0.mk (blk_below (g := gb287) (o := .cells #[.int .i64 0, .int .i64 0] 28 (0, 0)) (grz_ BK287.out) hb)
    have n2_ := Aside0.mk (blk_below (g := gb295) (o := .cells #[.int .i64 t292, .int .i64 t293] 28 (0, 0)) (grz_ BK295.out) hb)
    have n3_ := Aside0.mk (blk_below (g := gb299) (o := .cells #[.int .i64 t296, .int .i64 t297] 28 (0, 0)) (grz_ BK299.out) hb)
    have n4_ := Aside0.mk (blk_below (g := gb303) (o := .cells #[.int .i64 t300, .int .i64 t301] 28 (0, 0)) (grz_ BK303.out) hb)
    have n5_ := Aside0.mk (blk_below (g := gb307) (o := .cells #[.int .i64 t304, .int .i64 t305] 28 (0, 0)) (grz_ BK307.out) hb)
    have n6_ := Aside0.mk (blk_below (g := gb315) (o := .cells #[.int .i64 t312, .int .i64 t313] 28 (0, 0)) (grz_ BK315.out) hb)
    have n7_ := Aside0.mk (blk_below (g := gb318) (o := .cells #[.int .i64 t316, .int .i64 t317] 28 (0, 0)) (grz_ BK318.out) hb)
    have n8_ := Aside0.mk (below_step (by repeat (first | (with_reducible first | exact HB.out | apply below_alloc | apply pw_below_drewN | apply below_drew1 | refine below_set ?_ GE286.out | refine below_set ?_ GE287.out | refine below_set ?_ GE295.out | refine below_set ?_ GE299.out | refine below_set ?_ GE303.out | refine below_set ?_ GE307.out | refine below_set ?_ GE315.out | refine below_set ?_ GE318.out) | exact HB.out)) hb)
    have z_BK325 := fun (h0_ : b 8 = true) (h1_ : b 10 = false) => (show w116.heap[gb325]? = some (.cells #[.int .i64 0, .int .i64 0] 28 (0, 0)) from by first | exact (blk_below (g := gb325) (o := .cells #[.int .i64 0, .int .i64 0] 28 (0, 0)) (by (with_reducible repeat (first | refine blk_drewN ?_ _ | refine blk_drew ?_ | refine blk_alloc ?_ _)); exact (Q_BK325 h0_ h1_)) hb))
    have z_BK326 := fun (h0_ : b 9 = true) (h1_ : b 11 = false) => (show w116.heap[gb326]? = some (.cells #[.int .i64 0, .int .i64 0] 28 (0, 0)) from by first | exact (blk_below (g := gb326) (o := .cells #[.int .i64 0, .int .i64 0] 28 (0, 0)) (by (with_reducible repeat (first | refine blk_drewN ?_ _ | refine blk_drew ?_ | refine blk_alloc ?_ _)); exact (Q_BK326 h0_ h1_)) hb))
    clear BK286
    clear BK287
    clear BK295
    clear BK299
    clear BK303
    clear BK307
    clear BK315
    clear BK318
    clear HB
    have BK286 := n0_
    have BK287 := n1_
    have BK295 := n2_
    have BK299 := n3_
    have BK303 := n4_
    have BK307 := n5_
    have BK315 := n6_
    have BK318 := n7_
    have HB := n8_
    clear n0_ n1_ n2_ n3_ n4_ n5_ n6_ n7_ n8_
    (try clear hb)
    (try clear hb2)
    (try clear hk)
    (try clear hi)
    refine hK.out _ _ ⟨gb325, gb326, m8_, m9_, (by rw [ha.out]; exact putSel_upk 2 hb_ rfl rfl rfl), (grz_ BK286.out), (grz_ BK287.out), (grz_ BK295.out), (grz_ BK299.out), (grz_ BK303.out), (grz_ BK307.out), (grz_ BK315.out), (grz_ BK318.out), (by repeat (first | (with_reducible first | exact HB.out | apply below_alloc | apply pw_below_drewN | apply below_drew1 | refine below_set ?_ GE286.out | refine below_set ?_ GE287.out | refine below_set ?_ GE295.out | refine below_set ?_ GE299.out | refine below_set ?_ GE303.out | refine below_set ?_ GE307.out | refine below_set ?_ GE315.out | refine below_set ?_ GE318.out) | exact HB.out)), Q_NB326_325, Q_NB325_326, z_BK325, Q_GW325, Q_GE325, Q_NB286_325, Q_NB325_286, Q_NB287_325, Q_NB325_287, Q_NB295_325, Q_NB325_295, Q_NB299_325, Q_NB325_299, Q_NB303_325, Q_NB325_303, Q_NB307_325, Q_NB325_307, Q_NB315_325, Q_NB325_315, Q_NB318_325, Q_NB325_318, z_BK326, Q_GW326, Q_GE326, Q_NB286_326, Q_NB326_286, Q_NB287_326, Q_NB326_287, Q_NB295_326, Q_NB326_295, Q_NB299_326, Q_NB326_299, Q_NB303_326, Q_NB326_303, Q_NB307_326, Q_NB326_307, Q_NB315_326, Q_NB326_315, Q_NB318_326, Q_NB326_318, fun h0_ => absurd ((hoff 10 (by kernel_rfl)).symm.trans h0_) (by decide), fun h0_ => absurd ((hoff 11 (by kernel_rfl)).symm.trans h0_) (by decide), Q_X8_, Q_X9_⟩
   refine steps_cons ?_ ?_
   ·
    rintro b a w' ⟨gb325, gb326, m8_, m9_, ha, Q_BK286, Q_BK287, Q_BK295, Q_BK299, Q_BK303, Q_BK307, Q_BK315, Q_BK318, Q_HB, Q_NB326_325, Q_NB325_326, Q_BK325, Q_GW325, Q_GE325, Q_NB286_325, Q_NB325_286, Q_NB287_325, Q_NB325_287, Q_NB295_325, Q_NB325_295, Q_NB299_325, Q_NB325_299, Q_NB303_325, Q_NB325_303, Q_NB307_325, Q_NB325_307, Q_NB315_325, Q_NB325_315, Q_NB318_325, Q_NB325_318, Q_BK326, Q_GW326, Q_GE326, Q_NB286_326, Q_NB326_286, Q_NB287_326, Q_NB326_287, Q_NB295_326, Q_NB326_295, Q_NB299_326, Q_NB326_299, Q_NB303_326, Q_NB326_303, Q_NB307_326, Q_NB326_307, Q_NB315_326, Q_NB326_315, Q_NB318_326, Q_NB326_318, Q_BK325_e10, Q_BK326_e11, Q_X8_, Q_X9_⟩ hb_ hon hoff
    refine ⟨_, rfl, fun K hK => ?_⟩
    have e13 : a.tmps[13]? = some (.pointer (some ⟨gb295, 0, none⟩)) := by rw [ha]; exact (putSel_off rfl).trans rfl
    replace ha := Aside0.mk ha
    have BK286 := Aside0.mk Q_BK286
    have BK287 := Aside0.mk Q_BK287
    have BK295 := Aside0.mk Q_BK295
    have BK299 := Aside0.mk Q_BK299
    have BK303 := Aside0.mk Q_BK303
    have BK307 := Aside0.mk Q_BK307
    have BK315 := Aside0.mk Q_BK315
    have BK318 := Aside0.mk Q_BK318
    have HB := Aside0.mk Q_HB
    have hc0_ : w'.cell? ⟨gb295, 0, none⟩ = some (.int .i64 t292) := (blk_cell BK295.out 0).trans rfl
    have hc1_ : w'.cell? ⟨gb295, 1, none⟩ = some (.int .i64 t293) := (blk_cell BK295.out 1).trans rfl
    refine value_ (w1 := w') (v := .agg #[.int .i64 t292, .int .i64 t293]) (by rfl) rfl ?_ ?_
    ·
     go_simp
     (try simp only [i64_w])
     try rfl
    refine hK.out _ _ ⟨gb325, gb326, m8_, m9_, (by rw [ha.out]; exact putSel_upk 3 hb_ rfl rfl rfl), Q_BK286, Q_BK287, Q_BK295, Q_BK299, Q_BK303, Q_BK307, Q_BK315, Q_BK318, Q_HB, Q_NB326_325, Q_NB325_326, Q_BK325, Q_GW325, Q_GE325, Q_NB286_325, Q_NB325_286, Q_NB287_325, Q_NB325_287, Q_NB295_325, Q_NB325_295, Q_NB299_325, Q_NB325_299, Q_NB303_325, Q_NB325_303, Q_NB307_325, Q_NB325_307, Q_NB315_325, Q_NB325_315, Q_NB318_325, Q_NB325_318, Q_BK326, Q_GW326, Q_GE326, Q_NB286_326, Q_NB326_286, Q_NB287_326, Q_NB326_287, Q_NB295_326, Q_NB326_295, Q_NB299_326, Q_NB326_299, Q_NB303_326, Q_NB326_303, Q_NB307_326, Q_NB326_307, Q_NB315_326, Q_NB326_315, Q_NB318_326, Q_NB326_318, fun h0_ => absurd ((hoff 10 (by kernel_rfl)).symm.trans h0_) (by decide), fun h0_ => absurd ((hoff 11 (by kernel_rfl)).symm.trans h0_) (by decide), Q_X8_, Q_X9_⟩
   refine steps_cons ?_ ?_
   ·
    rintro b a w' ⟨gb325, gb326, m8_, m9_, ha, Q_BK286, Q_BK287, Q_BK295, Q_BK299, Q_BK303, Q_BK307, Q_BK315, Q_BK318, Q_HB, Q_NB326_325, Q_NB325_326, Q_BK325, Q_GW325, Q_GE325, Q_NB286_325, Q_NB325_286, Q_NB287_325, Q_NB325_287, Q_NB295_325, Q_NB325_295, Q_NB299_325, Q_NB325_299, Q_NB303_325, Q_NB325_303, Q_NB307_325, Q_NB325_307, Q_NB315_325, Q_NB325_315, Q_NB318_325, Q_NB325_318, Q_BK326, Q_GW326, Q_GE326, Q_NB286_326, Q_NB326_286, Q_NB287_326, Q_NB326_287, Q_NB295_326, Q_NB326_295, Q_NB299_326, Q_NB326_299, Q_NB303_326, Q_NB326_303, Q_NB307_326, Q_NB326_307, Q_NB315_326, Q_NB326_315, Q_NB318_326, Q_NB326_318, Q_BK325_e10, Q_BK326_e11, Q_X8_, Q_X9_⟩ hb_ hon hoff
    refine ⟨_, rfl, fun K hK => ?_⟩
    have e19 : a.tmps[19]? = some (.pointer (some ⟨gb307, 0, none⟩)) := by rw [ha]; exact (putSel_off rfl).trans rfl
    replace ha := Aside0.mk ha
    have BK286 := Aside0.mk Q_BK286
    have BK287 := Aside0.mk Q_BK287
    have BK295 := Aside0.mk Q_BK295
    have BK299 := Aside0.mk Q_BK299
    have BK303 := Aside0.mk Q_BK303
    have BK307 := Aside0.mk Q_BK307
    have BK315 := Aside0.mk Q_BK315
    have BK318 := Aside0.mk Q_BK318
    have HB := Aside0.mk Q_HB
    have hc0_ : w'.cell? ⟨gb307, 0, none⟩ = some (.int .i64 t304) := (blk_cell BK307.out 0).trans rfl
    have hc1_ : w'.cell? ⟨gb307, 1, none⟩ = some (.int .i64 t305) := (blk_cell BK307.out 1).trans rfl
    refine value_ (w1 := w') (v := .agg #[.int .i64 t304, .int .i64 t305]) (by rfl) rfl ?_ ?_
    ·
     go_simp
     (try simp only [i64_w])
     try rfl
    refine hK.out _ _ ⟨gb325, gb326, m8_, m9_, (by rw [ha.out]; exact putSel_upk 4 hb_ rfl rfl rfl), Q_BK286, Q_BK287, Q_BK295, Q_BK299, Q_BK303, Q_BK307, Q_BK315, Q_BK318, Q_HB, Q_NB326_325, Q_NB325_326, Q_BK325, Q_GW325, Q_GE325, Q_NB286_325, Q_NB325_286, Q_NB287_325, Q_NB325_287, Q_NB295_325, Q_NB325_295, Q_NB299_325, Q_NB325_299, Q_NB303_325, Q_NB325_303, Q_NB307_325, Q_NB325_307, Q_NB315_325, Q_NB325_315, Q_NB318_325, Q_NB325_318, Q_BK326, Q_GW326, Q_GE326, Q_NB286_326, Q_NB326_286, Q_NB287_326, Q_NB326_287, Q_NB295_326, Q_NB326_295, Q_NB299_326, Q_NB326_299, Q_NB303_326, Q_NB326_303, Q_NB307_326, Q_NB326_307, Q_NB315_326, Q_NB326_315, Q_NB318_326, Q_NB326_318, fun h0_ => absurd ((hoff 10 (by kernel_rfl)).symm.trans h0_) (by decide), fun h0_ => absurd ((hoff 11 (by kernel_rfl)).symm.trans h0_) (by decide), Q_X8_, Q_X9_⟩
   refine steps_cons ?_ ?_
   ·
    rintro b a w' ⟨gb325, gb326, m8_, m9_, ha, Q_BK286, Q_BK287, Q_BK295, Q_BK299, Q_BK303, Q_BK307, Q_BK315, Q_BK318, Q_HB, Q_NB326_325, Q_NB325_326, Q_BK325, Q_GW325, Q_GE325, Q_NB286_325, Q_NB325_286, Q_NB287_325, Q_NB325_287, Q_NB295_325, Q_NB325_295, Q_NB299_325, Q_NB325_299, Q_NB303_325, Q_NB325_303, Q_NB307_325, Q_NB325_307, Q_NB315_325, Q_NB325_315, Q_NB318_325, Q_NB325_318, Q_BK326, Q_GW326, Q_GE326, Q_NB286_326, Q_NB326_286, Q_NB287_326, Q_NB326_287, Q_NB295_326, Q_NB326_295, Q_NB299_326, Q_NB326_299, Q_NB303_326, Q_NB326_303, Q_NB307_326, Q_NB326_307, Q_NB315_326, Q_NB326_315, Q_NB318_326, Q_NB326_318, Q_BK325_e10, Q_BK326_e11, Q_X8_, Q_X9_⟩ hb_ hon hoff
    refine ⟨_, rfl, fun K hK => ?_⟩
    have e79 : a.tmps[79]? = some (.agg #[.int .i64 t292, .int .i64 t293]) := by rw [ha]; exact putSel_on (e := (3, 79, .agg #[.int .i64 t292, .int .i64 t293])) 3 rfl rfl (hon 3 (by kernel_rfl)) rfl
    have e80 : a.tmps[80]? = some (.agg #[.int .i64 t304, .int .i64 t305]) := by rw [ha]; exact putSel_on (e := (4, 80, .agg #[.int .i64 t304, .int .i64 t305])) 4 rfl rfl (hon 4 (by kernel_rfl)) rfl
    replace ha := Aside0.mk ha
    have BK286 := Aside0.mk Q_BK286
    have BK287 := Aside0.mk Q_BK287
    have BK295 := Aside0.mk Q_BK295
    have BK299 := Aside0.mk Q_BK299
    have BK303 := Aside0.mk Q_BK303
    have BK307 := Aside0.mk Q_BK307
    have BK315 := Aside0.mk Q_BK315
    have BK318 := Aside0.mk Q_BK318
    have HB := Aside0.mk Q_HB
    refine goes_ Tryd.func52 (by kernel_rfl) rfl #[.agg #[.int .i64 t292, .int .i64 t293], .agg #[.int .i64 t304, .int .i64 t305]] (by rfl) rfl rfl (by first | (simp only [List.map_toArray, List.map_cons, List.map_nil, Act.eval, Array.getD_eq_getD_getElem?, Option.getD_some, e79, e80]; done) | (simp only [List.map_toArray, List.map_cons, List.map_nil, Act.eval, Array.getD_eq_getD_getElem?, Option.getD_some, e79, e80]; rfl)) ?_
    with_reducible refine (sun_Unit.calls t292 t293 t304 t305 t321 t322 _ A15.out).mono ?_
    rintro e w118 ⟨rfl, hb⟩
    refine ⟨_, rfl, ?_⟩
    have n0_ := Aside0.mk (blk_below (g := gb286) (o := .cells #[.int .i64 0, .int .i64 0] 28 (0, 0)) (grz_ BK286.out) hb)
    have n1_ := Aside0.mk (blk_below (g := gb287) (o := .cells #[.int .i64 0, .int .i64 0] 28 (0, 0)) (grz_ BK287.out) hb)
    have n2_ := Aside0.mk (blk_below (g := gb295) (o := .cells #[.int .i64 t292, .int .i64 t293] 28 (0, 0)) (grz_ BK295.out) hb)
    have n3_ := Aside0.mk (blk_below (g := gb299) (o := .cells #[.int .i64 t296, .int .i64 t297] 28 (0, 0)) (grz_ BK299.out) hb)
    have n4_ := Aside0.mk (blk_below (g := gb303) (o := .cells #[.int .i64 t300, .int .i64 t301] 28 (0, 0)) (grz_ BK303.out) hb)
    have n5_ := Aside0.mk (blk_below (g := gb307) (o := .cells #[.int .i64 t304, .int .i64 t305] 28 (0, 0)) (grz_ BK307.out) hb)
    have n6_ := Aside0.mk (blk_below (g := gb315) (o := .cells #[.int .i64 t312, .int .i64 t313] 28 (0, 0)) (grz_ BK315.out) hb)
    have n7_ := Aside0.mk (blk_below (g := gb318) (o := .cells #[.int .i64 t316, .int .i64 t317] 28 (0, 0)) (grz_ BK318.out) hb)
    have n8_ := Aside0.mk (below_step (by repeat (first | (with_reducible first | exact HB.out | apply below_alloc | apply pw_below_drewN | apply below_drew1 | refine below_set ?_ GE286.out | refine below_set ?_ GE287.out | refine below_set ?_ GE295.out | refine below_set ?_ GE299.out | refine below_set ?_ GE303.out | refine below_set ?_ GE307.out | refine below_set ?_ GE315.out | refine below_set ?_ GE318.out) | exact HB.out)) hb)
    have z_BK325 := fun (h0_ : b 8 = true) (h1_ : b 10 = false) => (show w118.heap[gb325]? = some (.cells #[.int .i64 0, .int .i64 0] 28 (0, 0)) from by first | exact (blk_below (g := gb325) (o := .cells #[.int .i64 0, .int .i64 0] 28 (0, 0)) (by (with_reducible repeat (first | refine blk_drewN ?_ _ | refine blk_drew ?_ | refine blk_alloc ?_ _)); exact (Q_BK325 h0_ h1_)) hb))
    have z_BK326 := fun (h0_ : b 9 = true) (h1_ : b 11 = false) => (show w118.heap[gb326]? = some (.cells #[.int .i64 0, .int .i64 0] 28 (0, 0)) from by first | exact (blk_below (g := gb326) (o := .cells #[.int .i64 0, .int .i64 0] 28 (0, 0)) (by (with_reducible repeat (first | refine blk_drewN ?_ _ | refine blk_drew ?_ | refine blk_alloc ?_ _)); exact (Q_BK326 h0_ h1_)) hb))
    clear BK286
    clear BK287
    clear BK295
    clear BK299
    clear BK303
    clear BK307
    clear BK315
    clear BK318
    clear HB
    have BK286 := n0_
    have BK287 := n1_
    have BK295 := n2_
    have BK299 := n3_
    have BK303 := n4_
    have BK307 := n5_
    have BK315 := n6_
    have BK318 := n7_
    have HB := n8_
    clear n0_ n1_ n2_ n3_ n4_ n5_ n6_ n7_ n8_
    (try clear hb)
    (try clear hb2)
    (try clear hk)
    (try clear hi)
    refine hK.out _ _ ⟨gb325, gb326, m8_, m9_, (by rw [ha.out]; exact putSel_upk 5 hb_ rfl rfl rfl), (grz_ BK286.out), (grz_ BK287.out), (grz_ BK295.out), (grz_ BK299.out), (grz_ BK303.out), (grz_ BK307.out), (grz_ BK315.out), (grz_ BK318.out), (by repeat (first | (with_reducible first | exact HB.out | apply below_alloc | apply pw_below_drewN | apply below_drew1 | refine below_set ?_ GE286.out | refine below_set ?_ GE287.out | refine below_set ?_ GE295.out | refine below_set ?_ GE299.out | refine below_set ?_ GE303.out | refine below_set ?_ GE307.out | refine below_set ?_ GE315.out | refine below_set ?_ GE318.out) | exact HB.out)), Q_NB326_325, Q_NB325_326, z_BK325, Q_GW325, Q_GE325, Q_NB286_325, Q_NB325_286, Q_NB287_325, Q_NB325_287, Q_NB295_325, Q_NB325_295, Q_NB299_325, Q_NB325_299, Q_NB303_325, Q_NB325_303, Q_NB307_325, Q_NB325_307, Q_NB315_325, Q_NB325_315, Q_NB318_325, Q_NB325_318, z_BK326, Q_GW326, Q_GE326, Q_NB286_326, Q_NB326_286, Q_NB287_326, Q_NB326_287, Q_NB295_326, Q_NB326_295, Q_NB299_326, Q_NB326_299, Q_NB303_326, Q_NB326_303, Q_NB307_326, Q_NB326_307, Q_NB315_326, Q_NB326_315, Q_NB318_326, Q_NB326_318, fun h0_ => absurd ((hoff 10 (by kernel_rfl)).symm.trans h0_) (by decide), fun h0_ => absurd ((hoff 11 (by kernel_rfl)).symm.trans h0_) (by decide), Q_X8_, Q_X9_⟩
   refine steps_cons ?_ ?_
   ·
    rintro b a w' ⟨gb325, gb326, m8_, m9_, ha, Q_BK286, Q_BK287, Q_BK295, Q_BK299, Q_BK303, Q_BK307, Q_BK315, Q_BK318, Q_HB, Q_NB326_325, Q_NB325_326, Q_BK325, Q_GW325, Q_GE325, Q_NB286_325, Q_NB325_286, Q_NB287_325, Q_NB325_287, Q_NB295_325, Q_NB325_295, Q_NB299_325, Q_NB325_299, Q_NB303_325, Q_NB325_303, Q_NB307_325, Q_NB325_307, Q_NB315_325, Q_NB325_315, Q_NB318_325, Q_NB325_318, Q_BK326, Q_GW326, Q_GE326, Q_NB286_326, Q_NB326_286, Q_NB287_326, Q_NB326_287, Q_NB295_326, Q_NB326_295, Q_NB299_326, Q_NB326_299, Q_NB303_326, Q_NB326_303, Q_NB307_326, Q_NB326_307, Q_NB315_326, Q_NB326_315, Q_NB318_326, Q_NB326_318, Q_BK325_e10, Q_BK326_e11, Q_X8_, Q_X9_⟩ hb_ hon hoff
    refine ⟨_, rfl, fun K hK => ?_⟩
    have e23 : a.tmps[23]? = some (.pointer (some ⟨gb315, 0, none⟩)) := by rw [ha]; exact (putSel_off rfl).trans rfl
    replace ha := Aside0.mk ha
    have BK286 := Aside0.mk Q_BK286
    have BK287 := Aside0.mk Q_BK287
    have BK295 := Aside0.mk Q_BK295
    have BK299 := Aside0.mk Q_BK299
    have BK303 := Aside0.mk Q_BK303
    have BK307 := Aside0.mk Q_BK307
    have BK315 := Aside0.mk Q_BK315
    have BK318 := Aside0.mk Q_BK318
    have HB := Aside0.mk Q_HB
    have hc0_ : w'.cell? ⟨gb315, 0, none⟩ = some (.int .i64 t312) := (blk_cell BK315.out 0).trans rfl
    have hc1_ : w'.cell? ⟨gb315, 1, none⟩ = some (.int .i64 t313) := (blk_cell BK315.out 1).trans rfl
    refine value_ (w1 := w') (v := .agg #[.int .i64 t312, .int .i64 t313]) (by rfl) rfl ?_ ?_
    ·
     go_simp
     (try simp only [i64_w])
     try rfl
    refine hK.out _ _ ⟨gb325, gb326, m8_, m9_, (by rw [ha.out]; exact putSel_upk 6 hb_ rfl rfl rfl), Q_BK286, Q_BK287, Q_BK295, Q_BK299, Q_BK303, Q_BK307, Q_BK315, Q_BK318, Q_HB, Q_NB326_325, Q_NB325_326, Q_BK325, Q_GW325, Q_GE325, Q_NB286_325, Q_NB325_286, Q_NB287_325, Q_NB325_287, Q_NB295_325, Q_NB325_295, Q_NB299_325, Q_NB325_299, Q_NB303_325, Q_NB325_303, Q_NB307_325, Q_NB325_307, Q_NB315_325, Q_NB325_315, Q_NB318_325, Q_NB325_318, Q_BK326, Q_GW326, Q_GE326, Q_NB286_326, Q_NB326_286, Q_NB287_326, Q_NB326_287, Q_NB295_326, Q_NB326_295, Q_NB299_326, Q_NB326_299, Q_NB303_326, Q_NB326_303, Q_NB307_326, Q_NB326_307, Q_NB315_326, Q_NB326_315, Q_NB318_326, Q_NB326_318, fun h0_ => absurd ((hoff 10 (by kernel_rfl)).symm.trans h0_) (by decide), fun h0_ => absurd ((hoff 11 (by kernel_rfl)).symm.trans h0_) (by decide), Q_X8_, Q_X9_⟩
   refine steps_cons ?_ ?_
   ·
    rintro b a w' ⟨gb325, gb326, m8_, m9_, ha, Q_BK286, Q_BK287, Q_BK295, Q_BK299, Q_BK303, Q_BK307, Q_BK315, Q_BK318, Q_HB, Q_NB326_325, Q_NB325_326, Q_BK325, Q_GW325, Q_GE325, Q_NB286_325, Q_NB325_286, Q_NB287_325, Q_NB325_287, Q_NB295_325, Q_NB325_295, Q_NB299_325, Q_NB325_299, Q_NB303_325, Q_NB325_303, Q_NB307_325, Q_NB325_307, Q_NB315_325, Q_NB325_315, Q_NB318_325, Q_NB325_318, Q_BK326, Q_GW326, Q_GE326, Q_NB286_326, Q_NB326_286, Q_NB287_326, Q_NB326_287, Q_NB295_326, Q_NB326_295, Q_NB299_326, Q_NB326_299, Q_NB303_326, Q_NB326_303, Q_NB307_326, Q_NB326_307, Q_NB315_326, Q_NB326_315, Q_NB318_326, Q_NB326_318, Q_BK325_e10, Q_BK326_e11, Q_X8_, Q_X9_⟩ hb_ hon hoff
    refine ⟨_, rfl, fun K hK => ?_⟩
    have e81 : a.tmps[81]? = some (.agg #[.int .i64 t321, .int .i64 t322]) := by rw [ha]; exact putSel_on (e := (5, 81, .agg #[.int .i64 t321, .int .i64 t322])) 5 rfl rfl (hon 5 (by kernel_rfl)) rfl
    have e82 : a.tmps[82]? = some (.agg #[.int .i64 t312, .int .i64 t313]) := by rw [ha]; exact putSel_on (e := (6, 82, .agg #[.int .i64 t312, .int .i64 t313])) 6 rfl rfl (hon 6 (by kernel_rfl)) rfl
    replace ha := Aside0.mk ha
    have BK286 := Aside0.mk Q_BK286
    have BK287 := Aside0.mk Q_BK287
    have BK295 := Aside0.mk Q_BK295
    have BK299 := Aside0.mk Q_BK299
    have BK303 := Aside0.mk Q_BK303
    have BK307 := Aside0.mk Q_BK307
    have BK315 := Aside0.mk Q_BK315
    have BK318 := Aside0.mk Q_BK318
    have HB := Aside0.mk Q_HB
    refine goes_ Tryd.func52 (by kernel_rfl) rfl #[.agg #[.int .i64 t321, .int .i64 t322], .agg #[.int .i64 t312, .int .i64 t313]] (by rfl) rfl rfl (by first | (simp only [List.map_toArray, List.map_cons, List.map_nil, Act.eval, Array.getD_eq_getD_getElem?, Option.getD_some, e81, e82]; done) | (simp only [List.map_toArray, List.map_cons, List.map_nil, Act.eval, Array.getD_eq_getD_getElem?, Option.getD_some, e81, e82]; rfl)) ?_
    with_reducible refine (sun_Unit.calls t321 t322 t312 t313 t323 t324 _ A16.out).mono ?_
    rintro e w119 ⟨rfl, hb⟩
    refine ⟨_, rfl, ?_⟩
    have n0_ := Aside0.mk (blk_below (g := gb286) (o := .cells #[.int .i64 0, .int .i64 0] 28 (0, 0)) (grz_ BK286.out) hb)
    have n1_ := Aside0.mk (blk_below (g := gb287) (o := .cells #[.int .i64 0, .int .i64 0] 28 (0, 0)) (grz_ BK287.out) hb)
    have n2_ := Aside0.mk (blk_below (g := gb295) (o := .cells #[.int .i64 t292, .int .i64 t293] 28 (0, 0)) (grz_ BK295.out) hb)
    have n3_ := Aside0.mk (blk_below (g := gb299) (o := .cells #[.int .i64 t296, .int .i64 t297] 28 (0, 0)) (grz_ BK299.out) hb)
    have n4_ := Aside0.mk (blk_below (g := gb303) (o := .cells #[.int .i64 t300, .int .i64 t301] 28 (0, 0)) (grz_ BK303.out) hb)
    have n5_ := Aside0.mk (blk_below (g := gb307) (o := .cells #[.int .i64 t304, .int .i64 t305] 28 (0, 0)) (grz_ BK307.out) hb)
    have n6_ := Aside0.mk (blk_below (g := gb315) (o := .cells #[.int .i64 t312, .int .i64 t313] 28 (0, 0)) (grz_ BK315.out) hb)
    have n7_ := Aside0.mk (blk_below (g := gb318) (o := .cells #[.int .i64 t316, .int .i64 t317] 28 (0, 0)) (grz_ BK318.out) hb)
    have n8_ := Aside0.mk (below_step (by repeat (first | (with_reducible first | exact HB.out | apply below_alloc | apply pw_below_drewN | apply below_drew1 | refine below_set ?_ GE286.out | refine below_set ?_ GE287.out | refine below_set ?_ GE295.out | refine below_set ?_ GE299.out | refine below_set ?_ GE303.out | refine below_set ?_ GE307.out | refine below_set ?_ GE315.out | refine below_set ?_ GE318.out) | exact HB.out)) hb)
    have z_BK325 := fun (h0_ : b 8 = true) (h1_ : b 10 = false) => (show w119.heap[gb325]? = some (.cells #[.int .i64 0, .int .i64 0] 28 (0, 0)) from by first | exact (blk_below (g := gb325) (o := .cells #[.int .i64 0, .int .i64 0] 28 (0, 0)) (by (with_reducible repeat (first | refine blk_drewN ?_ _ | refine blk_drew ?_ | refine blk_alloc ?_ _)); exact (Q_BK325 h0_ h1_)) hb))
    have z_BK326 := fun (h0_ : b 9 = true) (h1_ : b 11 = false) => (show w119.heap[gb326]? = some (.cells #[.int .i64 0, .int .i64 0] 28 (0, 0)) from by first | exact (blk_below (g := gb326) (o := .cells #[.int .i64 0, .int .i64 0] 28 (0, 0)) (by (with_reducible repeat (first | refine blk_drewN ?_ _ | refine blk_drew ?_ | refine blk_alloc ?_ _)); exact (Q_BK326 h0_ h1_)) hb))
    clear BK286
    clear BK287
    clear BK295
    clear BK299
    clear BK303
    clear BK307
    clear BK315
    clear BK318
    clear HB
    have BK286 := n0_
    have BK287 := n1_
    have BK295 := n2_
    have BK299 := n3_
    have BK303 := n4_
    have BK307 := n5_
    have BK315 := n6_
    have BK318 := n7_
    have HB := n8_
    clear n0_ n1_ n2_ n3_ n4_ n5_ n6_ n7_ n8_
    (try clear hb)
    (try clear hb2)
    (try clear hk)
    (try clear hi)
    refine hK.out _ _ ⟨gb325, gb326, m8_, m9_, (by rw [ha.out]; exact putSel_upk 7 hb_ rfl rfl rfl), (grz_ BK286.out), (grz_ BK287.out), (grz_ BK295.out), (grz_ BK299.out), (grz_ BK303.out), (grz_ BK307.out), (grz_ BK315.out), (grz_ BK318.out), (by repeat (first | (with_reducible first | exact HB.out | apply below_alloc | apply pw_below_drewN | apply below_drew1 | refine below_set ?_ GE286.out | refine below_set ?_ GE287.out | refine below_set ?_ GE295.out | refine below_set ?_ GE299.out | refine below_set ?_ GE303.out | refine below_set ?_ GE307.out | refine below_set ?_ GE315.out | refine below_set ?_ GE318.out) | exact HB.out)), Q_NB326_325, Q_NB325_326, z_BK325, Q_GW325, Q_GE325, Q_NB286_325, Q_NB325_286, Q_NB287_325, Q_NB325_287, Q_NB295_325, Q_NB325_295, Q_NB299_325, Q_NB325_299, Q_NB303_325, Q_NB325_303, Q_NB307_325, Q_NB325_307, Q_NB315_325, Q_NB325_315, Q_NB318_325, Q_NB325_318, z_BK326, Q_GW326, Q_GE326, Q_NB286_326, Q_NB326_286, Q_NB287_326, Q_NB326_287, Q_NB295_326, Q_NB326_295, Q_NB299_326, Q_NB326_299, Q_NB303_326, Q_NB326_303, Q_NB307_326, Q_NB326_307, Q_NB315_326, Q_NB326_315, Q_NB318_326, Q_NB326_318, fun h0_ => absurd ((hoff 10 (by kernel_rfl)).symm.trans h0_) (by decide), fun h0_ => absurd ((hoff 11 (by kernel_rfl)).symm.trans h0_) (by decide), Q_X8_, Q_X9_⟩
   refine steps_cons ?_ ?_
   ·
    rintro b a w' ⟨gb325, gb326, m8_, m9_, ha, Q_BK286, Q_BK287, Q_BK295, Q_BK299, Q_BK303, Q_BK307, Q_BK315, Q_BK318, Q_HB, Q_NB326_325, Q_NB325_326, Q_BK325, Q_GW325, Q_GE325, Q_NB286_325, Q_NB325_286, Q_NB287_325, Q_NB325_287, Q_NB295_325, Q_NB325_295, Q_NB299_325, Q_NB325_299, Q_NB303_325, Q_NB325_303, Q_NB307_325, Q_NB325_307, Q_NB315_325, Q_NB325_315, Q_NB318_325, Q_NB325_318, Q_BK326, Q_GW326, Q_GE326, Q_NB286_326, Q_NB326_286, Q_NB287_326, Q_NB326_287, Q_NB295_326, Q_NB326_295, Q_NB299_326, Q_NB326_299, Q_NB303_326, Q_NB326_303, Q_NB307_326, Q_NB326_307, Q_NB315_326, Q_NB326_315, Q_NB318_326, Q_NB326_318, Q_BK325_e10, Q_BK326_e11, Q_X8_, Q_X9_⟩ hb_ hon hoff
    refine ⟨_, rfl, fun K hK => ?_⟩
    replace ha := Aside0.mk ha
    have BK286 := Aside0.mk Q_BK286
    have BK287 := Aside0.mk Q_BK287
    have BK295 := Aside0.mk Q_BK295
    have BK299 := Aside0.mk Q_BK299
    have BK303 := Aside0.mk Q_BK303
    have BK307 := Aside0.mk Q_BK307
    have BK315 := Aside0.mk Q_BK315
    have BK318 := Aside0.mk Q_BK318
    have HB := Aside0.mk Q_HB
    refine box_step ?hg (N := 26) ?hd (cs := #[.int .i64 0, .int .i64 0]) (t := 28) ?hr ?_; (case hd => rfl); (case hg => rfl); (case hr => first | (go_simp; done) | (go_simp; rfl))
    intro gb325 hg w116 hbox hb
    have n0_ := Aside0.mk (blk_below (g := gb286) (o := .cells #[.int .i64 0, .int .i64 0] 28 (0, 0)) (grz_ BK286.out) hb)
    have n1_ := Aside0.mk (blk_below (g := gb287) (o := .cells #[.int .i64 0, .int .i64 0] 28 (0, 0)) (grz_ BK287.out) hb)
    have n2_ := Aside0.mk (blk_below (g := gb295) (o := .cells #[.int .i64 t292, .int .i64 t293] 28 (0, 0)) (grz_ BK295.out) hb)
    have n3_ := Aside0.mk (blk_below (g := gb299) (o := .cells #[.int .i64 t296, .int .i64 t297] 28 (0, 0)) (grz_ BK299.out) hb)
    have n4_ := Aside0.mk (blk_below (g := gb303) (o := .cells #[.int .i64 t300, .int .i64 t301] 28 (0, 0)) (grz_ BK303.out) hb)
    have n5_ := Aside0.mk (blk_below (g := gb307) (o := .cells #[.int .i64 t304, .int .i64 t305] 28 (0, 0)) (grz_ BK307.out) hb)
    have n6_ := Aside0.mk (blk_below (g := gb315) (o := .cells #[.int .i64 t312, .int .i64 t313] 28 (0, 0)) (grz_ BK315.out) hb)
    have n7_ := Aside0.mk (blk_below (g := gb318) (o := .cells #[.int .i64 t316, .int .i64 t317] 28 (0, 0)) (grz_ BK318.out) hb)
    have n8_ := Aside0.mk (below_step (by repeat (first | (with_reducible first | exact HB.out | apply below_alloc | apply pw_below_drewN | apply below_drew1 | refine below_set ?_ GE286.out | refine below_set ?_ GE287.out | refine below_set ?_ GE295.out | refine below_set ?_ GE299.out | refine below_set ?_ GE303.out | refine below_set ?_ GE307.out | refine below_set ?_ GE315.out | refine below_set ?_ GE318.out) | exact HB.out)) hb)
    have n9_ := Aside0.mk (hbox)
    have n10_ := Aside0.mk ((by rw [hg]; exact (below_size (by repeat (first | (with_reducible first | exact HB.out | apply below_alloc | apply pw_below_drewN | apply below_drew1 | refine below_set ?_ GE286.out | refine below_set ?_ GE287.out | refine below_set ?_ GE295.out | refine below_set ?_ GE299.out | refine below_set ?_ GE303.out | refine below_set ?_ GE307.out | refine below_set ?_ GE315.out | refine below_set ?_ GE318.out) | exact HB.out))) : w.heap.size ≤ gb325))
    have n11_ := Aside0.mk ((by rw [hg]; exact (below_size (by repeat (first | (with_reducible first | exact HB.out | apply below_alloc | apply pw_below_drewN | apply below_drew1 | refine below_set ?_ GE286.out | refine below_set ?_ GE287.out | refine below_set ?_ GE295.out | refine below_set ?_ GE299.out | refine below_set ?_ GE303.out | refine below_set ?_ GE307.out | refine below_set ?_ GE315.out | refine below_set ?_ GE318.out) | exact HB.out))) : w.heap.size ≤ gb325))
    have n12_ := Aside0.mk ((by rw [hg]; exact Nat.ne_of_lt (blk_lt (g := gb286) (o := .cells #[.int .i64 0, .int .i64 0] 28 (0, 0)) (grz_ BK286.out)) : gb286 ≠ gb325))
    have n13_ := Aside0.mk ((by rw [hg]; exact Nat.ne_of_gt (blk_lt (g := gb286) (o := .cells #[.int .i64 0, .int .i64 0] 28 (0, 0)) (grz_ BK286.out)) : gb325 ≠ gb286))
    have n14_ := Aside0.mk ((by rw [hg]; exact Nat.ne_of_lt (blk_lt (g := gb287) (o := .cells #[.int .i64 0, .int .i64 0] 28 (0, 0)) (grz_ BK287.out)) : gb287 ≠ gb325))
    have n15_ := Aside0.mk ((by rw [hg]; exact Nat.ne_of_gt (blk_lt (g := gb287) (o := .cells #[.int .i64 0, .int .i64 0] 28 (0, 0)) (grz_ BK287.out)) : gb325 ≠ gb287))
    have n16_ := Aside0.mk ((by rw [hg]; exact Nat.ne_of_lt (blk_lt (g := gb295) (o := .cells #[.int .i64 t292, .int .i64 t293] 28 (0, 0)) (grz_ BK295.out)) : gb295 ≠ gb325))
    have n17_ := Aside0.mk ((by rw [hg]; exact Nat.ne_of_gt (blk_lt (g := gb295) (o := .cells #[.int .i64 t292, .int .i64 t293] 28 (0, 0)) (grz_ BK295.out)) : gb325 ≠ gb295))
    have n18_ := Aside0.mk ((by rw [hg]; exact Nat.ne_of_lt (blk_lt (g := gb299) (o := .cells #[.int .i64 t296, .int .i64 t297] 28 (0, 0)) (grz_ BK299.out)) : gb299 ≠ gb325))
    have n19_ := Aside0.mk ((by rw [hg]; exact Nat.ne_of_gt (blk_lt (g := gb299) (o := .cells #[.int .i64 t296, .int .i64 t297] 28 (0, 0)) (grz_ BK299.out)) : gb325 ≠ gb299))
    have n20_ := Aside0.mk ((by rw [hg]; exact Nat.ne_of_lt (blk_lt (g := gb303) (o := .cells #[.int .i64 t300, .int .i64 t301] 28 (0, 0)) (grz_ BK303.out)) : gb303 ≠ gb325))
    have n21_ := Aside0.mk ((by rw [hg]; exact Nat.ne_of_gt (blk_lt (g := gb303) (o := .cells #[.int .i64 t300, .int .i64 t301] 28 (0, 0)) (grz_ BK303.out)) : gb325 ≠ gb303))
    have n22_ := Aside0.mk ((by rw [hg]; exact Nat.ne_of_lt (blk_lt (g := gb307) (o := .cells #[.int .i64 t304, .int .i64 t305] 28 (0, 0)) (grz_ BK307.out)) : gb307 ≠ gb325))
    have n23_ := Aside0.mk ((by rw [hg]; exact Nat.ne_of_gt (blk_lt (g := gb307) (o := .cells #[.int .i64 t304, .int .i64 t305] 28 (0, 0)) (grz_ BK307.out)) : gb325 ≠ gb307))
    have n24_ := Aside0.mk ((by rw [hg]; exact Nat.ne_of_lt (blk_lt (g := gb315) (o := .cells #[.int .i64 t312, .int .i64 t313] 28 (0, 0)) (grz_ BK315.out)) : gb315 ≠ gb325))
    have n25_ := Aside0.mk ((by rw [hg]; exact Nat.ne_of_gt (blk_lt (g := gb315) (o := .cells #[.int .i64 t312, .int .i64 t313] 28 (0, 0)) (grz_ BK315.out)) : gb325 ≠ gb315))
    have n26_ := Aside0.mk ((by rw [hg]; exact Nat.ne_of_lt (blk_lt (g := gb318) (o := .cells #[.int .i64 t316, .int .i64 t317] 28 (0, 0)) (grz_ BK318.out)) : gb318 ≠ gb325))
    have n27_ := Aside0.mk ((by rw [hg]; exact Nat.ne_of_gt (blk_lt (g := gb318) (o := .cells #[.int .i64 t316, .int .i64 t317] 28 (0, 0)) (grz_ BK318.out)) : gb325 ≠ gb318))
    have z_NB326_325 := fun (h0_ : up b 8 8 = true) (h1_ : up b 8 9 = true) => (show gb326 ≠ gb325 from (by rw [hg]; cases hs_ : b 11 <;> (first | exact Nat.ne_of_lt (blk_lt (g := gb326) (by (with_reducible repeat (first | refine blk_drewN ?_ _ | refine blk_drew ?_ | refine blk_alloc ?_ _)); exact (Q_BK326 (show b 9 = true from h1_) hs_))) | exact Nat.ne_of_lt (blk_lt (g := gb326) (by (with_reducible repeat (first | refine blk_drewN ?_ _ | refine blk_drew ?_ | refine blk_alloc ?_ _)); exact (Q_BK326_e11 hs_))))))
    have z_NB325_326 := fun (h0_ : up b 8 8 = true) (h1_ : up b 8 9 = true) => (show gb325 ≠ gb326 from (by rw [hg]; cases hs_ : b 11 <;> (first | exact Nat.ne_of_gt (blk_lt (g := gb326) (by (with_reducible repeat (first | refine blk_drewN ?_ _ | refine blk_drew ?_ | refine blk_alloc ?_ _)); exact (Q_BK326 (show b 9 = true from h1_) hs_))) | exact Nat.ne_of_gt (blk_lt (g := gb326) (by (with_reducible repeat (first | refine blk_drewN ?_ _ | refine blk_drew ?_ | refine blk_alloc ?_ _)); exact (Q_BK326_e11 hs_))))))
    have z_BK326 := fun (h0_ : b 9 = true) (h1_ : b 11 = false) => (show w116.heap[gb326]? = some (.cells #[.int .i64 0, .int .i64 0] 28 (0, 0)) from by first | exact (blk_below (g := gb326) (o := .cells #[.int .i64 0, .int .i64 0] 28 (0, 0)) (by (with_reducible repeat (first | refine blk_drewN ?_ _ | refine blk_drew ?_ | refine blk_alloc ?_ _)); exact (Q_BK326 h0_ h1_)) hb))
    clear BK286
    clear BK287
    clear BK295
    clear BK299
    clear BK303
    clear BK307
    clear BK315
    clear BK318
    clear HB
    have BK286 := n0_
    have BK287 := n1_
    have BK295 := n2_
    have BK299 := n3_
    have BK303 := n4_
    have BK307 := n5_
    have BK315 := n6_
    have BK318 := n7_
    have HB := n8_
    have BK325 := n9_
    have GW325 := n10_
    have GE325 := n11_
    have NB286_325 := n12_
    have NB325_286 := n13_
    have NB287_325 := n14_
    have NB325_287 := n15_
    have NB295_325 := n16_
    have NB325_295 := n17_
    have NB299_325 := n18_
    have NB325_299 := n19_
    have NB303_325 := n20_
    have NB325_303 := n21_
    have NB307_325 := n22_
    have NB325_307 := n23_
    have NB315_325 := n24_
    have NB325_315 := n25_
    have NB318_325 := n26_
    have NB325_318 := n27_
    clear n0_ n1_ n2_ n3_ n4_ n5_ n6_ n7_ n8_ n9_ n10_ n11_ n12_ n13_ n14_ n15_ n16_ n17_ n18_ n19_ n20_ n21_ n22_ n23_ n24_ n25_ n26_ n27_
    clear hb hbox hg
    refine hK.out _ _ ⟨gb325, gb326, (.pointer (some ⟨gb325, 0, none⟩)), m9_, (by rw [ha.out]; exact putSel_upk 8 hb_ rfl rfl rfl), (grz_ BK286.out), (grz_ BK287.out), (grz_ BK295.out), (grz_ BK299.out), (grz_ BK303.out), (grz_ BK307.out), (grz_ BK315.out), (grz_ BK318.out), (by repeat (first | (with_reducible first | exact HB.out | apply below_alloc | apply pw_below_drewN | apply below_drew1 | refine below_set ?_ GE286.out | refine below_set ?_ GE287.out | refine below_set ?_ GE295.out | refine below_set ?_ GE299.out | refine below_set ?_ GE303.out | refine below_set ?_ GE307.out | refine below_set ?_ GE315.out | refine below_set ?_ GE318.out | refine below_set ?_ GE325.out) | exact HB.out)), z_NB326_325, z_NB325_326, fun _ _ => (grz_ BK325.out), fun _ => GW325.out, fun _ => GE325.out, fun _ => NB286_325.out, fun _ => NB286_325.out.symm, fun _ => NB287_325.out, fun _ => NB287_325.out.symm, fun _ => NB295_325.out, fun _ => NB295_325.out.symm, fun _ => NB299_325.out, fun _ => NB299_325.out.symm, fun _ => NB303_325.out, fun _ => NB303_325.out.symm, fun _ => NB307_325.out, fun _ => NB307_325.out.symm, fun _ => NB315_325.out, fun _ => NB315_325.out.symm, fun _ => NB318_325.out, fun _ => NB318_325.out.symm, z_BK326, Q_GW326, Q_GE326, Q_NB286_326, Q_NB326_286, Q_NB287_326, Q_NB326_287, Q_NB295_326, Q_NB326_295, Q_NB299_326, Q_NB326_299, Q_NB303_326, Q_NB326_303, Q_NB307_326, Q_NB326_307, Q_NB315_326, Q_NB326_315, Q_NB318_326, Q_NB326_318, fun h0_ => absurd ((hoff 10 (by kernel_rfl)).symm.trans h0_) (by decide), fun h0_ => absurd ((hoff 11 (by kernel_rfl)).symm.trans h0_) (by decide), fun _ => rfl, Q_X9_⟩
   refine steps_cons ?_ ?_
   ·
    rintro b a w' ⟨gb325, gb326, m8_, m9_, ha, Q_BK286, Q_BK287, Q_BK295, Q_BK299, Q_BK303, Q_BK307, Q_BK315, Q_BK318, Q_HB, Q_NB326_325, Q_NB325_326, Q_BK325, Q_GW325, Q_GE325, Q_NB286_325, Q_NB325_286, Q_NB287_325, Q_NB325_287, Q_NB295_325, Q_NB325_295, Q_NB299_325, Q_NB325_299, Q_NB303_325, Q_NB325_303, Q_NB307_325, Q_NB325_307, Q_NB315_325, Q_NB325_315, Q_NB318_325, Q_NB325_318, Q_BK326, Q_GW326, Q_GE326, Q_NB286_326, Q_NB326_286, Q_NB287_326, Q_NB326_287, Q_NB295_326, Q_NB326_295, Q_NB299_326, Q_NB326_299, Q_NB303_326, Q_NB326_303, Q_NB307_326, Q_NB326_307, Q_NB315_326, Q_NB326_315, Q_NB318_326, Q_NB326_318, Q_BK325_e10, Q_BK326_e11, Q_X8_, Q_X9_⟩ hb_ hon hoff
    refine ⟨_, rfl, fun K hK => ?_⟩
    replace ha := Aside0.mk ha
    have BK286 := Aside0.mk Q_BK286
    have BK287 := Aside0.mk Q_BK287
    have BK295 := Aside0.mk Q_BK295
    have BK299 := Aside0.mk Q_BK299
    have BK303 := Aside0.mk Q_BK303
    have BK307 := Aside0.mk Q_BK307
    have BK315 := Aside0.mk Q_BK315
    have BK318 := Aside0.mk Q_BK318
    have HB := Aside0.mk Q_HB
    refine box_step ?hg (N := 27) ?hd (cs := #[.int .i64 0, .int .i64 0]) (t := 28) ?hr ?_; (case hd => rfl); (case hg => rfl); (case hr => first | (go_simp; done) | (go_simp; rfl))
    intro gb326 hg w116 hbox hb
    have n0_ := Aside0.mk (blk_below (g := gb286) (o := .cells #[.int .i64 0, .int .i64 0] 28 (0, 0)) (grz_ BK286.out) hb)
    have n1_ := Aside0.mk (blk_below (g := gb287) (o := .cells #[.int .i64 0, .int .i64 0] 28 (0, 0)) (grz_ BK287.out) hb)
    have n2_ := Aside0.mk (blk_below (g := gb295) (o := .cells #[.int .i64 t292, .int .i64 t293] 28 (0, 0)) (grz_ BK295.out) hb)
    have n3_ := Aside0.mk (blk_below (g := gb299) (o := .cells #[.int .i64 t296, .int .i64 t297] 28 (0, 0)) (grz_ BK299.out) hb)
    have n4_ := Aside0.mk (blk_below (g := gb303) (o := .cells #[.int .i64 t300, .int .i64 t301] 28 (0, 0)) (grz_ BK303.out) hb)
    have n5_ := Aside0.mk (blk_below (g := gb307) (o := .cells #[.int .i64 t304, .int .i64 t305] 28 (0, 0)) (grz_ BK307.out) hb)
    have n6_ := Aside0.mk (blk_below (g := gb315) (o := .cells #[.int .i64 t312, .int .i64 t313] 28 (0, 0)) (grz_ BK315.out) hb)
    have n7_ := Aside0.mk (blk_below (g := gb318) (o := .cells #[.int .i64 t316, .int .i64 t317] 28 (0, 0)) (grz_ BK318.out) hb)
    have n8_ := Aside0.mk (below_step (by repeat (first | (with_reducible first | exact HB.out | apply below_alloc | apply pw_below_drewN | apply below_drew1 | refine below_set ?_ GE286.out | refine below_set ?_ GE287.out | refine below_set ?_ GE295.out | refine below_set ?_ GE299.out | refine below_set ?_ GE303.out | refine below_set ?_ GE307.out | refine below_set ?_ GE315.out | refine below_set ?_ GE318.out) | exact HB.out)) hb)
    have n9_ := Aside0.mk (hbox)
    have n10_ := Aside0.mk ((by rw [hg]; exact (below_size (by repeat (first | (with_reducible first | exact HB.out | apply below_alloc | apply pw_below_drewN | apply below_drew1 | refine below_set ?_ GE286.out | refine below_set ?_ GE287.out | refine below_set ?_ GE295.out | refine below_set ?_ GE299.out | refine below_set ?_ GE303.out | refine below_set ?_ GE307.out | refine below_set ?_ GE315.out | refine below_set ?_ GE318.out) | exact HB.out))) : w.heap.size ≤ gb326))
    have n11_ := Aside0.mk ((by rw [hg]; exact (below_size (by repeat (first | (with_reducible first | exact HB.out | apply below_alloc | apply pw_below_drewN | apply below_drew1 | refine below_set ?_ GE286.out | refine below_set ?_ GE287.out | refine below_set ?_ GE295.out | refine below_set ?_ GE299.out | refine below_set ?_ GE303.out | refine below_set ?_ GE307.out | refine below_set ?_ GE315.out | refine below_set ?_ GE318.out) | exact HB.out))) : w.heap.size ≤ gb326))
    have n12_ := Aside0.mk ((by rw [hg]; exact Nat.ne_of_lt (blk_lt (g := gb286) (o := .cells #[.int .i64 0, .int .i64 0] 28 (0, 0)) (grz_ BK286.out)) : gb286 ≠ gb326))
    have n13_ := Aside0.mk ((by rw [hg]; exact Nat.ne_of_gt (blk_lt (g := gb286) (o := .cells #[.int .i64 0, .int .i64 0] 28 (0, 0)) (grz_ BK286.out)) : gb326 ≠ gb286))
    have n14_ := Aside0.mk ((by rw [hg]; exact Nat.ne_of_lt (blk_lt (g := gb287) (o := .cells #[.int .i64 0, .int .i64 0] 28 (0, 0)) (grz_ BK287.out)) : gb287 ≠ gb326))
    have n15_ := Aside0.mk ((by rw [hg]; exact Nat.ne_of_gt (blk_lt (g := gb287) (o := .cells #[.int .i64 0, .int .i64 0] 28 (0, 0)) (grz_ BK287.out)) : gb326 ≠ gb287))
    have n16_ := Aside0.mk ((by rw [hg]; exact Nat.ne_of_lt (blk_lt (g := gb295) (o := .cells #[.int .i64 t292, .int .i64 t293] 28 (0, 0)) (grz_ BK295.out)) : gb295 ≠ gb326))
    have n17_ := Aside0.mk ((by rw [hg]; exact Nat.ne_of_gt (blk_lt (g := gb295) (o := .cells #[.int .i64 t292, .int .i64 t293] 28 (0, 0)) (grz_ BK295.out)) : gb326 ≠ gb295))
    have n18_ := Aside0.mk ((by rw [hg]; exact Nat.ne_of_lt (blk_lt (g := gb299) (o := .cells #[.int .i64 t296, .int .i64 t297] 28 (0, 0)) (grz_ BK299.out)) : gb299 ≠ gb326))
    have n19_ := Aside0.mk ((by rw [hg]; exact Nat.ne_of_gt (blk_lt (g := gb299) (o := .cells #[.int .i64 t296, .int .i64 t297] 28 (0, 0)) (grz_ BK299.out)) : gb326 ≠ gb299))
    have n20_ := Aside0.mk ((by rw [hg]; exact Nat.ne_of_lt (blk_lt (g := gb303) (o := .cells #[.int .i64 t300, .int .i64 t301] 28 (0, 0)) (grz_ BK303.out)) : gb303 ≠ gb326))
    have n21_ := Aside0.mk ((by rw [hg]; exact Nat.ne_of_gt (blk_lt (g := gb303) (o := .cells #[.int .i64 t300, .int .i64 t301] 28 (0, 0)) (grz_ BK303.out)) : gb326 ≠ gb303))
    have n22_ := Aside0.mk ((by rw [hg]; exact Nat.ne_of_lt (blk_lt (g := gb307) (o := .cells #[.int .i64 t304, .int .i64 t305] 28 (0, 0)) (grz_ BK307.out)) : gb307 ≠ gb326))
    have n23_ := Aside0.mk ((by rw [hg]; exact Nat.ne_of_gt (blk_lt (g := gb307) (o := .cells #[.int .i64 t304, .int .i64 t305] 28 (0, 0)) (grz_ BK307.out)) : gb326 ≠ gb307))
    have n24_ := Aside0.mk ((by rw [hg]; exact Nat.ne_of_lt (blk_lt (g := gb315) (o := .cells #[.int .i64 t312, .int .i64 t313] 28 (0, 0)) (grz_ BK315.out)) : gb315 ≠ gb326))
    have n25_ := Aside0.mk ((by rw [hg]; exact Nat.ne_of_gt (blk_lt (g := gb315) (o := .cells #[.int .i64 t312, .int .i64 t313] 28 (0, 0)) (grz_ BK315.out)) : gb326 ≠ gb315))
    have n26_ := Aside0.mk ((by rw [hg]; exact Nat.ne_of_lt (blk_lt (g := gb318) (o := .cells #[.int .i64 t316, .int .i64 t317] 28 (0, 0)) (grz_ BK318.out)) : gb318 ≠ gb326))
    have n27_ := Aside0.mk ((by rw [hg]; exact Nat.ne_of_gt (blk_lt (g := gb318) (o := .cells #[.int .i64 t316, .int .i64 t317] 28 (0, 0)) (grz_ BK318.out)) : gb326 ≠ gb318))
    have z_NB326_325 := fun (h0_ : up b 9 8 = true) (h1_ : up b 9 9 = true) => (show gb326 ≠ gb325 from (by rw [hg]; cases hs_ : b 10 <;> (first | exact Nat.ne_of_gt (blk_lt (g := gb325) (by (with_reducible repeat (first | refine blk_drewN ?_ _ | refine blk_drew ?_ | refine blk_alloc ?_ _)); exact (Q_BK325 (show b 8 = true from h0_) hs_))) | exact Nat.ne_of_gt (blk_lt (g := gb325) (by (with_reducible repeat (first | refine blk_drewN ?_ _ | refine blk_drew ?_ | refine blk_alloc ?_ _)); exact (Q_BK325_e10 hs_))))))
    have z_NB325_326 := fun (h0_ : up b 9 8 = true) (h1_ : up b 9 9 = true) => (show gb325 ≠ gb326 from (by rw [hg]; cases hs_ : b 10 <;> (first | exact Nat.ne_of_lt (blk_lt (g := gb325) (by (with_reducible repeat (first | refine blk_drewN ?_ _ | refine blk_drew ?_ | refine blk_alloc ?_ _)); exact (Q_BK325 (show b 8 = true from h0_) hs_))) | exact Nat.ne_of_lt (blk_lt (g := gb325) (by (with_reducible repeat (first | refine blk_drewN ?_ _ | refine blk_drew ?_ | refine blk_alloc ?_ _)); exact (Q_BK325_e10 hs_))))))
    have z_BK325 := fun (h0_ : b 8 = true) (h1_ : b 10 = false) => (show w116.heap[gb325]? = some (.cells #[.int .i64 0, .int .i64 0] 28 (0, 0)) from by first | exact (blk_below (g := gb325) (o := .cells #[.int .i64 0, .int .i64 0] 28 (0, 0)) (by (with_reducible repeat (first | refine blk_drewN ?_ _ | refine blk_drew ?_ | refine blk_alloc ?_ _)); exact (Q_BK325 h0_ h1_)) hb))
    clear BK286
    clear BK287
    clear BK295
    clear BK299
    clear BK303
    clear BK307
    clear BK315
    clear BK318
    clear HB
    have BK286 := n0_
    have BK287 := n1_
    have BK295 := n2_
    have BK299 := n3_
    have BK303 := n4_
    have BK307 := n5_
    have BK315 := n6_
    have BK318 := n7_
    have HB := n8_
    have BK326 := n9_
    have GW326 := n10_
    have GE326 := n11_
    have NB286_326 := n12_
    have NB326_286 := n13_
    have NB287_326 := n14_
    have NB326_287 := n15_
    have NB295_326 := n16_
    have NB326_295 := n17_
    have NB299_326 := n18_
    have NB326_299 := n19_
    have NB303_326 := n20_
    have NB326_303 := n21_
    have NB307_326 := n22_
    have NB326_307 := n23_
    have NB315_326 := n24_
    have NB326_315 := n25_
    have NB318_326 := n26_
    have NB326_318 := n27_
    clear n0_ n1_ n2_ n3_ n4_ n5_ n6_ n7_ n8_ n9_ n10_ n11_ n12_ n13_ n14_ n15_ n16_ n17_ n18_ n19_ n20_ n21_ n22_ n23_ n24_ n25_ n26_ n27_
    clear hb hbox hg
    refine hK.out _ _ ⟨gb325, gb326, m8_, (.pointer (some ⟨gb326, 0, none⟩)), (by rw [ha.out]; exact putSel_upk 9 hb_ rfl rfl rfl), (grz_ BK286.out), (grz_ BK287.out), (grz_ BK295.out), (grz_ BK299.out), (grz_ BK303.out), (grz_ BK307.out), (grz_ BK315.out), (grz_ BK318.out), (by repeat (first | (with_reducible first | exact HB.out | apply below_alloc | apply pw_below_drewN | apply below_drew1 | refine below_set ?_ GE286.out | refine below_set ?_ GE287.out | refine below_set ?_ GE295.out | refine below_set ?_ GE299.out | refine below_set ?_ GE303.out | refine below_set ?_ GE307.out | refine below_set ?_ GE315.out | refine below_set ?_ GE318.out | refine below_set ?_ GE326.out) | exact HB.out)), z_NB326_325, z_NB325_326, z_BK325, Q_GW325, Q_GE325, Q_NB286_325, Q_NB325_286, Q_NB287_325, Q_NB325_287, Q_NB295_325, Q_NB325_295, Q_NB299_325, Q_NB325_299, Q_NB303_325, Q_NB325_303, Q_NB307_325, Q_NB325_307, Q_NB315_325, Q_NB325_315, Q_NB318_325, Q_NB325_318, fun _ _ => (grz_ BK326.out), fun _ => GW326.out, fun _ => GE326.out, fun _ => NB286_326.out, fun _ => NB286_326.out.symm, fun _ => NB287_326.out, fun _ => NB287_326.out.symm, fun _ => NB295_326.out, fun _ => NB295_326.out.symm, fun _ => NB299_326.out, fun _ => NB299_326.out.symm, fun _ => NB303_326.out, fun _ => NB303_326.out.symm, fun _ => NB307_326.out, fun _ => NB307_326.out.symm, fun _ => NB315_326.out, fun _ => NB315_326.out.symm, fun _ => NB318_326.out, fun _ => NB318_326.out.symm, fun h0_ => absurd ((hoff 10 (by kernel_rfl)).symm.trans h0_) (by decide), fun h0_ => absurd ((hoff 11 (by kernel_rfl)).symm.trans h0_) (by decide), Q_X8_, fun _ => rfl⟩
   refine steps_cons ?_ ?_
   ·
    rintro b a w' ⟨gb325, gb326, m8_, m9_, ha, Q_BK286, Q_BK287, Q_BK295, Q_BK299, Q_BK303, Q_BK307, Q_BK315, Q_BK318, Q_HB, Q_NB326_325, Q_NB325_326, Q_BK325, Q_GW325, Q_GE325, Q_NB286_325, Q_NB325_286, Q_NB287_325, Q_NB325_287, Q_NB295_325, Q_NB325_295, Q_NB299_325, Q_NB325_299, Q_NB303_325, Q_NB325_303, Q_NB307_325, Q_NB325_307, Q_NB315_325, Q_NB325_315, Q_NB318_325, Q_NB325_318, Q_BK326, Q_GW326, Q_GE326, Q_NB286_326, Q_NB326_286, Q_NB287_326, Q_NB326_287, Q_NB295_326, Q_NB326_295, Q_NB299_326, Q_NB326_299, Q_NB303_326, Q_NB326_303, Q_NB307_326, Q_NB326_307, Q_NB315_326, Q_NB326_315, Q_NB318_326, Q_NB326_318, Q_BK325_e10, Q_BK326_e11, Q_X8_, Q_X9_⟩ hb_ hon hoff
    refine ⟨_, rfl, fun K hK => ?_⟩
    have e26 : a.tmps[26]? = some (m8_) := by rw [ha]; exact putSel_on (e := (8, 26, m8_)) 8 rfl rfl (hon 8 (by kernel_rfl)) rfl
    rw [Q_X8_ (hon 8 (by kernel_rfl))] at e26
    have e78 : a.tmps[78]? = some (.agg #[.int .i64 t319, .int .i64 t320]) := by rw [ha]; exact putSel_on (e := (2, 78, .agg #[.int .i64 t319, .int .i64 t320])) 2 rfl rfl (hon 2 (by kernel_rfl)) rfl
    replace ha := Aside0.mk ha
    have BK286 := Aside0.mk Q_BK286
    have BK287 := Aside0.mk Q_BK287
    have BK295 := Aside0.mk Q_BK295
    have BK299 := Aside0.mk Q_BK299
    have BK303 := Aside0.mk Q_BK303
    have BK307 := Aside0.mk Q_BK307
    have BK315 := Aside0.mk Q_BK315
    have BK318 := Aside0.mk Q_BK318
    have HB := Aside0.mk Q_HB
    have NB326_325 := Aside0.mk (Q_NB326_325 (hon 8 (by kernel_rfl)) (hon 9 (by kernel_rfl)))
    have NB325_326 := Aside0.mk (Q_NB325_326 (hon 8 (by kernel_rfl)) (hon 9 (by kernel_rfl)))
    have BK325 := Aside0.mk (Q_BK325 (hon 8 (by kernel_rfl)) hb_)
    have GW325 := Aside0.mk (Q_GW325 (hon 8 (by kernel_rfl)))
    have GE325 := Aside0.mk (Q_GE325 (hon 8 (by kernel_rfl)))
    have NB286_325 := Aside0.mk (Q_NB286_325 (hon 8 (by kernel_rfl)))
    have NB325_286 := Aside0.mk (Q_NB325_286 (hon 8 (by kernel_rfl)))
    have NB287_325 := Aside0.mk (Q_NB287_325 (hon 8 (by kernel_rfl)))
    have NB325_287 := Aside0.mk (Q_NB325_287 (hon 8 (by kernel_rfl)))
    have NB295_325 := Aside0.mk (Q_NB295_325 (hon 8 (by kernel_rfl)))
    have NB325_295 := Aside0.mk (Q_NB325_295 (hon 8 (by kernel_rfl)))
    have NB299_325 := Aside0.mk (Q_NB299_325 (hon 8 (by kernel_rfl)))
    have NB325_299 := Aside0.mk (Q_NB325_299 (hon 8 (by kernel_rfl)))
    have NB303_325 := Aside0.mk (Q_NB303_325 (hon 8 (by kernel_rfl)))
    have NB325_303 := Aside0.mk (Q_NB325_303 (hon 8 (by kernel_rfl)))
    have NB307_325 := Aside0.mk (Q_NB307_325 (hon 8 (by kernel_rfl)))
    have NB325_307 := Aside0.mk (Q_NB325_307 (hon 8 (by kernel_rfl)))
    have NB315_325 := Aside0.mk (Q_NB315_325 (hon 8 (by kernel_rfl)))
    have NB325_315 := Aside0.mk (Q_NB325_315 (hon 8 (by kernel_rfl)))
    have NB318_325 := Aside0.mk (Q_NB318_325 (hon 8 (by kernel_rfl)))
    have NB325_318 := Aside0.mk (Q_NB325_318 (hon 8 (by kernel_rfl)))
    have BK326 := Aside0.mk (Q_BK326 (hon 9 (by kernel_rfl)) (hoff 11 (by kernel_rfl)))
    have GW326 := Aside0.mk (Q_GW326 (hon 9 (by kernel_rfl)))
    have GE326 := Aside0.mk (Q_GE326 (hon 9 (by kernel_rfl)))
    have NB286_326 := Aside0.mk (Q_NB286_326 (hon 9 (by kernel_rfl)))
    have NB326_286 := Aside0.mk (Q_NB326_286 (hon 9 (by kernel_rfl)))
    have NB287_326 := Aside0.mk (Q_NB287_326 (hon 9 (by kernel_rfl)))
    have NB326_287 := Aside0.mk (Q_NB326_287 (hon 9 (by kernel_rfl)))
    have NB295_326 := Aside0.mk (Q_NB295_326 (hon 9 (by kernel_rfl)))
    have NB326_295 := Aside0.mk (Q_NB326_295 (hon 9 (by kernel_rfl)))
    have NB299_326 := Aside0.mk (Q_NB299_326 (hon 9 (by kernel_rfl)))
    have NB326_299 := Aside0.mk (Q_NB326_299 (hon 9 (by kernel_rfl)))
    have NB303_326 := Aside0.mk (Q_NB303_326 (hon 9 (by kernel_rfl)))
    have NB326_303 := Aside0.mk (Q_NB326_303 (hon 9 (by kernel_rfl)))
    have NB307_326 := Aside0.mk (Q_NB307_326 (hon 9 (by kernel_rfl)))
    have NB326_307 := Aside0.mk (Q_NB326_307 (hon 9 (by kernel_rfl)))
    have NB315_326 := Aside0.mk (Q_NB315_326 (hon 9 (by kernel_rfl)))
    have NB326_315 := Aside0.mk (Q_NB326_315 (hon 9 (by kernel_rfl)))
    have NB318_326 := Aside0.mk (Q_NB318_326 (hon 9 (by kernel_rfl)))
    have NB326_318 := Aside0.mk (Q_NB326_318 (hon 9 (by kernel_rfl)))
    have hs122 : w'.cell? ⟨gb325, 0, none⟩ = some (.int .i64 0) := (blk_cell BK325.out 0).trans rfl
    have hfs122 := blk_frozen BK325.out 0
    have hns122_0 := NB286_325.out
    have hns122_1 := NB287_325.out
    have hns122_2 := NB295_325.out
    have hns122_3 := NB299_325.out
    have hns122_4 := NB303_325.out
    have hns122_5 := NB307_325.out
    have hns122_6 := NB315_325.out
    have hns122_7 := NB318_325.out
    have hns122_9 := NB325_326.out.symm
    have hms122_0 := NB286_325.out.symm
    have hms122_1 := NB287_325.out.symm
    have hms122_2 := NB295_325.out.symm
    have hms122_3 := NB299_325.out.symm
    have hms122_4 := NB303_325.out.symm
    have hms122_5 := NB307_325.out.symm
    have hms122_6 := NB315_325.out.symm
    have hms122_7 := NB318_325.out.symm
    have hms122_9 := NB325_326.out
    have hs123 : w'.cell? ⟨gb325, 1, none⟩ = some (.int .i64 0) := (blk_cell BK325.out 1).trans rfl
    have hfs123 := blk_frozen BK325.out 1
    have hns123_0 := NB286_325.out
    have hns123_1 := NB287_325.out
    have hns123_2 := NB295_325.out
    have hns123_3 := NB299_325.out
    have hns123_4 := NB303_325.out
    have hns123_5 := NB307_325.out
    have hns123_6 := NB315_325.out
    have hns123_7 := NB318_325.out
    have hns123_9 := NB325_326.out.symm
    have hms123_0 := NB286_325.out.symm
    have hms123_1 := NB287_325.out.symm
    have hms123_2 := NB295_325.out.symm
    have hms123_3 := NB299_325.out.symm
    have hms123_4 := NB303_325.out.symm
    have hms123_5 := NB307_325.out.symm
    have hms123_6 := NB315_325.out.symm
    have hms123_7 := NB318_325.out.symm
    have hms123_9 := NB325_326.out
    refine skip_ (w1 := ?_) (by rfl) rfl ?_ ?_
    rotate_left
    ·
     go_simp
     rfl
    refine hK.out _ _ ⟨gb325, gb326, m8_, m9_, (by rw [ha.out]; exact putSel_none (v := undef) rfl), (grz_ (blk_far (grz_ (blk_far (grz_ BK286.out) NB286_325.out _)) NB286_325.out _)), (grz_ (blk_far (grz_ (blk_far (grz_ BK287.out) NB287_325.out _)) NB287_325.out _)), (grz_ (blk_far (grz_ (blk_far (grz_ BK295.out) NB295_325.out _)) NB295_325.out _)), (grz_ (blk_far (grz_ (blk_far (grz_ BK299.out) NB299_325.out _)) NB299_325.out _)), (grz_ (blk_far (grz_ (blk_far (grz_ BK303.out) NB303_325.out _)) NB303_325.out _)), (grz_ (blk_far (grz_ (blk_far (grz_ BK307.out) NB307_325.out _)) NB307_325.out _)), (grz_ (blk_far (grz_ (blk_far (grz_ BK315.out) NB315_325.out _)) NB315_325.out _)), (grz_ (blk_far (grz_ (blk_far (grz_ BK318.out) NB318_325.out _)) NB318_325.out _)), (by repeat (first | (with_reducible first | exact HB.out | apply below_alloc | apply pw_below_drewN | apply below_drew1 | refine below_set ?_ GE286.out | refine below_set ?_ GE287.out | refine below_set ?_ GE295.out | refine below_set ?_ GE299.out | refine below_set ?_ GE303.out | refine below_set ?_ GE307.out | refine below_set ?_ GE315.out | refine below_set ?_ GE318.out | refine below_set ?_ GE325.out | refine below_set ?_ GE326.out) | exact HB.out)), fun _ _ => NB325_326.out.symm, fun _ _ => NB325_326.out, fun _ h1_ => absurd ((up_self b 10).symm.trans h1_) (by decide), fun _ => GW325.out, fun _ => GE325.out, fun _ => NB286_325.out, fun _ => NB286_325.out.symm, fun _ => NB287_325.out, fun _ => NB287_325.out.symm, fun _ => NB295_325.out, fun _ => NB295_325.out.symm, fun _ => NB299_325.out, fun _ => NB299_325.out.symm, fun _ => NB303_325.out, fun _ => NB303_325.out.symm, fun _ => NB307_325.out, fun _ => NB307_325.out.symm, fun _ => NB315_325.out, fun _ => NB315_325.out.symm, fun _ => NB318_325.out, fun _ => NB318_325.out.symm, fun _ _ => (grz_ (blk_far (grz_ (blk_far (grz_ BK326.out) NB325_326.out.symm _)) NB325_326.out.symm _)), fun _ => GW326.out, fun _ => GE326.out, fun _ => NB286_326.out, fun _ => NB286_326.out.symm, fun _ => NB287_326.out, fun _ => NB287_326.out.symm, fun _ => NB295_326.out, fun _ => NB295_326.out.symm, fun _ => NB299_326.out, fun _ => NB299_326.out.symm, fun _ => NB303_326.out, fun _ => NB303_326.out.symm, fun _ => NB307_326.out, fun _ => NB307_326.out.symm, fun _ => NB315_326.out, fun _ => NB315_326.out.symm, fun _ => NB318_326.out, fun _ => NB318_326.out.symm, fun _ => (grz_ (blk_put (cs := #[.int .i64 t319, .int .i64 0]) (grz_ (blk_put (cs := #[.int .i64 0, .int .i64 0]) (grz_ BK325.out) 0 _ rfl)) 1 _ rfl)), fun h0_ => absurd ((hoff 11 (by kernel_rfl)).symm.trans h0_) (by decide), Q_X8_, Q_X9_⟩
   refine steps_cons ?_ ?_
   ·
    rintro b a w' ⟨gb325, gb326, m8_, m9_, ha, Q_BK286, Q_BK287, Q_BK295, Q_BK299, Q_BK303, Q_BK307, Q_BK315, Q_BK318, Q_HB, Q_NB326_325, Q_NB325_326, Q_BK325, Q_GW325, Q_GE325, Q_NB286_325, Q_NB325_286, Q_NB287_325, Q_NB325_287, Q_NB295_325, Q_NB325_295, Q_NB299_325, Q_NB325_299, Q_NB303_325, Q_NB325_303, Q_NB307_325, Q_NB325_307, Q_NB315_325, Q_NB325_315, Q_NB318_325, Q_NB325_318, Q_BK326, Q_GW326, Q_GE326, Q_NB286_326, Q_NB326_286, Q_NB287_326, Q_NB326_287, Q_NB295_326, Q_NB326_295, Q_NB299_326, Q_NB326_299, Q_NB303_326, Q_NB326_303, Q_NB307_326, Q_NB326_307, Q_NB315_326, Q_NB326_315, Q_NB318_326, Q_NB326_318, Q_BK325_e10, Q_BK326_e11, Q_X8_, Q_X9_⟩ hb_ hon hoff
    refine ⟨_, rfl, fun K hK => ?_⟩
    have e27 : a.tmps[27]? = some (m9_) := by rw [ha]; exact putSel_on (e := (9, 27, m9_)) 9 rfl rfl (hon 9 (by kernel_rfl)) rfl
    rw [Q_X9_ (hon 9 (by kernel_rfl))] at e27
    have e83 : a.tmps[83]? = some (.agg #[.int .i64 t323, .int .i64 t324]) := by rw [ha]; exact putSel_on (e := (7, 83, .agg #[.int .i64 t323, .int .i64 t324])) 7 rfl rfl (hon 7 (by kernel_rfl)) rfl
    replace ha := Aside0.mk ha
    have BK286 := Aside0.mk Q_BK286
    have BK287 := Aside0.mk Q_BK287
    have BK295 := Aside0.mk Q_BK295
    have BK299 := Aside0.mk Q_BK299
    have BK303 := Aside0.mk Q_BK303
    have BK307 := Aside0.mk Q_BK307
    have BK315 := Aside0.mk Q_BK315
    have BK318 := Aside0.mk Q_BK318
    have HB := Aside0.mk Q_HB
    have NB326_325 := Aside0.mk (Q_NB326_325 (hon 8 (by kernel_rfl)) (hon 9 (by kernel_rfl)))
    have NB325_326 := Aside0.mk (Q_NB325_326 (hon 8 (by kernel_rfl)) (hon 9 (by kernel_rfl)))
    have GW325 := Aside0.mk (Q_GW325 (hon 8 (by kernel_rfl)))
    have GE325 := Aside0.mk (Q_GE325 (hon 8 (by kernel_rfl)))
    have NB286_325 := Aside0.mk (Q_NB286_325 (hon 8 (by kernel_rfl)))
    have NB325_286 := Aside0.mk (Q_NB325_286 (hon 8 (by kernel_rfl)))
    have NB287_325 := Aside0.mk (Q_NB287_325 (hon 8 (by kernel_rfl)))
    have NB325_287 := Aside0.mk (Q_NB325_287 (hon 8 (by kernel_rfl)))
    have NB295_325 := Aside0.mk (Q_NB295_325 (hon 8 (by kernel_rfl)))
    have NB325_295 := Aside0.mk (Q_NB325_295 (hon 8 (by kernel_rfl)))
    have NB299_325 := Aside0.mk (Q_NB299_325 (hon 8 (by kernel_rfl)))
    have NB325_299 := Aside0.mk (Q_NB325_299 (hon 8 (by kernel_rfl)))
    have NB303_325 := Aside0.mk (Q_NB303_325 (hon 8 (by kernel_rfl)))
    have NB325_303 := Aside0.mk (Q_NB325_303 (hon 8 (by kernel_rfl)))
    have NB307_325 := Aside0.mk (Q_NB307_325 (hon 8 (by kernel_rfl)))
    have NB325_307 := Aside0.mk (Q_NB325_307 (hon 8 (by kernel_rfl)))
    have NB315_325 := Aside0.mk (Q_NB315_325 (hon 8 (by kernel_rfl)))
    have NB325_315 := Aside0.mk (Q_NB325_315 (hon 8 (by kernel_rfl)))
    have NB318_325 := Aside0.mk (Q_NB318_325 (hon 8 (by kernel_rfl)))
    have NB325_318 := Aside0.mk (Q_NB325_318 (hon 8 (by kernel_rfl)))
    have BK326 := Aside0.mk (Q_BK326 (hon 9 (by kernel_rfl)) hb_)
    have GW326 := Aside0.mk (Q_GW326 (hon 9 (by kernel_rfl)))
    have GE326 := Aside0.mk (Q_GE326 (hon 9 (by kernel_rfl)))
    have NB286_326 := Aside0.mk (Q_NB286_326 (hon 9 (by kernel_rfl)))
    have NB326_286 := Aside0.mk (Q_NB326_286 (hon 9 (by kernel_rfl)))
    have NB287_326 := Aside0.mk (Q_NB287_326 (hon 9 (by kernel_rfl)))
    have NB326_287 := Aside0.mk (Q_NB326_287 (hon 9 (by kernel_rfl)))
    have NB295_326 := Aside0.mk (Q_NB295_326 (hon 9 (by kernel_rfl)))
    have NB326_295 := Aside0.mk (Q_NB326_295 (hon 9 (by kernel_rfl)))
    have NB299_326 := Aside0.mk (Q_NB299_326 (hon 9 (by kernel_rfl)))
    have NB326_299 := Aside0.mk (Q_NB326_299 (hon 9 (by kernel_rfl)))
    have NB303_326 := Aside0.mk (Q_NB303_326 (hon 9 (by kernel_rfl)))
    have NB326_303 := Aside0.mk (Q_NB326_303 (hon 9 (by kernel_rfl)))
    have NB307_326 := Aside0.mk (Q_NB307_326 (hon 9 (by kernel_rfl)))
    have NB326_307 := Aside0.mk (Q_NB326_307 (hon 9 (by kernel_rfl)))
    have NB315_326 := Aside0.mk (Q_NB315_326 (hon 9 (by kernel_rfl)))
    have NB326_315 := Aside0.mk (Q_NB326_315 (hon 9 (by kernel_rfl)))
    have NB318_326 := Aside0.mk (Q_NB318_326 (hon 9 (by kernel_rfl)))
    have NB326_318 := Aside0.mk (Q_NB326_318 (hon 9 (by kernel_rfl)))
    have BK325 := Aside0.mk (Q_BK325_e10 (hon 10 (by kernel_rfl)))
    have hs124 : w'.cell? ⟨gb326, 0, none⟩ = some (.int .i64 0) := (blk_cell BK326.out 0).trans rfl
    have hfs124 := blk_frozen BK326.out 0
    have hns124_0 := NB286_326.out
    have hns124_1 := NB287_326.out
    have hns124_2 := NB295_326.out
    have hns124_3 := NB299_326.out
    have hns124_4 := NB303_326.out
    have hns124_5 := NB307_326.out
    have hns124_6 := NB315_326.out
    have hns124_7 := NB318_326.out
    have hns124_8 := NB325_326.out
    have hms124_0 := NB286_326.out.symm
    have hms124_1 := NB287_326.out.symm
    have hms124_2 := NB295_326.out.symm
    have hms124_3 := NB299_326.out.symm
    have hms124_4 := NB303_326.out.symm
    have hms124_5 := NB307_326.out.symm
    have hms124_6 := NB315_326.out.symm
    have hms124_7 := NB318_326.out.symm
    have hms124_8 := NB325_326.out.symm
    have hs125 : w'.cell? ⟨gb326, 1, none⟩ = some (.int .i64 0) := (blk_cell BK326.out 1).trans rfl
    have hfs125 := blk_frozen BK326.out 1
    have hns125_0 := NB286_326.out
    have hns125_1 := NB287_326.out
    have hns125_2 := NB295_326.out
    have hns125_3 := NB299_326.out
    have hns125_4 := NB303_326.out
    have hns125_5 := NB307_326.out
    have hns125_6 := NB315_326.out
    have hns125_7 := NB318_326.out
    have hns125_8 := NB325_326.out
    have hms125_0 := NB286_326.out.symm
    have hms125_1 := NB287_326.out.symm
    have hms125_2 := NB295_326.out.symm
    have hms125_3 := NB299_326.out.symm
    have hms125_4 := NB303_326.out.symm
    have hms125_5 := NB307_326.out.symm
    have hms125_6 := NB315_326.out.symm
    have hms125_7 := NB318_326.out.symm
    have hms125_8 := NB325_326.out.symm
    refine skip_ (w1 := ?_) (by rfl) rfl ?_ ?_
    rotate_left
    ·
     go_simp
     rfl
    refine hK.out _ _ ⟨gb325, gb326, m8_, m9_, (by rw [ha.out]; exact putSel_none (v := undef) rfl), (grz_ (blk_far (grz_ (blk_far (grz_ BK286.out) NB286_326.out _)) NB286_326.out _)), (grz_ (blk_far (grz_ (blk_far (grz_ BK287.out) NB287_326.out _)) NB287_326.out _)), (grz_ (blk_far (grz_ (blk_far (grz_ BK295.out) NB295_326.out _)) NB295_326.out _)), (grz_ (blk_far (grz_ (blk_far (grz_ BK299.out) NB299_326.out _)) NB299_326.out _)), (grz_ (blk_far (grz_ (blk_far (grz_ BK303.out) NB303_326.out _)) NB303_326.out _)), (grz_ (blk_far (grz_ (blk_far (grz_ BK307.out) NB307_326.out _)) NB307_326.out _)), (grz_ (blk_far (grz_ (blk_far (grz_ BK315.out) NB315_326.out _)) NB315_326.out _)), (grz_ (blk_far (grz_ (blk_far (grz_ BK318.out) NB318_326.out _)) NB318_326.out _)), (by repeat (first | (with_reducible first | exact HB.out | apply below_alloc | apply pw_below_drewN | apply below_drew1 | refine below_set ?_ GE286.out | refine below_set ?_ GE287.out | refine below_set ?_ GE295.out | refine below_set ?_ GE299.out | refine below_set ?_ GE303.out | refine below_set ?_ GE307.out | refine below_set ?_ GE315.out | refine below_set ?_ GE318.out | refine below_set ?_ GE325.out | refine below_set ?_ GE326.out) | exact HB.out)), fun _ _ => NB325_326.out.symm, fun _ _ => NB325_326.out, fun _ h1_ => absurd ((hon 10 (by kernel_rfl)).symm.trans h1_) (by decide), fun _ => GW325.out, fun _ => GE325.out, fun _ => NB286_325.out, fun _ => NB286_325.out.symm, fun _ => NB287_325.out, fun _ => NB287_325.out.symm, fun _ => NB295_325.out, fun _ => NB295_325.out.symm, fun _ => NB299_325.out, fun _ => NB299_325.out.symm, fun _ => NB303_325.out, fun _ => NB303_325.out.symm, fun _ => NB307_325.out, fun _ => NB307_325.out.symm, fun _ => NB315_325.out, fun _ => NB315_325.out.symm, fun _ => NB318_325.out, fun _ => NB318_325.out.symm, fun _ h1_ => absurd ((up_self b 11).symm.trans h1_) (by decide), fun _ => GW326.out, fun _ => GE326.out, fun _ => NB286_326.out, fun _ => NB286_326.out.symm, fun _ => NB287_326.out, fun _ => NB287_326.out.symm, fun _ => NB295_326.out, fun _ => NB295_326.out.symm, fun _ => NB299_326.out, fun _ => NB299_326.out.symm, fun _ => NB303_326.out, fun _ => NB303_326.out.symm, fun _ => NB307_326.out, fun _ => NB307_326.out.symm, fun _ => NB315_326.out, fun _ => NB315_326.out.symm, fun _ => NB318_326.out, fun _ => NB318_326.out.symm, fun _ => (grz_ (blk_far (grz_ (blk_far (grz_ BK325.out) NB325_326.out _)) NB325_326.out _)), fun _ => (grz_ (blk_put (cs := #[.int .i64 t323, .int .i64 0]) (grz_ (blk_put (cs := #[.int .i64 0, .int .i64 0]) (grz_ BK326.out) 0 _ rfl)) 1 _ rfl)), Q_X8_, Q_X9_⟩
   exact steps_nil
  rintro b a w125 hall ⟨gb325, gb326, m8_, m9_, ha, Q_BK286, Q_BK287, Q_BK295, Q_BK299, Q_BK303, Q_BK307, Q_BK315, Q_BK318, Q_HB, Q_NB326_325, Q_NB325_326, Q_BK325, Q_GW325, Q_GE325, Q_NB286_325, Q_NB325_286, Q_NB287_325, Q_NB325_287, Q_NB295_325, Q_NB325_295, Q_NB299_325, Q_NB325_299, Q_NB303_325, Q_NB325_303, Q_NB307_325, Q_NB325_307, Q_NB315_325, Q_NB325_315, Q_NB318_325, Q_NB325_318, Q_BK326, Q_GW326, Q_GE326, Q_NB286_326, Q_NB326_286, Q_NB287_326, Q_NB326_287, Q_NB295_326, Q_NB326_295, Q_NB299_326, Q_NB326_299, Q_NB303_326, Q_NB326_303, Q_NB307_326, Q_NB326_307, Q_NB315_326, Q_NB326_315, Q_NB318_326, Q_NB326_318, Q_BK325_e10, Q_BK326_e11, Q_X8_, Q_X9_⟩
  clear BK286 BK287 BK295 BK299 BK303 BK307 BK315 BK318 HB
  have hb0_ := hall 0 (by kernel_rfl)
  have hb1_ := hall 1 (by kernel_rfl)
  have hb2_ := hall 2 (by kernel_rfl)
  have hb3_ := hall 3 (by kernel_rfl)
  have hb4_ := hall 4 (by kernel_rfl)
  have hb5_ := hall 5 (by kernel_rfl)
  have hb6_ := hall 6 (by kernel_rfl)
  have hb7_ := hall 7 (by kernel_rfl)
  have hb8_ := hall 8 (by kernel_rfl)
  have hb9_ := hall 9 (by kernel_rfl)
  have hb10_ := hall 10 (by kernel_rfl)
  have hb11_ := hall 11 (by kernel_rfl)
  subst ha
  obtain rfl := Q_X8_ hb8_
  obtain rfl := Q_X9_ hb9_
  simp only [putSel, hb0_, hb1_, hb2_, hb3_, hb4_, hb5_, hb6_, hb7_, hb8_, hb9_, hb10_, hb11_, if_true, Act.put, List.setIfInBounds_toArray, List.set_cons_zero, List.set_cons_succ]
  have BK286 := Aside0.mk Q_BK286
  clear Q_BK286
  have BK287 := Aside0.mk Q_BK287
  clear Q_BK287
  have BK295 := Aside0.mk Q_BK295
  clear Q_BK295
  have BK299 := Aside0.mk Q_BK299
  clear Q_BK299
  have BK303 := Aside0.mk Q_BK303
  clear Q_BK303
  have BK307 := Aside0.mk Q_BK307
  clear Q_BK307
  have BK315 := Aside0.mk Q_BK315
  clear Q_BK315
  have BK318 := Aside0.mk Q_BK318
  clear Q_BK318
  have HB := Aside0.mk Q_HB
  clear Q_HB
  have NB326_325 := Aside0.mk (Q_NB326_325 hb8_ hb9_)
  clear Q_NB326_325
  have NB325_326 := Aside0.mk (Q_NB325_326 hb8_ hb9_)
  clear Q_NB325_326
  clear Q_BK325
  have GW325 := Aside0.mk (Q_GW325 hb8_)
  clear Q_GW325
  have GE325 := Aside0.mk (Q_GE325 hb8_)
  clear Q_GE325
  have NB286_325 := Aside0.mk (Q_NB286_325 hb8_)
  clear Q_NB286_325
  have NB325_286 := Aside0.mk (Q_NB325_286 hb8_)
  clear Q_NB325_286
  have NB287_325 := Aside0.mk (Q_NB287_325 hb8_)
  clear Q_NB287_325
  have NB325_287 := Aside0.mk (Q_NB325_287 hb8_)
  clear Q_NB325_287
  have NB295_325 := Aside0.mk (Q_NB295_325 hb8_)
  clear Q_NB295_325
  have NB325_295 := Aside0.mk (Q_NB325_295 hb8_)
  clear Q_NB325_295
  have NB299_325 := Aside0.mk (Q_NB299_325 hb8_)
  clear Q_NB299_325
  have NB325_299 := Aside0.mk (Q_NB325_299 hb8_)
  clear Q_NB325_299
  have NB303_325 := Aside0.mk (Q_NB303_325 hb8_)
  clear Q_NB303_325
  have NB325_303 := Aside0.mk (Q_NB325_303 hb8_)
  clear Q_NB325_303
  have NB307_325 := Aside0.mk (Q_NB307_325 hb8_)
  clear Q_NB307_325
  have NB325_307 := Aside0.mk (Q_NB325_307 hb8_)
  clear Q_NB325_307
  have NB315_325 := Aside0.mk (Q_NB315_325 hb8_)
  clear Q_NB315_325
  have NB325_315 := Aside0.mk (Q_NB325_315 hb8_)
  clear Q_NB325_315
  have NB318_325 := Aside0.mk (Q_NB318_325 hb8_)
  clear Q_NB318_325
  have NB325_318 := Aside0.mk (Q_NB325_318 hb8_)
  clear Q_NB325_318
  clear Q_BK326
  have GW326 := Aside0.mk (Q_GW326 hb9_)
  clear Q_GW326
  have GE326 := Aside0.mk (Q_GE326 hb9_)
  clear Q_GE326
  have NB286_326 := Aside0.mk (Q_NB286_326 hb9_)
  clear Q_NB286_326
  have NB326_286 := Aside0.mk (Q_NB326_286 hb9_)
  clear Q_NB326_286
  have NB287_326 := Aside0.mk (Q_NB287_326 hb9_)
  clear Q_NB287_326
  have NB326_287 := Aside0.mk (Q_NB326_287 hb9_)
  clear Q_NB326_287
  have NB295_326 := Aside0.mk (Q_NB295_326 hb9_)
  clear Q_NB295_326
  have NB326_295 := Aside0.mk (Q_NB326_295 hb9_)
  clear Q_NB326_295
  have NB299_326 := Aside0.mk (Q_NB299_326 hb9_)
  clear Q_NB299_326
  have NB326_299 := Aside0.mk (Q_NB326_299 hb9_)
  clear Q_NB326_299
  have NB303_326 := Aside0.mk (Q_NB303_326 hb9_)
  clear Q_NB303_326
  have NB326_303 := Aside0.mk (Q_NB326_303 hb9_)
  clear Q_NB326_303
  have NB307_326 := Aside0.mk (Q_NB307_326 hb9_)
  clear Q_NB307_326
  have NB326_307 := Aside0.mk (Q_NB326_307 hb9_)
  clear Q_NB326_307
  have NB315_326 := Aside0.mk (Q_NB315_326 hb9_)
  clear Q_NB315_326
  have NB326_315 := Aside0.mk (Q_NB326_315 hb9_)
  clear Q_NB326_315
  have NB318_326 := Aside0.mk (Q_NB318_326 hb9_)
  clear Q_NB318_326
  have NB326_318 := Aside0.mk (Q_NB326_318 hb9_)
  clear Q_NB326_318
  have BK325 := Aside0.mk (Q_BK325_e10 hb10_)
  clear Q_BK325_e10
  have BK326 := Aside0.mk (Q_BK326_e11 hb11_)
  clear Q_BK326_e11
  clear hall hb0_ hb1_ hb2_ hb3_ hb4_ hb5_ hb6_ hb7_ hb8_ hb9_ hb10_ hb11_
  try go_wp2
  have n0_ := Aside0.mk (blk_drew BK286.out)
  have n1_ := Aside0.mk (blk_drew BK287.out)
  have n2_ := Aside0.mk (blk_drew BK295.out)
  have n3_ := Aside0.mk (blk_drew BK299.out)
  have n4_ := Aside0.mk (blk_drew BK303.out)
  have n5_ := Aside0.mk (blk_drew BK307.out)
  have n6_ := Aside0.mk (blk_drew BK315.out)
  have n7_ := Aside0.mk (blk_drew BK318.out)
  have n8_ := Aside0.mk (blk_drew BK325.out)
  have n9_ := Aside0.mk (blk_drew BK326.out)
  have n10_ := Aside0.mk (below_drew1 HB.out)
  clear BK286
  clear BK287
  clear BK295
  clear BK299
  clear BK303
  clear BK307
  clear BK315
  clear BK318
  clear BK325
  clear BK326
  clear HB
  have BK286 := n0_
  have BK287 := n1_
  have BK295 := n2_
  have BK299 := n3_
  have BK303 := n4_
  have BK307 := n5_
  have BK315 := n6_
  have BK318 := n7_
  have BK325 := n8_
  have BK326 := n9_
  have HB := n10_
  clear n0_ n1_ n2_ n3_ n4_ n5_ n6_ n7_ n8_ n9_ n10_
  refine start_ (n := 22) (S := fun w' => w'.cell? ⟨gb318, 0, none⟩ = some (.int .i64 t316) ∧ w'.cell? ⟨gb318, 1, none⟩ = some (.int .i64 t317) ∧ w'.cell? ⟨gb325, 0, none⟩ = some (.int .i64 t319) ∧ w'.cell? ⟨gb325, 1, none⟩ = some (.int .i64 t320) ∧ w'.cell? ⟨gb326, 0, none⟩ = some (.int .i64 t323) ∧ w'.cell? ⟨gb326, 1, none⟩ = some (.int .i64 t324)) (ds := []) #[false, false, false, false, false, false, false, false, false, false, false, false, false, false, false, false, false, false, false, false, false, false] (by kernel_rfl) rfl rfl ⟨(blk_cell BK318.out 0).trans rfl, (blk_cell BK318.out 1).trans rfl, (blk_cell BK325.out 0).trans rfl, (blk_cell BK325.out 1).trans rfl, (blk_cell BK326.out 0).trans rfl, (blk_cell BK326.out 1).trans rfl⟩ (fun hHeld => ?_); refine with_tabW place_Ground.tab12 place_Ground.bits12 (fun HT_ HW_ => ?_)
  generalize w125.drew = w126 at BK286 BK287 BK318 BK325 BK326 HB hHeld ⊢
  refine pure_ (i := 0) (N := some 84) (v := ?_) (a' := ?_) #[true, false, false, false, false, false, false, false, false, false, false, false, false, false, false, false, false, false, false, false, false, false] rfl rfl (any_of HT_.out (by kernel_rfl)) (fun _ _ _ h => h) (Or.inl ⟨by rfl, ?_⟩) ?_ ?_
  rotate_left
  ·
   intro w'
   go_simp
   with_reducible rfl
  rotate_left
  ·
   simp only [Act.put, List.setIfInBounds_toArray, List.set_cons_zero, List.set_cons_succ, i64_w, i32_w]
   rfl
  refine pure_ (i := 3) (N := some 87) (v := ?_) (a' := ?_) #[true, false, false, true, false, false, false, false, false, false, false, false, false, false, false, false, false, false, false, false, false, false] rfl rfl (any_of HT_.out (by kernel_rfl)) (fun _ _ _ h => h) (Or.inl ⟨by rfl, ?_⟩) ?_ ?_
  rotate_left
  ·
   intro w'
   go_simp
   with_reducible rfl
  rotate_left
  ·
   simp only [Act.put, List.setIfInBounds_toArray, List.set_cons_zero, List.set_cons_succ, i64_w, i32_w]
   rfl
  refine pure_ (i := 7) (N := some 91) (v := ?_) (a' := ?_) #[true, false, false, true, false, false, false, true, false, false, false, false, false, false, false, false, false, false, false, false, false, false] rfl rfl (any_of HT_.out (by kernel_rfl)) (fun _ _ _ h => h) (Or.inl ⟨by rfl, ?_⟩) ?_ ?_
  rotate_left
  ·
   intro w'
   go_simp
   with_reducible rfl
  rotate_left
  ·
   simp only [Act.put, List.setIfInBounds_toArray, List.set_cons_zero, List.set_cons_succ, i64_w, i32_w]
   rfl
  refine pure_ (i := 9) (N := some 93) (v := ?_) (a' := ?_) #[true, false, false, true, false, false, false, true, false, true, false, false, false, false, false, false, false, false, false, false, false, false] rfl rfl (any_of HT_.out (by kernel_rfl)) (fun _ _ _ h => h) (Or.inl ⟨by rfl, ?_⟩) ?_ ?_
  rotate_left
  ·
   intro w'
   go_simp
   with_reducible rfl
  rotate_left
  ·
   simp only [Act.put, List.setIfInBounds_toArray, List.set_cons_zero, List.set_cons_succ, i64_w, i32_w]
   rfl
  refine pure_ (i := 12) (N := some 96) (v := ?_) (a' := ?_) #[true, false, false, true, false, false, false, true, false, true, false, false, true, false, false, false, false, false, false, false, false, false] rfl rfl (any_of HT_.out (by kernel_rfl)) (fun _ _ _ h => h) (Or.inl ⟨by rfl, ?_⟩) ?_ ?_
  rotate_left
  ·
   intro w'
   go_simp
   with_reducible rfl
  rotate_left
  ·
   simp only [Act.put, List.setIfInBounds_toArray, List.set_cons_zero, List.set_cons_succ, i64_w, i32_w]
   rfl
  refine pure_ (i := 14) (N := some 98) (v := ?_) (a' := ?_) #[true, false, false, true, false, false, false, true, false, true, false, false, true, false, true, false, false, false, false, false, false, false] rfl rfl (any_of HT_.out (by kernel_rfl)) (fun _ _ _ h => h) (Or.inl ⟨by rfl, ?_⟩) ?_ ?_
  rotate_left
  ·
   intro w'
   go_simp
   with_reducible rfl
  rotate_left
  ·
   simp only [Act.put, List.setIfInBounds_toArray, List.set_cons_zero, List.set_cons_succ, i64_w, i32_w]
   rfl
  refine take_ (i := 1) (N := some 85) (v := ?_) (a' := ?_) #[true, true, false, true, false, false, false, true, false, true, false, false, true, false, true, false, false, false, false, false, false, false] rfl rfl (take_ofW HT_.out HW_.out (by kernel_rfl)) (fun _ _ _ h => h) (Or.inl ⟨by rfl, ?_⟩) hHeld ?_ ?_
  rotate_left
  ·
   rintro w' ⟨s0, s1, s2, s3, s4, s5⟩
   go_simp
   with_reducible rfl
  rotate_left
  ·
   simp only [Act.put, List.setIfInBounds_toArray, List.set_cons_zero, List.set_cons_succ, i64_w, i32_w]
   rfl
  refine pure_ (i := 2) (N := some 86) (v := ?_) (a' := ?_) #[true, true, true, true, false, false, false, true, false, true, false, false, true, false, true, false, false, false, false, false, false, false] rfl rfl (any_of HT_.out (by kernel_rfl)) (fun _ _ _ h => h) (Or.inl ⟨by rfl, ?_⟩) ?_ ?_
  rotate_left
  ·
   intro w'
   go_simp
   with_reducible rfl
  rotate_left
  ·
   simp only [Act.put, List.setIfInBounds_toArray, List.set_cons_zero, List.set_cons_succ, i64_w, i32_w]
   rfl
  refine take_ (i := 4) (N := some 88) (v := ?_) (a' := ?_) #[true, true, true, true, true, false, false, true, false, true, false, false, true, false, true, false, false, false, false, false, false, false] rfl rfl (take_ofW HT_.out HW_.out (by kernel_rfl)) (fun _ _ _ h => h) (Or.inl ⟨by rfl, ?_⟩) hHeld ?_ ?_
  rotate_left
  ·
   rintro w' ⟨s0, s1, s2, s3, s4, s5⟩
   go_simp
   with_reducible rfl
  rotate_left
  ·
   simp only [Act.put, List.setIfInBounds_toArray, List.set_cons_zero, List.set_cons_succ, i64_w, i32_w]
   rfl
  refine pure_ (i := 5) (N := some 89) (v := ?_) (a' := ?_) #[true, true, true, true, true, true, false, true, false, true, false, false, true, false, true, false, false, false, false, false, false, false] rfl rfl (any_of HT_.out (by kernel_rfl)) (fun _ _ _ h => h) (Or.inl ⟨by rfl, ?_⟩) ?_ ?_
  rotate_left
  ·
   intro w'
   go_simp
   with_reducible rfl
  rotate_left
  ·
   simp only [Act.put, List.setIfInBounds_toArray, List.set_cons_zero, List.set_cons_succ, i64_w, i32_w]
   rfl
  refine pure_ (i := 6) (N := some 90) (v := ?_) (a' := ?_) #[true, true, true, true, true, true, true, true, false, true, false, false, true, false, true, false, false, false, false, false, false, false] rfl rfl (any_of HT_.out (by kernel_rfl)) (fun _ _ _ h => h) (Or.inl ⟨by rfl, ?_⟩) ?_ ?_
  rotate_left
  ·
   intro w'
   go_simp
   with_reducible rfl
  rotate_left
  ·
   simp only [Act.put, List.setIfInBounds_toArray, List.set_cons_zero, List.set_cons_succ, i64_w, i32_w]
   rfl
  refine take_ (i := 8) (N := some 92) (v := ?_) (a' := ?_) #[true, true, true, true, true, true, true, true, true, true, false, false, true, false, true, false, false, false, false, false, false, false] rfl rfl (take_ofW HT_.out HW_.out (by kernel_rfl)) (fun _ _ _ h => h) (Or.inl ⟨by rfl, ?_⟩) hHeld ?_ ?_
  rotate_left
  ·
   rintro w' ⟨s0, s1, s2, s3, s4, s5⟩
   go_simp
   with_reducible rfl
  rotate_left
  ·
   simp only [Act.put, List.setIfInBounds_toArray, List.set_cons_zero, List.set_cons_succ, i64_w, i32_w]
   rfl
  refine take_ (i := 10) (N := some 94) (v := ?_) (a' := ?_) #[true, true, true, true, true, true, true, true, true, true, true, false, true, false, true, false, false, false, false, false, false, false] rfl rfl (take_ofW HT_.out HW_.out (by kernel_rfl)) (fun _ _ _ h => h) (Or.inl ⟨by rfl, ?_⟩) hHeld ?_ ?_
  rotate_left
  ·
   rintro w' ⟨s0, s1, s2, s3, s4, s5⟩
   go_simp
   with_reducible rfl
  rotate_left
  ·
   simp only [Act.put, List.setIfInBounds_toArray, List.set_cons_zero, List.set_cons_succ, i64_w, i32_w]
   rfl
  refine pure_ (i := 11) (N := some 95) (v := ?_) (a' := ?_) #[true, true, true, true, true, true, true, true, true, true, true, true, true, false, true, false, false, false, false, false, false, false] rfl rfl (any_of HT_.out (by kernel_rfl)) (fun _ _ _ h => h) (Or.inl ⟨by rfl, ?_⟩) ?_ ?_
  rotate_left
  ·
   intro w'
   go_simp
   with_reducible rfl
  rotate_left
  ·
   simp only [Act.put, List.setIfInBounds_toArray, List.set_cons_zero, List.set_cons_succ, i64_w, i32_w]
   rfl
  refine take_ (i := 13) (N := some 97) (v := ?_) (a' := ?_) #[true, true, true, true, true, true, true, true, true, true, true, true, true, true, true, false, false, false, false, false, false, false] rfl rfl (take_ofW HT_.out HW_.out (by kernel_rfl)) (fun _ _ _ h => h) (Or.inl ⟨by rfl, ?_⟩) hHeld ?_ ?_
  rotate_left
  ·
   rintro w' ⟨s0, s1, s2, s3, s4, s5⟩
   go_simp
   with_reducible rfl
  rotate_left
  ·
   simp only [Act.put, List.setIfInBounds_toArray, List.set_cons_zero, List.set_cons_succ, i64_w, i32_w]
   rfl
  refine take_ (i := 15) (N := some 99) (v := ?_) (a' := ?_) #[true, true, true, true, true, true, true, true, true, true, true, true, true, true, true, true, false, false, false, false, false, false] rfl rfl (take_ofW HT_.out HW_.out (by kernel_rfl)) (fun _ _ _ h => h) (Or.inl ⟨by rfl, ?_⟩) hHeld ?_ ?_
  rotate_left
  ·
   rintro w' ⟨s0, s1, s2, s3, s4, s5⟩
   go_simp
   with_reducible rfl
  rotate_left
  ·
   simp only [Act.put, List.setIfInBounds_toArray, List.set_cons_zero, List.set_cons_succ, i64_w, i32_w]
   rfl
  refine pure_ (i := 16) (N := some 100) (v := ?_) (a' := ?_) #[true, true, true, true, true, true, true, true, true, true, true, true, true, true, true, true, true, false, false, false, false, false] rfl rfl (any_of HT_.out (by kernel_rfl)) (fun _ _ _ h => h) (Or.inl ⟨by rfl, ?_⟩) ?_ ?_
  rotate_left
  ·
   intro w'
   go_simp
   with_reducible rfl
  rotate_left
  ·
   simp only [Act.put, List.setIfInBounds_toArray, List.set_cons_zero, List.set_cons_succ, i64_w, i32_w]
   rfl
  refine pure_ (i := 17) (N := some 101) (v := ?_) (a' := ?_) #[true, true, true, true, true, true, true, true, true, true, true, true, true, true, true, true, true, true, false, false, false, false] rfl rfl (any_of HT_.out (by kernel_rfl)) (fun _ _ _ h => h) (Or.inl ⟨by rfl, ?_⟩) ?_ ?_
  rotate_left
  ·
   intro w'
   go_simp
   with_reducible rfl
  rotate_left
  ·
   simp only [Act.put, List.setIfInBounds_toArray, List.set_cons_zero, List.set_cons_succ, i64_w, i32_w]
   rfl
  refine one_ (i := 18) (N := some 102) #[true, true, true, true, true, true, true, true, true, true, true, true, true, true, true, true, true, true, true, false, false, false] rfl rfl (one_of HT_.out (by kernel_rfl)) (by decide) (fun K hK => ?_)
  refine goes_ Tryd.func53 (by kernel_rfl) rfl #[.agg #[.int .i64 (wrap64 (t319 - t324)), .int .i64 (wrap64 (t320 - t323))]] (by rfl) rfl rfl (by (try simp only [List.map_toArray, List.map_cons, List.map_nil]); first | done | rfl | (simp only [List.length_drop, List.length_take]; rfl)) ?_
  with_reducible refine (sun_Clamp.calls (wrap64 (t319 - t324)) (wrap64 (t320 - t323)) t327 t328 _ A17.out).mono ?_
  rintro e w127 ⟨rfl, hb⟩
  refine ⟨_, rfl, ?_⟩
  replace BK286 := nxz_ BK286 hb
  replace BK287 := nxz_ BK287 hb
  replace BK318 := nxz_ BK318 hb
  replace BK325 := nxz_ BK325 hb
  replace BK326 := nxz_ BK326 hb
  replace HB := hxz_ HB hb
  (try clear hb)
  (try clear hb2)
  (try clear hk)
  (try clear hi)
  refine hK.out _ _ ⟨(blk_cell BK318.out 0).trans rfl, (blk_cell BK318.out 1).trans rfl, (blk_cell BK325.out 0).trans rfl, (blk_cell BK325.out 1).trans rfl, (blk_cell BK326.out 0).trans rfl, (blk_cell BK326.out 1).trans rfl⟩ (fun hHeld => ?_)
  clear hK K
  refine norm_ (a' := ?_) ?_ ?_
  rotate_left
  ·
   show Act.put _ (some 102) _ = _
   simp only [Act.put, List.setIfInBounds_toArray, List.set_cons_zero, List.set_cons_succ, i64_w, i32_w]
   rfl
  refine one_ (i := 19) (N := none) #[true, true, true, true, true, true, true, true, true, true, true, true, true, true, true, true, true, true, true, true, false, false] rfl rfl (one_of HT_.out (by kernel_rfl)) (by decide) (fun K hK => ?_)
  have hs128 : w127.cell? ⟨gb286, 0, none⟩ = some (.int .i64 0) := (blk_cell BK286.out 0).trans rfl
  have hfs128 := blk_frozen BK286.out 0
  have hns128_1 := NB286_287.out.symm
  have hns128_2 := NB286_318.out.symm
  have hns128_3 := NB286_325.out.symm
  have hns128_4 := NB286_326.out.symm
  have hms128_1 := NB286_287.out
  have hms128_2 := NB286_318.out
  have hms128_3 := NB286_325.out
  have hms128_4 := NB286_326.out
  have hs129 : w127.cell? ⟨gb286, 1, none⟩ = some (.int .i64 0) := (blk_cell BK286.out 1).trans rfl
  have hfs129 := blk_frozen BK286.out 1
  have hns129_1 := NB286_287.out.symm
  have hns129_2 := NB286_318.out.symm
  have hns129_3 := NB286_325.out.symm
  have hns129_4 := NB286_326.out.symm
  have hms129_1 := NB286_287.out
  have hms129_2 := NB286_318.out
  have hms129_3 := NB286_325.out
  have hms129_4 := NB286_326.out
  refine skip_ (w1 := ?_) (by rfl) rfl ?_ ?_
  rotate_left
  ·
   go_simp
   rfl
  refine hK.out _ _ ⟨((cell_far (p := ⟨gb286, _, none⟩) NB286_318.out.symm _).trans (((cell_far (p := ⟨gb286, _, none⟩) NB286_318.out.symm _).trans (hHeld.1)))), ((cell_far (p := ⟨gb286, _, none⟩) NB286_318.out.symm _).trans (((cell_far (p := ⟨gb286, _, none⟩) NB286_318.out.symm _).trans (hHeld.2.1)))), ((cell_far (p := ⟨gb286, _, none⟩) NB286_325.out.symm _).trans (((cell_far (p := ⟨gb286, _, none⟩) NB286_325.out.symm _).trans (hHeld.2.2.1)))), ((cell_far (p := ⟨gb286, _, none⟩) NB286_325.out.symm _).trans (((cell_far (p := ⟨gb286, _, none⟩) NB286_325.out.symm _).trans (hHeld.2.2.2.1)))), ((cell_far (p := ⟨gb286, _, none⟩) NB286_326.out.symm _).trans (((cell_far (p := ⟨gb286, _, none⟩) NB286_326.out.symm _).trans (hHeld.2.2.2.2.1)))), ((cell_far (p := ⟨gb286, _, none⟩) NB286_326.out.symm _).trans (((cell_far (p := ⟨gb286, _, none⟩) NB286_326.out.symm _).trans (hHeld.2.2.2.2.2))))⟩ (fun hHeld => ?_)
  clear hK K
  refine one_ (i := 20) (N := none) #[true, true, true, true, true, true, true, true, true, true, true, true, true, true, true, true, true, true, true, true, true, false] rfl rfl (one_of HT_.out (by kernel_rfl)) (by decide) (fun K hK => ?_)
  have hs130 : w127.cell? ⟨gb287, 0, none⟩ = some (.int .i64 0) := (blk_cell BK287.out 0).trans rfl
  have hfs130 := blk_frozen BK287.out 0
  have hns130_0 := NB286_287.out
  have hns130_2 := NB287_318.out.symm
  have hns130_3 := NB287_325.out.symm
  have hns130_4 := NB287_326.out.symm
  have hms130_0 := NB286_287.out.symm
  have hms130_2 := NB287_318.out
  have hms130_3 := NB287_325.out
  have hms130_4 := NB287_326.out
  have hs131 : w127.cell? ⟨gb287, 1, none⟩ = some (.int .i64 0) := (blk_cell BK287.out 1).trans rfl
  have hfs131 := blk_frozen BK287.out 1
  have hns131_0 := NB286_287.out
  have hns131_2 := NB287_318.out.symm
  have hns131_3 := NB287_325.out.symm
  have hns131_4 := NB287_326.out.symm
  have hms131_0 := NB286_287.out.symm
  have hms131_2 := NB287_318.out
  have hms131_3 := NB287_325.out
  have hms131_4 := NB287_326.out
  refine skip_ (w1 := ?_) (by rfl) rfl ?_ ?_
  rotate_left
  ·
   go_simp
   rfl
  refine hK.out _ _ ⟨((cell_far (p := ⟨gb287, _, none⟩) NB287_318.out.symm _).trans (((cell_far (p := ⟨gb287, _, none⟩) NB287_318.out.symm _).trans (hHeld.1)))), ((cell_far (p := ⟨gb287, _, none⟩) NB287_318.out.symm _).trans (((cell_far (p := ⟨gb287, _, none⟩) NB287_318.out.symm _).trans (hHeld.2.1)))), ((cell_far (p := ⟨gb287, _, none⟩) NB287_325.out.symm _).trans (((cell_far (p := ⟨gb287, _, none⟩) NB287_325.out.symm _).trans (hHeld.2.2.1)))), ((cell_far (p := ⟨gb287, _, none⟩) NB287_325.out.symm _).trans (((cell_far (p := ⟨gb287, _, none⟩) NB287_325.out.symm _).trans (hHeld.2.2.2.1)))), ((cell_far (p := ⟨gb287, _, none⟩) NB287_326.out.symm _).trans (((cell_far (p := ⟨gb287, _, none⟩) NB287_326.out.symm _).trans (hHeld.2.2.2.2.1)))), ((cell_far (p := ⟨gb287, _, none⟩) NB287_326.out.symm _).trans (((cell_far (p := ⟨gb287, _, none⟩) NB287_326.out.symm _).trans (hHeld.2.2.2.2.2))))⟩ (fun hHeld => ?_)
  clear hK K
  refine pure_ (i := 21) (N := some 10) (v := ?_) (a' := ?_) #[true, true, true, true, true, true, true, true, true, true, true, true, true, true, true, true, true, true, true, true, true, true] rfl rfl (any_of HT_.out (by kernel_rfl)) (fun _ _ _ h => h) (Or.inl ⟨by rfl, ?_⟩) ?_ ?_
  rotate_left
  ·
   intro w'
   go_simp
   with_reducible rfl
  rotate_left
  ·
   simp only [Act.put, List.setIfInBounds_toArray, List.set_cons_zero, List.set_cons_succ, i64_w, i32_w]
   rfl
  refine done_ (done_of HT_.out (by kernel_rfl)) ?_
  try go_wp2
  refine bodyPost_ret (results_list (rs := [.cell 8 28, .cell 9 28, .tmp 10]) rfl (by simp) (.cell gb286 28 #[.int .i64 (wrap64 (-t317)), .int .i64 (wrap64 (-t316))] (0, 0) _ rfl (grz_ (blk_far (grz_ (blk_far (grz_ (blk_put (cs := #[.int .i64 (wrap64 (-t317)), .int .i64 0]) (grz_ (blk_put (cs := #[.int .i64 0, .int .i64 0]) (grz_ BK286.out) 0 _ rfl)) 1 _ rfl)) NB286_287.out _)) NB286_287.out _)) Tryd.underlying28 rfl (by kernel_rfl) (.cell gb287 28 #[.int .i64 t327, .int .i64 t328] (0, 0) _ rfl (grz_ (blk_put (cs := #[.int .i64 t327, .int .i64 0]) (grz_ (blk_put (cs := #[.int .i64 0, .int .i64 0]) (grz_ (blk_far (grz_ (blk_far (grz_ BK287.out) NB286_287.out.symm _)) NB286_287.out.symm _)) 0 _ rfl)) 1 _ rfl)) Tryd.underlying28 rfl (by kernel_rfl) (.tmp .nil)))) rfl ?_
  exact ⟨by first | rfl | (simp [errW_none, errW_some] <;> rfl) | (simp [*, errW_none, errW_some] <;> rfl), by repeat (first | (with_reducible first | exact HB.out | apply below_alloc | apply pw_below_drewN | apply below_drew1 | refine below_set ?_ GE286.out | refine below_set ?_ GE287.out | refine below_set ?_ GE318.out | refine below_set ?_ GE325.out | refine below_set ?_ GE326.out) | exact HB.out)⟩
 ·
  rw [if_neg c6] at H
  have c6b0 : (t290 == 0) = false := beq_eq_false_iff_ne.mpr c6
  have c6b1 : (t290 != 0) = true := bne_iff_ne.mpr c6
  simp only [Option.some.injEq, Prod.mk.injEq] at H
  obtain ⟨rfl, rfl, rfl, rfl, rfl⟩ := H
  go_enter Tryd.func37, Tryd.ntmps37
  go_wp2_with (first | ((with_reducible refine gate_dst (N := 4) rfl ?_); refine box_event ?hg (N := 4) ?hd (cs := #[.int .i64 a0_0, .int .i64 a0_1]) (t := 41) ?hr ?_; (case hd => rfl); (case hg => rfl); (case hr => first | (go_simp; done) | (go_simp; rfl)); intro gb283 hg w132 hbox hb; have BK283 := Aside0.mk hbox; have GE283 := gez_ (hbz_ HB.out) hg; replace HB := hxz_ HB hb; clear hb hbox hg) | ((with_reducible refine gate_dst (N := 5) rfl ?_); refine box_event ?hg (N := 5) ?hd (cs := #[.int .i64 a1_0, .int .i64 a1_1]) (t := 28) ?hr ?_; (case hd => rfl); (case hg => rfl); (case hr => first | (go_simp; done) | (go_simp; rfl)); intro gb284 hg w133 hbox hb; have BK284 := Aside0.mk hbox; have GE284 := gez_ (hbz_ HB.out) hg; have NB283_284 := nbz_ (grz_ BK283.out) hg; replace BK283 := nxz_ BK283 hb; replace HB := hxz_ HB hb; clear hb hbox hg) | ((with_reducible refine gate_dst (N := 6) rfl ?_); refine box_event ?hg (N := 6) ?hd (cs := #[.int .i64 a2_0, .int .i64 a2_1]) (t := 28) ?hr ?_; (case hd => rfl); (case hg => rfl); (case hr => first | (go_simp; done) | (go_simp; rfl)); intro gb285 hg w134 hbox hb; have BK285 := Aside0.mk hbox; have GE285 := gez_ (hbz_ HB.out) hg; have NB283_285 := nbz_ (grz_ BK283.out) hg; have NB284_285 := nbz_ (grz_ BK284.out) hg; replace BK283 := nxz_ BK283 hb; replace BK284 := nxz_ BK284 hb; replace HB := hxz_ HB hb; clear hb hbox hg) | ((with_reducible refine gate_dst (N := 8) rfl ?_); refine box_event ?hg (N := 8) ?hd (cs := #[.int .i64 0, .int .i64 0]) (t := 28) ?hr ?_; (case hd => rfl); (case hg => rfl); (case hr => first | (go_simp; done) | (go_simp; rfl)); intro gb286 hg w135 hbox hb; have BK286 := Aside0.mk hbox; have GE286 := gez_ (hbz_ HB.out) hg; have NB283_286 := nbz_ (grz_ BK283.out) hg; have NB284_286 := nbz_ (grz_ BK284.out) hg; have NB285_286 := nbz_ (grz_ BK285.out) hg; replace BK283 := nxz_ BK283 hb; replace BK284 := nxz_ BK284 hb; replace BK285 := nxz_ BK285 hb; replace HB := hxz_ HB hb; clear hb hbox hg) | ((with_reducible refine gate_dst (N := 9) rfl ?_); refine box_event ?hg (N := 9) ?hd (cs := #[.int .i64 0, .int .i64 0]) (t := 28) ?hr ?_; (case hd => rfl); (case hg => rfl); (case hr => first | (go_simp; done) | (go_simp; rfl)); intro gb287 hg w136 hbox hb; have BK287 := Aside0.mk hbox; have GE287 := gez_ (hbz_ HB.out) hg; have NB283_287 := nbz_ (grz_ BK283.out) hg; have NB284_287 := nbz_ (grz_ BK284.out) hg; have NB285_287 := nbz_ (grz_ BK285.out) hg; have NB286_287 := nbz_ (grz_ BK286.out) hg; replace BK283 := nxz_ BK283 hb; replace BK284 := nxz_ BK284 hb; replace BK285 := nxz_ BK285 hb; replace BK286 := nxz_ BK286 hb; replace HB := hxz_ HB hb; clear hb hbox hg; have hnb137 := NB283_284.out; have hnc137 := NB283_284.out.symm; have hnb138 := NB283_285.out; have hnc138 := NB283_285.out.symm; have hnb139 := NB283_286.out; have hnc139 := NB283_286.out.symm; have hnb140 := NB283_287.out; have hnc140 := NB283_287.out.symm; have hcz141_0 : w136.cell? ⟨gb283, 0, none⟩ = some (.int .i64 a0_0) := (blk_cell BK283.out 0).trans rfl; have hcz141_1 : w136.cell? ⟨gb283, 1, none⟩ = some (.int .i64 a0_1) := (blk_cell BK283.out 1).trans rfl; have hfz141_0 := blk_frozen BK283.out 0; have hfz141_1 := blk_frozen BK283.out 1; have hnb142 := NB284_285.out; have hnc142 := NB284_285.out.symm; have hnb143 := NB284_286.out; have hnc143 := NB284_286.out.symm; have hnb144 := NB284_287.out; have hnc144 := NB284_287.out.symm; have hcz145_0 : w136.cell? ⟨gb284, 0, none⟩ = some (.int .i64 a1_0) := (blk_cell BK284.out 0).trans rfl; have hcz145_1 : w136.cell? ⟨gb284, 1, none⟩ = some (.int .i64 a1_1) := (blk_cell BK284.out 1).trans rfl; have hfz145_0 := blk_frozen BK284.out 0; have hfz145_1 := blk_frozen BK284.out 1; have hnb146 := NB285_286.out; have hnc146 := NB285_286.out.symm; have hnb147 := NB285_287.out; have hnc147 := NB285_287.out.symm; have hcz148_0 : w136.cell? ⟨gb285, 0, none⟩ = some (.int .i64 a2_0) := (blk_cell BK285.out 0).trans rfl; have hcz148_1 : w136.cell? ⟨gb285, 1, none⟩ = some (.int .i64 a2_1) := (blk_cell BK285.out 1).trans rfl; have hfz148_0 := blk_frozen BK285.out 0; have hfz148_1 := blk_frozen BK285.out 1) | ((with_reducible refine gate_callee (f := 50) rfl ?_); refine goesL_ (some 33) rfl rfl Tryd.func50 (by kernel_rfl) rfl #[.agg #[.int .i64 a0_0, .int .i64 a0_1], .agg #[.int .i64 a1_0, .int .i64 a1_1], .agg #[.int .i64 a2_0, .int .i64 a2_1], .int .i64 a3] rfl (by (try simp only [List.map_toArray, List.map_cons, List.map_nil]); first | done | rfl | (simp only [List.length_drop, List.length_take]; rfl)) ?_; (with_reducible refine (place_hour.calls k a0_0 a0_1 a1_0 a1_1 a2_0 a2_1 a3 t288 t289 t290 _ A5.out).mono ?_); rintro e w149 ⟨rfl, hb⟩; refine ⟨_, rfl, ?_⟩; replace BK283 := nxz_ BK283 hb; replace BK284 := nxz_ BK284 hb; replace BK285 := nxz_ BK285 hb; replace BK286 := nxz_ BK286 hb; replace BK287 := nxz_ BK287 hb; replace HB := hxz_ HB hb; (try clear hb); (try clear hb2); (try clear hk); (try clear hi)) | ((with_reducible refine gate_dst (N := 11) rfl ?_); refine box_event ?hg (N := 11) ?hd (cs := #[.int .i64 0, .int .i64 0]) (t := 28) ?hr ?_; (case hd => rfl); (case hg => rfl); (case hr => first | (go_simp; done) | (go_simp; rfl)); intro gb291 hg w150 hbox hb; have BK291 := Aside0.mk hbox; have GE291 := gez_ (hbz_ HB.out) hg; have NB286_291 := nbz_ (grz_ BK286.out) hg; have NB287_291 := nbz_ (grz_ BK287.out) hg; replace BK286 := nxz_ BK286 hb; replace BK287 := nxz_ BK287 hb; replace HB := hxz_ HB hb; clear hb hbox hg; have hnb151 := NB286_291.out.symm; have hnc151 := NB286_291.out; have hnb152 := NB287_291.out.symm; have hnc152 := NB287_291.out; have hcz153_0 : w150.cell? ⟨gb291, 0, none⟩ = some (.int .i64 0) := (blk_cell BK291.out 0).trans rfl; have hcz153_1 : w150.cell? ⟨gb291, 1, none⟩ = some (.int .i64 0) := (blk_cell BK291.out 1).trans rfl; have hfz153_0 := blk_frozen BK291.out 0; have hfz153_1 := blk_frozen BK291.out 1; have hnb154 := NB286_287.out; have hnc154 := NB286_287.out.symm; have hcz155_0 : w150.cell? ⟨gb286, 0, none⟩ = some (.int .i64 0) := (blk_cell BK286.out 0).trans rfl; have hcz155_1 : w150.cell? ⟨gb286, 1, none⟩ = some (.int .i64 0) := (blk_cell BK286.out 1).trans rfl; have hfz155_0 := blk_frozen BK286.out 0; have hfz155_1 := blk_frozen BK286.out 1; have hcz156_0 : w150.cell? ⟨gb287, 0, none⟩ = some (.int .i64 0) := (blk_cell BK287.out 0).trans rfl; have hcz156_1 : w150.cell? ⟨gb287, 1, none⟩ = some (.int .i64 0) := (blk_cell BK287.out 1).trans rfl; have hfz156_0 := blk_frozen BK287.out 0; have hfz156_1 := blk_frozen BK287.out 1))
  refine bodyPost_ret (results_list (rs := [.cell 8 28, .cell 9 28, .tmp 10]) rfl (by simp) (.cell gb286 28 #[.int .i64 0, .int .i64 0] (0, 0) _ rfl (grz_ (blk_far (grz_ (blk_far (grz_ (blk_put (cs := #[.int .i64 0, .int .i64 0]) (grz_ (blk_put (cs := #[.int .i64 0, .int .i64 0]) (grz_ (blk_far (grz_ (blk_far (grz_ BK286.out) NB286_291.out _)) NB286_291.out _)) 0 _ rfl)) 1 _ rfl)) NB286_287.out _)) NB286_287.out _)) Tryd.underlying28 rfl (by kernel_rfl) (.cell gb287 28 #[.int .i64 0, .int .i64 0] (0, 0) _ rfl (grz_ (blk_put (cs := #[.int .i64 0, .int .i64 0]) (grz_ (blk_put (cs := #[.int .i64 0, .int .i64 0]) (grz_ (blk_far (grz_ (blk_far (grz_ (blk_far (grz_ (blk_far (grz_ BK287.out) NB287_291.out _)) NB287_291.out _)) NB286_287.out.symm _)) NB286_287.out.symm _)) 0 _ rfl)) 1 _ rfl)) Tryd.underlying28 rfl (by kernel_rfl) (.tmp .nil)))) rfl ?_
  exact ⟨by first | rfl | (simp [errW_none, errW_some] <;> rfl) | (simp [*, errW_none, errW_some] <;> rfl), by repeat (first | (with_reducible first | exact HB.out | apply below_alloc | apply pw_below_drewN | apply below_drew1 | refine below_set ?_ GE286.out | refine below_set ?_ GE287.out | refine below_set ?_ GE291.out) | exact HB.out)⟩

end Go.Proofs.YtgmjgnojjbajdaaDoor.JR
