-- Made by a program of this session (wip/hp.py, over the kit's print) out of the translation. Not trusted: Lean checks it.
import Derived.Test.YtgmjgnojjbajdaaDoorJRx0
import Derived.Test.YtgmjgnojjbajdaaDoorJRx1
import Derived.Test.YtgmjgnojjbajdaaDoorJRx10
import Derived.Test.YtgmjgnojjbajdaaDoorJRx11
import Derived.Test.YtgmjgnojjbajdaaDoorJRx15
import Derived.Test.YtgmjgnojjbajdaaDoorJRx16
import Derived.Test.YtgmjgnojjbajdaaDoorJRx17
import Derived.Test.YtgmjgnojjbajdaaDoorJRx19
namespace Go.Proofs.YtgmjgnojjbajdaaDoor.JR
open Go.RowKit Go.Proofs.YtgmjgnojjbajdaaDoorW.PrintWords Go.Proofs.YtgmjgnojjbajdaaDoorW.PrintLast Go.Proofs.YtgmjgnojjbajdaaDoorW.PrintMore
attribute [local go_sem] max2_int min2_int max_two min_two max_three min_three max_four min_four   -- for this text's walks alone
set_option linter.unusedVariables false
set_option linter.unusedSimpArgs false

/-! ### place_Height: function 36 -/
def place_Height.T9 : Bool × List (List Nat × List Nat) := (true, [([], []), ([], []), ([0, 1], [0, 1]), ([], []), ([], []), ([3, 4, 2], [3, 4]), ([], []), ([5, 6, 5], [5, 6]), ([], []), ([], []), ([8, 2, 7, 0, 1, 2, 8, 9], [2, 8]), ([9, 7, 10, 0, 1, 2, 3, 4, 5, 6, 7, 8, 9, 10], [7, 9])])
def place_Height.B9 : List Nat := [0, 0, 3, 0, 0, 31, 0, 127, 0, 0, 1023, 2047]
theorem place_Height.tab9 : rtab .any (opsOf Tryd.f36 9) = place_Height.T9 := by kernel_rfl
theorem place_Height.bits9 : waitsOk place_Height.T9.2 place_Height.B9 = true := by kernel_rfl
set_option maxHeartbeats 8000000 in
set_option maxRecDepth 100000 in
theorem place_Height.calls (k : Nat) (a0_0 : Int) (a0_1 : Int) (a1_0 : Int) (a1_1 : Int) (a2_0 : Int) (a2_1 : Int) (a3 : Int) (r1 : Int) (r2 : Int) (r3 : Int) (w : World) (h : place_Height.f k a0_0 a0_1 a1_0 a1_1 a2_0 a2_1 a3 = some (r1, r2, r3)) :
  Calls Tryd.prog 36 #[.agg #[.int .i64 a0_0, .int .i64 a0_1], .agg #[.int .i64 a1_0, .int .i64 a1_1], .agg #[.int .i64 a2_0, .int .i64 a2_1], .int .i64 a3] w fun e w' => e = .returned (.tuple #[.agg #[.int .i64 r1, .int .i64 r2], .int .i64 r3]) ∧ Below w.heap.size w w' := by
 have hu41 := Tryd.underlying41
 have hu28 := Tryd.underlying28
 have HB := Aside0.mk (Below.refl w.heap.size w)
 have H : ((place_hour.f k a0_0 a0_1 a1_0 a1_1 a2_0 a2_1 a3).bind fun bt249 => (if bt249.2.2 = 0 then ((trig_Sin.f k a0_1).bind fun bt253 => ((trig_Cos.f k a0_1).bind fun bt257 => ((trig_SinOver.f k a2_0 a2_1).bind fun bt261 => ((trig_CosOver.f k a2_0 a2_1).bind fun bt265 => ((trig_CosOver.f k bt249.1 bt249.2.1).bind fun bt269 => ((sun_Unit.f bt253.1 bt253.2.1 bt261.1 bt261.2.1).bind fun bt273 => ((sun_Unit.f bt257.1 bt257.2.1 bt265.1 bt265.2.1).bind fun bt275 => ((sun_Unit.f bt275.1 bt275.2 bt269.1 bt269.2.1).bind fun bt277 => ((sun_Clamp.f (wrap64 (bt273.1 + bt277.1)) (wrap64 (bt273.2 + bt277.2))).bind fun bt281 => (some (bt281.1, bt281.2, 0))))))))))) else (some (0, 0, bt249.2.2)))) = some (r1, r2, r3) := h
 clear h
 replace H := Option.bind_eq_some_iff.mp H
 obtain ⟨⟨t249, t250, t251⟩, A50, H⟩ := H
 replace H : (if t251 = 0 then ((trig_Sin.f k a0_1).bind fun bt253 => ((trig_Cos.f k a0_1).bind fun bt257 => ((trig_SinOver.f k a2_0 a2_1).bind fun bt261 => ((trig_CosOver.f k a2_0 a2_1).bind fun bt265 => ((trig_CosOver.f k t249 t250).bind fun bt269 => ((sun_Unit.f bt253.1 bt253.2.1 bt261.1 bt261.2.1).bind fun bt273 => ((sun_Unit.f bt257.1 bt257.2.1 bt265.1 bt265.2.1).bind fun bt275 => ((sun_Unit.f bt275.1 bt275.2 bt269.1 bt269.2.1).bind fun bt277 => ((sun_Clamp.f (wrap64 (bt273.1 + bt277.1)) (wrap64 (bt273.2 + bt277.2))).bind fun bt281 => (some (bt281.1, bt281.2, 0))))))))))) else (some (0, 0, t251))) = some (r1, r2, r3) := H
 have A5 := Aside0.mk A50
 clear A50
 by_cases c6 : t251 = 0
 ·
  rw [if_pos c6] at H
  have c6b0 : (t251 == 0) = true := beq_iff_eq.mpr c6
  have c6b1 : (t251 != 0) = false := bne_eq_false_iff_eq.mpr c6
  clear c6
  replace H := Option.bind_eq_some_iff.mp H
  obtain ⟨⟨t253, t254, t255⟩, A70, H⟩ := H
  replace H : ((trig_Cos.f k a0_1).bind fun bt257 => ((trig_SinOver.f k a2_0 a2_1).bind fun bt261 => ((trig_CosOver.f k a2_0 a2_1).bind fun bt265 => ((trig_CosOver.f k t249 t250).bind fun bt269 => ((sun_Unit.f t253 t254 bt261.1 bt261.2.1).bind fun bt273 => ((sun_Unit.f bt257.1 bt257.2.1 bt265.1 bt265.2.1).bind fun bt275 => ((sun_Unit.f bt275.1 bt275.2 bt269.1 bt269.2.1).bind fun bt277 => ((sun_Clamp.f (wrap64 (bt273.1 + bt277.1)) (wrap64 (bt273.2 + bt277.2))).bind fun bt281 => (some (bt281.1, bt281.2, 0)))))))))) = some (r1, r2, r3) := H
  have A7 := Aside0.mk A70
  clear A70
  replace H := Option.bind_eq_some_iff.mp H
  obtain ⟨⟨t257, t258, t259⟩, A80, H⟩ := H
  replace H : ((trig_SinOver.f k a2_0 a2_1).bind fun bt261 => ((trig_CosOver.f k a2_0 a2_1).bind fun bt265 => ((trig_CosOver.f k t249 t250).bind fun bt269 => ((sun_Unit.f t253 t254 bt261.1 bt261.2.1).bind fun bt273 => ((sun_Unit.f t257 t258 bt265.1 bt265.2.1).bind fun bt275 => ((sun_Unit.f bt275.1 bt275.2 bt269.1 bt269.2.1).bind fun bt277 => ((sun_Clamp.f (wrap64 (bt273.1 + bt277.1)) (wrap64 (bt273.2 + bt277.2))).bind fun bt281 => (some (bt281.1, bt281.2, 0))))))))) = some (r1, r2, r3) := H
  have A8 := Aside0.mk A80
  clear A80
  replace H := Option.bind_eq_some_iff.mp H
  obtain ⟨⟨t261, t262, t263⟩, A90, H⟩ := H
  replace H : ((trig_CosOver.f k a2_0 a2_1).bind fun bt265 => ((trig_CosOver.f k t249 t250).bind fun bt269 => ((sun_Unit.f t253 t254 t261 t262).bind fun bt273 => ((sun_Unit.f t257 t258 bt265.1 bt265.2.1).bind fun bt275 => ((sun_Unit.f bt275.1 bt275.2 bt269.1 bt269.2.1).bind fun bt277 => ((sun_Clamp.f (wrap64 (bt273.1 + bt277.1)) (wrap64 (bt273.2 + bt277.2))).bind fun bt281 => (some (bt281.1, bt281.2, 0)))))))) = some (r1, r2, r3) := H
  have A9 := Aside0.mk A90
  clear A90
  replace H := Option.bind_eq_some_iff.mp H
  obtain ⟨⟨t265, t266, t267⟩, A100, H⟩ := H
  replace H : ((trig_CosOver.f k t249 t250).bind fun bt269 => ((sun_Unit.f t253 t254 t261 t262).bind fun bt273 => ((sun_Unit.f t257 t258 t265 t266).bind fun bt275 => ((sun_Unit.f bt275.1 bt275.2 bt269.1 bt269.2.1).bind fun bt277 => ((sun_Clamp.f (wrap64 (bt273.1 + bt277.1)) (wrap64 (bt273.2 + bt277.2))).bind fun bt281 => (some (bt281.1, bt281.2, 0))))))) = some (r1, r2, r3) := H
  have A10 := Aside0.mk A100
  clear A100
  replace H := Option.bind_eq_some_iff.mp H
  obtain ⟨⟨t269, t270, t271⟩, A110, H⟩ := H
  replace H : ((sun_Unit.f t253 t254 t261 t262).bind fun bt273 => ((sun_Unit.f t257 t258 t265 t266).bind fun bt275 => ((sun_Unit.f bt275.1 bt275.2 t269 t270).bind fun bt277 => ((sun_Clamp.f (wrap64 (bt273.1 + bt277.1)) (wrap64 (bt273.2 + bt277.2))).bind fun bt281 => (some (bt281.1, bt281.2, 0)))))) = some (r1, r2, r3) := H
  have A11 := Aside0.mk A110
  clear A110
  replace H := Option.bind_eq_some_iff.mp H
  obtain ⟨⟨t273, t274⟩, A120, H⟩ := H
  replace H : ((sun_Unit.f t257 t258 t265 t266).bind fun bt275 => ((sun_Unit.f bt275.1 bt275.2 t269 t270).bind fun bt277 => ((sun_Clamp.f (wrap64 (t273 + bt277.1)) (wrap64 (t274 + bt277.2))).bind fun bt281 => (some (bt281.1, bt281.2, 0))))) = some (r1, r2, r3) := H
  have A12 := Aside0.mk A120
  clear A120
  replace H := Option.bind_eq_some_iff.mp H
  obtain ⟨⟨t275, t276⟩, A130, H⟩ := H
  replace H : ((sun_Unit.f t275 t276 t269 t270).bind fun bt277 => ((sun_Clamp.f (wrap64 (t273 + bt277.1)) (wrap64 (t274 + bt277.2))).bind fun bt281 => (some (bt281.1, bt281.2, 0)))) = some (r1, r2, r3) := H
  have A13 := Aside0.mk A130
  clear A130
  replace H := Option.bind_eq_some_iff.mp H
  obtain ⟨⟨t277, t278⟩, A140, H⟩ := H
  replace H : ((sun_Clamp.f (wrap64 (t273 + t277)) (wrap64 (t274 + t278))).bind fun bt281 => (some (bt281.1, bt281.2, 0))) = some (r1, r2, r3) := H
  have A14 := Aside0.mk A140
  clear A140
  replace H := Option.bind_eq_some_iff.mp H
  obtain ⟨⟨t281, t282⟩, A150, H⟩ := H
  replace H : (some (t281, t282, 0)) = some (r1, r2, r3) := H
  have A15 := Aside0.mk A150
  clear A150
  simp only [Option.some.injEq, Prod.mk.injEq] at H
  obtain ⟨rfl, rfl, rfl⟩ := H
  go_enter Tryd.func36, Tryd.ntmps36
  try go_wp2_with (first | ((with_reducible refine gate_dst (N := 4) rfl ?_); refine box_event ?hg (N := 4) ?hd (cs := #[.int .i64 a0_0, .int .i64 a0_1]) (t := 41) ?hr ?_; (case hd => rfl); (case hg => rfl); (case hr => first | (go_simp; done) | (go_simp; rfl)); intro gb245 hg w16 hbox hb; have BK245 := Aside0.mk hbox; have GE245 := gez_ (hbz_ HB.out) hg; replace HB := hxz_ HB hb; clear hb hbox hg) | ((with_reducible refine gate_dst (N := 5) rfl ?_); refine box_event ?hg (N := 5) ?hd (cs := #[.int .i64 a1_0, .int .i64 a1_1]) (t := 28) ?hr ?_; (case hd => rfl); (case hg => rfl); (case hr => first | (go_simp; done) | (go_simp; rfl)); intro gb246 hg w17 hbox hb; have BK246 := Aside0.mk hbox; have GE246 := gez_ (hbz_ HB.out) hg; have NB245_246 := nbz_ (grz_ BK245.out) hg; replace BK245 := nxz_ BK245 hb; replace HB := hxz_ HB hb; clear hb hbox hg) | ((with_reducible refine gate_dst (N := 6) rfl ?_); refine box_event ?hg (N := 6) ?hd (cs := #[.int .i64 a2_0, .int .i64 a2_1]) (t := 28) ?hr ?_; (case hd => rfl); (case hg => rfl); (case hr => first | (go_simp; done) | (go_simp; rfl)); intro gb247 hg w18 hbox hb; have BK247 := Aside0.mk hbox; have GE247 := gez_ (hbz_ HB.out) hg; have NB245_247 := nbz_ (grz_ BK245.out) hg; have NB246_247 := nbz_ (grz_ BK246.out) hg; replace BK245 := nxz_ BK245 hb; replace BK246 := nxz_ BK246 hb; replace HB := hxz_ HB hb; clear hb hbox hg) | ((with_reducible refine gate_dst (N := 8) rfl ?_); refine box_event ?hg (N := 8) ?hd (cs := #[.int .i64 0, .int .i64 0]) (t := 28) ?hr ?_; (case hd => rfl); (case hg => rfl); (case hr => first | (go_simp; done) | (go_simp; rfl)); intro gb248 hg w19 hbox hb; have BK248 := Aside0.mk hbox; have GE248 := gez_ (hbz_ HB.out) hg; have NB245_248 := nbz_ (grz_ BK245.out) hg; have NB246_248 := nbz_ (grz_ BK246.out) hg; have NB247_248 := nbz_ (grz_ BK247.out) hg; replace BK245 := nxz_ BK245 hb; replace BK246 := nxz_ BK246 hb; replace BK247 := nxz_ BK247 hb; replace HB := hxz_ HB hb; clear hb hbox hg; have hnb20 := NB245_246.out; have hnc20 := NB245_246.out.symm; have hnb21 := NB245_247.out; have hnc21 := NB245_247.out.symm; have hnb22 := NB245_248.out; have hnc22 := NB245_248.out.symm; have hcz23_0 : w19.cell? ⟨gb245, 0, none⟩ = some (.int .i64 a0_0) := (blk_cell BK245.out 0).trans rfl; have hcz23_1 : w19.cell? ⟨gb245, 1, none⟩ = some (.int .i64 a0_1) := (blk_cell BK245.out 1).trans rfl; have hfz23_0 := blk_frozen BK245.out 0; have hfz23_1 := blk_frozen BK245.out 1; have hnb24 := NB246_247.out; have hnc24 := NB246_247.out.symm; have hnb25 := NB246_248.out; have hnc25 := NB246_248.out.symm; have hcz26_0 : w19.cell? ⟨gb246, 0, none⟩ = some (.int .i64 a1_0) := (blk_cell BK246.out 0).trans rfl; have hcz26_1 : w19.cell? ⟨gb246, 1, none⟩ = some (.int .i64 a1_1) := (blk_cell BK246.out 1).trans rfl; have hfz26_0 := blk_frozen BK246.out 0; have hfz26_1 := blk_frozen BK246.out 1; have hnb27 := NB247_248.out; have hnc27 := NB247_248.out.symm; have hcz28_0 : w19.cell? ⟨gb247, 0, none⟩ = some (.int .i64 a2_0) := (blk_cell BK247.out 0).trans rfl; have hcz28_1 : w19.cell? ⟨gb247, 1, none⟩ = some (.int .i64 a2_1) := (blk_cell BK247.out 1).trans rfl; have hfz28_0 := blk_frozen BK247.out 0; have hfz28_1 := blk_frozen BK247.out 1) | ((with_reducible refine gate_callee (f := 50) rfl ?_); refine goesL_ (some 29) rfl rfl Tryd.func50 (by kernel_rfl) rfl #[.agg #[.int .i64 a0_0, .int .i64 a0_1], .agg #[.int .i64 a1_0, .int .i64 a1_1], .agg #[.int .i64 a2_0, .int .i64 a2_1], .int .i64 a3] rfl (by (try simp only [List.map_toArray, List.map_cons, List.map_nil]); first | done | rfl | (simp only [List.length_drop, List.length_take]; rfl)) ?_; (with_reducible refine (place_hour.calls k a0_0 a0_1 a1_0 a1_1 a2_0 a2_1 a3 t249 t250 t251 _ A5.out).mono ?_); rintro e w29 ⟨rfl, hb⟩; refine ⟨_, rfl, ?_⟩; replace BK245 := nxz_ BK245 hb; replace BK246 := nxz_ BK246 hb; replace BK247 := nxz_ BK247 hb; replace BK248 := nxz_ BK248 hb; replace HB := hxz_ HB hb; (try clear hb); (try clear hb2); (try clear hk); (try clear hi)) | ((with_reducible refine gate_dst (N := 10) rfl ?_); refine box_event ?hg (N := 10) ?hd (cs := #[.int .i64 0, .int .i64 0]) (t := 28) ?hr ?_; (case hd => rfl); (case hg => rfl); (case hr => first | (go_simp; done) | (go_simp; rfl)); intro gb252 hg w30 hbox hb; have BK252 := Aside0.mk hbox; have GE252 := gez_ (hbz_ HB.out) hg; have NB245_252 := nbz_ (grz_ BK245.out) hg; have NB247_252 := nbz_ (grz_ BK247.out) hg; have NB248_252 := nbz_ (grz_ BK248.out) hg; replace BK245 := nxz_ BK245 hb; replace BK247 := nxz_ BK247 hb; replace BK248 := nxz_ BK248 hb; replace HB := hxz_ HB hb; clear hb hbox hg; have hnb31 := NB245_252.out.symm; have hnc31 := NB245_252.out; have hnb32 := NB247_252.out.symm; have hnc32 := NB247_252.out; have hnb33 := NB248_252.out.symm; have hnc33 := NB248_252.out; have hcz34_0 : w30.cell? ⟨gb252, 0, none⟩ = some (.int .i64 0) := (blk_cell BK252.out 0).trans rfl; have hcz34_1 : w30.cell? ⟨gb252, 1, none⟩ = some (.int .i64 0) := (blk_cell BK252.out 1).trans rfl; have hfz34_0 := blk_frozen BK252.out 0; have hfz34_1 := blk_frozen BK252.out 1; have hcz35_0 : w30.cell? ⟨gb245, 0, none⟩ = some (.int .i64 a0_0) := (blk_cell BK245.out 0).trans rfl; have hcz35_1 : w30.cell? ⟨gb245, 1, none⟩ = some (.int .i64 a0_1) := (blk_cell BK245.out 1).trans rfl; have hfz35_0 := blk_frozen BK245.out 0; have hfz35_1 := blk_frozen BK245.out 1) | ((with_reducible refine gate_callee (f := 45) rfl ?_); refine goesL_ (some 39) rfl rfl Tryd.func45 (by kernel_rfl) rfl #[.int .i64 a0_1] rfl (by (try simp only [List.map_toArray, List.map_cons, List.map_nil]); first | done | rfl | (simp only [List.length_drop, List.length_take]; rfl)) ?_; (with_reducible refine (trig_Sin.calls k a0_1 t253 t254 t255 _ A7.out).mono ?_); rintro e w36 ⟨rfl, hb⟩; refine ⟨_, rfl, ?_⟩; replace BK245 := Aside0.mk (blk_below (g := gb245) (o := .cells #[.int .i64 a0_0, .int .i64 a0_1] 41 (0, 0)) (grz_ (blk_far (grz_ (blk_far (grz_ BK245.out) NB245_252.out _)) NB245_252.out _)) hb); replace BK247 := Aside0.mk (blk_below (g := gb247) (o := .cells #[.int .i64 a2_0, .int .i64 a2_1] 28 (0, 0)) (grz_ (blk_far (grz_ (blk_far (grz_ BK247.out) NB247_252.out _)) NB247_252.out _)) hb); replace BK248 := Aside0.mk (blk_below (g := gb248) (o := .cells #[.int .i64 0, .int .i64 0] 28 (0, 0)) (grz_ (blk_far (grz_ (blk_far (grz_ BK248.out) NB248_252.out _)) NB248_252.out _)) hb); replace BK252 := Aside0.mk (blk_below (g := gb252) (o := .cells #[.int .i64 t249, .int .i64 t250] 28 (0, 0)) (grz_ (blk_put (cs := #[.int .i64 t249, .int .i64 0]) (grz_ (blk_put (cs := #[.int .i64 0, .int .i64 0]) (grz_ BK252.out) 0 _ rfl)) 1 _ rfl)) hb); replace HB := Aside0.mk (below_step (by repeat (first | (with_reducible first | exact HB.out | apply below_alloc | apply pw_below_drewN | apply below_drew1 | refine below_set ?_ GE252.out) | exact HB.out)) hb); (try clear hb); (try clear hb2); (try clear hk); (try clear hi)) | ((with_reducible refine gate_dst (N := 12) rfl ?_); refine box_event ?hg (N := 12) ?hd (cs := #[.int .i64 0, .int .i64 0]) (t := 28) ?hr ?_; (case hd => rfl); (case hg => rfl); (case hr => first | (go_simp; done) | (go_simp; rfl)); intro gb256 hg w37 hbox hb; have BK256 := Aside0.mk hbox; have GE256 := gez_ (hbz_ HB.out) hg; have NB245_256 := nbz_ (grz_ BK245.out) hg; have NB247_256 := nbz_ (grz_ BK247.out) hg; have NB248_256 := nbz_ (grz_ BK248.out) hg; have NB252_256 := nbz_ (grz_ BK252.out) hg; replace BK245 := nxz_ BK245 hb; replace BK247 := nxz_ BK247 hb; replace BK248 := nxz_ BK248 hb; replace BK252 := nxz_ BK252 hb; replace HB := hxz_ HB hb; clear hb hbox hg; have hnb38 := NB245_256.out.symm; have hnc38 := NB245_256.out; have hnb39 := NB247_256.out.symm; have hnc39 := NB247_256.out; have hnb40 := NB248_256.out.symm; have hnc40 := NB248_256.out; have hnb41 := NB252_256.out.symm; have hnc41 := NB252_256.out; have hcz42_0 : w37.cell? ⟨gb256, 0, none⟩ = some (.int .i64 0) := (blk_cell BK256.out 0).trans rfl; have hcz42_1 : w37.cell? ⟨gb256, 1, none⟩ = some (.int .i64 0) := (blk_cell BK256.out 1).trans rfl; have hfz42_0 := blk_frozen BK256.out 0; have hfz42_1 := blk_frozen BK256.out 1; have hcz43_0 : w37.cell? ⟨gb245, 0, none⟩ = some (.int .i64 a0_0) := (blk_cell BK245.out 0).trans rfl; have hcz43_1 : w37.cell? ⟨gb245, 1, none⟩ = some (.int .i64 a0_1) := (blk_cell BK245.out 1).trans rfl; have hfz43_0 := blk_frozen BK245.out 0; have hfz43_1 := blk_frozen BK245.out 1) | ((with_reducible refine gate_callee (f := 51) rfl ?_); refine goesL_ (some 45) rfl rfl Tryd.func51 (by kernel_rfl) rfl #[.int .i64 a0_1] rfl (by (try simp only [List.map_toArray, List.map_cons, List.map_nil]); first | done | rfl | (simp only [List.length_drop, List.length_take]; rfl)) ?_; (with_reducible refine (trig_Cos.calls k a0_1 t257 t258 t259 _ A8.out).mono ?_); rintro e w44 ⟨rfl, hb⟩; refine ⟨_, rfl, ?_⟩; replace BK245 := Aside0.mk (blk_below (g := gb245) (o := .cells #[.int .i64 a0_0, .int .i64 a0_1] 41 (0, 0)) (grz_ (blk_far (grz_ (blk_far (grz_ BK245.out) NB245_256.out _)) NB245_256.out _)) hb); replace BK247 := Aside0.mk (blk_below (g := gb247) (o := .cells #[.int .i64 a2_0, .int .i64 a2_1] 28 (0, 0)) (grz_ (blk_far (grz_ (blk_far (grz_ BK247.out) NB247_256.out _)) NB247_256.out _)) hb); replace BK248 := Aside0.mk (blk_below (g := gb248) (o := .cells #[.int .i64 0, .int .i64 0] 28 (0, 0)) (grz_ (blk_far (grz_ (blk_far (grz_ BK248.out) NB248_256.out _)) NB248_256.out _)) hb); replace BK252 := Aside0.mk (blk_below (g := gb252) (o := .cells #[.int .i64 t249, .int .i64 t250] 28 (0, 0)) (grz_ (blk_far (grz_ (blk_far (grz_ BK252.out) NB252_256.out _)) NB252_256.out _)) hb); replace BK256 := Aside0.mk (blk_below (g := gb256) (o := .cells #[.int .i64 t253, .int .i64 t254] 28 (0, 0)) (grz_ (blk_put (cs := #[.int .i64 t253, .int .i64 0]) (grz_ (blk_put (cs := #[.int .i64 0, .int .i64 0]) (grz_ BK256.out) 0 _ rfl)) 1 _ rfl)) hb); replace HB := Aside0.mk (below_step (by repeat (first | (with_reducible first | exact HB.out | apply below_alloc | apply pw_below_drewN | apply below_drew1 | refine below_set ?_ GE256.out) | exact HB.out)) hb); (try clear hb); (try clear hb2); (try clear hk); (try clear hi)) | ((with_reducible refine gate_dst (N := 14) rfl ?_); refine box_event ?hg (N := 14) ?hd (cs := #[.int .i64 0, .int .i64 0]) (t := 28) ?hr ?_; (case hd => rfl); (case hg => rfl); (case hr => first | (go_simp; done) | (go_simp; rfl)); intro gb260 hg w45 hbox hb; have BK260 := Aside0.mk hbox; have GE260 := gez_ (hbz_ HB.out) hg; have NB247_260 := nbz_ (grz_ BK247.out) hg; have NB248_260 := nbz_ (grz_ BK248.out) hg; have NB252_260 := nbz_ (grz_ BK252.out) hg; have NB256_260 := nbz_ (grz_ BK256.out) hg; replace BK247 := nxz_ BK247 hb; replace BK248 := nxz_ BK248 hb; replace BK252 := nxz_ BK252 hb; replace BK256 := nxz_ BK256 hb; replace HB := hxz_ HB hb; clear hb hbox hg; have hnb46 := NB247_260.out.symm; have hnc46 := NB247_260.out; have hnb47 := NB248_260.out.symm; have hnc47 := NB248_260.out; have hnb48 := NB252_260.out.symm; have hnc48 := NB252_260.out; have hnb49 := NB256_260.out.symm; have hnc49 := NB256_260.out; have hcz50_0 : w45.cell? ⟨gb260, 0, none⟩ = some (.int .i64 0) := (blk_cell BK260.out 0).trans rfl; have hcz50_1 : w45.cell? ⟨gb260, 1, none⟩ = some (.int .i64 0) := (blk_cell BK260.out 1).trans rfl; have hfz50_0 := blk_frozen BK260.out 0; have hfz50_1 := blk_frozen BK260.out 1; have hcz51_0 : w45.cell? ⟨gb247, 0, none⟩ = some (.int .i64 a2_0) := (blk_cell BK247.out 0).trans rfl; have hcz51_1 : w45.cell? ⟨gb247, 1, none⟩ = some (.int .i64 a2_1) := (blk_cell BK247.out 1).trans rfl; have hfz51_0 := blk_frozen BK247.out 0; have hfz51_1 := blk_frozen BK247.out 1) | ((with_reducible refine gate_callee (f := 30) rfl ?_); refine goesL_ (some 50) rfl rfl Tryd.func30 (by kernel_rfl) rfl #[.agg #[.int .i64 a2_0, .int .i64 a2_1]] rfl (by (try simp only [List.map_toArray, List.map_cons, List.map_nil]); first | done | rfl | (simp only [List.length_drop, List.length_take]; rfl)) ?_; (with_reducible refine (trig_SinOver.calls k a2_0 a2_1 t261 t262 t263 _ A9.out).mono ?_); rintro e w52 ⟨rfl, hb⟩; refine ⟨_, rfl, ?_⟩; replace BK247 := Aside0.mk (blk_below (g := gb247) (o := .cells #[.int .i64 a2_0, .int .i64 a2_1] 28 (0, 0)) (grz_ (blk_far (grz_ (blk_far (grz_ BK247.out) NB247_260.out _)) NB247_260.out _)) hb); replace BK248 := Aside0.mk (blk_below (g := gb248) (o := .cells #[.int .i64 0, .int .i64 0] 28 (0, 0)) (grz_ (blk_far (grz_ (blk_far (grz_ BK248.out) NB248_260.out _)) NB248_260.out _)) hb); replace BK252 := Aside0.mk (blk_below (g := gb252) (o := .cells #[.int .i64 t249, .int .i64 t250] 28 (0, 0)) (grz_ (blk_far (grz_ (blk_far (grz_ BK252.out) NB252_260.out _)) NB252_260.out _)) hb); replace BK256 := Aside0.mk (blk_below (g := gb256) (o := .cells #[.int .i64 t253, .int .i64 t254] 28 (0, 0)) (grz_ (blk_far (grz_ (blk_far (grz_ BK256.out) NB256_260.out _)) NB256_260.out _)) hb); replace BK260 := Aside0.mk (blk_below (g := gb260) (o := .cells #[.int .i64 t257, .int .i64 t258] 28 (0, 0)) (grz_ (blk_put (cs := #[.int .i64 t257, .int .i64 0]) (grz_ (blk_put (cs := #[.int .i64 0, .int .i64 0]) (grz_ BK260.out) 0 _ rfl)) 1 _ rfl)) hb); replace HB := Aside0.mk (below_step (by repeat (first | (with_reducible first | exact HB.out | apply below_alloc | apply pw_below_drewN | apply below_drew1 | refine below_set ?_ GE260.out) | exact HB.out)) hb); (try clear hb); (try clear hb2); (try clear hk); (try clear hi)) | ((with_reducible refine gate_dst (N := 16) rfl ?_); refine box_event ?hg (N := 16) ?hd (cs := #[.int .i64 0, .int .i64 0]) (t := 28) ?hr ?_; (case hd => rfl); (case hg => rfl); (case hr => first | (go_simp; done) | (go_simp; rfl)); intro gb264 hg w53 hbox hb; have BK264 := Aside0.mk hbox; have GE264 := gez_ (hbz_ HB.out) hg; have NB247_264 := nbz_ (grz_ BK247.out) hg; have NB248_264 := nbz_ (grz_ BK248.out) hg; have NB252_264 := nbz_ (grz_ BK252.out) hg; have NB256_264 := nbz_ (grz_ BK256.out) hg; have NB260_264 := nbz_ (grz_ BK260.out) hg; replace BK247 := nxz_ BK247 hb; replace BK248 := nxz_ BK248 hb; replace BK252 := nxz_ BK252 hb; replace BK256 := nxz_ BK256 hb; replace BK260 := nxz_ BK260 hb; replace HB := hxz_ HB hb; clear hb hbox hg; have hnb54 := NB247_264.out.symm; have hnc54 := NB247_264.out; have hnb55 := NB248_264.out.symm; have hnc55 := NB248_264.out; have hnb56 := NB252_264.out.symm; have hnc56 := NB252_264.out; have hnb57 := NB256_264.out.symm; have hnc57 := NB256_264.out; have hnb58 := NB260_264.out.symm; have hnc58 := NB260_264.out; have hcz59_0 : w53.cell? ⟨gb264, 0, none⟩ = some (.int .i64 0) := (blk_cell BK264.out 0).trans rfl; have hcz59_1 : w53.cell? ⟨gb264, 1, none⟩ = some (.int .i64 0) := (blk_cell BK264.out 1).trans rfl; have hfz59_0 := blk_frozen BK264.out 0; have hfz59_1 := blk_frozen BK264.out 1; have hcz60_0 : w53.cell? ⟨gb247, 0, none⟩ = some (.int .i64 a2_0) := (blk_cell BK247.out 0).trans rfl; have hcz60_1 : w53.cell? ⟨gb247, 1, none⟩ = some (.int .i64 a2_1) := (blk_cell BK247.out 1).trans rfl; have hfz60_0 := blk_frozen BK247.out 0; have hfz60_1 := blk_frozen BK247.out 1) | ((with_reducible refine gate_callee (f := 31) rfl ?_); refine goesL_ (some 55) rfl rfl Tryd.func31 (by kernel_rfl) rfl #[.agg #[.int .i64 a2_0, .int .i64 a2_1]] rfl (by (try simp only [List.map_toArray, List.map_cons, List.map_nil]); first | done | rfl | (simp only [List.length_drop, List.length_take]; rfl)) ?_; (with_reducible refine (trig_CosOver.calls k a2_0 a2_1 t265 t266 t267 _ A10.out).mono ?_); rintro e w61 ⟨rfl, hb⟩; refine ⟨_, rfl, ?_⟩; replace BK247 := Aside0.mk (blk_below (g := gb247) (o := .cells #[.int .i64 a2_0, .int .i64 a2_1] 28 (0, 0)) (grz_ (blk_far (grz_ (blk_far (grz_ BK247.out) NB247_264.out _)) NB247_264.out _)) hb); replace BK248 := Aside0.mk (blk_below (g := gb248) (o := .cells #[.int .i64 0, .int .i64 0] 28 (0, 0)) (grz_ (blk_far (grz_ (blk_far (grz_ BK248.out) NB248_264.out _)) NB248_264.out _)) hb); replace BK252 := Aside0.mk (blk_below (g := gb252) (o := .cells #[.int .i64 t249, .int .i64 t250] 28 (0, 0)) (grz_ (blk_far (grz_ (blk_far (grz_ BK252.out) NB252_264.out _)) NB252_264.out _)) hb); replace BK256 := Aside0.mk (blk_below (g := gb256) (o := .cells #[.int .i64 t253, .int .i64 t254] 28 (0, 0)) (grz_ (blk_far (grz_ (blk_far (grz_ BK256.out) NB256_264.out _)) NB256_264.out _)) hb); replace BK260 := Aside0.mk (blk_below (g := gb260) (o := .cells #[.int .i64 t257, .int .i64 t258] 28 (0, 0)) (grz_ (blk_far (grz_ (blk_far (grz_ BK260.out) NB260_264.out _)) NB260_264.out _)) hb); replace BK264 := Aside0.mk (blk_below (g := gb264) (o := .cells #[.int .i64 t261, .int .i64 t262] 28 (0, 0)) (grz_ (blk_put (cs := #[.int .i64 t261, .int .i64 0]) (grz_ (blk_put (cs := #[.int .i64 0, .int .i64 0]) (grz_ BK264.out) 0 _ rfl)) 1 _ rfl)) hb); replace HB := Aside0.mk (below_step (by repeat (first | (with_reducible first | exact HB.out | apply below_alloc | apply pw_below_drewN | apply below_drew1 | refine below_set ?_ GE264.out) | exact HB.out)) hb); (try clear hb); (try clear hb2); (try clear hk); (try clear hi)) | ((with_reducible refine gate_dst (N := 18) rfl ?_); refine box_event ?hg (N := 18) ?hd (cs := #[.int .i64 0, .int .i64 0]) (t := 28) ?hr ?_; (case hd => rfl); (case hg => rfl); (case hr => first | (go_simp; done) | (go_simp; rfl)); intro gb268 hg w62 hbox hb; have BK268 := Aside0.mk hbox; have GE268 := gez_ (hbz_ HB.out) hg; have NB248_268 := nbz_ (grz_ BK248.out) hg; have NB252_268 := nbz_ (grz_ BK252.out) hg; have NB256_268 := nbz_ (grz_ BK256.out) hg; have NB260_268 := nbz_ (grz_ BK260.out) hg; have NB264_268 := nbz_ (grz_ BK264.out) hg; replace BK248 := nxz_ BK248 hb; replace BK252 := nxz_ BK252 hb; replace BK256 := nxz_ BK256 hb; replace BK260 := nxz_ BK260 hb; replace BK264 := nxz_ BK264 hb; replace HB := hxz_ HB hb; clear hb hbox hg; have hnb63 := NB248_268.out.symm; have hnc63 := NB248_268.out; have hnb64 := NB252_268.out.symm; have hnc64 := NB252_268.out; have hnb65 := NB256_268.out.symm; have hnc65 := NB256_268.out; have hnb66 := NB260_268.out.symm; have hnc66 := NB260_268.out; have hnb67 := NB264_268.out.symm; have hnc67 := NB264_268.out; have hcz68_0 : w62.cell? ⟨gb268, 0, none⟩ = some (.int .i64 0) := (blk_cell BK268.out 0).trans rfl; have hcz68_1 : w62.cell? ⟨gb268, 1, none⟩ = some (.int .i64 0) := (blk_cell BK268.out 1).trans rfl; have hfz68_0 := blk_frozen BK268.out 0; have hfz68_1 := blk_frozen BK268.out 1; have hcz69_0 : w62.cell? ⟨gb252, 0, none⟩ = some (.int .i64 t249) := (blk_cell BK252.out 0).trans rfl; have hcz69_1 : w62.cell? ⟨gb252, 1, none⟩ = some (.int .i64 t250) := (blk_cell BK252.out 1).trans rfl; have hfz69_0 := blk_frozen BK252.out 0; have hfz69_1 := blk_frozen BK252.out 1) | ((with_reducible refine gate_callee (f := 31) rfl ?_); refine goesL_ (some 60) rfl rfl Tryd.func31 (by kernel_rfl) rfl #[.agg #[.int .i64 t249, .int .i64 t250]] rfl (by (try simp only [List.map_toArray, List.map_cons, List.map_nil]); first | done | rfl | (simp only [List.length_drop, List.length_take]; rfl)) ?_; (with_reducible refine (trig_CosOver.calls k t249 t250 t269 t270 t271 _ A11.out).mono ?_); rintro e w70 ⟨rfl, hb⟩; refine ⟨_, rfl, ?_⟩; replace BK248 := Aside0.mk (blk_below (g := gb248) (o := .cells #[.int .i64 0, .int .i64 0] 28 (0, 0)) (grz_ (blk_far (grz_ (blk_far (grz_ BK248.out) NB248_268.out _)) NB248_268.out _)) hb); replace BK252 := Aside0.mk (blk_below (g := gb252) (o := .cells #[.int .i64 t249, .int .i64 t250] 28 (0, 0)) (grz_ (blk_far (grz_ (blk_far (grz_ BK252.out) NB252_268.out _)) NB252_268.out _)) hb); replace BK256 := Aside0.mk (blk_below (g := gb256) (o := .cells #[.int .i64 t253, .int .i64 t254] 28 (0, 0)) (grz_ (blk_far (grz_ (blk_far (grz_ BK256.out) NB256_268.out _)) NB256_268.out _)) hb); replace BK260 := Aside0.mk (blk_below (g := gb260) (o := .cells #[.int .i64 t257, .int .i64 t258] 28 (0, 0)) (grz_ (blk_far (grz_ (blk_far (grz_ BK260.out) NB260_268.out _)) NB260_268.out _)) hb); replace BK264 := Aside0.mk (blk_below (g := gb264) (o := .cells #[.int .i64 t261, .int .i64 t262] 28 (0, 0)) (grz_ (blk_far (grz_ (blk_far (grz_ BK264.out) NB264_268.out _)) NB264_268.out _)) hb); replace BK268 := Aside0.mk (blk_below (g := gb268) (o := .cells #[.int .i64 t265, .int .i64 t266] 28 (0, 0)) (grz_ (blk_put (cs := #[.int .i64 t265, .int .i64 0]) (grz_ (blk_put (cs := #[.int .i64 0, .int .i64 0]) (grz_ BK268.out) 0 _ rfl)) 1 _ rfl)) hb); replace HB := Aside0.mk (below_step (by repeat (first | (with_reducible first | exact HB.out | apply below_alloc | apply pw_below_drewN | apply below_drew1 | refine below_set ?_ GE268.out) | exact HB.out)) hb); (try clear hb); (try clear hb2); (try clear hk); (try clear hi)) | ((with_reducible refine gate_dst (N := 20) rfl ?_); refine box_event ?hg (N := 20) ?hd (cs := #[.int .i64 0, .int .i64 0]) (t := 28) ?hr ?_; (case hd => rfl); (case hg => rfl); (case hr => first | (go_simp; done) | (go_simp; rfl)); intro gb272 hg w71 hbox hb; have BK272 := Aside0.mk hbox; have GE272 := gez_ (hbz_ HB.out) hg; have NB248_272 := nbz_ (grz_ BK248.out) hg; have NB256_272 := nbz_ (grz_ BK256.out) hg; have NB260_272 := nbz_ (grz_ BK260.out) hg; have NB264_272 := nbz_ (grz_ BK264.out) hg; have NB268_272 := nbz_ (grz_ BK268.out) hg; replace BK248 := nxz_ BK248 hb; replace BK256 := nxz_ BK256 hb; replace BK260 := nxz_ BK260 hb; replace BK264 := nxz_ BK264 hb; replace BK268 := nxz_ BK268 hb; replace HB := hxz_ HB hb; clear hb hbox hg; have hnb72 := NB248_272.out.symm; have hnc72 := NB248_272.out; have hnb73 := NB256_272.out.symm; have hnc73 := NB256_272.out; have hnb74 := NB260_272.out.symm; have hnc74 := NB260_272.out; have hnb75 := NB264_272.out.symm; have hnc75 := NB264_272.out; have hnb76 := NB268_272.out.symm; have hnc76 := NB268_272.out; have hcz77_0 : w71.cell? ⟨gb272, 0, none⟩ = some (.int .i64 0) := (blk_cell BK272.out 0).trans rfl; have hcz77_1 : w71.cell? ⟨gb272, 1, none⟩ = some (.int .i64 0) := (blk_cell BK272.out 1).trans rfl; have hfz77_0 := blk_frozen BK272.out 0; have hfz77_1 := blk_frozen BK272.out 1))
  have n0_ : Aside0 (((w71.setCell ⟨gb272, 0, none⟩ (.int .i64 t269)).setCell ⟨gb272, 1, none⟩ (.int .i64 t270)).heap[gb248]? = some (.cells #[.int .i64 0, .int .i64 0] 28 (0, 0))) := ⟨(grz_ (blk_far (grz_ (blk_far (grz_ BK248.out) NB248_272.out _)) NB248_272.out _))⟩
  have n1_ : Aside0 (((w71.setCell ⟨gb272, 0, none⟩ (.int .i64 t269)).setCell ⟨gb272, 1, none⟩ (.int .i64 t270)).heap[gb256]? = some (.cells #[.int .i64 t253, .int .i64 t254] 28 (0, 0))) := ⟨(grz_ (blk_far (grz_ (blk_far (grz_ BK256.out) NB256_272.out _)) NB256_272.out _))⟩
  have n2_ : Aside0 (((w71.setCell ⟨gb272, 0, none⟩ (.int .i64 t269)).setCell ⟨gb272, 1, none⟩ (.int .i64 t270)).heap[gb260]? = some (.cells #[.int .i64 t257, .int .i64 t258] 28 (0, 0))) := ⟨(grz_ (blk_far (grz_ (blk_far (grz_ BK260.out) NB260_272.out _)) NB260_272.out _))⟩
  have n3_ : Aside0 (((w71.setCell ⟨gb272, 0, none⟩ (.int .i64 t269)).setCell ⟨gb272, 1, none⟩ (.int .i64 t270)).heap[gb264]? = some (.cells #[.int .i64 t261, .int .i64 t262] 28 (0, 0))) := ⟨(grz_ (blk_far (grz_ (blk_far (grz_ BK264.out) NB264_272.out _)) NB264_272.out _))⟩
  have n4_ : Aside0 (((w71.setCell ⟨gb272, 0, none⟩ (.int .i64 t269)).setCell ⟨gb272, 1, none⟩ (.int .i64 t270)).heap[gb268]? = some (.cells #[.int .i64 t265, .int .i64 t266] 28 (0, 0))) := ⟨(grz_ (blk_far (grz_ (blk_far (grz_ BK268.out) NB268_272.out _)) NB268_272.out _))⟩
  have n5_ : Aside0 (((w71.setCell ⟨gb272, 0, none⟩ (.int .i64 t269)).setCell ⟨gb272, 1, none⟩ (.int .i64 t270)).heap[gb272]? = some (.cells #[.int .i64 t269, .int .i64 t270] 28 (0, 0))) := ⟨(grz_ (blk_put (cs := #[.int .i64 t269, .int .i64 0]) (grz_ (blk_put (cs := #[.int .i64 0, .int .i64 0]) (grz_ BK272.out) 0 _ rfl)) 1 _ rfl))⟩
  have n6_ : Aside0 (Below w.heap.size w ((w71.setCell ⟨gb272, 0, none⟩ (.int .i64 t269)).setCell ⟨gb272, 1, none⟩ (.int .i64 t270))) := ⟨by repeat (first | (with_reducible first | exact HB.out | apply below_alloc | apply pw_below_drewN | apply below_drew1 | refine below_set ?_ GE248.out | refine below_set ?_ GE256.out | refine below_set ?_ GE260.out | refine below_set ?_ GE264.out | refine below_set ?_ GE268.out | refine below_set ?_ GE272.out) | exact HB.out)⟩
  (try clear BK248)
  (try clear BK256)
  (try clear BK260)
  (try clear BK264)
  (try clear BK268)
  (try clear BK272)
  (try clear HB)
  generalize ((w71.setCell ⟨gb272, 0, none⟩ (.int .i64 t269)).setCell ⟨gb272, 1, none⟩ (.int .i64 t270)) = w78 at n0_ n1_ n2_ n3_ n4_ n5_ n6_ ⊢
  have BK248 := n0_
  have BK256 := n1_
  have BK260 := n2_
  have BK264 := n3_
  have BK268 := n4_
  have BK272 := n5_
  have HB := n6_
  clear n0_ n1_ n2_ n3_ n4_ n5_ n6_
  have n0_ := Aside0.mk (blk_drew BK248.out)
  have n1_ := Aside0.mk (blk_drew BK256.out)
  have n2_ := Aside0.mk (blk_drew BK260.out)
  have n3_ := Aside0.mk (blk_drew BK264.out)
  have n4_ := Aside0.mk (blk_drew BK268.out)
  have n5_ := Aside0.mk (blk_drew BK272.out)
  have n6_ := Aside0.mk (below_drew1 HB.out)
  clear BK248
  clear BK256
  clear BK260
  clear BK264
  clear BK268
  clear BK272
  clear HB
  have BK248 := n0_
  have BK256 := n1_
  have BK260 := n2_
  have BK264 := n3_
  have BK268 := n4_
  have BK272 := n5_
  have HB := n6_
  clear n0_ n1_ n2_ n3_ n4_ n5_ n6_
  refine start_ (n := 12) (S := fun w' => True) (ds := []) #[false, false, false, false, false, false, false, false, false, false, false, false] (by kernel_rfl) rfl rfl trivial (fun hHeld => ?_); refine with_tabW place_Height.tab9 place_Height.bits9 (fun HT_ HW_ => ?_)
  generalize w78.drew = w79 at BK248 BK256 BK260 BK264 BK268 BK272 HB hHeld ⊢
  refine inv_at [0, 1, 2, 3, 4, 5, 6, 7, 8, 9, 10, 11] (fun a0_ b a w' => ∃ (gb279 : Nat) (gb280 : Nat) (m8_ : Value) (m9_ : Value), a = putSel a0_ b [(0, 63, .agg #[.int .i64 t253, .int .i64 t254]), (1, 64, .agg #[.int .i64 t261, .int .i64 t262]), (2, 65, .agg #[.int .i64 t273, .int .i64 t274]), (3, 66, .agg #[.int .i64 t257, .int .i64 t258]), (4, 67, .agg #[.int .i64 t265, .int .i64 t266]), (5, 68, .agg #[.int .i64 t275, .int .i64 t276]), (6, 69, .agg #[.int .i64 t269, .int .i64 t270]), (7, 70, .agg #[.int .i64 t277, .int .i64 t278]), (8, 22, m8_), (9, 23, m9_)] ∧ (w'.heap[gb248]? = some (.cells #[.int .i64 0, .int .i64 0] 28 (0, 0))) ∧ (w'.heap[gb256]? = some (.cells #[.int .i64 t253, .int .i64 t254] 28 (0, 0))) ∧ (w'.heap[gb260]? = some (.cells #[.int .i64 t257, .int .i64 t258] 28 (0, 0))) ∧ (w'.heap[gb264]? = some (.cells #[.int .i64 t261, .int .i64 t262] 28 (0, 0))) ∧ (w'.heap[gb268]? = some (.cells #[.int .i64 t265, .int .i64 t266] 28 (0, 0))) ∧ (w'.heap[gb272]? = some (.cells #[.int .i64 t269, .int .i64 t270] 28 (0, 0))) ∧ (Below w.heap.size w w') ∧ (b 8 = true → b 9 = true → gb280 ≠ gb279) ∧ (b 8 = true → b 9 = true → gb279 ≠ gb280) ∧ (b 8 = true → b 10 = false → w'.heap[gb279]? = some (.cells #[.int .i64 0, .int .i64 0] 28 (0, 0))) ∧ (b 8 = true → w.heap.size ≤ gb279) ∧ (b 8 = true → w.heap.size ≤ gb279) ∧ (b 8 = true → gb248 ≠ gb279) ∧ (b 8 = true → gb279 ≠ gb248) ∧ (b 8 = true → gb256 ≠ gb279) ∧ (b 8 = true → gb279 ≠ gb256) ∧ (b 8 = true → gb260 ≠ gb279) ∧ (b 8 = true → gb279 ≠ gb260) ∧ (b 8 = true → gb264 ≠ gb279) ∧ (b 8 = true → gb279 ≠ gb264) ∧ (b 8 = true → gb268 ≠ gb279) ∧ (b 8 = true → gb279 ≠ gb268) ∧ (b 8 = true → gb272 ≠ gb279) ∧ (b 8 = true → gb279 ≠ gb272) ∧ (b 9 = true → b 11 = false → w'.heap[gb280]? = some (.cells #[.int .i64 0, .int .i64 0] 28 (0, 0))) ∧ (b 9 = true → w.heap.size ≤ gb280) ∧ (b 9 = true → w.heap.size ≤ gb280) ∧ (b 9 = true → gb248 ≠ gb280) ∧ (b 9 = true → gb280 ≠ gb248) ∧ (b 9 = true → gb256 ≠ gb280) ∧ (b 9 = true → gb280 ≠ gb256) ∧ (b 9 = true → gb260 ≠ gb280) ∧ (b 9 = true → gb280 ≠ gb260) ∧ (b 9 = true → gb264 ≠ gb280) ∧ (b 9 = true → gb280 ≠ gb264) ∧ (b 9 = true → gb268 ≠ gb280) ∧ (b 9 = true → gb280 ≠ gb268) ∧ (b 9 = true → gb272 ≠ gb280) ∧ (b 9 = true → gb280 ≠ gb272) ∧ (b 10 = true → w'.heap[gb279]? = some (.cells #[.int .i64 t273, .int .i64 t274] 28 (0, 0))) ∧ (b 11 = true → w'.heap[gb280]? = some (.cells #[.int .i64 t277, .int .i64 t278] 28 (0, 0))) ∧ (b 8 = true → (m8_ : Value) = .pointer (some ⟨gb279, 0, none⟩)) ∧ (b 9 = true → (m9_ : Value) = .pointer (some ⟨gb280, 0, none⟩))) HT_.out HW_.out (by kernel_rfl) (by kernel_rfl) ?_ ?_ ?_
  ·
   exact ⟨0, 0, .bool false, .bool false, by simp only [putSel, Bool.false_eq_true, if_false], BK248.out, BK256.out, BK260.out, BK264.out, BK268.out, BK272.out, HB.out, fun h_ => absurd h_ (by decide), fun h_ => absurd h_ (by decide), fun h_ => absurd h_ (by decide), fun h_ => absurd h_ (by decide), fun h_ => absurd h_ (by decide), fun h_ => absurd h_ (by decide), fun h_ => absurd h_ (by decide), fun h_ => absurd h_ (by decide), fun h_ => absurd h_ (by decide), fun h_ => absurd h_ (by decide), fun h_ => absurd h_ (by decide), fun h_ => absurd h_ (by decide), fun h_ => absurd h_ (by decide), fun h_ => absurd h_ (by decide), fun h_ => absurd h_ (by decide), fun h_ => absurd h_ (by decide), fun h_ => absurd h_ (by decide), fun h_ => absurd h_ (by decide), fun h_ => absurd h_ (by decide), fun h_ => absurd h_ (by decide), fun h_ => absurd h_ (by decide), fun h_ => absurd h_ (by decide), fun h_ => absurd h_ (by decide), fun h_ => absurd h_ (by decide), fun h_ => absurd h_ (by decide), fun h_ => absurd h_ (by decide), fun h_ => absurd h_ (by decide), fun h_ => absurd h_ (by decide), fun h_ => absurd h_ (by decide), fun h_ => absurd h_ (by decide), fun h_ => absurd h_ (by decide), fun h_ => absurd h_ (by decide), fun h_ => absurd h_ (by decide), fun h_ => absurd h_ (by decide), fun h_ => absurd h_ (by decide), fun h_ => absurd h_ (by decide)⟩
  ·
   skip
   clear BK248 BK256 BK260 BK264 BK268 BK272 HB
   refine steps_cons ?_ ?_
   ·
    rintro b a w' ⟨gb279, gb280, m8_, m9_, ha, Q_BK248, Q_BK256, Q_BK260, Q_BK264, Q_BK268, Q_BK272, Q_HB, Q_NB280_279, Q_NB279_280, Q_BK279, Q_GW279, Q_GE279, Q_NB248_279, Q_NB279_248, Q_NB256_279, Q_NB279_256, Q_NB260_279, Q_NB279_260, Q_NB264_279, Q_NB279_264, Q_NB268_279, Q_NB279_268, Q_NB272_279, Q_NB279_272, Q_BK280, Q_GW280, Q_GE280, Q_NB248_280, Q_NB280_248, Q_NB256_280, Q_NB280_256, Q_NB260_280, Q_NB280_260, Q_NB264_280, Q_NB280_264, Q_NB268_280, Q_NB280_268, Q_NB272_280, Q_NB280_272, Q_BK279_e10, Q_BK280_e11, Q_X8_, Q_X9_⟩ hb_ hon hoff
    refine ⟨_, rfl, fun K hK => ?_⟩
    have e12 : a.tmps[12]? = some (.pointer (some ⟨gb256, 0, none⟩)) := by rw [ha]; exact (putSel_off rfl).trans rfl
    replace ha := Aside0.mk ha
    have BK248 := Aside0.mk Q_BK248
    have BK256 := Aside0.mk Q_BK256
    have BK260 := Aside0.mk Q_BK260
    have BK264 := Aside0.mk Q_BK264
    have BK268 := Aside0.mk Q_BK268
    have BK272 := Aside0.mk Q_BK272
    have HB := Aside0.mk Q_HB
    have hc0_ : w'.cell? ⟨gb256, 0, none⟩ = some (.int .i64 t253) := (blk_cell BK256.out 0).trans rfl
    have hc1_ : w'.cell? ⟨gb256, 1, none⟩ = some (.int .i64 t254) := (blk_cell BK256.out 1).trans rfl
    refine value_ (w1 := w') (v := .agg #[.int .i64 t253, .int .i64 t254]) (by rfl) rfl ?_ ?_
    ·
     go_simp
     (try simp only [i64_w])
     try rfl
    refine hK.out _ _ ⟨gb279, gb280, m8_, m9_, (by rw [ha.out]; exact putSel_upk 0 hb_ rfl rfl rfl), Q_BK248, Q_BK256, Q_BK260, Q_BK264, Q_BK268, Q_BK272, Q_HB, Q_NB280_279, Q_NB279_280, Q_BK279, Q_GW279, Q_GE279, Q_NB248_279, Q_NB279_248, Q_NB256_279, Q_NB279_256, Q_NB260_279, Q_NB279_260, Q_NB264_279, Q_NB279_264, Q_NB268_279, Q_NB279_268, Q_NB272_279, Q_NB279_272, Q_BK280, Q_GW280, Q_GE280, Q_NB248_280, Q_NB280_248, Q_NB256_280, Q_NB280_256, Q_NB260_280, Q_NB280_260, Q_NB264_280, Q_NB280_264, Q_NB268_280, Q_NB280_268, Q_NB272_280, Q_NB280_272, fun h0_ => absurd ((hoff 10 (by kernel_rfl)).symm.trans h0_) (by decide), fun h0_ => absurd ((hoff 11 (by kernel_rfl)).symm.trans h0_) (by decide), Q_X8_, Q_X9_⟩
   refine steps_cons ?_ ?_
   ·
    rintro b a w' ⟨gb279, gb280, m8_, m9_, ha, Q_BK248, Q_BK256, Q_BK260, Q_BK264, Q_BK268, Q_BK272, Q_HB, Q_NB280_279, Q_NB279_280, Q_BK279, Q_GW279, Q_GE279, Q_NB248_279, Q_NB279_248, Q_NB256_279, Q_NB279_256, Q_NB260_279, Q_NB279_260, Q_NB264_279, Q_NB279_264, Q_NB268_279, Q_NB279_268, Q_NB272_279, Q_NB279_272, Q_BK280, Q_GW280, Q_GE280, Q_NB248_280, Q_NB280_248, Q_NB256_280, Q_NB280_256, Q_NB260_280, Q_NB280_260, Q_NB264_280, Q_NB280_264, Q_NB268_280, Q_NB280_268, Q_NB272_280, Q_NB280_272, Q_BK279_e10, Q_BK280_e11, Q_X8_, Q_X9_⟩ hb_ hon hoff
    refine ⟨_, rfl, fun K hK => ?_⟩
    have e16 : a.tmps[16]? = some (.pointer (some ⟨gb264, 0, none⟩)) := by rw [ha]; exact (putSel_off rfl).trans rfl
    replace ha := Aside0.mk ha
    have BK248 := Aside0.mk Q_BK248
    have BK256 := Aside0.mk Q_BK256
    have BK260 := Aside0.mk Q_BK260
    have BK264 := Aside0.mk Q_BK264
    have BK268 := Aside0.mk Q_BK268
    have BK272 := Aside0.mk Q_BK272
    have HB := Aside0.mk Q_HB
    have hc0_ : w'.cell? ⟨gb264, 0, none⟩ = some (.int .i64 t261) := (blk_cell BK264.out 0).trans rfl
    have hc1_ : w'.cell? ⟨gb264, 1, none⟩ = some (.int .i64 t262) := (blk_cell BK264.out 1).trans rfl
    refine value_ (w1 := w') (v := .agg #[.int .i64 t261, .int .i64 t262]) (by rfl) rfl ?_ ?_
    ·
     go_simp
     (try simp only [i64_w])
     try rfl
    refine hK.out _ _ ⟨gb279, gb280, m8_, m9_, (by rw [ha.out]; exact putSel_upk 1 hb_ rfl rfl rfl), Q_BK248, Q_BK256, Q_BK260, Q_BK264, Q_BK268, Q_BK272, Q_HB, Q_NB280_279, Q_NB279_280, Q_BK279, Q_GW279, Q_GE279, Q_NB248_279, Q_NB279_248, Q_NB256_279, Q_NB279_256, Q_NB260_279, Q_NB279_260, Q_NB264_279, Q_NB279_264, Q_NB268_279, Q_NB279_268, Q_NB272_279, Q_NB279_272, Q_BK280, Q_GW280, Q_GE280, Q_NB248_280, Q_NB280_248, Q_NB256_280, Q_NB280_256, Q_NB260_280, Q_NB280_260, Q_NB264_280, Q_NB280_264, Q_NB268_280, Q_NB280_268, Q_NB272_280, Q_NB280_272, fun h0_ => absurd ((hoff 10 (by kernel_rfl)).symm.trans h0_) (by decide), fun h0_ => absurd ((hoff 11 (by kernel_rfl)).symm.trans h0_) (by decide), Q_X8_, Q_X9_⟩
   refine steps_cons ?_ ?_
   ·
    rintro b a w' ⟨gb279, gb280, m8_, m9_, ha, Q_BK248, Q_BK256, Q_BK260, Q_BK264, Q_BK268, Q_BK272, Q_HB, Q_NB280_279, Q_NB279_280, Q_BK279, Q_GW279, Q_GE279, Q_NB248_279, Q_NB279_248, Q_NB256_279, Q_NB279_256, Q_NB260_279, Q_NB279_260, Q_NB264_279, Q_NB279_264, Q_NB268_279, Q_NB279_268, Q_NB272_279, Q_NB279_272, Q_BK280, Q_GW280, Q_GE280, Q_NB248_280, Q_NB280_248, Q_NB256_280, Q_NB280_256, Q_NB260_280, Q_NB280_260, Q_NB264_280, Q_NB280_264, Q_NB268_280, Q_NB280_268, Q_NB272_280, Q_NB280_272, Q_BK279_e10, Q_BK280_e11, Q_X8_, Q_X9_⟩ hb_ hon hoff
    refine ⟨_, rfl, fun K hK => ?_⟩
    have e63 : a.tmps[63]? = some (.agg #[.int .i64 t253, .int .i64 t254]) := by rw [ha]; exact putSel_on (e := (0, 63, .agg #[.int .i64 t253, .int .i64 t254])) 0 rfl rfl (hon 0 (by kernel_rfl)) rfl
    have e64 : a.tmps[64]? = some (.agg #[.int .i64 t261, .int .i64 t262]) := by rw [ha]; exact putSel_on (e := (1, 64, .agg #[.int .i64 t261, .int .i64 t262])) 1 rfl rfl (hon 1 (by kernel_rfl)) rfl
    replace ha := Aside0.mk ha
    have BK248 := Aside0.mk Q_BK248
    have BK256 := Aside0.mk Q_BK256
    have BK260 := Aside0.mk Q_BK260
    have BK264 := Aside0.mk Q_BK264
    have BK268 := Aside0.mk Q_BK268
    have BK272 := Aside0.mk Q_BK272
    have HB := Aside0.mk Q_HB
    refine goes_ Tryd.func52 (by kernel_rfl) rfl #[.agg #[.int .i64 t253, .int .i64 t254], .agg #[.int .i64 t261, .int .i64 t262]] (by rfl) rfl rfl (by first | (simp only [List.map_toArray, List.map_cons, List.map_nil, Act.eval, Array.getD_eq_getD_getElem?, Option.getD_some, e63, e64]; done) | (simp only [List.map_toArray, List.map_cons, List.map_nil, Act.eval, Array.getD_eq_getD_getElem?, Option.getD_some, e63, e64]; rfl)) ?_
    with_reducible refine (sun_Unit.calls t253 t254 t261 t262 t273 t274 _ A12.out).mono ?_
    rintro e w80 ⟨rfl, hb⟩
    refine ⟨_, rfl, ?_⟩
    have n0_ := Aside0.mk (blk_below (g := gb248) (o := .cells #[.int .i64 0, .int .i64 0] 28 (0, 0)) (grz_ BK248.out) hb)
    have n1_ := Aside0.mk (blk_below (g := gb256) (o := .cells #[.int .i64 t253, .int .i64 t254] 28 (0, 0)) (grz_ BK256.out) hb)
    have n2_ := Aside0.mk (blk_below (g := gb260) (o := .cells #[.int .i64 t257, .int .i64 t258] 28 (0, 0)) (grz_ BK260.out) hb)
    have n3_ := Aside0.mk (blk_below (g := gb264) (o := .cells #[.int .i64 t261, .int .i64 t262] 28 (0, 0)) (grz_ BK264.out) hb)
    have n4_ := Aside0.mk (blk_below (g := gb268) (o := .cells #[.int .i64 t265, .int .i64 t266] 28 (0, 0)) (grz_ BK268.out) hb)
    have n5_ := Aside0.mk (blk_below (g := gb272) (o := .cells #[.int .i64 t269, .int .i64 t270] 28 (0, 0)) (grz_ BK272.out) hb)
    have n6_ := Aside0.mk (below_step (by repeat (first | (with_reducible first | exact HB.out | apply below_alloc | apply pw_below_drewN | apply below_drew1 | refine below_set ?_ GE248.out | refine below_set ?_ GE256.out | refine below_set ?_ GE260.out | refine below_set ?_ GE264.out | refine below_set ?_ GE268.out | refine below_set ?_ GE272.out) | exact HB.out)) hb)
    have z_BK279 := fun (h0_ : b 8 = true) (h1_ : b 10 = false) => (show w80.heap[gb279]? = some (.cells #[.int .i64 0, .int .i64 0] 28 (0, 0)) from by first | exact (blk_below (g := gb279) (o := .cells #[.int .i64 0, .int .i64 0] 28 (0, 0)) (by (with_reducible repeat (first | refine blk_drewN ?_ _ | refine blk_drew ?_ | refine blk_alloc ?_ _)); exact (Q_BK279 h0_ h1_)) hb))
    have z_BK280 := fun (h0_ : b 9 = true) (h1_ : b 11 = false) => (show w80.heap[gb280]? = some (.cells #[.int .i64 0, .int .i64 0] 28 (0, 0)) from by first | exact (blk_below (g := gb280) (o := .cells #[.int .i64 0, .int .i64 0] 28 (0, 0)) (by (with_reducible repeat (first | refine blk_drewN ?_ _ | refine blk_drew ?_ | refine blk_alloc ?_ _)); exact (Q_BK280 h0_ h1_)) hb))
    clear BK248
    clear BK256
    clear BK260
    clear BK264
    clear BK268
    clear BK272
    clear HB
    have BK248 := n0_
    have BK256 := n1_
    have BK260 := n2_
    have BK264 := n3_
    have BK268 := n4_
    have BK272 := n5_
    have HB := n6_
    clear n0_ n1_ n2_ n3_ n4_ n5_ n6_
    (try clear hb)
    (try clear hb2)
    (try clear hk)
    (try clear hi)
    refine hK.out _ _ ⟨gb279, gb280, m8_, m9_, (by rw [ha.out]; exact putSel_upk 2 hb_ rfl rfl rfl), (grz_ BK248.out), (grz_ BK256.out), (grz_ BK260.out), (grz_ BK264.out), (grz_ BK268.out), (grz_ BK272.out), (by repeat (first | (with_reducible first | exact HB.out | apply below_alloc | apply pw_below_drewN | apply below_drew1 | refine below_set ?_ GE248.out | refine below_set ?_ GE256.out | refine below_set ?_ GE260.out | refine below_set ?_ GE264.out | refine below_set ?_ GE268.out | refine below_set ?_ GE272.out) | exact HB.out)), Q_NB280_279, Q_NB279_280, z_BK279, Q_GW279, Q_GE279, Q_NB248_279, Q_NB279_248, Q_NB256_279, Q_NB279_256, Q_NB260_279, Q_NB279_260, Q_NB264_279, Q_NB279_264, Q_NB268_279, Q_NB279_268, Q_NB272_279, Q_NB279_272, z_BK280, Q_GW280, Q_GE280, Q_NB248_280, Q_NB280_248, Q_NB256_280, Q_NB280_256, Q_NB260_280, Q_NB280_260, Q_NB264_280, Q_NB280_264, Q_NB268_280, Q_NB280_268, Q_NB272_280, Q_NB280_272, fun h0_ => absurd ((hoff 10 (by kernel_rfl)).symm.trans h0_) (by decide), fun h0_ => absurd ((hoff 11 (by kernel_rfl)).symm.trans h0_) (by decide), Q_X8_, Q_X9_⟩
   refine steps_cons ?_ ?_
   ·
    rintro b a w' ⟨gb279, gb280, m8_, m9_, ha, Q_BK248, Q_BK256, Q_BK260, Q_BK264, Q_BK268, Q_BK272, Q_HB, Q_NB280_279, Q_NB279_280, Q_BK279, Q_GW279, Q_GE279, Q_NB248_279, Q_NB279_248, Q_NB256_279, Q_NB279_256, Q_NB260_279, Q_NB279_260, Q_NB264_279, Q_NB279_264, Q_NB268_279, Q_NB279_268, Q_NB272_279, Q_NB279_272, Q_BK280, Q_GW280, Q_GE280, Q_NB248_280, Q_NB280_248, Q_NB256_280, Q_NB280_256, Q_NB260_280, Q_NB280_260, Q_NB264_280, Q_NB280_264, Q_NB268_280, Q_NB280_268, Q_NB272_280, Q_NB280_272, Q_BK279_e10, Q_BK280_e11, Q_X8_, Q_X9_⟩ hb_ hon hoff
    refine ⟨_, rfl, fun K hK => ?_⟩
    have e14 : a.tmps[14]? = some (.pointer (some ⟨gb260, 0, none⟩)) := by rw [ha]; exact (putSel_off rfl).trans rfl
    replace ha := Aside0.mk ha
    have BK248 := Aside0.mk Q_BK248
    have BK256 := Aside0.mk Q_BK256
    have BK260 := Aside0.mk Q_BK260
    have BK264 := Aside0.mk Q_BK264
    have BK268 := Aside0.mk Q_BK268
    have BK272 := Aside0.mk Q_BK272
    have HB := Aside0.mk Q_HB
    have hc0_ : w'.cell? ⟨gb260, 0, none⟩ = some (.int .i64 t257) := (blk_cell BK260.out 0).trans rfl
    have hc1_ : w'.cell? ⟨gb260, 1, none⟩ = some (.int .i64 t258) := (blk_cell BK260.out 1).trans rfl
    refine value_ (w1 := w') (v := .agg #[.int .i64 t257, .int .i64 t258]) (by rfl) rfl ?_ ?_
    ·
     go_simp
     (try simp only [i64_w])
     try rfl
    refine hK.out _ _ ⟨gb279, gb280, m8_, m9_, (by rw [ha.out]; exact putSel_upk 3 hb_ rfl rfl rfl), Q_BK248, Q_BK256, Q_BK260, Q_BK264, Q_BK268, Q_BK272, Q_HB, Q_NB280_279, Q_NB279_280, Q_BK279, Q_GW279, Q_GE279, Q_NB248_279, Q_NB279_248, Q_NB256_279, Q_NB279_256, Q_NB260_279, Q_NB279_260, Q_NB264_279, Q_NB279_264, Q_NB268_279, Q_NB279_268, Q_NB272_279, Q_NB279_272, Q_BK280, Q_GW280, Q_GE280, Q_NB248_280, Q_NB280_248, Q_NB256_280, Q_NB280_256, Q_NB260_280, Q_NB280_260, Q_NB264_280, Q_NB280_264, Q_NB268_280, Q_NB280_268, Q_NB272_280, Q_NB280_272, fun h0_ => absurd ((hoff 10 (by kernel_rfl)).symm.trans h0_) (by decide), fun h0_ => absurd ((hoff 11 (by kernel_rfl)).symm.trans h0_) (by decide), Q_X8_, Q_X9_⟩
   refine steps_cons ?_ ?_
   ·
    rintro b a w' ⟨gb279, gb280, m8_, m9_, ha, Q_BK248, Q_BK256, Q_BK260, Q_BK264, Q_BK268, Q_BK272, Q_HB, Q_NB280_279, Q_NB279_280, Q_BK279, Q_GW279, Q_GE279, Q_NB248_279, Q_NB279_248, Q_NB256_279, Q_NB279_256, Q_NB260_279, Q_NB279_260, Q_NB264_279, Q_NB279_264, Q_NB268_279, Q_NB279_268, Q_NB272_279, Q_NB279_272, Q_BK280, Q_GW280, Q_GE280, Q_NB248_280, Q_NB280_248, Q_NB256_280, Q_NB280_256, Q_NB260_280, Q_NB280_260, Q_NB264_280, Q_NB280_264, Q_NB268_280, Q_NB280_268, Q_NB272_280, Q_NB280_272, Q_BK279_e10, Q_BK280_e11, Q_X8_, Q_X9_⟩ hb_ hon hoff
    refine ⟨_, rfl, fun K hK => ?_⟩
    have e18 : a.tmps[18]? = some (.pointer (some ⟨gb268, 0, none⟩)) := by rw [ha]; exact (putSel_off rfl).trans rfl
    replace ha := Aside0.mk ha
    have BK248 := Aside0.mk Q_BK248
    have BK256 := Aside0.mk Q_BK256
    have BK260 := Aside0.mk Q_BK260
    have BK264 := Aside0.mk Q_BK264
    have BK268 := Aside0.mk Q_BK268
    have BK272 := Aside0.mk Q_BK272
    have HB := Aside0.mk Q_HB
    have hc0_ : w'.cell? ⟨gb268, 0, none⟩ = some (.int .i64 t265) := (blk_cell BK268.out 0).trans rfl
    have hc1_ : w'.cell? ⟨gb268, 1, none⟩ = some (.int .i64 t266) := (blk_cell BK268.out 1).trans rfl
    refine value_ (w1 := w') (v := .agg #[.int .i64 t265, .int .i64 t266]) (by rfl) rfl ?_ ?_
    ·
     go_simp
     (try simp only [i64_w])
     try rfl
    refine hK.out _ _ ⟨gb279, gb280, m8_, m9_, (by rw [ha.out]; exact putSel_upk 4 hb_ rfl rfl rfl), Q_BK248, Q_BK256, Q_BK260, Q_BK264, Q_BK268, Q_BK272, Q_HB, Q_NB280_279, Q_NB279_280, Q_BK279, Q_GW279, Q_GE279, Q_NB248_279, Q_NB279_248, Q_NB256_279, Q_NB279_256, Q_NB260_279, Q_NB279_260, Q_NB264_279, Q_NB279_264, Q_NB268_279, Q_NB279_268, Q_NB272_279, Q_NB279_272, Q_BK280, Q_GW280, Q_GE280, Q_NB248_280, Q_NB280_248, Q_NB256_280, Q_NB280_256, Q_NB260_280, Q_NB280_260, Q_NB264_280, Q_NB280_264, Q_NB268_280, Q_NB280_268, Q_NB272_280, Q_NB280_272, fun h0_ => absurd ((hoff 10 (by kernel_rfl)).symm.trans h0_) (by decide), fun h0_ => absurd ((hoff 11 (by kernel_rfl)).symm.trans h0_) (by decide), Q_X8_, Q_X9_⟩
   refine steps_cons ?_ ?_
   ·
    rintro b a w' ⟨gb279, gb280, m8_, m9_, ha, Q_BK248, Q_BK256, Q_BK260, Q_BK264, Q_BK268, Q_BK272, Q_HB, Q_NB280_279, Q_NB279_280, Q_BK279, Q_GW279, Q_GE279, Q_NB248_279, Q_NB279_248, Q_NB256_279, Q_NB279_256, Q_NB260_279, Q_NB279_260, Q_NB264_279, Q_NB279_264, Q_NB268_279, Q_NB279_268, Q_NB272_279, Q_NB279_272, Q_BK280, Q_GW280, Q_GE280, Q_NB248_280, Q_NB280_248, Q_NB256_280, Q_NB280_256, Q_NB260_280, Q_NB280_260, Q_NB264_280, Q_NB280_264, Q_NB268_280, Q_NB280_268, Q_NB272_280, Q_NB280_272, Q_BK279_e10, Q_BK280_e11, Q_X8_, Q_X9_⟩ hb_ hon hoff
    refine ⟨_, rfl, fun K hK => ?_⟩
    have e66 : a.tmps[66]? = some (.agg #[.int .i64 t257, .int .i64 t258]) := by rw [ha]; exact putSel_on (e := (3, 66, .agg #[.int .i64 t257, .int .i64 t258])) 3 rfl rfl (hon 3 (by kernel_rfl)) rfl
    have e67 : a.tmps[67]? = some (.agg #[.int .i64 t265, .int .i64 t266]) := by rw [ha]; exact putSel_on (e := (4, 67, .agg #[.int .i64 t265, .int .i64 t266])) 4 rfl rfl (hon 4 (by kernel_rfl)) rfl
    replace ha := Aside0.mk ha
    have BK248 := Aside0.mk Q_BK248
    have BK256 := Aside0.mk Q_BK256
    have BK260 := Aside0.mk Q_BK260
    have BK264 := Aside0.mk Q_BK264
    have BK268 := Aside0.mk Q_BK268
    have BK272 := Aside0.mk Q_BK272
    have HB := Aside0.mk Q_HB
    refine goes_ Tryd.func52 (by kernel_rfl) rfl #[.agg #[.int .i64 t257, .int .i64 t258], .agg #[.int .i64 t265, .int .i64 t266]] (by rfl) rfl rfl (by first | (simp only [List.map_toArray, List.map_cons, List.map_nil, Act.eval, Array.getD_eq_getD_getElem?, Option.getD_some, e66, e67]; done) | (simp only [List.map_toArray, List.map_cons, List.map_nil, Act.eval, Array.getD_eq_getD_getElem?, Option.getD_some, e66, e67]; rfl)) ?_
    with_reducible refine (sun_Unit.calls t257 t258 t265 t266 t275 t276 _ A13.out).mono ?_
    rintro e w82 ⟨rfl, hb⟩
    refine ⟨_, rfl, ?_⟩
    have n0_ := Aside0.mk (blk_below (g := gb248) (o := .cells #[.int .i64 0, .int .i64 0] 28 (0, 0)) (grz_ BK248.out) hb)
    have n1_ := Aside0.mk (blk_below (g := gb256) (o := .cells #[.int .i64 t253, .int .i64 t254] 28 (0, 0)) (grz_ BK256.out) hb)
    have n2_ := Aside0.mk (blk_below (g := gb260) (o := .cells #[.int .i64 t257, .int .i64 t258] 28 (0, 0)) (grz_ BK260.out) hb)
    have n3_ := Aside0.mk (blk_below (g := gb264) (o := .cells #[.int .i64 t261, .int .i64 t262] 28 (0, 0)) (grz_ BK264.out) hb)
    have n4_ := Aside0.mk (blk_below (g := gb268) (o := .cells #[.int .i64 t265, .int .i64 t266] 28 (0, 0)) (grz_ BK268.out) hb)
    have n5_ := Aside0.mk (blk_below (g := gb272) (o := .cells #[.int .i64 t269, .int .i64 t270] 28 (0, 0)) (grz_ BK272.out) hb)
    have n6_ := Aside0.mk (below_step (by repeat (first | (with_reducible first | exact HB.out | apply below_alloc | apply pw_below_drewN | apply below_drew1 | refine below_set ?_ GE248.out | refine below_set ?_ GE256.out | refine below_set ?_ GE260.out | refine below_set ?_ GE264.out | refine below_set ?_ GE268.out | refine below_set ?_ GE272.out) | exact HB.out)) hb)
    have z_BK279 := fun (h0_ : b 8 = true) (h1_ : b 10 = false) => (show w82.heap[gb279]? = some (.cells #[.int .i64 0, .int .i64 0] 28 (0, 0)) from by first | exact (blk_below (g := gb279) (o := .cells #[.int .i64 0, .int .i64 0] 28 (0, 0)) (by (with_reducible repeat (first | refine blk_drewN ?_ _ | refine blk_drew ?_ | refine blk_alloc ?_ _)); exact (Q_BK279 h0_ h1_)) hb))
    have z_BK280 := fun (h0_ : b 9 = true) (h1_ : b 11 = false) => (show w82.heap[gb280]? = some (.cells #[.int .i64 0, .int .i64 0] 28 (0, 0)) from by first | exact (blk_below (g := gb280) (o := .cells #[.int .i64 0, .int .i64 0] 28 (0, 0)) (by (with_reducible repeat (first | refine blk_drewN ?_ _ | refine blk_drew ?_ | refine blk_alloc ?_ _)); exact (Q_BK280 h0_ h1_)) hb))
    clear BK248
    clear BK256
    clear BK260
    clear BK264
    clear BK268
    clear BK272
    clear HB
    have BK248 := n0_
    have BK256 := n1_
    have BK260 := n2_
    have BK264 := n3_
    have BK268 := n4_
    have BK272 := n5_
    have HB := n6_
    clear n0_ n1_ n2_ n3_ n4_ n5_ n6_
    (try clear hb)
    (try clear hb2)
    (try clear hk)
    (try clear hi)
    refine hK.out _ _ ⟨gb279, gb280, m8_, m9_, (by rw [ha.out]; exact putSel_upk 5 hb_ rfl rfl rfl), (grz_ BK248.out), (grz_ BK256.out), (grz_ BK260.out), (grz_ BK264.out), (grz_ BK268.out), (grz_ BK272.out), (by repeat (first | (with_reducible first | exact HB.out | apply below_alloc | apply pw_below_drewN | apply below_drew1 | refine below_set ?_ GE248.out | refine below_set ?_ GE256.out | refine below_set ?_ GE260.out | refine below_set ?_ GE264.out | refine below_set ?_ GE268.out | refine below_set ?_ GE272.out) | exact HB.out)), Q_NB280_279, Q_NB279_280, z_BK279, Q_GW279, Q_GE279, Q_NB248_279, Q_NB279_248, Q_NB256_279, Q_NB279_256, Q_NB260_279, Q_NB279_260, Q_NB264_279, Q_NB279_264, Q_NB268_279, Q_NB279_268, Q_NB272_279, Q_NB279_272, z_BK280, Q_GW280, Q_GE280, Q_NB248_280, Q_NB280_248, Q_NB256_280, Q_NB280_256, Q_NB260_280, Q_NB280_260, Q_NB264_280, Q_NB280_264, Q_NB268_280, Q_NB280_268, Q_NB272_280, Q_NB280_272, fun h0_ => absurd ((hoff 10 (by kernel_rfl)).symm.trans h0_) (by decide), fun h0_ => absurd ((hoff 11 (by kernel_rfl)).symm.trans h0_) (by decide), Q_X8_, Q_X9_⟩
   refine steps_cons ?_ ?_
   ·
    rintro b a w' ⟨gb279, gb280, m8_, m9_, ha, Q_BK248, Q_BK256, Q_BK260, Q_BK264, Q_BK268, Q_BK272, Q_HB, Q_NB280_279, Q_NB279_280, Q_BK279, Q_GW279, Q_GE279, Q_NB248_279, Q_NB279_248, Q_NB256_279, Q_NB279_256, Q_NB260_279, Q_NB279_260, Q_NB264_279, Q_NB279_264, Q_NB268_279, Q_NB279_268, Q_NB272_279, Q_NB279_272, Q_BK280, Q_GW280, Q_GE280, Q_NB248_280, Q_NB280_248, Q_NB256_280, Q_NB280_256, Q_NB260_280, Q_NB280_260, Q_NB264_280, Q_NB280_264, Q_NB268_280, Q_NB280_268, Q_NB272_280, Q_NB280_272, Q_BK279_e10, Q_BK280_e11, Q_X8_, Q_X9_⟩ hb_ hon hoff
    refine ⟨_, rfl, fun K hK => ?_⟩
    have e20 : a.tmps[20]? = some (.pointer (some ⟨gb272, 0, none⟩)) := by rw [ha]; exact (putSel_off rfl).trans rfl
    replace ha := Aside0.mk ha
    have BK248 := Aside0.mk Q_BK248
    have BK256 := Aside0.mk Q_BK256
    have BK260 := Aside0.mk Q_BK260
    have BK264 := Aside0.mk Q_BK264
    have BK268 := Aside0.mk Q_BK268
    have BK272 := Aside0.mk Q_BK272
    have HB := Aside0.mk Q_HB
    have hc0_ : w'.cell? ⟨gb272, 0, none⟩ = some (.int .i64 t269) := (blk_cell BK272.out 0).trans rfl
    have hc1_ : w'.cell? ⟨gb272, 1, none⟩ = some (.int .i64 t270) := (blk_cell BK272.out 1).trans rfl
    refine value_ (w1 := w') (v := .agg #[.int .i64 t269, .int .i64 t270]) (by rfl) rfl ?_ ?_
    ·
     go_simp
     (try simp only [i64_w])
     try rfl
    refine hK.out _ _ ⟨gb279, gb280, m8_, m9_, (by rw [ha.out]; exact putSel_upk 6 hb_ rfl rfl rfl), Q_BK248, Q_BK256, Q_BK260, Q_BK264, Q_BK268, Q_BK272, Q_HB, Q_NB280_279, Q_NB279_280, Q_BK279, Q_GW279, Q_GE279, Q_NB248_279, Q_NB279_248, Q_NB256_279, Q_NB279_256, Q_NB260_279, Q_NB279_260, Q_NB264_279, Q_NB279_264, Q_NB268_279, Q_NB279_268, Q_NB272_279, Q_NB279_272, Q_BK280, Q_GW280, Q_GE280, Q_NB248_280, Q_NB280_248, Q_NB256_280, Q_NB280_256, Q_NB260_280, Q_NB280_260, Q_NB264_280, Q_NB280_264, Q_NB268_280, Q_NB280_268, Q_NB272_280, Q_NB280_272, fun h0_ => absurd ((hoff 10 (by kernel_rfl)).symm.trans h0_) (by decide), fun h0_ => absurd ((hoff 11 (by kernel_rfl)).symm.trans h0_) (by decide), Q_X8_, Q_X9_⟩
   refine steps_cons ?_ ?_
   ·
    rintro b a w' ⟨gb279, gb280, m8_, m9_, ha, Q_BK248, Q_BK256, Q_BK260, Q_BK264, Q_BK268, Q_BK272, Q_HB, Q_NB280_279, Q_NB279_280, Q_BK279, Q_GW279, Q_GE279, Q_NB248_279, Q_NB279_248, Q_NB256_279, Q_NB279_256, Q_NB260_279, Q_NB279_260, Q_NB264_279, Q_NB279_264, Q_NB268_279, Q_NB279_268, Q_NB272_279, Q_NB279_272, Q_BK280, Q_GW280, Q_GE280, Q_NB248_280, Q_NB280_248, Q_NB256_280, Q_NB280_256, Q_NB260_280, Q_NB280_260, Q_NB264_280, Q_NB280_264, Q_NB268_280, Q_NB280_268, Q_NB272_280, Q_NB280_272, Q_BK279_e10, Q_BK280_e11, Q_X8_, Q_X9_⟩ hb_ hon hoff
    refine ⟨_, rfl, fun K hK => ?_⟩
    have e68 : a.tmps[68]? = some (.agg #[.int .i64 t275, .int .i64 t276]) := by rw [ha]; exact putSel_on (e := (5, 68, .agg #[.int .i64 t275, .int .i64 t276])) 5 rfl rfl (hon 5 (by kernel_rfl)) rfl
    have e69 : a.tmps[69]? = some (.agg #[.int .i64 t269, .int .i64 t270]) := by rw [ha]; exact putSel_on (e := (6, 69, .agg #[.int .i64 t269, .int .i64 t270])) 6 rfl rfl (hon 6 (by kernel_rfl)) rfl
    replace ha := Aside0.mk ha
    have BK248 := Aside0.mk Q_BK248
    have BK256 := Aside0.mk Q_BK256
    have BK260 := Aside0.mk Q_BK260
    have BK264 := Aside0.mk Q_BK264
    have BK268 := Aside0.mk Q_BK268
    have BK272 := Aside0.mk Q_BK272
    have HB := Aside0.mk Q_HB
    refine goes_ Tryd.func52 (by kernel_rfl) rfl #[.agg #[.int .i64 t275, .int .i64 t276], .agg #[.int .i64 t269, .int .i64 t270]] (by rfl) rfl rfl (by first | (simp only [List.map_toArray, List.map_cons, List.map_nil, Act.eval, Array.getD_eq_getD_getElem?, Option.getD_some, e68, e69]; done) | (simp only [List.map_toArray, List.map_cons, List.map_nil, Act.eval, Array.getD_eq_getD_getElem?, Option.getD_some, e68, e69]; rfl)) ?_
    with_reducible refine (sun_Unit.calls t275 t276 t269 t270 t277 t278 _ A14.out).mono ?_
    rintro e w83 ⟨rfl, hb⟩
    refine ⟨_, rfl, ?_⟩
    have n0_ := Aside0.mk (blk_below (g := gb248) (o := .cells #[.int .i64 0, .int .i64 0] 28 (0, 0)) (grz_ BK248.out) hb)
    have n1_ := Aside0.mk (blk_below (g := gb256) (o := .cells #[.int .i64 t253, .int .i64 t254] 28 (0, 0)) (grz_ BK256.out) hb)
    have n2_ := Aside0.mk (blk_below (g := gb260) (o := .cells #[.int .i64 t257, .int .i64 t258] 28 (0, 0)) (grz_ BK260.out) hb)
    have n3_ := Aside0.mk (blk_below (g := gb264) (o := .cells #[.int .i64 t261, .int .i64 t262] 28 (0, 0)) (grz_ BK264.out) hb)
    have n4_ := Aside0.mk (blk_below (g := gb268) (o := .cells #[.int .i64 t265, .int .i64 t266] 28 (0, 0)) (grz_ BK268.out) hb)
    have n5_ := Aside0.mk (blk_below (g := gb272) (o := .cells #[.int .i64 t269, .int .i64 t270] 28 (0, 0)) (grz_ BK272.out) hb)
    have n6_ := Aside0.mk (below_step (by repeat (first | (with_reducible first | exact HB.out | apply below_alloc | apply pw_below_drewN | apply below_drew1 | refine below_set ?_ GE248.out | refine below_set ?_ GE256.out | refine below_set ?_ GE260.out | refine below_set ?_ GE264.out | refine below_set ?_ GE268.out | refine below_set ?_ GE272.out) | exact HB.out)) hb)
    have z_BK279 := fun (h0_ : b 8 = true) (h1_ : b 10 = false) => (show w83.heap[gb279]? = some (.cells #[.int .i64 0, .int .i64 0] 28 (0, 0)) from by first | exact (blk_below (g := gb279) (o := .cells #[.int .i64 0, .int .i64 0] 28 (0, 0)) (by (with_reducible repeat (first | refine blk_drewN ?_ _ | refine blk_drew ?_ | refine blk_alloc ?_ _)); exact (Q_BK279 h0_ h1_)) hb))
    have z_BK280 := fun (h0_ : b 9 = true) (h1_ : b 11 = false) => (show w83.heap[gb280]? = some (.cells #[.int .i64 0, .int .i64 0] 28 (0, 0)) from by first | exact (blk_below (g := gb280) (o := .cells #[.int .i64 0, .int .i64 0] 28 (0, 0)) (by (with_reducible repeat (first | refine blk_drewN ?_ _ | refine blk_drew ?_ | refine blk_alloc ?_ _)); exact (Q_BK280 h0_ h1_)) hb))
    clear BK248
    clear BK256
    clear BK260
    clear BK264
    clear BK268
    clear BK272
    clear HB
    have BK248 := n0_
    have BK256 := n1_
    have BK260 := n2_
    have BK264 := n3_
    have BK268 := n4_
    have BK272 := n5_
    have HB := n6_
    clear n0_ n1_ n2_ n3_ n4_ n5_ n6_
    (try clear hb)
    (try clear hb2)
    (try clear hk)
    (try clear hi)
    refine hK.out _ _ ⟨gb279, gb280, m8_, m9_, (by rw [ha.out]; exact putSel_upk 7 hb_ rfl rfl rfl), (grz_ BK248.out), (grz_ BK256.out), (grz_ BK260.out), (grz_ BK264.out), (grz_ BK268.out), (grz_ BK272.out), (by repeat (first | (with_reducible first | exact HB.out | apply below_alloc | apply pw_below_drewN | apply below_drew1 | refine below_set ?_ GE248.out | refine below_set ?_ GE256.out | refine below_set ?_ GE260.out | refine below_set ?_ GE264.out | refine below_set ?_ GE268.out | refine below_set ?_ GE272.out) | exact HB.out)), Q_NB280_279, Q_NB279_280, z_BK279, Q_GW279, Q_GE279, Q_NB248_279, Q_NB279_248, Q_NB256_279, Q_NB279_256, Q_NB260_279, Q_NB279_260, Q_NB264_279, Q_NB279_264, Q_NB268_279, Q_NB279_268, Q_NB272_279, Q_NB279_272, z_BK280, Q_GW280, Q_GE280, Q_NB248_280, Q_NB280_248, Q_NB256_280, Q_NB280_256, Q_NB260_280, Q_NB280_260, Q_NB264_280, Q_NB280_264, Q_NB268_280, Q_NB280_268, Q_NB272_280, Q_NB280_272, fun h0_ => absurd ((hoff 10 (by kernel_rfl)).symm.trans h0_) (by decide), fun h0_ => absurd ((hoff 11 (by kernel_rfl)).symm.trans h0_) (by decide), Q_X8_, Q_X9_⟩
   refine steps_cons ?_ ?_
   ·
    rintro b a w' ⟨gb279, gb280, m8_, m9_, ha, Q_BK248, Q_BK256, Q_BK260, Q_BK264, Q_BK268, Q_BK272, Q_HB, Q_NB280_279, Q_NB279_280, Q_BK279, Q_GW279, Q_GE279, Q_NB248_279, Q_NB279_248, Q_NB256_279, Q_NB279_256, Q_NB260_279, Q_NB279_260, Q_NB264_279, Q_NB279_264, Q_NB268_279, Q_NB279_268, Q_NB272_279, Q_NB279_272, Q_BK280, Q_GW280, Q_GE280, Q_NB248_280, Q_NB280_248, Q_NB256_280, Q_NB280_256, Q_NB260_280, Q_NB280_260, Q_NB264_280, Q_NB280_264, Q_NB268_280, Q_NB280_268, Q_NB272_280, Q_NB280_272, Q_BK279_e10, Q_BK280_e11, Q_X8_, Q_X9_⟩ hb_ hon hoff
    refine ⟨_, rfl, fun K hK => ?_⟩
    replace ha := Aside0.mk ha
    have BK248 := Aside0.mk Q_BK248
    have BK256 := Aside0.mk Q_BK256
    have BK260 := Aside0.mk Q_BK260
    have BK264 := Aside0.mk Q_BK264
    have BK268 := Aside0.mk Q_BK268
    have BK272 := Aside0.mk Q_BK272
    have HB := Aside0.mk Q_HB
    refine box_step ?hg (N := 22) ?hd (cs := #[.int .i64 0, .int .i64 0]) (t := 28) ?hr ?_; (case hd => rfl); (case hg => rfl); (case hr => first | (go_simp; done) | (go_simp; rfl))
    intro gb279 hg w80 hbox hb
    have n0_ := Aside0.mk (blk_below (g := gb248) (o := .cells #[.int .i64 0, .int .i64 0] 28 (0, 0)) (grz_ BK248.out) hb)
    have n1_ := Aside0.mk (blk_below (g := gb256) (o := .cells #[.int .i64 t253, .int .i64 t254] 28 (0, 0)) (grz_ BK256.out) hb)
    have n2_ := Aside0.mk (blk_below (g := gb260) (o := .cells #[.int .i64 t257, .int .i64 t258] 28 (0, 0)) (grz_ BK260.out) hb)
    have n3_ := Aside0.mk (blk_below (g := gb264) (o := .cells #[.int .i64 t261, .int .i64 t262] 28 (0, 0)) (grz_ BK264.out) hb)
    have n4_ := Aside0.mk (blk_below (g := gb268) (o := .cells #[.int .i64 t265, .int .i64 t266] 28 (0, 0)) (grz_ BK268.out) hb)
    have n5_ := Aside0.mk (blk_below (g := gb272) (o := .cells #[.int .i64 t269, .int .i64 t270] 28 (0, 0)) (grz_ BK272.out) hb)
    have n6_ := Aside0.mk (below_step (by repeat (first | (with_reducible first | exact HB.out | apply below_alloc | apply pw_below_drewN | apply below_drew1 | refine below_set ?_ GE248.out | refine below_set ?_ GE256.out | refine below_set ?_ GE260.out | refine below_set ?_ GE264.out | refine below_set ?_ GE268.out | refine below_set ?_ GE272.out) | exact HB.out)) hb)
    have n7_ := Aside0.mk (hbox)
    have n8_ := Aside0.mk ((by rw [hg]; exact (below_size (by repeat (first | (with_reducible first | exact HB.out | apply below_alloc | apply pw_below_drewN | apply below_drew1 | refine below_set ?_ GE248.out | refine below_set ?_ GE256.out | refine below_set ?_ GE260.out | refine below_set ?_ GE264.out | refine below_set ?_ GE268.out | refine below_set ?_ GE272.out) | exact HB.out))) : w.heap.size ≤ gb279))
    have n9_ := Aside0.mk ((by rw [hg]; exact (below_size (by repeat (first | (with_reducible first | exact HB.out | apply below_alloc | apply pw_below_drewN | apply below_drew1 | refine below_set ?_ GE248.out | refine below_set ?_ GE256.out | refine below_set ?_ GE260.out | refine below_set ?_ GE264.out | refine below_set ?_ GE268.out | refine below_set ?_ GE272.out) | exact HB.out))) : w.heap.size ≤ gb279))
    have n10_ := Aside0.mk ((by rw [hg]; exact Nat.ne_of_lt (blk_lt (g := gb248) (o := .cells #[.int .i64 0, .int .i64 0] 28 (0, 0)) (grz_ BK248.out)) : gb248 ≠ gb279))
    have n11_ := Aside0.mk ((by rw [hg]; exact Nat.ne_of_gt (blk_lt (g := gb248) (o := .cells #[.int .i64 0, .int .i64 0] 28 (0, 0)) (grz_ BK248.out)) : gb279 ≠ gb248))
    have n12_ := Aside0.mk ((by rw [hg]; exact Nat.ne_of_lt (blk_lt (g := gb256) (o := .cells #[.int .i64 t253, .int .i64 t254] 28 (0, 0)) (grz_ BK256.out)) : gb256 ≠ gb279))
    have n13_ := Aside0.mk ((by rw [hg]; exact Nat.ne_of_gt (blk_lt (g := gb256) (o := .cells #[.int .i64 t253, .int .i64 t254] 28 (0, 0)) (grz_ BK256.out)) : gb279 ≠ gb256))
    have n14_ := Aside0.mk ((by rw [hg]; exact Nat.ne_of_lt (blk_lt (g := gb260) (o := .cells #[.int .i64 t257, .int .i64 t258] 28 (0, 0)) (grz_ BK260.out)) : gb260 ≠ gb279))
    have n15_ := Aside0.mk ((by rw [hg]; exact Nat.ne_of_gt (blk_lt (g := gb260) (o := .cells #[.int .i64 t257, .int .i64 t258] 28 (0, 0)) (grz_ BK260.out)) : gb279 ≠ gb260))
    have n16_ := Aside0.mk ((by rw [hg]; exact Nat.ne_of_lt (blk_lt (g := gb264) (o := .cells #[.int .i64 t261, .int .i64 t262] 28 (0, 0)) (grz_ BK264.out)) : gb264 ≠ gb279))
    have n17_ := Aside0.mk ((by rw [hg]; exact Nat.ne_of_gt (blk_lt (g := gb264) (o := .cells #[.int .i64 t261, .int .i64 t262] 28 (0, 0)) (grz_ BK264.out)) : gb279 ≠ gb264))
    have n18_ := Aside0.mk ((by rw [hg]; exact Nat.ne_of_lt (blk_lt (g := gb268) (o := .cells #[.int .i64 t265, .int .i64 t266] 28 (0, 0)) (grz_ BK268.out)) : gb268 ≠ gb279))
    have n19_ := Aside0.mk ((by rw [hg]; exact Nat.ne_of_gt (blk_lt (g := gb268) (o := .cells #[.int .i64 t265, .int .i64 t266] 28 (0, 0)) (grz_ BK268.out)) : gb279 ≠ gb268))
    have n20_ := Aside0.mk ((by rw [hg]; exact Nat.ne_of_lt (blk_lt (g := gb272) (o := .cells #[.int .i64 t269, .int .i64 t270] 28 (0, 0)) (grz_ BK272.out)) : gb272 ≠ gb279))
    have n21_ := Aside0.mk ((by rw [hg]; exact Nat.ne_of_gt (blk_lt (g := gb272) (o := .cells #[.int .i64 t269, .int .i64 t270] 28 (0, 0)) (grz_ BK272.out)) : gb279 ≠ gb272))
    have z_NB280_279 := fun (h0_ : up b 8 8 = true) (h1_ : up b 8 9 = true) => (show gb280 ≠ gb279 from (by rw [hg]; cases hs_ : b 11 <;> (first | exact Nat.ne_of_lt (blk_lt (g := gb280) (by (with_reducible repeat (first | refine blk_drewN ?_ _ | refine blk_drew ?_ | refine blk_alloc ?_ _)); exact (Q_BK280 (show b 9 = true from h1_) hs_))) | exact Nat.ne_of_lt (blk_lt (g := gb280) (by (with_reducible repeat (first | refine blk_drewN ?_ _ | refine blk_drew ?_ | refine blk_alloc ?_ _)); exact (Q_BK280_e11 hs_))))))
    have z_NB279_280 := fun (h0_ : up b 8 8 = true) (h1_ : up b 8 9 = true) => (show gb279 ≠ gb280 from (by rw [hg]; cases hs_ : b 11 <;> (first | exact Nat.ne_of_gt (blk_lt (g := gb280) (by (with_reducible repeat (first | refine blk_drewN ?_ _ | refine blk_drew ?_ | refine blk_alloc ?_ _)); exact (Q_BK280 (show b 9 = true from h1_) hs_))) | exact Nat.ne_of_gt (blk_lt (g := gb280) (by (with_reducible repeat (first | refine blk_drewN ?_ _ | refine blk_drew ?_ | refine blk_alloc ?_ _)); exact (Q_BK280_e11 hs_))))))
    have z_BK280 := fun (h0_ : b 9 = true) (h1_ : b 11 = false) => (show w80.heap[gb280]? = some (.cells #[.int .i64 0, .int .i64 0] 28 (0, 0)) from by first | exact (blk_below (g := gb280) (o := .cells #[.int .i64 0, .int .i64 0] 28 (0, 0)) (by (with_reducible repeat (first | refine blk_drewN ?_ _ | refine blk_drew ?_ | refine blk_alloc ?_ _)); exact (Q_BK280 h0_ h1_)) hb))
    clear BK248
    clear BK256
    clear BK260
    clear BK264
    clear BK268
    clear BK272
    clear HB
    have BK248 := n0_
    have BK256 := n1_
    have BK260 := n2_
    have BK264 := n3_
    have BK268 := n4_
    have BK272 := n5_
    have HB := n6_
    have BK279 := n7_
    have GW279 := n8_
    have GE279 := n9_
    have NB248_279 := n10_
    have NB279_248 := n11_
    have NB256_279 := n12_
    have NB279_256 := n13_
    have NB260_279 := n14_
    have NB279_260 := n15_
    have NB264_279 := n16_
    have NB279_264 := n17_
    have NB268_279 := n18_
    have NB279_268 := n19_
    have NB272_279 := n20_
    have NB279_272 := n21_
    clear n0_ n1_ n2_ n3_ n4_ n5_ n6_ n7_ n8_ n9_ n10_ n11_ n12_ n13_ n14_ n15_ n16_ n17_ n18_ n19_ n20_ n21_
    clear hb hbox hg
    refine hK.out _ _ ⟨gb279, gb280, (.pointer (some ⟨gb279, 0, none⟩)), m9_, (by rw [ha.out]; exact putSel_upk 8 hb_ rfl rfl rfl), (grz_ BK248.out), (grz_ BK256.out), (grz_ BK260.out), (grz_ BK264.out), (grz_ BK268.out), (grz_ BK272.out), (by repeat (first | (with_reducible first | exact HB.out | apply below_alloc | apply pw_below_drewN | apply below_drew1 | refine below_set ?_ GE248.out | refine below_set ?_ GE256.out | refine below_set ?_ GE260.out | refine below_set ?_ GE264.out | refine below_set ?_ GE268.out | refine below_set ?_ GE272.out | refine below_set ?_ GE279.out) | exact HB.out)), z_NB280_279, z_NB279_280, fun _ _ => (grz_ BK279.out), fun _ => GW279.out, fun _ => GE279.out, fun _ => NB248_279.out, fun _ => NB248_279.out.symm, fun _ => NB256_279.out, fun _ => NB256_279.out.symm, fun _ => NB260_279.out, fun _ => NB260_279.out.symm, fun _ => NB264_279.out, fun _ => NB264_279.out.symm, fun _ => NB268_279.out, fun _ => NB268_279.out.symm, fun _ => NB272_279.out, fun _ => NB272_279.out.symm, z_BK280, Q_GW280, Q_GE280, Q_NB248_280, Q_NB280_248, Q_NB256_280, Q_NB280_256, Q_NB260_280, Q_NB280_260, Q_NB264_280, Q_NB280_264, Q_NB268_280, Q_NB280_268, Q_NB272_280, Q_NB280_272, fun h0_ => absurd ((hoff 10 (by kernel_rfl)).symm.trans h0_) (by decide), fun h0_ => absurd ((hoff 11 (by kernel_rfl)).symm.trans h0_) (by decide), fun _ => rfl, Q_X9_⟩
   refine steps_cons ?_ ?_
   ·
    rintro b a w' ⟨gb279, gb280, m8_, m9_, ha, Q_BK248, Q_BK256, Q_BK260, Q_BK264, Q_BK268, Q_BK272, Q_HB, Q_NB280_279, Q_NB279_280, Q_BK279, Q_GW279, Q_GE279, Q_NB248_279, Q_NB279_248, Q_NB256_279, Q_NB279_256, Q_NB260_279, Q_NB279_260, Q_NB264_279, Q_NB279_264, Q_NB268_279, Q_NB279_268, Q_NB272_279, Q_NB279_272, Q_BK280, Q_GW280, Q_GE280, Q_NB248_280, Q_NB280_248, Q_NB256_280, Q_NB280_256, Q_NB260_280, Q_NB280_260, Q_NB264_280, Q_NB280_264, Q_NB268_280, Q_NB280_268, Q_NB272_280, Q_NB280_272, Q_BK279_e10, Q_BK280_e11, Q_X8_, Q_X9_⟩ hb_ hon hoff
    refine ⟨_, rfl, fun K hK => ?_⟩
    replace ha := Aside0.mk ha
    have BK248 := Aside0.mk Q_BK248
    have BK256 := Aside0.mk Q_BK256
    have BK260 := Aside0.mk Q_BK260
    have BK264 := Aside0.mk Q_BK264
    have BK268 := Aside0.mk Q_BK268
    have BK272 := Aside0.mk Q_BK272
    have HB := Aside0.mk Q_HB
    refine box_step ?hg (N := 23) ?hd (cs := #[.int .i64 0, .int .i64 0]) (t := 28) ?hr ?_; (case hd => rfl); (case hg => rfl); (case hr => first | (go_simp; done) | (go_simp; rfl))
    intro gb280 hg w80 hbox hb
    have n0_ := Aside0.mk (blk_below (g := gb248) (o := .cells #[.int .i64 0, .int .i64 0] 28 (0, 0)) (grz_ BK248.out) hb)
    have n1_ := Aside0.mk (blk_below (g := gb256) (o := .cells #[.int .i64 t253, .int .i64 t254] 28 (0, 0)) (grz_ BK256.out) hb)
    have n2_ := Aside0.mk (blk_below (g := gb260) (o := .cells #[.int .i64 t257, .int .i64 t258] 28 (0, 0)) (grz_ BK260.out) hb)
    have n3_ := Aside0.mk (blk_below (g := gb264) (o := .cells #[.int .i64 t261, .int .i64 t262] 28 (0, 0)) (grz_ BK264.out) hb)
    have n4_ := Aside0.mk (blk_below (g := gb268) (o := .cells #[.int .i64 t265, .int .i64 t266] 28 (0, 0)) (grz_ BK268.out) hb)
    have n5_ := Aside0.mk (blk_below (g := gb272) (o := .cells #[.int .i64 t269, .int .i64 t270] 28 (0, 0)) (grz_ BK272.out) hb)
    have n6_ := Aside0.mk (below_step (by repeat (first | (with_reducible first | exact HB.out | apply below_alloc | apply pw_below_drewN | apply below_drew1 | refine below_set ?_ GE248.out | refine below_set ?_ GE256.out | refine below_set ?_ GE260.out | refine below_set ?_ GE264.out | refine below_set ?_ GE268.out | refine below_set ?_ GE272.out) | exact HB.out)) hb)
    have n7_ := Aside0.mk (hbox)
    have n8_ := Aside0.mk ((by rw [hg]; exact (below_size (by repeat (first | (with_reducible first | exact HB.out | apply below_alloc | apply pw_below_drewN | apply below_drew1 | refine below_set ?_ GE248.out | refine below_set ?_ GE256.out | refine below_set ?_ GE260.out | refine below_set ?_ GE264.out | refine below_set ?_ GE268.out | refine below_set ?_ GE272.out) | exact HB.out))) : w.heap.size ≤ gb280))
    have n9_ := Aside0.mk ((by rw [hg]; exact (below_size (by repeat (first | (with_reducible first | exact HB.out | apply below_alloc | apply pw_below_drewN | apply below_drew1 | refine below_set ?_ GE248.out | refine below_set ?_ GE256.out | refine below_set ?_ GE260.out | refine below_set ?_ GE264.out | refine below_set ?_ GE268.out | refine below_set ?_ GE272.out) | exact HB.out))) : w.heap.size ≤ gb280))
    have n10_ := Aside0.mk ((by rw [hg]; exact Nat.ne_of_lt (blk_lt (g := gb248) (o := .cells #[.int .i64 0, .int .i64 0] 28 (0, 0)) (grz_ BK248.out)) : gb248 ≠ gb280))
    have n11_ := Aside0.mk ((by rw [hg]; exact Nat.ne_of_gt (blk_lt (g := gb248) (o := .cells #[.int .i64 0, .int .i64 0] 28 (0, 0)) (grz_ BK248.out)) : gb280 ≠ gb248))
    have n12_ := Aside0.mk ((by rw [hg]; exact Nat.ne_of_lt (blk_lt (g := gb256) (o := .cells #[.int .i64 t253, .int .i64 t254] 28 (0, 0)) (grz_ BK256.out)) : gb256 ≠ gb280))
    have n13_ := Aside0.mk ((by rw [hg]; exact Nat.ne_of_gt (blk_lt (g := gb256) (o := .cells #[.int .i64 t253, .int .i64 t254] 28 (0, 0)) (grz_ BK256.out)) : gb280 ≠ gb256))
    have n14_ := Aside0.mk ((by rw [hg]; exact Nat.ne_of_lt (blk_lt (g := gb260) (o := .cells #[.int .i64 t257, .int .i64 t258] 28 (0, 0)) (grz_ BK260.out)) : gb260 ≠ gb280))
    have n15_ := Aside0.mk ((by rw [hg]; exact Nat.ne_of_gt (blk_lt (g := gb260) (o := .cells #[.int .i64 t257, .int .i64 t258] 28 (0, 0)) (grz_ BK260.out)) : gb280 ≠ gb260))
    have n16_ := Aside0.mk ((by rw [hg]; exact Nat.ne_of_lt (blk_lt (g := gb264) (o := .cells #[.int .i64 t261, .int .i64 t262] 28 (0, 0)) (grz_ BK264.out)) : gb264 ≠ gb280))
    have n17_ := Aside0.mk ((by rw [hg]; exact Nat.ne_of_gt (blk_lt (g := gb264) (o := .cells #[.int .i64 t261, .int .i64 t262] 28 (0, 0)) (grz_ BK264.out)) : gb280 ≠ gb264))
    have n18_ := Aside0.mk ((by rw [hg]; exact Nat.ne_of_lt (blk_lt (g := gb268) (o := .cells #[.int .i64 t265, .int .i64 t266] 28 (0, 0)) (grz_ BK268.out)) : gb268 ≠ gb280))
    have n19_ := Aside0.mk ((by rw [hg]; exact Nat.ne_of_gt (blk_lt (g := gb268) (o := .cells #[.int .i64 t265, .int .i64 t266] 28 (0, 0)) (grz_ BK268.out)) : gb280 ≠ gb268))
    have n20_ := Aside0.mk ((by rw [hg]; exact Nat.ne_of_lt (blk_lt (g := gb272) (o := .cells #[.int .i64 t269, .int .i64 t270] 28 (0, 0)) (grz_ BK272.out)) : gb272 ≠ gb280))
    have n21_ := Aside0.mk ((by rw [hg]; exact Nat.ne_of_gt (blk_lt (g := gb272) (o := .cells #[.int .i64 t269, .int .i64 t270] 28 (0, 0)) (grz_ BK272.out)) : gb280 ≠ gb272))
    have z_NB280_279 := fun (h0_ : up b 9 8 = true) (h1_ : up b 9 9 = true) => (show gb280 ≠ gb279 from (by rw [hg]; cases hs_ : b 10 <;> (first | exact Nat.ne_of_gt (blk_lt (g := gb279) (by (with_reducible repeat (first | refine blk_drewN ?_ _ | refine blk_drew ?_ | refine blk_alloc ?_ _)); exact (Q_BK279 (show b 8 = true from h0_) hs_))) | exact Nat.ne_of_gt (blk_lt (g := gb279) (by (with_reducible repeat (first | refine blk_drewN ?_ _ | refine blk_drew ?_ | refine blk_alloc ?_ _)); exact (Q_BK279_e10 hs_))))))
    have z_NB279_280 := fun (h0_ : up b 9 8 = true) (h1_ : up b 9 9 = true) => (show gb279 ≠ gb280 from (by rw [hg]; cases hs_ : b 10 <;> (first | exact Nat.ne_of_lt (blk_lt (g := gb279) (by (with_reducible repeat (first | refine blk_drewN ?_ _ | refine blk_drew ?_ | refine blk_alloc ?_ _)); exact (Q_BK279 (show b 8 = true from h0_) hs_))) | exact Nat.ne_of_lt (blk_lt (g := gb279) (by (with_reducible repeat (first | refine blk_drewN ?_ _ | refine blk_drew ?_ | refine blk_alloc ?_ _)); exact (Q_BK279_e10 hs_))))))
    have z_BK279 := fun (h0_ : b 8 = true) (h1_ : b 10 = false) => (show w80.heap[gb279]? = some (.cells #[.int .i64 0, .int .i64 0] 28 (0, 0)) from by first | exact (blk_below (g := gb279) (o := .cells #[.int .i64 0, .int .i64 0] 28 (0, 0)) (by (with_reducible repeat (first | refine blk_drewN ?_ _ | refine blk_drew ?_ | refine blk_alloc ?_ _)); exact (Q_BK279 h0_ h1_)) hb))
    clear BK248
    clear BK256
    clear BK260
    clear BK264
    clear BK268
    clear BK272
    clear HB
    have BK248 := n0_
    have BK256 := n1_
    have BK260 := n2_
    have BK264 := n3_
    have BK268 := n4_
    have BK272 := n5_
    have HB := n6_
    have BK280 := n7_
    have GW280 := n8_
    have GE280 := n9_
    have NB248_280 := n10_
    have NB280_248 := n11_
    have NB256_280 := n12_
    have NB280_256 := n13_
    have NB260_280 := n14_
    have NB280_260 := n15_
    have NB264_280 := n16_
    have NB280_264 := n17_
    have NB268_280 := n18_
    have NB280_268 := n19_
    have NB272_280 := n20_
    have NB280_272 := n21_
    clear n0_ n1_ n2_ n3_ n4_ n5_ n6_ n7_ n8_ n9_ n10_ n11_ n12_ n13_ n14_ n15_ n16_ n17_ n18_ n19_ n20_ n21_
    clear hb hbox hg
    refine hK.out _ _ ⟨gb279, gb280, m8_, (.pointer (some ⟨gb280, 0, none⟩)), (by rw [ha.out]; exact putSel_upk 9 hb_ rfl rfl rfl), (grz_ BK248.out), (grz_ BK256.out), (grz_ BK260.out), (grz_ BK264.out), (grz_ BK268.out), (grz_ BK272.out), (by repeat (first | (with_reducible first | exact HB.out | apply below_alloc | apply pw_below_drewN | apply below_drew1 | refine below_set ?_ GE248.out | refine below_set ?_ GE256.out | refine below_set ?_ GE260.out | refine below_set ?_ GE264.out | refine below_set ?_ GE268.out | refine below_set ?_ GE272.out | refine below_set ?_ GE280.out) | exact HB.out)), z_NB280_279, z_NB279_280, z_BK279, Q_GW279, Q_GE279, Q_NB248_279, Q_NB279_248, Q_NB256_279, Q_NB279_256, Q_NB260_279, Q_NB279_260, Q_NB264_279, Q_NB279_264, Q_NB268_279, Q_NB279_268, Q_NB272_279, Q_NB279_272, fun _ _ => (grz_ BK280.out), fun _ => GW280.out, fun _ => GE280.out, fun _ => NB248_280.out, fun _ => NB248_280.out.symm, fun _ => NB256_280.out, fun _ => NB256_280.out.symm, fun _ => NB260_280.out, fun _ => NB260_280.out.symm, fun _ => NB264_280.out, fun _ => NB264_280.out.symm, fun _ => NB268_280.out, fun _ => NB268_280.out.symm, fun _ => NB272_280.out, fun _ => NB272_280.out.symm, fun h0_ => absurd ((hoff 10 (by kernel_rfl)).symm.trans h0_) (by decide), fun h0_ => absurd ((hoff 11 (by kernel_rfl)).symm.trans h0_) (by decide), Q_X8_, fun _ => rfl⟩
   refine steps_cons ?_ ?_
   ·
    rintro b a w' ⟨gb279, gb280, m8_, m9_, ha, Q_BK248, Q_BK256, Q_BK260, Q_BK264, Q_BK268, Q_BK272, Q_HB, Q_NB280_279, Q_NB279_280, Q_BK279, Q_GW279, Q_GE279, Q_NB248_279, Q_NB279_248, Q_NB256_279, Q_NB279_256, Q_NB260_279, Q_NB279_260, Q_NB264_279, Q_NB279_264, Q_NB268_279, Q_NB279_268, Q_NB272_279, Q_NB279_272, Q_BK280, Q_GW280, Q_GE280, Q_NB248_280, Q_NB280_248, Q_NB256_280, Q_NB280_256, Q_NB260_280, Q_NB280_260, Q_NB264_280, Q_NB280_264, Q_NB268_280, Q_NB280_268, Q_NB272_280, Q_NB280_272, Q_BK279_e10, Q_BK280_e11, Q_X8_, Q_X9_⟩ hb_ hon hoff
    refine ⟨_, rfl, fun K hK => ?_⟩
    have e22 : a.tmps[22]? = some (m8_) := by rw [ha]; exact putSel_on (e := (8, 22, m8_)) 8 rfl rfl (hon 8 (by kernel_rfl)) rfl
    rw [Q_X8_ (hon 8 (by kernel_rfl))] at e22
    have e65 : a.tmps[65]? = some (.agg #[.int .i64 t273, .int .i64 t274]) := by rw [ha]; exact putSel_on (e := (2, 65, .agg #[.int .i64 t273, .int .i64 t274])) 2 rfl rfl (hon 2 (by kernel_rfl)) rfl
    replace ha := Aside0.mk ha
    have BK248 := Aside0.mk Q_BK248
    have BK256 := Aside0.mk Q_BK256
    have BK260 := Aside0.mk Q_BK260
    have BK264 := Aside0.mk Q_BK264
    have BK268 := Aside0.mk Q_BK268
    have BK272 := Aside0.mk Q_BK272
    have HB := Aside0.mk Q_HB
    have NB280_279 := Aside0.mk (Q_NB280_279 (hon 8 (by kernel_rfl)) (hon 9 (by kernel_rfl)))
    have NB279_280 := Aside0.mk (Q_NB279_280 (hon 8 (by kernel_rfl)) (hon 9 (by kernel_rfl)))
    have BK279 := Aside0.mk (Q_BK279 (hon 8 (by kernel_rfl)) hb_)
    have GW279 := Aside0.mk (Q_GW279 (hon 8 (by kernel_rfl)))
    have GE279 := Aside0.mk (Q_GE279 (hon 8 (by kernel_rfl)))
    have NB248_279 := Aside0.mk (Q_NB248_279 (hon 8 (by kernel_rfl)))
    have NB279_248 := Aside0.mk (Q_NB279_248 (hon 8 (by kernel_rfl)))
    have NB256_279 := Aside0.mk (Q_NB256_279 (hon 8 (by kernel_rfl)))
    have NB279_256 := Aside0.mk (Q_NB279_256 (hon 8 (by kernel_rfl)))
    have NB260_279 := Aside0.mk (Q_NB260_279 (hon 8 (by kernel_rfl)))
    have NB279_260 := Aside0.mk (Q_NB279_260 (hon 8 (by kernel_rfl)))
    have NB264_279 := Aside0.mk (Q_NB264_279 (hon 8 (by kernel_rfl)))
    have NB279_264 := Aside0.mk (Q_NB279_264 (hon 8 (by kernel_rfl)))
    have NB268_279 := Aside0.mk (Q_NB268_279 (hon 8 (by kernel_rfl)))
    have NB279_268 := Aside0.mk (Q_NB279_268 (hon 8 (by kernel_rfl)))
    have NB272_279 := Aside0.mk (Q_NB272_279 (hon 8 (by kernel_rfl)))
    have NB279_272 := Aside0.mk (Q_NB279_272 (hon 8 (by kernel_rfl)))
    have BK280 := Aside0.mk (Q_BK280 (hon 9 (by kernel_rfl)) (hoff 11 (by kernel_rfl)))
    have GW280 := Aside0.mk (Q_GW280 (hon 9 (by kernel_rfl)))
    have GE280 := Aside0.mk (Q_GE280 (hon 9 (by kernel_rfl)))
    have NB248_280 := Aside0.mk (Q_NB248_280 (hon 9 (by kernel_rfl)))
    have NB280_248 := Aside0.mk (Q_NB280_248 (hon 9 (by kernel_rfl)))
    have NB256_280 := Aside0.mk (Q_NB256_280 (hon 9 (by kernel_rfl)))
    have NB280_256 := Aside0.mk (Q_NB280_256 (hon 9 (by kernel_rfl)))
    have NB260_280 := Aside0.mk (Q_NB260_280 (hon 9 (by kernel_rfl)))
    have NB280_260 := Aside0.mk (Q_NB280_260 (hon 9 (by kernel_rfl)))
    have NB264_280 := Aside0.mk (Q_NB264_280 (hon 9 (by kernel_rfl)))
    have NB280_264 := Aside0.mk (Q_NB280_264 (hon 9 (by kernel_rfl)))
    have NB268_280 := Aside0.mk (Q_NB268_280 (hon 9 (by kernel_rfl)))
    have NB280_268 := Aside0.mk (Q_NB280_268 (hon 9 (by kernel_rfl)))
    have NB272_280 := Aside0.mk (Q_NB272_280 (hon 9 (by kernel_rfl)))
    have NB280_272 := Aside0.mk (Q_NB280_272 (hon 9 (by kernel_rfl)))
    have hs86 : w'.cell? ⟨gb279, 0, none⟩ = some (.int .i64 0) := (blk_cell BK279.out 0).trans rfl
    have hfs86 := blk_frozen BK279.out 0
    have hns86_0 := NB248_279.out
    have hns86_1 := NB256_279.out
    have hns86_2 := NB260_279.out
    have hns86_3 := NB264_279.out
    have hns86_4 := NB268_279.out
    have hns86_5 := NB272_279.out
    have hns86_7 := NB279_280.out.symm
    have hms86_0 := NB248_279.out.symm
    have hms86_1 := NB256_279.out.symm
    have hms86_2 := NB260_279.out.symm
    have hms86_3 := NB264_279.out.symm
    have hms86_4 := NB268_279.out.symm
    have hms86_5 := NB272_279.out.symm
    have hms86_7 := NB279_280.out
    have hs87 : w'.cell? ⟨gb279, 1, none⟩ = some (.int .i64 0) := (blk_cell BK279.out 1).trans rfl
    have hfs87 := blk_frozen BK279.out 1
    have hns87_0 := NB248_279.out
    have hns87_1 := NB256_279.out
    have hns87_2 := NB260_279.out
    have hns87_3 := NB264_279.out
    have hns87_4 := NB268_279.out
    have hns87_5 := NB272_279.out
    have hns87_7 := NB279_280.out.symm
    have hms87_0 := NB248_279.out.symm
    have hms87_1 := NB256_279.out.symm
    have hms87_2 := NB260_279.out.symm
    have hms87_3 := NB264_279.out.symm
    have hms87_4 := NB268_279.out.symm
    have hms87_5 := NB272_279.out.symm
    have hms87_7 := NB279_280.out
    refine skip_ (w1 := ?_) (by rfl) rfl ?_ ?_
    rotate_left
    ·
     go_simp
     rfl
    refine hK.out _ _ ⟨gb279, gb280, m8_, m9_, (by rw [ha.out]; exact putSel_none (v := undef) rfl), (grz_ (blk_far (grz_ (blk_far (grz_ BK248.out) NB248_279.out _)) NB248_279.out _)), (grz_ (blk_far (grz_ (blk_far (grz_ BK256.out) NB256_279.out _)) NB256_279.out _)), (grz_ (blk_far (grz_ (blk_far (grz_ BK260.out) NB260_279.out _)) NB260_279.out _)), (grz_ (blk_far (grz_ (blk_far (grz_ BK264.out) NB264_279.out _)) NB264_279.out _)), (grz_ (blk_far (grz_ (blk_far (grz_ BK268.out) NB268_279.out _)) NB268_279.out _)), (grz_ (blk_far (grz_ (blk_far (grz_ BK272.out) NB272_279.out _)) NB272_279.out _)), (by repeat (first | (with_reducible first | exact HB.out | apply below_alloc | apply pw_below_drewN | apply below_drew1 | refine below_set ?_ GE248.out | refine below_set ?_ GE256.out | refine below_set ?_ GE260.out | refine below_set ?_ GE264.out | refine below_set ?_ GE268.out | refine below_set ?_ GE272.out | refine below_set ?_ GE279.out | refine below_set ?_ GE280.out) | exact HB.out)), fun _ _ => NB279_280.out.symm, fun _ _ => NB279_280.out, fun _ h1_ => absurd ((up_self b 10).symm.trans h1_) (by decide), fun _ => GW279.out, fun _ => GE279.out, fun _ => NB248_279.out, fun _ => NB248_279.out.symm, fun _ => NB256_279.out, fun _ => NB256_279.out.symm, fun _ => NB260_279.out, fun _ => NB260_279.out.symm, fun _ => NB264_279.out, fun _ => NB264_279.out.symm, fun _ => NB268_279.out, fun _ => NB268_279.out.symm, fun _ => NB272_279.out, fun _ => NB272_279.out.symm, fun _ _ => (grz_ (blk_far (grz_ (blk_far (grz_ BK280.out) NB279_280.out.symm _)) NB279_280.out.symm _)), fun _ => GW280.out, fun _ => GE280.out, fun _ => NB248_280.out, fun _ => NB248_280.out.symm, fun _ => NB256_280.out, fun _ => NB256_280.out.symm, fun _ => NB260_280.out, fun _ => NB260_280.out.symm, fun _ => NB264_280.out, fun _ => NB264_280.out.symm, fun _ => NB268_280.out, fun _ => NB268_280.out.symm, fun _ => NB272_280.out, fun _ => NB272_280.out.symm, fun _ => (grz_ (blk_put (cs := #[.int .i64 t273, .int .i64 0]) (grz_ (blk_put (cs := #[.int .i64 0, .int .i64 0]) (grz_ BK279.out) 0 _ rfl)) 1 _ rfl)), fun h0_ => absurd ((hoff 11 (by kernel_rfl)).symm.trans h0_) (by decide), Q_X8_, Q_X9_⟩
   refine steps_cons ?_ ?_
   ·
    rintro b a w' ⟨gb279, gb280, m8_, m9_, ha, Q_BK248, Q_BK256, Q_BK260, Q_BK264, Q_BK268, Q_BK272, Q_HB, Q_NB280_279, Q_NB279_280, Q_BK279, Q_GW279, Q_GE279, Q_NB248_279, Q_NB279_248, Q_NB256_279, Q_NB279_256, Q_NB260_279, Q_NB279_260, Q_NB264_279, Q_NB279_264, Q_NB268_279, Q_NB279_268, Q_NB272_279, Q_NB279_272, Q_BK280, Q_GW280, Q_GE280, Q_NB248_280, Q_NB280_248, Q_NB256_280, Q_NB280_256, Q_NB260_280, Q_NB280_260, Q_NB264_280, Q_NB280_264, Q_NB268_280, Q_NB280_268, Q_NB272_280, Q_NB280_272, Q_BK279_e10, Q_BK280_e11, Q_X8_, Q_X9_⟩ hb_ hon hoff
    refine ⟨_, rfl, fun K hK => ?_⟩
    have e23 : a.tmps[23]? = some (m9_) := by rw [ha]; exact putSel_on (e := (9, 23, m9_)) 9 rfl rfl (hon 9 (by kernel_rfl)) rfl
    rw [Q_X9_ (hon 9 (by kernel_rfl))] at e23
    have e70 : a.tmps[70]? = some (.agg #[.int .i64 t277, .int .i64 t278]) := by rw [ha]; exact putSel_on (e := (7, 70, .agg #[.int .i64 t277, .int .i64 t278])) 7 rfl rfl (hon 7 (by kernel_rfl)) rfl
    replace ha := Aside0.mk ha
    have BK248 := Aside0.mk Q_BK248
    have BK256 := Aside0.mk Q_BK256
    have BK260 := Aside0.mk Q_BK260
    have BK264 := Aside0.mk Q_BK264
    have BK268 := Aside0.mk Q_BK268
    have BK272 := Aside0.mk Q_BK272
    have HB := Aside0.mk Q_HB
    have NB280_279 := Aside0.mk (Q_NB280_279 (hon 8 (by kernel_rfl)) (hon 9 (by kernel_rfl)))
    have NB279_280 := Aside0.mk (Q_NB279_280 (hon 8 (by kernel_rfl)) (hon 9 (by kernel_rfl)))
    have GW279 := Aside0.mk (Q_GW279 (hon 8 (by kernel_rfl)))
    have GE279 := Aside0.mk (Q_GE279 (hon 8 (by kernel_rfl)))
    have NB248_279 := Aside0.mk (Q_NB248_279 (hon 8 (by kernel_rfl)))
    have NB279_248 := Aside0.mk (Q_NB279_248 (hon 8 (by kernel_rfl)))
    have NB256_279 := Aside0.mk (Q_NB256_279 (hon 8 (by kernel_rfl)))
    have NB279_256 := Aside0.mk (Q_NB279_256 (hon 8 (by kernel_rfl)))
    have NB260_279 := Aside0.mk (Q_NB260_279 (hon 8 (by kernel_rfl)))
    have NB279_260 := Aside0.mk (Q_NB279_260 (hon 8 (by kernel_rfl)))
    have NB264_279 := Aside0.mk (Q_NB264_279 (hon 8 (by kernel_rfl)))
    have NB279_264 := Aside0.mk (Q_NB279_264 (hon 8 (by kernel_rfl)))
    have NB268_279 := Aside0.mk (Q_NB268_279 (hon 8 (by kernel_rfl)))
    have NB279_268 := Aside0.mk (Q_NB279_268 (hon 8 (by kernel_rfl)))
    have NB272_279 := Aside0.mk (Q_NB272_279 (hon 8 (by kernel_rfl)))
    have NB279_272 := Aside0.mk (Q_NB279_272 (hon 8 (by kernel_rfl)))
    have BK280 := Aside0.mk (Q_BK280 (hon 9 (by kernel_rfl)) hb_)
    have GW280 := Aside0.mk (Q_GW280 (hon 9 (by kernel_rfl)))
    have GE280 := Aside0.mk (Q_GE280 (hon 9 (by kernel_rfl)))
    have NB248_280 := Aside0.mk (Q_NB248_280 (hon 9 (by kernel_rfl)))
    have NB280_248 := Aside0.mk (Q_NB280_248 (hon 9 (by kernel_rfl)))
    have NB256_280 := Aside0.mk (Q_NB256_280 (hon 9 (by kernel_rfl)))
    have NB280_256 := Aside0.mk (Q_NB280_256 (hon 9 (by kernel_rfl)))
    have NB260_280 := Aside0.mk (Q_NB260_280 (hon 9 (by kernel_rfl)))
    have NB280_260 := Aside0.mk (Q_NB280_260 (hon 9 (by kernel_rfl)))
    have NB264_280 := Aside0.mk (Q_NB264_280 (hon 9 (by kernel_rfl)))
    have NB280_264 := Aside0.mk (Q_NB280_264 (hon 9 (by kernel_rfl)))
    have NB268_280 := Aside0.mk (Q_NB268_280 (hon 9 (by kernel_rfl)))
    have NB280_268 := Aside0.mk (Q_NB280_268 (hon 9 (by kernel_rfl)))
    have NB272_280 := Aside0.mk (Q_NB272_280 (hon 9 (by kernel_rfl)))
    have NB280_272 := Aside0.mk (Q_NB280_272 (hon 9 (by kernel_rfl)))
    have BK279 := Aside0.mk (Q_BK279_e10 (hon 10 (by kernel_rfl)))
    have hs88 : w'.cell? ⟨gb280, 0, none⟩ = some (.int .i64 0) := (blk_cell BK280.out 0).trans rfl
    have hfs88 := blk_frozen BK280.out 0
    have hns88_0 := NB248_280.out
    have hns88_1 := NB256_280.out
    have hns88_2 := NB260_280.out
    have hns88_3 := NB264_280.out
    have hns88_4 := NB268_280.out
    have hns88_5 := NB272_280.out
    have hns88_6 := NB279_280.out
    have hms88_0 := NB248_280.out.symm
    have hms88_1 := NB256_280.out.symm
    have hms88_2 := NB260_280.out.symm
    have hms88_3 := NB264_280.out.symm
    have hms88_4 := NB268_280.out.symm
    have hms88_5 := NB272_280.out.symm
    have hms88_6 := NB279_280.out.symm
    have hs89 : w'.cell? ⟨gb280, 1, none⟩ = some (.int .i64 0) := (blk_cell BK280.out 1).trans rfl
    have hfs89 := blk_frozen BK280.out 1
    have hns89_0 := NB248_280.out
    have hns89_1 := NB256_280.out
    have hns89_2 := NB260_280.out
    have hns89_3 := NB264_280.out
    have hns89_4 := NB268_280.out
    have hns89_5 := NB272_280.out
    have hns89_6 := NB279_280.out
    have hms89_0 := NB248_280.out.symm
    have hms89_1 := NB256_280.out.symm
    have hms89_2 := NB260_280.out.symm
    have hms89_3 := NB264_280.out.symm
    have hms89_4 := NB268_280.out.symm
    have hms89_5 := NB272_280.out.symm
    have hms89_6 := NB279_280.out.symm
    refine skip_ (w1 := ?_) (by rfl) rfl ?_ ?_
    rotate_left
    ·
     go_simp
     rfl
    refine hK.out _ _ ⟨gb279, gb280, m8_, m9_, (by rw [ha.out]; exact putSel_none (v := undef) rfl), (grz_ (blk_far (grz_ (blk_far (grz_ BK248.out) NB248_280.out _)) NB248_280.out _)), (grz_ (blk_far (grz_ (blk_far (grz_ BK256.out) NB256_280.out _)) NB256_280.out _)), (grz_ (blk_far (grz_ (blk_far (grz_ BK260.out) NB260_280.out _)) NB260_280.out _)), (grz_ (blk_far (grz_ (blk_far (grz_ BK264.out) NB264_280.out _)) NB264_280.out _)), (grz_ (blk_far (grz_ (blk_far (grz_ BK268.out) NB268_280.out _)) NB268_280.out _)), (grz_ (blk_far (grz_ (blk_far (grz_ BK272.out) NB272_280.out _)) NB272_280.out _)), (by repeat (first | (with_reducible first | exact HB.out | apply below_alloc | apply pw_below_drewN | apply below_drew1 | refine below_set ?_ GE248.out | refine below_set ?_ GE256.out | refine below_set ?_ GE260.out | refine below_set ?_ GE264.out | refine below_set ?_ GE268.out | refine below_set ?_ GE272.out | refine below_set ?_ GE279.out | refine below_set ?_ GE280.out) | exact HB.out)), fun _ _ => NB279_280.out.symm, fun _ _ => NB279_280.out, fun _ h1_ => absurd ((hon 10 (by kernel_rfl)).symm.trans h1_) (by decide), fun _ => GW279.out, fun _ => GE279.out, fun _ => NB248_279.out, fun _ => NB248_279.out.symm, fun _ => NB256_279.out, fun _ => NB256_279.out.symm, fun _ => NB260_279.out, fun _ => NB260_279.out.symm, fun _ => NB264_279.out, fun _ => NB264_279.out.symm, fun _ => NB268_279.out, fun _ => NB268_279.out.symm, fun _ => NB272_279.out, fun _ => NB272_279.out.symm, fun _ h1_ => absurd ((up_self b 11).symm.trans h1_) (by decide), fun _ => GW280.out, fun _ => GE280.out, fun _ => NB248_280.out, fun _ => NB248_280.out.symm, fun _ => NB256_280.out, fun _ => NB256_280.out.symm, fun _ => NB260_280.out, fun _ => NB260_280.out.symm, fun _ => NB264_280.out, fun _ => NB264_280.out.symm, fun _ => NB268_280.out, fun _ => NB268_280.out.symm, fun _ => NB272_280.out, fun _ => NB272_280.out.symm, fun _ => (grz_ (blk_far (grz_ (blk_far (grz_ BK279.out) NB279_280.out _)) NB279_280.out _)), fun _ => (grz_ (blk_put (cs := #[.int .i64 t277, .int .i64 0]) (grz_ (blk_put (cs := #[.int .i64 0, .int .i64 0]) (grz_ BK280.out) 0 _ rfl)) 1 _ rfl)), Q_X8_, Q_X9_⟩
   exact steps_nil
  rintro b a w89 hall ⟨gb279, gb280, m8_, m9_, ha, Q_BK248, Q_BK256, Q_BK260, Q_BK264, Q_BK268, Q_BK272, Q_HB, Q_NB280_279, Q_NB279_280, Q_BK279, Q_GW279, Q_GE279, Q_NB248_279, Q_NB279_248, Q_NB256_279, Q_NB279_256, Q_NB260_279, Q_NB279_260, Q_NB264_279, Q_NB279_264, Q_NB268_279, Q_NB279_268, Q_NB272_279, Q_NB279_272, Q_BK280, Q_GW280, Q_GE280, Q_NB248_280, Q_NB280_248, Q_NB256_280, Q_NB280_256, Q_NB260_280, Q_NB280_260, Q_NB264_280, Q_NB280_264, Q_NB268_280, Q_NB280_268, Q_NB272_280, Q_NB280_272, Q_BK279_e10, Q_BK280_e11, Q_X8_, Q_X9_⟩
  clear BK248 BK256 BK260 BK264 BK268 BK272 HB
  have hb0_ := hall 0 (by kernel_rfl)
  have hb1_ := hall 1 (by kernel_rfl)
  have hb2_ := hall 2 (by kernel_rfl)
  have hb3_ := hall 3 (by kernel_rfl)
  have hb4_ := hall 4 (by kernel_rfl)
  have hb5_ := hall 5 (by kernel_rfl)
  have hb6_ := hall 6 (by kernel_rfl)
  have hb7_ := hall 7 (by kernel_rfl)
  have hb8_ := hall 8 (by kernel_rfl)
  have hb9_ := hall 9 (by kernel_rfl)
  have hb10_ := hall 10 (by kernel_rfl)
  have hb11_ := hall 11 (by kernel_rfl)
  subst ha
  obtain rfl := Q_X8_ hb8_
  obtain rfl := Q_X9_ hb9_
  simp only [putSel, hb0_, hb1_, hb2_, hb3_, hb4_, hb5_, hb6_, hb7_, hb8_, hb9_, hb10_, hb11_, if_true, Act.put, List.setIfInBounds_toArray, List.set_cons_zero, List.set_cons_succ]
  have BK248 := Aside0.mk Q_BK248
  clear Q_BK248
  have BK256 := Aside0.mk Q_BK256
  clear Q_BK256
  have BK260 := Aside0.mk Q_BK260
  clear Q_BK260
  have BK264 := Aside0.mk Q_BK264
  clear Q_BK264
  have BK268 := Aside0.mk Q_BK268
  clear Q_BK268
  have BK272 := Aside0.mk Q_BK272
  clear Q_BK272
  have HB := Aside0.mk Q_HB
  clear Q_HB
  have NB280_279 := Aside0.mk (Q_NB280_279 hb8_ hb9_)
  clear Q_NB280_279
  have NB279_280 := Aside0.mk (Q_NB279_280 hb8_ hb9_)
  clear Q_NB279_280
  clear Q_BK279
  have GW279 := Aside0.mk (Q_GW279 hb8_)
  clear Q_GW279
  have GE279 := Aside0.mk (Q_GE279 hb8_)
  clear Q_GE279
  have NB248_279 := Aside0.mk (Q_NB248_279 hb8_)
  clear Q_NB248_279
  have NB279_248 := Aside0.mk (Q_NB279_248 hb8_)
  clear Q_NB279_248
  have NB256_279 := Aside0.mk (Q_NB256_279 hb8_)
  clear Q_NB256_279
  have NB279_256 := Aside0.mk (Q_NB279_256 hb8_)
  clear Q_NB279_256
  have NB260_279 := Aside0.mk (Q_NB260_279 hb8_)
  clear Q_NB260_279
  have NB279_260 := Aside0.mk (Q_NB279_260 hb8_)
  clear Q_NB279_260
  have NB264_279 := Aside0.mk (Q_NB264_279 hb8_)
  clear Q_NB264_279
  have NB279_264 := Aside0.mk (Q_NB279_264 hb8_)
  clear Q_NB279_264
  have NB268_279 := Aside0.mk (Q_NB268_279 hb8_)
  clear Q_NB268_279
  have NB279_268 := Aside0.mk (Q_NB279_268 hb8_)
  clear Q_NB279_268
  have NB272_279 := Aside0.mk (Q_NB272_279 hb8_)
  clear Q_NB272_279
  have NB279_272 := Aside0.mk (Q_NB279_272 hb8_)
  clear Q_NB279_272
  clear Q_BK280
  have GW280 := Aside0.mk (Q_GW280 hb9_)
  clear Q_GW280
  have GE280 := Aside0.mk (Q_GE280 hb9_)
  clear Q_GE280
  have NB248_280 := Aside0.mk (Q_NB248_280 hb9_)
  clear Q_NB248_280
  have NB280_248 := Aside0.mk (Q_NB280_248 hb9_)
  clear Q_NB280_248
  have NB256_280 := Aside0.mk (Q_NB256_280 hb9_)
  clear Q_NB256_280
  have NB280_256 := Aside0.mk (Q_NB280_256 hb9_)
  clear Q_NB280_256
  have NB260_280 := Aside0.mk (Q_NB260_280 hb9_)
  clear Q_NB260_280
  have NB280_260 := Aside0.mk (Q_NB280_260 hb9_)
  clear Q_NB280_260
  have NB264_280 := Aside0.mk (Q_NB264_280 hb9_)
  clear Q_NB264_280
  have NB280_264 := Aside0.mk (Q_NB280_264 hb9_)
  clear Q_NB280_264
  have NB268_280 := Aside0.mk (Q_NB268_280 hb9_)
  clear Q_NB268_280
  have NB280_268 := Aside0.mk (Q_NB280_268 hb9_)
  clear Q_NB280_268
  have NB272_280 := Aside0.mk (Q_NB272_280 hb9_)
  clear Q_NB272_280
  have NB280_272 := Aside0.mk (Q_NB280_272 hb9_)
  clear Q_NB280_272
  have BK279 := Aside0.mk (Q_BK279_e10 hb10_)
  clear Q_BK279_e10
  have BK280 := Aside0.mk (Q_BK280_e11 hb11_)
  clear Q_BK280_e11
  clear hall hb0_ hb1_ hb2_ hb3_ hb4_ hb5_ hb6_ hb7_ hb8_ hb9_ hb10_ hb11_
  have hnb90 := NB248_279.out.symm
  have hnc90 := NB248_279.out
  have hnb91 := NB256_279.out.symm
  have hnc91 := NB256_279.out
  have hnb92 := NB260_279.out.symm
  have hnc92 := NB260_279.out
  have hnb93 := NB264_279.out.symm
  have hnc93 := NB264_279.out
  have hnb94 := NB268_279.out.symm
  have hnc94 := NB268_279.out
  have hnb95 := NB272_279.out.symm
  have hnc95 := NB272_279.out
  have hnb96 := NB279_280.out
  have hnc96 := NB279_280.out.symm
  have hcz97_0 : w89.cell? ⟨gb279, 0, none⟩ = some (.int .i64 t273) := (blk_cell BK279.out 0).trans rfl
  have hcz97_1 : w89.cell? ⟨gb279, 1, none⟩ = some (.int .i64 t274) := (blk_cell BK279.out 1).trans rfl
  have hfz97_0 := blk_frozen BK279.out 0
  have hfz97_1 := blk_frozen BK279.out 1
  have hnb98 := NB248_280.out.symm
  have hnc98 := NB248_280.out
  have hnb99 := NB256_280.out.symm
  have hnc99 := NB256_280.out
  have hnb100 := NB260_280.out.symm
  have hnc100 := NB260_280.out
  have hnb101 := NB264_280.out.symm
  have hnc101 := NB264_280.out
  have hnb102 := NB268_280.out.symm
  have hnc102 := NB268_280.out
  have hnb103 := NB272_280.out.symm
  have hnc103 := NB272_280.out
  have hcz104_0 : w89.cell? ⟨gb280, 0, none⟩ = some (.int .i64 t277) := (blk_cell BK280.out 0).trans rfl
  have hcz104_1 : w89.cell? ⟨gb280, 1, none⟩ = some (.int .i64 t278) := (blk_cell BK280.out 1).trans rfl
  have hfz104_0 := blk_frozen BK280.out 0
  have hfz104_1 := blk_frozen BK280.out 1
  try go_wp2_with (first | ((with_reducible refine gate_callee (f := 53) rfl ?_); refine goesL_ (some 82) rfl rfl Tryd.func53 (by kernel_rfl) rfl #[.agg #[.int .i64 (wrap64 (t273 + t277)), .int .i64 (wrap64 (t274 + t278))]] rfl (by (try simp only [List.map_toArray, List.map_cons, List.map_nil]); first | done | rfl | (simp only [List.length_drop, List.length_take]; rfl) | (rw [wrap_in_ (n := t273 + t277) (by omega) (by omega)]; rw [wrap_in_ (n := t274 + t278) (by omega) (by omega)]; rfl)) ?_; (with_reducible refine (sun_Clamp.calls (wrap64 (t273 + t277)) (wrap64 (t274 + t278)) t281 t282 _ A15.out).mono ?_); rintro e w105 ⟨rfl, hb⟩; refine ⟨_, rfl, ?_⟩; replace BK248 := nxz_ BK248 hb; replace BK256 := nxz_ BK256 hb; replace BK260 := nxz_ BK260 hb; replace BK264 := nxz_ BK264 hb; replace BK268 := nxz_ BK268 hb; replace BK272 := nxz_ BK272 hb; replace BK279 := nxz_ BK279 hb; replace BK280 := nxz_ BK280 hb; replace HB := hxz_ HB hb; (try clear hb); (try clear hb2); (try clear hk); (try clear hi); have hcz106_0 : w105.cell? ⟨gb248, 0, none⟩ = some (.int .i64 0) := (blk_cell BK248.out 0).trans rfl; have hcz106_1 : w105.cell? ⟨gb248, 1, none⟩ = some (.int .i64 0) := (blk_cell BK248.out 1).trans rfl; have hfz106_0 := blk_frozen BK248.out 0; have hfz106_1 := blk_frozen BK248.out 1))
  refine bodyPost_ret (results_ct rfl _ _ gb248 28 #[.int .i64 t281, .int .i64 t282] (0, 0) _ rfl (grz_ (blk_put (cs := #[.int .i64 t281, .int .i64 0]) (grz_ (blk_put (cs := #[.int .i64 0, .int .i64 0]) (grz_ BK248.out) 0 _ rfl)) 1 _ rfl)) Tryd.underlying28 rfl (by kernel_rfl)) rfl ?_
  exact ⟨by first | rfl | (simp [errW_none, errW_some] <;> rfl) | (simp [*, errW_none, errW_some] <;> rfl), by repeat (first | (with_reducible first | exact HB.out | apply below_alloc | apply pw_below_drewN | apply below_drew1 | refine below_set ?_ GE248.out) | exact HB.out)⟩
 ·
  rw [if_neg c6] at H
  have c6b0 : (t251 == 0) = false := beq_eq_false_iff_ne.mpr c6
  have c6b1 : (t251 != 0) = true := bne_iff_ne.mpr c6
  simp only [Option.some.injEq, Prod.mk.injEq] at H
  obtain ⟨rfl, rfl, rfl⟩ := H
  go_enter Tryd.func36, Tryd.ntmps36
  go_wp2_with (first | ((with_reducible refine gate_dst (N := 4) rfl ?_); refine box_event ?hg (N := 4) ?hd (cs := #[.int .i64 a0_0, .int .i64 a0_1]) (t := 41) ?hr ?_; (case hd => rfl); (case hg => rfl); (case hr => first | (go_simp; done) | (go_simp; rfl)); intro gb245 hg w107 hbox hb; have BK245 := Aside0.mk hbox; have GE245 := gez_ (hbz_ HB.out) hg; replace HB := hxz_ HB hb; clear hb hbox hg) | ((with_reducible refine gate_dst (N := 5) rfl ?_); refine box_event ?hg (N := 5) ?hd (cs := #[.int .i64 a1_0, .int .i64 a1_1]) (t := 28) ?hr ?_; (case hd => rfl); (case hg => rfl); (case hr => first | (go_simp; done) | (go_simp; rfl)); intro gb246 hg w108 hbox hb; have BK246 := Aside0.mk hbox; have GE246 := gez_ (hbz_ HB.out) hg; have NB245_246 := nbz_ (grz_ BK245.out) hg; replace BK245 := nxz_ BK245 hb; replace HB := hxz_ HB hb; clear hb hbox hg) | ((with_reducible refine gate_dst (N := 6) rfl ?_); refine box_event ?hg (N := 6) ?hd (cs := #[.int .i64 a2_0, .int .i64 a2_1]) (t := 28) ?hr ?_; (case hd => rfl); (case hg => rfl); (case hr => first | (go_simp; done) | (go_simp; rfl)); intro gb247 hg w109 hbox hb; have BK247 := Aside0.mk hbox; have GE247 := gez_ (hbz_ HB.out) hg; have NB245_247 := nbz_ (grz_ BK245.out) hg; have NB246_247 := nbz_ (grz_ BK246.out) hg; replace BK245 := nxz_ BK245 hb; replace BK246 := nxz_ BK246 hb; replace HB := hxz_ HB hb; clear hb hbox hg) | ((with_reducible refine gate_dst (N := 8) rfl ?_); refine box_event ?hg (N := 8) ?hd (cs := #[.int .i64 0, .int .i64 0]) (t := 28) ?hr ?_; (case hd => rfl); (case hg => rfl); (case hr => first | (go_simp; done) | (go_simp; rfl)); intro gb248 hg w110 hbox hb; have BK248 := Aside0.mk hbox; have GE248 := gez_ (hbz_ HB.out) hg; have NB245_248 := nbz_ (grz_ BK245.out) hg; have NB246_248 := nbz_ (grz_ BK246.out) hg; have NB247_248 := nbz_ (grz_ BK247.out) hg; replace BK245 := nxz_ BK245 hb; replace BK246 := nxz_ BK246 hb; replace BK247 := nxz_ BK247 hb; replace HB := hxz_ HB hb; clear hb hbox hg; have hnb111 := NB245_246.out; have hnc111 := NB245_246.out.symm; have hnb112 := NB245_247.out; have hnc112 := NB245_247.out.symm; have hnb113 := NB245_248.out; have hnc113 := NB245_248.out.symm; have hcz114_0 : w110.cell? ⟨gb245, 0, none⟩ = some (.int .i64 a0_0) := (blk_cell BK245.out 0).trans rfl; have hcz114_1 : w110.cell? ⟨gb245, 1, none⟩ = some (.int .i64 a0_1) := (blk_cell BK245.out 1).trans rfl; have hfz114_0 := blk_frozen BK245.out 0; have hfz114_1 := blk_frozen BK245.out 1; have hnb115 := NB246_247.out; have hnc115 := NB246_247.out.symm; have hnb116 := NB246_248.out; have hnc116 := NB246_248.out.symm; have hcz117_0 : w110.cell? ⟨gb246, 0, none⟩ = some (.int .i64 a1_0) := (blk_cell BK246.out 0).trans rfl; have hcz117_1 : w110.cell? ⟨gb246, 1, none⟩ = some (.int .i64 a1_1) := (blk_cell BK246.out 1).trans rfl; have hfz117_0 := blk_frozen BK246.out 0; have hfz117_1 := blk_frozen BK246.out 1; have hnb118 := NB247_248.out; have hnc118 := NB247_248.out.symm; have hcz119_0 : w110.cell? ⟨gb247, 0, none⟩ = some (.int .i64 a2_0) := (blk_cell BK247.out 0).trans rfl; have hcz119_1 : w110.cell? ⟨gb247, 1, none⟩ = some (.int .i64 a2_1) := (blk_cell BK247.out 1).trans rfl; have hfz119_0 := blk_frozen BK247.out 0; have hfz119_1 := blk_frozen BK247.out 1) | ((with_reducible refine gate_callee (f := 50) rfl ?_); refine goesL_ (some 29) rfl rfl Tryd.func50 (by kernel_rfl) rfl #[.agg #[.int .i64 a0_0, .int .i64 a0_1], .agg #[.int .i64 a1_0, .int .i64 a1_1], .agg #[.int .i64 a2_0, .int .i64 a2_1], .int .i64 a3] rfl (by (try simp only [List.map_toArray, List.map_cons, List.map_nil]); first | done | rfl | (simp only [List.length_drop, List.length_take]; rfl)) ?_; (with_reducible refine (place_hour.calls k a0_0 a0_1 a1_0 a1_1 a2_0 a2_1 a3 t249 t250 t251 _ A5.out).mono ?_); rintro e w120 ⟨rfl, hb⟩; refine ⟨_, rfl, ?_⟩; replace BK245 := nxz_ BK245 hb; replace BK246 := nxz_ BK246 hb; replace BK247 := nxz_ BK247 hb; replace BK248 := nxz_ BK248 hb; replace HB := hxz_ HB hb; (try clear hb); (try clear hb2); (try clear hk); (try clear hi)) | ((with_reducible refine gate_dst (N := 10) rfl ?_); refine box_event ?hg (N := 10) ?hd (cs := #[.int .i64 0, .int .i64 0]) (t := 28) ?hr ?_; (case hd => rfl); (case hg => rfl); (case hr => first | (go_simp; done) | (go_simp; rfl)); intro gb252 hg w121 hbox hb; have BK252 := Aside0.mk hbox; have GE252 := gez_ (hbz_ HB.out) hg; have NB248_252 := nbz_ (grz_ BK248.out) hg; replace BK248 := nxz_ BK248 hb; replace HB := hxz_ HB hb; clear hb hbox hg; have hnb122 := NB248_252.out.symm; have hnc122 := NB248_252.out; have hcz123_0 : w121.cell? ⟨gb252, 0, none⟩ = some (.int .i64 0) := (blk_cell BK252.out 0).trans rfl; have hcz123_1 : w121.cell? ⟨gb252, 1, none⟩ = some (.int .i64 0) := (blk_cell BK252.out 1).trans rfl; have hfz123_0 := blk_frozen BK252.out 0; have hfz123_1 := blk_frozen BK252.out 1; have hcz124_0 : w121.cell? ⟨gb248, 0, none⟩ = some (.int .i64 0) := (blk_cell BK248.out 0).trans rfl; have hcz124_1 : w121.cell? ⟨gb248, 1, none⟩ = some (.int .i64 0) := (blk_cell BK248.out 1).trans rfl; have hfz124_0 := blk_frozen BK248.out 0; have hfz124_1 := blk_frozen BK248.out 1))
  refine bodyPost_ret (results_ct rfl _ _ gb248 28 #[.int .i64 0, .int .i64 0] (0, 0) _ rfl (grz_ (blk_put (cs := #[.int .i64 0, .int .i64 0]) (grz_ (blk_put (cs := #[.int .i64 0, .int .i64 0]) (grz_ (blk_far (grz_ (blk_far (grz_ BK248.out) NB248_252.out _)) NB248_252.out _)) 0 _ rfl)) 1 _ rfl)) Tryd.underlying28 rfl (by kernel_rfl)) rfl ?_
  exact ⟨by first | rfl | (simp [errW_none, errW_some] <;> rfl) | (simp [*, errW_none, errW_some] <;> rfl), by repeat (first | (with_reducible first | exact HB.out | apply below_alloc | apply pw_below_drewN | apply below_drew1 | refine below_set ?_ GE248.out | refine below_set ?_ GE252.out) | exact HB.out)⟩

end Go.Proofs.YtgmjgnojjbajdaaDoor.JR
