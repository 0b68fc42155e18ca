-- Made by a program of this session (wip/hp.py, over the kit's print) out of the translation. Not trusted: Lean checks it.
import Derived.Test.YtemfkcdhkmmbeaaJQx0
import Derived.Test.YtemfkcdhkmmbeaaJQx1
import Derived.Test.YtemfkcdhkmmbeaaJQx9
import Derived.Test.YtemfkcdhkmmbeaaJQx13
import Derived.Test.YtemfkcdhkmmbeaaJQx23
import Derived.Test.YtemfkcdhkmmbeaaJQx24
import Derived.Test.YtemfkcdhkmmbeaaJQx25
import Derived.Test.YtemfkcdhkmmbeaaJQx26
import Derived.Test.YtemfkcdhkmmbeaaJQx29
namespace Go.Proofs.Ytemfkcdhkmmbeaa.JQ
open Go.RowKit Go.Proofs.YtemfkcdhkmmbeaaW.PrintWords Go.Proofs.YtemfkcdhkmmbeaaW.PrintLast Go.Proofs.YtemfkcdhkmmbeaaW.PrintMore
attribute [local go_sem] max2_int min2_int max_two min_two max_three min_three max_four min_four   -- for this text's walks alone
set_option linter.unusedVariables false
set_option linter.unusedSimpArgs false

/-! ### place_Height: function 29 -/
def place_Height.T9 : Bool × List (List Nat × List Nat) := (true, [([], []), ([], []), ([0, 1], [0, 1]), ([], []), ([], []), ([3, 4, 2], [3, 4]), ([], []), ([5, 6, 5], [5, 6]), ([], []), ([], []), ([8, 2, 7, 0, 1, 2, 8, 9], [2, 8]), ([9, 7, 10, 0, 1, 2, 3, 4, 5, 6, 7, 8, 9, 10], [7, 9])])
def place_Height.B9 : List Nat := [0, 0, 3, 0, 0, 31, 0, 127, 0, 0, 1023, 2047]
theorem place_Height.tab9 : rtab .any (opsOf Try.f29 9) = place_Height.T9 := by kernel_rfl
theorem place_Height.bits9 : waitsOk place_Height.T9.2 place_Height.B9 = true := by kernel_rfl
set_option maxHeartbeats 8000000 in
set_option maxRecDepth 100000 in
theorem place_Height.calls (k : Nat) (a0_0 : Int) (a0_1 : Int) (a1_0 : Int) (a1_1 : Int) (a2_0 : Int) (a2_1 : Int) (a3 : Int) (r1 : Int) (r2 : Int) (r3 : Int) (w : World) (h : place_Height.f k a0_0 a0_1 a1_0 a1_1 a2_0 a2_1 a3 = some (r1, r2, r3)) :
    Calls Try.prog 29 #[.agg #[.int .i64 a0_0, .int .i64 a0_1], .agg #[.int .i64 a1_0, .int .i64 a1_1], .agg #[.int .i64 a2_0, .int .i64 a2_1], .int .i64 a3] w fun e w' => e = .returned (.tuple #[.agg #[.int .i64 r1, .int .i64 r2], .int .i64 r3]) ∧ Below w.heap.size w w' := by
  have hu37 := Try.underlying37
  have hu29 := Try.underlying29
  have HB := Aside0.mk (Below.refl w.heap.size w)
  have H : ((place_hour.f k a0_0 a0_1 a1_0 a1_1 a2_0 a2_1 a3).bind fun bt243 => (if bt243.2.2 = 0 then ((trig_Sin.f k a0_1).bind fun bt247 => ((trig_Cos.f k a0_1).bind fun bt251 => ((trig_SinOver.f k a2_0 a2_1).bind fun bt255 => ((trig_CosOver.f k a2_0 a2_1).bind fun bt259 => ((trig_CosOver.f k bt243.1 bt243.2.1).bind fun bt263 => ((sun_Unit.f bt247.1 bt247.2.1 bt255.1 bt255.2.1).bind fun bt267 => ((sun_Unit.f bt251.1 bt251.2.1 bt259.1 bt259.2.1).bind fun bt269 => ((sun_Unit.f bt269.1 bt269.2 bt263.1 bt263.2.1).bind fun bt271 => ((sun_Clamp.f (wrap64 (bt267.1 + bt271.1)) (wrap64 (bt267.2 + bt271.2))).bind fun bt275 => (some (bt275.1, bt275.2, 0))))))))))) else (some (0, 0, bt243.2.2)))) = some (r1, r2, r3) := h
  clear h
  replace H := Option.bind_eq_some_iff.mp H
  obtain ⟨⟨t243, t244, t245⟩, A50, H⟩ := H
  replace H : (if t245 = 0 then ((trig_Sin.f k a0_1).bind fun bt247 => ((trig_Cos.f k a0_1).bind fun bt251 => ((trig_SinOver.f k a2_0 a2_1).bind fun bt255 => ((trig_CosOver.f k a2_0 a2_1).bind fun bt259 => ((trig_CosOver.f k t243 t244).bind fun bt263 => ((sun_Unit.f bt247.1 bt247.2.1 bt255.1 bt255.2.1).bind fun bt267 => ((sun_Unit.f bt251.1 bt251.2.1 bt259.1 bt259.2.1).bind fun bt269 => ((sun_Unit.f bt269.1 bt269.2 bt263.1 bt263.2.1).bind fun bt271 => ((sun_Clamp.f (wrap64 (bt267.1 + bt271.1)) (wrap64 (bt267.2 + bt271.2))).bind fun bt275 => (some (bt275.1, bt275.2, 0))))))))))) else (some (0, 0, t245))) = some (r1, r2, r3) := H
  have A5 := Aside0.mk A50
  clear A50
  by_cases c6 : t245 = 0
  · rw [if_pos c6] at H
    have c6b0 : (t245 == 0) = true := beq_iff_eq.mpr c6
    have c6b1 : (t245 != 0) = false := bne_eq_false_iff_eq.mpr c6
    clear c6
    replace H := Option.bind_eq_some_iff.mp H
    obtain ⟨⟨t247, t248, t249⟩, A70, H⟩ := H
    replace H : ((trig_Cos.f k a0_1).bind fun bt251 => ((trig_SinOver.f k a2_0 a2_1).bind fun bt255 => ((trig_CosOver.f k a2_0 a2_1).bind fun bt259 => ((trig_CosOver.f k t243 t244).bind fun bt263 => ((sun_Unit.f t247 t248 bt255.1 bt255.2.1).bind fun bt267 => ((sun_Unit.f bt251.1 bt251.2.1 bt259.1 bt259.2.1).bind fun bt269 => ((sun_Unit.f bt269.1 bt269.2 bt263.1 bt263.2.1).bind fun bt271 => ((sun_Clamp.f (wrap64 (bt267.1 + bt271.1)) (wrap64 (bt267.2 + bt271.2))).bind fun bt275 => (some (bt275.1, bt275.2, 0)))))))))) = some (r1, r2, r3) := H
    have A7 := Aside0.mk A70
    clear A70
    replace H := Option.bind_eq_some_iff.mp H
    obtain ⟨⟨t251, t252, t253⟩, A80, H⟩ := H
    replace H : ((trig_SinOver.f k a2_0 a2_1).bind fun bt255 => ((trig_CosOver.f k a2_0 a2_1).bind fun bt259 => ((trig_CosOver.f k t243 t244).bind fun bt263 => ((sun_Unit.f t247 t248 bt255.1 bt255.2.1).bind fun bt267 => ((sun_Unit.f t251 t252 bt259.1 bt259.2.1).bind fun bt269 => ((sun_Unit.f bt269.1 bt269.2 bt263.1 bt263.2.1).bind fun bt271 => ((sun_Clamp.f (wrap64 (bt267.1 + bt271.1)) (wrap64 (bt267.2 + bt271.2))).bind fun bt275 => (some (bt275.1, bt275.2, 0))))))))) = some (r1, r2, r3) := H
    have A8 := Aside0.mk A80
    clear A80
    replace H := Option.bind_eq_some_iff.mp H
    obtain ⟨⟨t255, t256, t257⟩, A90, H⟩ := H
    replace H : ((trig_CosOver.f k a2_0 a2_1).bind fun bt259 => ((trig_CosOver.f k t243 t244).bind fun bt263 => ((sun_Unit.f t247 t248 t255 t256).bind fun bt267 => ((sun_Unit.f t251 t252 bt259.1 bt259.2.1).bind fun bt269 => ((sun_Unit.f bt269.1 bt269.2 bt263.1 bt263.2.1).bind fun bt271 => ((sun_Clamp.f (wrap64 (bt267.1 + bt271.1)) (wrap64 (bt267.2 + bt271.2))).bind fun bt275 => (some (bt275.1, bt275.2, 0)))))))) = some (r1, r2, r3) := H
    have A9 := Aside0.mk A90
    clear A90
    replace H := Option.bind_eq_some_iff.mp H
    obtain ⟨⟨t259, t260, t261⟩, A100, H⟩ := H
    replace H : ((trig_CosOver.f k t243 t244).bind fun bt263 => ((sun_Unit.f t247 t248 t255 t256).bind fun bt267 => ((sun_Unit.f t251 t252 t259 t260).bind fun bt269 => ((sun_Unit.f bt269.1 bt269.2 bt263.1 bt263.2.1).bind fun bt271 => ((sun_Clamp.f (wrap64 (bt267.1 + bt271.1)) (wrap64 (bt267.2 + bt271.2))).bind fun bt275 => (some (bt275.1, bt275.2, 0))))))) = some (r1, r2, r3) := H
    have A10 := Aside0.mk A100
    clear A100
    replace H := Option.bind_eq_some_iff.mp H
    obtain ⟨⟨t263, t264, t265⟩, A110, H⟩ := H
    replace H : ((sun_Unit.f t247 t248 t255 t256).bind fun bt267 => ((sun_Unit.f t251 t252 t259 t260).bind fun bt269 => ((sun_Unit.f bt269.1 bt269.2 t263 t264).bind fun bt271 => ((sun_Clamp.f (wrap64 (bt267.1 + bt271.1)) (wrap64 (bt267.2 + bt271.2))).bind fun bt275 => (some (bt275.1, bt275.2, 0)))))) = some (r1, r2, r3) := H
    have A11 := Aside0.mk A110
    clear A110
    replace H := Option.bind_eq_some_iff.mp H
    obtain ⟨⟨t267, t268⟩, A120, H⟩ := H
    replace H : ((sun_Unit.f t251 t252 t259 t260).bind fun bt269 => ((sun_Unit.f bt269.1 bt269.2 t263 t264).bind fun bt271 => ((sun_Clamp.f (wrap64 (t267 + bt271.1)) (wrap64 (t268 + bt271.2))).bind fun bt275 => (some (bt275.1, bt275.2, 0))))) = some (r1, r2, r3) := H
    have A12 := Aside0.mk A120
    clear A120
    replace H := Option.bind_eq_some_iff.mp H
    obtain ⟨⟨t269, t270⟩, A130, H⟩ := H
    replace H : ((sun_Unit.f t269 t270 t263 t264).bind fun bt271 => ((sun_Clamp.f (wrap64 (t267 + bt271.1)) (wrap64 (t268 + bt271.2))).bind fun bt275 => (some (bt275.1, bt275.2, 0)))) = some (r1, r2, r3) := H
    have A13 := Aside0.mk A130
    clear A130
    replace H := Option.bind_eq_some_iff.mp H
    obtain ⟨⟨t271, t272⟩, A140, H⟩ := H
    replace H : ((sun_Clamp.f (wrap64 (t267 + t271)) (wrap64 (t268 + t272))).bind fun bt275 => (some (bt275.1, bt275.2, 0))) = some (r1, r2, r3) := H
    have A14 := Aside0.mk A140
    clear A140
    replace H := Option.bind_eq_some_iff.mp H
    obtain ⟨⟨t275, t276⟩, A150, H⟩ := H
    replace H : (some (t275, t276, 0)) = some (r1, r2, r3) := H
    have A15 := Aside0.mk A150
    clear A150
    simp only [Option.some.injEq, Prod.mk.injEq] at H
    obtain ⟨rfl, rfl, rfl⟩ := H
    go_enter Try.func29, Try.ntmps29
    try go_wp2_with (first | ((with_reducible refine gate_dst (N := 4) rfl ?_); refine box_event ?hg (N := 4) ?hd (cs := #[.int .i64 a0_0, .int .i64 a0_1]) (t := 37) ?hr ?_; (case hd => rfl); (case hg => rfl); (case hr => first | (go_simp; done) | (go_simp; rfl)); intro gb239 hg w16 hbox hb; have BK239 := Aside0.mk hbox; have GW239 := ge_ (hb_ HB.out) hg; have GE239 := ge_ (hb_ HB.out) hg; replace HB := hx_ HB hb; clear hb hbox hg) | ((with_reducible refine gate_dst (N := 5) rfl ?_); refine box_event ?hg (N := 5) ?hd (cs := #[.int .i64 a1_0, .int .i64 a1_1]) (t := 29) ?hr ?_; (case hd => rfl); (case hg => rfl); (case hr => first | (go_simp; done) | (go_simp; rfl)); intro gb240 hg w17 hbox hb; have BK240 := Aside0.mk hbox; have GW240 := ge_ (hb_ HB.out) hg; have GE240 := ge_ (hb_ HB.out) hg; have NB239_240 := nb_ (gr_ BK239.out) hg; have NB240_239 := bn_ (gr_ BK239.out) hg; replace BK239 := nx_ BK239 hb; replace HB := hx_ HB hb; clear hb hbox hg) | ((with_reducible refine gate_dst (N := 6) rfl ?_); refine box_event ?hg (N := 6) ?hd (cs := #[.int .i64 a2_0, .int .i64 a2_1]) (t := 29) ?hr ?_; (case hd => rfl); (case hg => rfl); (case hr => first | (go_simp; done) | (go_simp; rfl)); intro gb241 hg w18 hbox hb; have BK241 := Aside0.mk hbox; have GW241 := ge_ (hb_ HB.out) hg; have GE241 := ge_ (hb_ HB.out) hg; have NB239_241 := nb_ (gr_ BK239.out) hg; have NB241_239 := bn_ (gr_ BK239.out) hg; have NB240_241 := nb_ (gr_ BK240.out) hg; have NB241_240 := bn_ (gr_ BK240.out) hg; replace BK239 := nx_ BK239 hb; replace BK240 := nx_ BK240 hb; replace HB := hx_ HB hb; clear hb hbox hg) | ((with_reducible refine gate_dst (N := 8) rfl ?_); refine box_event ?hg (N := 8) ?hd (cs := #[.int .i64 0, .int .i64 0]) (t := 29) ?hr ?_; (case hd => rfl); (case hg => rfl); (case hr => first | (go_simp; done) | (go_simp; rfl)); intro gb242 hg w19 hbox hb; have BK242 := Aside0.mk hbox; have GW242 := ge_ (hb_ HB.out) hg; have GE242 := ge_ (hb_ HB.out) hg; have NB239_242 := nb_ (gr_ BK239.out) hg; have NB242_239 := bn_ (gr_ BK239.out) hg; have NB240_242 := nb_ (gr_ BK240.out) hg; have NB242_240 := bn_ (gr_ BK240.out) hg; have NB241_242 := nb_ (gr_ BK241.out) hg; have NB242_241 := bn_ (gr_ BK241.out) hg; replace BK239 := nx_ BK239 hb; replace BK240 := nx_ BK240 hb; replace BK241 := nx_ BK241 hb; replace HB := hx_ HB hb; clear hb hbox hg; have hnb20 := NB239_240.out; have hnc20 := NB240_239.out; have hnb21 := NB239_241.out; have hnc21 := NB241_239.out; have hnb22 := NB239_242.out; have hnc22 := NB242_239.out; have hcz23_0 : w19.cell? ⟨gb239, 0, none⟩ = some (.int .i64 a0_0) := (blk_cell BK239.out 0).trans rfl; have hcz23_1 : w19.cell? ⟨gb239, 1, none⟩ = some (.int .i64 a0_1) := (blk_cell BK239.out 1).trans rfl; have hfz23_0 := blk_frozen BK239.out 0; have hfz23_1 := blk_frozen BK239.out 1; have hnb24 := NB240_241.out; have hnc24 := NB241_240.out; have hnb25 := NB240_242.out; have hnc25 := NB242_240.out; have hcz26_0 : w19.cell? ⟨gb240, 0, none⟩ = some (.int .i64 a1_0) := (blk_cell BK240.out 0).trans rfl; have hcz26_1 : w19.cell? ⟨gb240, 1, none⟩ = some (.int .i64 a1_1) := (blk_cell BK240.out 1).trans rfl; have hfz26_0 := blk_frozen BK240.out 0; have hfz26_1 := blk_frozen BK240.out 1; have hnb27 := NB241_242.out; have hnc27 := NB242_241.out; have hcz28_0 : w19.cell? ⟨gb241, 0, none⟩ = some (.int .i64 a2_0) := (blk_cell BK241.out 0).trans rfl; have hcz28_1 : w19.cell? ⟨gb241, 1, none⟩ = some (.int .i64 a2_1) := (blk_cell BK241.out 1).trans rfl; have hfz28_0 := blk_frozen BK241.out 0; have hfz28_1 := blk_frozen BK241.out 1) | ((with_reducible refine gate_callee (f := 45) rfl ?_); refine goesL_ (some 29) rfl rfl Try.func45 (by kernel_rfl) rfl #[.agg #[.int .i64 a0_0, .int .i64 a0_1], .agg #[.int .i64 a1_0, .int .i64 a1_1], .agg #[.int .i64 a2_0, .int .i64 a2_1], .int .i64 a3] rfl (by (try simp only [List.map_toArray, List.map_cons, List.map_nil]); first | done | rfl | (simp only [List.length_drop, List.length_take]; rfl)) ?_; (with_reducible refine (place_hour.calls k a0_0 a0_1 a1_0 a1_1 a2_0 a2_1 a3 t243 t244 t245 _ A5.out).mono ?_); rintro e w29 ⟨rfl, hb⟩; refine ⟨_, rfl, ?_⟩; replace BK239 := nx_ BK239 hb; replace BK240 := nx_ BK240 hb; replace BK241 := nx_ BK241 hb; replace BK242 := nx_ BK242 hb; replace HB := hx_ HB hb; (try clear hb); (try clear hb2); (try clear hk); (try clear hi)) | ((with_reducible refine gate_dst (N := 10) rfl ?_); refine box_event ?hg (N := 10) ?hd (cs := #[.int .i64 0, .int .i64 0]) (t := 29) ?hr ?_; (case hd => rfl); (case hg => rfl); (case hr => first | (go_simp; done) | (go_simp; rfl)); intro gb246 hg w30 hbox hb; have BK246 := Aside0.mk hbox; have GW246 := ge_ (hb_ HB.out) hg; have GE246 := ge_ (hb_ HB.out) hg; have NB239_246 := nb_ (gr_ BK239.out) hg; have NB246_239 := bn_ (gr_ BK239.out) hg; have NB240_246 := nb_ (gr_ BK240.out) hg; have NB246_240 := bn_ (gr_ BK240.out) hg; have NB241_246 := nb_ (gr_ BK241.out) hg; have NB246_241 := bn_ (gr_ BK241.out) hg; have NB242_246 := nb_ (gr_ BK242.out) hg; have NB246_242 := bn_ (gr_ BK242.out) hg; replace BK239 := nx_ BK239 hb; replace BK240 := nx_ BK240 hb; replace BK241 := nx_ BK241 hb; replace BK242 := nx_ BK242 hb; replace HB := hx_ HB hb; clear hb hbox hg; have hnb31 := NB246_239.out; have hnc31 := NB239_246.out; have hnb32 := NB246_240.out; have hnc32 := NB240_246.out; have hnb33 := NB246_241.out; have hnc33 := NB241_246.out; have hnb34 := NB246_242.out; have hnc34 := NB242_246.out; have hcz35_0 : w30.cell? ⟨gb246, 0, none⟩ = some (.int .i64 0) := (blk_cell BK246.out 0).trans rfl; have hcz35_1 : w30.cell? ⟨gb246, 1, none⟩ = some (.int .i64 0) := (blk_cell BK246.out 1).trans rfl; have hfz35_0 := blk_frozen BK246.out 0; have hfz35_1 := blk_frozen BK246.out 1; have hcz36_0 : w30.cell? ⟨gb239, 0, none⟩ = some (.int .i64 a0_0) := (blk_cell BK239.out 0).trans rfl; have hcz36_1 : w30.cell? ⟨gb239, 1, none⟩ = some (.int .i64 a0_1) := (blk_cell BK239.out 1).trans rfl; have hfz36_0 := blk_frozen BK239.out 0; have hfz36_1 := blk_frozen BK239.out 1) | ((with_reducible refine gate_callee (f := 32) rfl ?_); refine goesL_ (some 39) rfl rfl Try.func32 (by kernel_rfl) rfl #[.int .i64 a0_1] rfl (by (try simp only [List.map_toArray, List.map_cons, List.map_nil]); first | done | rfl | (simp only [List.length_drop, List.length_take]; rfl)) ?_; (with_reducible refine (trig_Sin.calls k a0_1 t247 t248 t249 _ A7.out).mono ?_); rintro e w37 ⟨rfl, hb⟩; refine ⟨_, rfl, ?_⟩; replace BK239 := Aside0.mk (blk_below (g := gb239) (o := .cells #[.int .i64 a0_0, .int .i64 a0_1] 37 (0, 0)) (gr_ (blk_far (gr_ (blk_far (gr_ BK239.out) NB239_246.out _)) NB239_246.out _)) hb); replace BK240 := Aside0.mk (blk_below (g := gb240) (o := .cells #[.int .i64 a1_0, .int .i64 a1_1] 29 (0, 0)) (gr_ (blk_far (gr_ (blk_far (gr_ BK240.out) NB240_246.out _)) NB240_246.out _)) hb); replace BK241 := Aside0.mk (blk_below (g := gb241) (o := .cells #[.int .i64 a2_0, .int .i64 a2_1] 29 (0, 0)) (gr_ (blk_far (gr_ (blk_far (gr_ BK241.out) NB241_246.out _)) NB241_246.out _)) hb); replace BK242 := Aside0.mk (blk_below (g := gb242) (o := .cells #[.int .i64 0, .int .i64 0] 29 (0, 0)) (gr_ (blk_far (gr_ (blk_far (gr_ BK242.out) NB242_246.out _)) NB242_246.out _)) hb); replace BK246 := Aside0.mk (blk_below (g := gb246) (o := .cells #[.int .i64 t243, .int .i64 t244] 29 (0, 0)) (gr_ (blk_put (cs := #[.int .i64 t243, .int .i64 0]) (gr_ (blk_put (cs := #[.int .i64 0, .int .i64 0]) (gr_ BK246.out) 0 _ rfl)) 1 _ rfl)) hb); replace HB := Aside0.mk (below_step (by repeat (first | (with_reducible first | exact HB.out | apply below_alloc | apply pw_below_drewN | apply below_drew1 | refine below_set ?_ GE246.out) | exact HB.out)) hb); (try clear hb); (try clear hb2); (try clear hk); (try clear hi)) | ((with_reducible refine gate_dst (N := 12) rfl ?_); refine box_event ?hg (N := 12) ?hd (cs := #[.int .i64 0, .int .i64 0]) (t := 29) ?hr ?_; (case hd => rfl); (case hg => rfl); (case hr => first | (go_simp; done) | (go_simp; rfl)); intro gb250 hg w38 hbox hb; have BK250 := Aside0.mk hbox; have GW250 := ge_ (hb_ HB.out) hg; have GE250 := ge_ (hb_ HB.out) hg; have NB239_250 := nb_ (gr_ BK239.out) hg; have NB250_239 := bn_ (gr_ BK239.out) hg; have NB240_250 := nb_ (gr_ BK240.out) hg; have NB250_240 := bn_ (gr_ BK240.out) hg; have NB241_250 := nb_ (gr_ BK241.out) hg; have NB250_241 := bn_ (gr_ BK241.out) hg; have NB242_250 := nb_ (gr_ BK242.out) hg; have NB250_242 := bn_ (gr_ BK242.out) hg; have NB246_250 := nb_ (gr_ BK246.out) hg; have NB250_246 := bn_ (gr_ BK246.out) hg; replace BK239 := nx_ BK239 hb; replace BK240 := nx_ BK240 hb; replace BK241 := nx_ BK241 hb; replace BK242 := nx_ BK242 hb; replace BK246 := nx_ BK246 hb; replace HB := hx_ HB hb; clear hb hbox hg; have hnb39 := NB250_239.out; have hnc39 := NB239_250.out; have hnb40 := NB250_240.out; have hnc40 := NB240_250.out; have hnb41 := NB250_241.out; have hnc41 := NB241_250.out; have hnb42 := NB250_242.out; have hnc42 := NB242_250.out; have hnb43 := NB250_246.out; have hnc43 := NB246_250.out; have hcz44_0 : w38.cell? ⟨gb250, 0, none⟩ = some (.int .i64 0) := (blk_cell BK250.out 0).trans rfl; have hcz44_1 : w38.cell? ⟨gb250, 1, none⟩ = some (.int .i64 0) := (blk_cell BK250.out 1).trans rfl; have hfz44_0 := blk_frozen BK250.out 0; have hfz44_1 := blk_frozen BK250.out 1; have hcz45_0 : w38.cell? ⟨gb239, 0, none⟩ = some (.int .i64 a0_0) := (blk_cell BK239.out 0).trans rfl; have hcz45_1 : w38.cell? ⟨gb239, 1, none⟩ = some (.int .i64 a0_1) := (blk_cell BK239.out 1).trans rfl; have hfz45_0 := blk_frozen BK239.out 0; have hfz45_1 := blk_frozen BK239.out 1) | ((with_reducible refine gate_callee (f := 34) rfl ?_); refine goesL_ (some 45) rfl rfl Try.func34 (by kernel_rfl) rfl #[.int .i64 a0_1] rfl (by (try simp only [List.map_toArray, List.map_cons, List.map_nil]); first | done | rfl | (simp only [List.length_drop, List.length_take]; rfl)) ?_; (with_reducible refine (trig_Cos.calls k a0_1 t251 t252 t253 _ A8.out).mono ?_); rintro e w46 ⟨rfl, hb⟩; refine ⟨_, rfl, ?_⟩; replace BK239 := Aside0.mk (blk_below (g := gb239) (o := .cells #[.int .i64 a0_0, .int .i64 a0_1] 37 (0, 0)) (gr_ (blk_far (gr_ (blk_far (gr_ BK239.out) NB239_250.out _)) NB239_250.out _)) hb); replace BK240 := Aside0.mk (blk_below (g := gb240) (o := .cells #[.int .i64 a1_0, .int .i64 a1_1] 29 (0, 0)) (gr_ (blk_far (gr_ (blk_far (gr_ BK240.out) NB240_250.out _)) NB240_250.out _)) hb); replace BK241 := Aside0.mk (blk_below (g := gb241) (o := .cells #[.int .i64 a2_0, .int .i64 a2_1] 29 (0, 0)) (gr_ (blk_far (gr_ (blk_far (gr_ BK241.out) NB241_250.out _)) NB241_250.out _)) hb); replace BK242 := Aside0.mk (blk_below (g := gb242) (o := .cells #[.int .i64 0, .int .i64 0] 29 (0, 0)) (gr_ (blk_far (gr_ (blk_far (gr_ BK242.out) NB242_250.out _)) NB242_250.out _)) hb); replace BK246 := Aside0.mk (blk_below (g := gb246) (o := .cells #[.int .i64 t243, .int .i64 t244] 29 (0, 0)) (gr_ (blk_far (gr_ (blk_far (gr_ BK246.out) NB246_250.out _)) NB246_250.out _)) hb); replace BK250 := Aside0.mk (blk_below (g := gb250) (o := .cells #[.int .i64 t247, .int .i64 t248] 29 (0, 0)) (gr_ (blk_put (cs := #[.int .i64 t247, .int .i64 0]) (gr_ (blk_put (cs := #[.int .i64 0, .int .i64 0]) (gr_ BK250.out) 0 _ rfl)) 1 _ rfl)) hb); replace HB := Aside0.mk (below_step (by repeat (first | (with_reducible first | exact HB.out | apply below_alloc | apply pw_below_drewN | apply below_drew1 | refine below_set ?_ GE250.out) | exact HB.out)) hb); (try clear hb); (try clear hb2); (try clear hk); (try clear hi)) | ((with_reducible refine gate_dst (N := 14) rfl ?_); refine box_event ?hg (N := 14) ?hd (cs := #[.int .i64 0, .int .i64 0]) (t := 29) ?hr ?_; (case hd => rfl); (case hg => rfl); (case hr => first | (go_simp; done) | (go_simp; rfl)); intro gb254 hg w47 hbox hb; have BK254 := Aside0.mk hbox; have GW254 := ge_ (hb_ HB.out) hg; have GE254 := ge_ (hb_ HB.out) hg; have NB239_254 := nb_ (gr_ BK239.out) hg; have NB254_239 := bn_ (gr_ BK239.out) hg; have NB240_254 := nb_ (gr_ BK240.out) hg; have NB254_240 := bn_ (gr_ BK240.out) hg; have NB241_254 := nb_ (gr_ BK241.out) hg; have NB254_241 := bn_ (gr_ BK241.out) hg; have NB242_254 := nb_ (gr_ BK242.out) hg; have NB254_242 := bn_ (gr_ BK242.out) hg; have NB246_254 := nb_ (gr_ BK246.out) hg; have NB254_246 := bn_ (gr_ BK246.out) hg; have NB250_254 := nb_ (gr_ BK250.out) hg; have NB254_250 := bn_ (gr_ BK250.out) hg; replace BK239 := nx_ BK239 hb; replace BK240 := nx_ BK240 hb; replace BK241 := nx_ BK241 hb; replace BK242 := nx_ BK242 hb; replace BK246 := nx_ BK246 hb; replace BK250 := nx_ BK250 hb; replace HB := hx_ HB hb; clear hb hbox hg; have hnb48 := NB254_239.out; have hnc48 := NB239_254.out; have hnb49 := NB254_240.out; have hnc49 := NB240_254.out; have hnb50 := NB254_241.out; have hnc50 := NB241_254.out; have hnb51 := NB254_242.out; have hnc51 := NB242_254.out; have hnb52 := NB254_246.out; have hnc52 := NB246_254.out; have hnb53 := NB254_250.out; have hnc53 := NB250_254.out; have hcz54_0 : w47.cell? ⟨gb254, 0, none⟩ = some (.int .i64 0) := (blk_cell BK254.out 0).trans rfl; have hcz54_1 : w47.cell? ⟨gb254, 1, none⟩ = some (.int .i64 0) := (blk_cell BK254.out 1).trans rfl; have hfz54_0 := blk_frozen BK254.out 0; have hfz54_1 := blk_frozen BK254.out 1; have hcz55_0 : w47.cell? ⟨gb241, 0, none⟩ = some (.int .i64 a2_0) := (blk_cell BK241.out 0).trans rfl; have hcz55_1 : w47.cell? ⟨gb241, 1, none⟩ = some (.int .i64 a2_1) := (blk_cell BK241.out 1).trans rfl; have hfz55_0 := blk_frozen BK241.out 0; have hfz55_1 := blk_frozen BK241.out 1) | ((with_reducible refine gate_callee (f := 18) rfl ?_); refine goesL_ (some 50) rfl rfl Try.func18 (by kernel_rfl) rfl #[.agg #[.int .i64 a2_0, .int .i64 a2_1]] rfl (by (try simp only [List.map_toArray, List.map_cons, List.map_nil]); first | done | rfl | (simp only [List.length_drop, List.length_take]; rfl)) ?_; (with_reducible refine (trig_SinOver.calls k a2_0 a2_1 t255 t256 t257 _ A9.out).mono ?_); rintro e w56 ⟨rfl, hb⟩; refine ⟨_, rfl, ?_⟩; replace BK239 := Aside0.mk (blk_below (g := gb239) (o := .cells #[.int .i64 a0_0, .int .i64 a0_1] 37 (0, 0)) (gr_ (blk_far (gr_ (blk_far (gr_ BK239.out) NB239_254.out _)) NB239_254.out _)) hb); replace BK240 := Aside0.mk (blk_below (g := gb240) (o := .cells #[.int .i64 a1_0, .int .i64 a1_1] 29 (0, 0)) (gr_ (blk_far (gr_ (blk_far (gr_ BK240.out) NB240_254.out _)) NB240_254.out _)) hb); replace BK241 := Aside0.mk (blk_below (g := gb241) (o := .cells #[.int .i64 a2_0, .int .i64 a2_1] 29 (0, 0)) (gr_ (blk_far (gr_ (blk_far (gr_ BK241.out) NB241_254.out _)) NB241_254.out _)) hb); replace BK242 := Aside0.mk (blk_below (g := gb242) (o := .cells #[.int .i64 0, .int .i64 0] 29 (0, 0)) (gr_ (blk_far (gr_ (blk_far (gr_ BK242.out) NB242_254.out _)) NB242_254.out _)) hb); replace BK246 := Aside0.mk (blk_below (g := gb246) (o := .cells #[.int .i64 t243, .int .i64 t244] 29 (0, 0)) (gr_ (blk_far (gr_ (blk_far (gr_ BK246.out) NB246_254.out _)) NB246_254.out _)) hb); replace BK250 := Aside0.mk (blk_below (g := gb250) (o := .cells #[.int .i64 t247, .int .i64 t248] 29 (0, 0)) (gr_ (blk_far (gr_ (blk_far (gr_ BK250.out) NB250_254.out _)) NB250_254.out _)) hb); replace BK254 := Aside0.mk (blk_below (g := gb254) (o := .cells #[.int .i64 t251, .int .i64 t252] 29 (0, 0)) (gr_ (blk_put (cs := #[.int .i64 t251, .int .i64 0]) (gr_ (blk_put (cs := #[.int .i64 0, .int .i64 0]) (gr_ BK254.out) 0 _ rfl)) 1 _ rfl)) hb); replace HB := Aside0.mk (below_step (by repeat (first | (with_reducible first | exact HB.out | apply below_alloc | apply pw_below_drewN | apply below_drew1 | refine below_set ?_ GE254.out) | exact HB.out)) hb); (try clear hb); (try clear hb2); (try clear hk); (try clear hi)) | ((with_reducible refine gate_dst (N := 16) rfl ?_); refine box_event ?hg (N := 16) ?hd (cs := #[.int .i64 0, .int .i64 0]) (t := 29) ?hr ?_; (case hd => rfl); (case hg => rfl); (case hr => first | (go_simp; done) | (go_simp; rfl)); intro gb258 hg w57 hbox hb; have BK258 := Aside0.mk hbox; have GW258 := ge_ (hb_ HB.out) hg; have GE258 := ge_ (hb_ HB.out) hg; have NB239_258 := nb_ (gr_ BK239.out) hg; have NB258_239 := bn_ (gr_ BK239.out) hg; have NB240_258 := nb_ (gr_ BK240.out) hg; have NB258_240 := bn_ (gr_ BK240.out) hg; have NB241_258 := nb_ (gr_ BK241.out) hg; have NB258_241 := bn_ (gr_ BK241.out) hg; have NB242_258 := nb_ (gr_ BK242.out) hg; have NB258_242 := bn_ (gr_ BK242.out) hg; have NB246_258 := nb_ (gr_ BK246.out) hg; have NB258_246 := bn_ (gr_ BK246.out) hg; have NB250_258 := nb_ (gr_ BK250.out) hg; have NB258_250 := bn_ (gr_ BK250.out) hg; have NB254_258 := nb_ (gr_ BK254.out) hg; have NB258_254 := bn_ (gr_ BK254.out) hg; replace BK239 := nx_ BK239 hb; replace BK240 := nx_ BK240 hb; replace BK241 := nx_ BK241 hb; replace BK242 := nx_ BK242 hb; replace BK246 := nx_ BK246 hb; replace BK250 := nx_ BK250 hb; replace BK254 := nx_ BK254 hb; replace HB := hx_ HB hb; clear hb hbox hg; have hnb58 := NB258_239.out; have hnc58 := NB239_258.out; have hnb59 := NB258_240.out; have hnc59 := NB240_258.out; have hnb60 := NB258_241.out; have hnc60 := NB241_258.out; have hnb61 := NB258_242.out; have hnc61 := NB242_258.out; have hnb62 := NB258_246.out; have hnc62 := NB246_258.out; have hnb63 := NB258_250.out; have hnc63 := NB250_258.out; have hnb64 := NB258_254.out; have hnc64 := NB254_258.out; have hcz65_0 : w57.cell? ⟨gb258, 0, none⟩ = some (.int .i64 0) := (blk_cell BK258.out 0).trans rfl; have hcz65_1 : w57.cell? ⟨gb258, 1, none⟩ = some (.int .i64 0) := (blk_cell BK258.out 1).trans rfl; have hfz65_0 := blk_frozen BK258.out 0; have hfz65_1 := blk_frozen BK258.out 1; have hcz66_0 : w57.cell? ⟨gb241, 0, none⟩ = some (.int .i64 a2_0) := (blk_cell BK241.out 0).trans rfl; have hcz66_1 : w57.cell? ⟨gb241, 1, none⟩ = some (.int .i64 a2_1) := (blk_cell BK241.out 1).trans rfl; have hfz66_0 := blk_frozen BK241.out 0; have hfz66_1 := blk_frozen BK241.out 1) | ((with_reducible refine gate_callee (f := 19) rfl ?_); refine goesL_ (some 55) rfl rfl Try.func19 (by kernel_rfl) rfl #[.agg #[.int .i64 a2_0, .int .i64 a2_1]] rfl (by (try simp only [List.map_toArray, List.map_cons, List.map_nil]); first | done | rfl | (simp only [List.length_drop, List.length_take]; rfl)) ?_; (with_reducible refine (trig_CosOver.calls k a2_0 a2_1 t259 t260 t261 _ A10.out).mono ?_); rintro e w67 ⟨rfl, hb⟩; refine ⟨_, rfl, ?_⟩; replace BK239 := Aside0.mk (blk_below (g := gb239) (o := .cells #[.int .i64 a0_0, .int .i64 a0_1] 37 (0, 0)) (gr_ (blk_far (gr_ (blk_far (gr_ BK239.out) NB239_258.out _)) NB239_258.out _)) hb); replace BK240 := Aside0.mk (blk_below (g := gb240) (o := .cells #[.int .i64 a1_0, .int .i64 a1_1] 29 (0, 0)) (gr_ (blk_far (gr_ (blk_far (gr_ BK240.out) NB240_258.out _)) NB240_258.out _)) hb); replace BK241 := Aside0.mk (blk_below (g := gb241) (o := .cells #[.int .i64 a2_0, .int .i64 a2_1] 29 (0, 0)) (gr_ (blk_far (gr_ (blk_far (gr_ BK241.out) NB241_258.out _)) NB241_258.out _)) hb); replace BK242 := Aside0.mk (blk_below (g := gb242) (o := .cells #[.int .i64 0, .int .i64 0] 29 (0, 0)) (gr_ (blk_far (gr_ (blk_far (gr_ BK242.out) NB242_258.out _)) NB242_258.out _)) hb); replace BK246 := Aside0.mk (blk_below (g := gb246) (o := .cells #[.int .i64 t243, .int .i64 t244] 29 (0, 0)) (gr_ (blk_far (gr_ (blk_far (gr_ BK246.out) NB246_258.out _)) NB246_258.out _)) hb); replace BK250 := Aside0.mk (blk_below (g := gb250) (o := .cells #[.int .i64 t247, .int .i64 t248] 29 (0, 0)) (gr_ (blk_far (gr_ (blk_far (gr_ BK250.out) NB250_258.out _)) NB250_258.out _)) hb); replace BK254 := Aside0.mk (blk_below (g := gb254) (o := .cells #[.int .i64 t251, .int .i64 t252] 29 (0, 0)) (gr_ (blk_far (gr_ (blk_far (gr_ BK254.out) NB254_258.out _)) NB254_258.out _)) hb); replace BK258 := Aside0.mk (blk_below (g := gb258) (o := .cells #[.int .i64 t255, .int .i64 t256] 29 (0, 0)) (gr_ (blk_put (cs := #[.int .i64 t255, .int .i64 0]) (gr_ (blk_put (cs := #[.int .i64 0, .int .i64 0]) (gr_ BK258.out) 0 _ rfl)) 1 _ rfl)) hb); replace HB := Aside0.mk (below_step (by repeat (first | (with_reducible first | exact HB.out | apply below_alloc | apply pw_below_drewN | apply below_drew1 | refine below_set ?_ GE258.out) | exact HB.out)) hb); (try clear hb); (try clear hb2); (try clear hk); (try clear hi)) | ((with_reducible refine gate_dst (N := 18) rfl ?_); refine box_event ?hg (N := 18) ?hd (cs := #[.int .i64 0, .int .i64 0]) (t := 29) ?hr ?_; (case hd => rfl); (case hg => rfl); (case hr => first | (go_simp; done) | (go_simp; rfl)); intro gb262 hg w68 hbox hb; have BK262 := Aside0.mk hbox; have GW262 := ge_ (hb_ HB.out) hg; have GE262 := ge_ (hb_ HB.out) hg; have NB239_262 := nb_ (gr_ BK239.out) hg; have NB262_239 := bn_ (gr_ BK239.out) hg; have NB240_262 := nb_ (gr_ BK240.out) hg; have NB262_240 := bn_ (gr_ BK240.out) hg; have NB241_262 := nb_ (gr_ BK241.out) hg; have NB262_241 := bn_ (gr_ BK241.out) hg; have NB242_262 := nb_ (gr_ BK242.out) hg; have NB262_242 := bn_ (gr_ BK242.out) hg; have NB246_262 := nb_ (gr_ BK246.out) hg; have NB262_246 := bn_ (gr_ BK246.out) hg; have NB250_262 := nb_ (gr_ BK250.out) hg; have NB262_250 := bn_ (gr_ BK250.out) hg; have NB254_262 := nb_ (gr_ BK254.out) hg; have NB262_254 := bn_ (gr_ BK254.out) hg; have NB258_262 := nb_ (gr_ BK258.out) hg; have NB262_258 := bn_ (gr_ BK258.out) hg; replace BK239 := nx_ BK239 hb; replace BK240 := nx_ BK240 hb; replace BK241 := nx_ BK241 hb; replace BK242 := nx_ BK242 hb; replace BK246 := nx_ BK246 hb; replace BK250 := nx_ BK250 hb; replace BK254 := nx_ BK254 hb; replace BK258 := nx_ BK258 hb; replace HB := hx_ HB hb; clear hb hbox hg; have hnb69 := NB262_239.out; have hnc69 := NB239_262.out; have hnb70 := NB262_240.out; have hnc70 := NB240_262.out; have hnb71 := NB262_241.out; have hnc71 := NB241_262.out; have hnb72 := NB262_242.out; have hnc72 := NB242_262.out; have hnb73 := NB262_246.out; have hnc73 := NB246_262.out; have hnb74 := NB262_250.out; have hnc74 := NB250_262.out; have hnb75 := NB262_254.out; have hnc75 := NB254_262.out; have hnb76 := NB262_258.out; have hnc76 := NB258_262.out; have hcz77_0 : w68.cell? ⟨gb262, 0, none⟩ = some (.int .i64 0) := (blk_cell BK262.out 0).trans rfl; have hcz77_1 : w68.cell? ⟨gb262, 1, none⟩ = some (.int .i64 0) := (blk_cell BK262.out 1).trans rfl; have hfz77_0 := blk_frozen BK262.out 0; have hfz77_1 := blk_frozen BK262.out 1; have hcz78_0 : w68.cell? ⟨gb246, 0, none⟩ = some (.int .i64 t243) := (blk_cell BK246.out 0).trans rfl; have hcz78_1 : w68.cell? ⟨gb246, 1, none⟩ = some (.int .i64 t244) := (blk_cell BK246.out 1).trans rfl; have hfz78_0 := blk_frozen BK246.out 0; have hfz78_1 := blk_frozen BK246.out 1) | ((with_reducible refine gate_callee (f := 19) rfl ?_); refine goesL_ (some 60) rfl rfl Try.func19 (by kernel_rfl) rfl #[.agg #[.int .i64 t243, .int .i64 t244]] rfl (by (try simp only [List.map_toArray, List.map_cons, List.map_nil]); first | done | rfl | (simp only [List.length_drop, List.length_take]; rfl)) ?_; (with_reducible refine (trig_CosOver.calls k t243 t244 t263 t264 t265 _ A11.out).mono ?_); rintro e w79 ⟨rfl, hb⟩; refine ⟨_, rfl, ?_⟩; replace BK239 := Aside0.mk (blk_below (g := gb239) (o := .cells #[.int .i64 a0_0, .int .i64 a0_1] 37 (0, 0)) (gr_ (blk_far (gr_ (blk_far (gr_ BK239.out) NB239_262.out _)) NB239_262.out _)) hb); replace BK240 := Aside0.mk (blk_below (g := gb240) (o := .cells #[.int .i64 a1_0, .int .i64 a1_1] 29 (0, 0)) (gr_ (blk_far (gr_ (blk_far (gr_ BK240.out) NB240_262.out _)) NB240_262.out _)) hb); replace BK241 := Aside0.mk (blk_below (g := gb241) (o := .cells #[.int .i64 a2_0, .int .i64 a2_1] 29 (0, 0)) (gr_ (blk_far (gr_ (blk_far (gr_ BK241.out) NB241_262.out _)) NB241_262.out _)) hb); replace BK242 := Aside0.mk (blk_below (g := gb242) (o := .cells #[.int .i64 0, .int .i64 0] 29 (0, 0)) (gr_ (blk_far (gr_ (blk_far (gr_ BK242.out) NB242_262.out _)) NB242_262.out _)) hb); replace BK246 := Aside0.mk (blk_below (g := gb246) (o := .cells #[.int .i64 t243, .int .i64 t244] 29 (0, 0)) (gr_ (blk_far (gr_ (blk_far (gr_ BK246.out) NB246_262.out _)) NB246_262.out _)) hb); replace BK250 := Aside0.mk (blk_below (g := gb250) (o := .cells #[.int .i64 t247, .int .i64 t248] 29 (0, 0)) (gr_ (blk_far (gr_ (blk_far (gr_ BK250.out) NB250_262.out _)) NB250_262.out _)) hb); replace BK254 := Aside0.mk (blk_below (g := gb254) (o := .cells #[.int .i64 t251, .int .i64 t252] 29 (0, 0)) (gr_ (blk_far (gr_ (blk_far (gr_ BK254.out) NB254_262.out _)) NB254_262.out _)) hb); replace BK258 := Aside0.mk (blk_below (g := gb258) (o := .cells #[.int .i64 t255, .int .i64 t256] 29 (0, 0)) (gr_ (blk_far (gr_ (blk_far (gr_ BK258.out) NB258_262.out _)) NB258_262.out _)) hb); replace BK262 := Aside0.mk (blk_below (g := gb262) (o := .cells #[.int .i64 t259, .int .i64 t260] 29 (0, 0)) (gr_ (blk_put (cs := #[.int .i64 t259, .int .i64 0]) (gr_ (blk_put (cs := #[.int .i64 0, .int .i64 0]) (gr_ BK262.out) 0 _ rfl)) 1 _ rfl)) hb); replace HB := Aside0.mk (below_step (by repeat (first | (with_reducible first | exact HB.out | apply below_alloc | apply pw_below_drewN | apply below_drew1 | refine below_set ?_ GE262.out) | exact HB.out)) hb); (try clear hb); (try clear hb2); (try clear hk); (try clear hi)) | ((with_reducible refine gate_dst (N := 20) rfl ?_); refine box_event ?hg (N := 20) ?hd (cs := #[.int .i64 0, .int .i64 0]) (t := 29) ?hr ?_; (case hd => rfl); (case hg => rfl); (case hr => first | (go_simp; done) | (go_simp; rfl)); intro gb266 hg w80 hbox hb; have BK266 := Aside0.mk hbox; have GW266 := ge_ (hb_ HB.out) hg; have GE266 := ge_ (hb_ HB.out) hg; have NB239_266 := nb_ (gr_ BK239.out) hg; have NB266_239 := bn_ (gr_ BK239.out) hg; have NB240_266 := nb_ (gr_ BK240.out) hg; have NB266_240 := bn_ (gr_ BK240.out) hg; have NB241_266 := nb_ (gr_ BK241.out) hg; have NB266_241 := bn_ (gr_ BK241.out) hg; have NB242_266 := nb_ (gr_ BK242.out) hg; have NB266_242 := bn_ (gr_ BK242.out) hg; have NB246_266 := nb_ (gr_ BK246.out) hg; have NB266_246 := bn_ (gr_ BK246.out) hg; have NB250_266 := nb_ (gr_ BK250.out) hg; have NB266_250 := bn_ (gr_ BK250.out) hg; have NB254_266 := nb_ (gr_ BK254.out) hg; have NB266_254 := bn_ (gr_ BK254.out) hg; have NB258_266 := nb_ (gr_ BK258.out) hg; have NB266_258 := bn_ (gr_ BK258.out) hg; have NB262_266 := nb_ (gr_ BK262.out) hg; have NB266_262 := bn_ (gr_ BK262.out) hg; replace BK239 := nx_ BK239 hb; replace BK240 := nx_ BK240 hb; replace BK241 := nx_ BK241 hb; replace BK242 := nx_ BK242 hb; replace BK246 := nx_ BK246 hb; replace BK250 := nx_ BK250 hb; replace BK254 := nx_ BK254 hb; replace BK258 := nx_ BK258 hb; replace BK262 := nx_ BK262 hb; replace HB := hx_ HB hb; clear hb hbox hg; have hnb81 := NB266_239.out; have hnc81 := NB239_266.out; have hnb82 := NB266_240.out; have hnc82 := NB240_266.out; have hnb83 := NB266_241.out; have hnc83 := NB241_266.out; have hnb84 := NB266_242.out; have hnc84 := NB242_266.out; have hnb85 := NB266_246.out; have hnc85 := NB246_266.out; have hnb86 := NB266_250.out; have hnc86 := NB250_266.out; have hnb87 := NB266_254.out; have hnc87 := NB254_266.out; have hnb88 := NB266_258.out; have hnc88 := NB258_266.out; have hnb89 := NB266_262.out; have hnc89 := NB262_266.out; have hcz90_0 : w80.cell? ⟨gb266, 0, none⟩ = some (.int .i64 0) := (blk_cell BK266.out 0).trans rfl; have hcz90_1 : w80.cell? ⟨gb266, 1, none⟩ = some (.int .i64 0) := (blk_cell BK266.out 1).trans rfl; have hfz90_0 := blk_frozen BK266.out 0; have hfz90_1 := blk_frozen BK266.out 1))
    have n0_ : Aside0 (((w80.setCell ⟨gb266, 0, none⟩ (.int .i64 t263)).setCell ⟨gb266, 1, none⟩ (.int .i64 t264)).heap[gb239]? = some (.cells #[.int .i64 a0_0, .int .i64 a0_1] 37 (0, 0))) := ⟨(gr_ (blk_far (gr_ (blk_far (gr_ BK239.out) NB239_266.out _)) NB239_266.out _))⟩
    have n1_ : Aside0 (((w80.setCell ⟨gb266, 0, none⟩ (.int .i64 t263)).setCell ⟨gb266, 1, none⟩ (.int .i64 t264)).heap[gb240]? = some (.cells #[.int .i64 a1_0, .int .i64 a1_1] 29 (0, 0))) := ⟨(gr_ (blk_far (gr_ (blk_far (gr_ BK240.out) NB240_266.out _)) NB240_266.out _))⟩
    have n2_ : Aside0 (((w80.setCell ⟨gb266, 0, none⟩ (.int .i64 t263)).setCell ⟨gb266, 1, none⟩ (.int .i64 t264)).heap[gb241]? = some (.cells #[.int .i64 a2_0, .int .i64 a2_1] 29 (0, 0))) := ⟨(gr_ (blk_far (gr_ (blk_far (gr_ BK241.out) NB241_266.out _)) NB241_266.out _))⟩
    have n3_ : Aside0 (((w80.setCell ⟨gb266, 0, none⟩ (.int .i64 t263)).setCell ⟨gb266, 1, none⟩ (.int .i64 t264)).heap[gb242]? = some (.cells #[.int .i64 0, .int .i64 0] 29 (0, 0))) := ⟨(gr_ (blk_far (gr_ (blk_far (gr_ BK242.out) NB242_266.out _)) NB242_266.out _))⟩
    have n4_ : Aside0 (((w80.setCell ⟨gb266, 0, none⟩ (.int .i64 t263)).setCell ⟨gb266, 1, none⟩ (.int .i64 t264)).heap[gb246]? = some (.cells #[.int .i64 t243, .int .i64 t244] 29 (0, 0))) := ⟨(gr_ (blk_far (gr_ (blk_far (gr_ BK246.out) NB246_266.out _)) NB246_266.out _))⟩
    have n5_ : Aside0 (((w80.setCell ⟨gb266, 0, none⟩ (.int .i64 t263)).setCell ⟨gb266, 1, none⟩ (.int .i64 t264)).heap[gb250]? = some (.cells #[.int .i64 t247, .int .i64 t248] 29 (0, 0))) := ⟨(gr_ (blk_far (gr_ (blk_far (gr_ BK250.out) NB250_266.out _)) NB250_266.out _))⟩
    have n6_ : Aside0 (((w80.setCell ⟨gb266, 0, none⟩ (.int .i64 t263)).setCell ⟨gb266, 1, none⟩ (.int .i64 t264)).heap[gb254]? = some (.cells #[.int .i64 t251, .int .i64 t252] 29 (0, 0))) := ⟨(gr_ (blk_far (gr_ (blk_far (gr_ BK254.out) NB254_266.out _)) NB254_266.out _))⟩
    have n7_ : Aside0 (((w80.setCell ⟨gb266, 0, none⟩ (.int .i64 t263)).setCell ⟨gb266, 1, none⟩ (.int .i64 t264)).heap[gb258]? = some (.cells #[.int .i64 t255, .int .i64 t256] 29 (0, 0))) := ⟨(gr_ (blk_far (gr_ (blk_far (gr_ BK258.out) NB258_266.out _)) NB258_266.out _))⟩
    have n8_ : Aside0 (((w80.setCell ⟨gb266, 0, none⟩ (.int .i64 t263)).setCell ⟨gb266, 1, none⟩ (.int .i64 t264)).heap[gb262]? = some (.cells #[.int .i64 t259, .int .i64 t260] 29 (0, 0))) := ⟨(gr_ (blk_far (gr_ (blk_far (gr_ BK262.out) NB262_266.out _)) NB262_266.out _))⟩
    have n9_ : Aside0 (((w80.setCell ⟨gb266, 0, none⟩ (.int .i64 t263)).setCell ⟨gb266, 1, none⟩ (.int .i64 t264)).heap[gb266]? = some (.cells #[.int .i64 t263, .int .i64 t264] 29 (0, 0))) := ⟨(gr_ (blk_put (cs := #[.int .i64 t263, .int .i64 0]) (gr_ (blk_put (cs := #[.int .i64 0, .int .i64 0]) (gr_ BK266.out) 0 _ rfl)) 1 _ rfl))⟩
    have n10_ : Aside0 (Below w.heap.size w ((w80.setCell ⟨gb266, 0, none⟩ (.int .i64 t263)).setCell ⟨gb266, 1, none⟩ (.int .i64 t264))) := ⟨by repeat (first | (with_reducible first | exact HB.out | apply below_alloc | apply pw_below_drewN | apply below_drew1 | refine below_set ?_ GE239.out | refine below_set ?_ GE240.out | refine below_set ?_ GE241.out | refine below_set ?_ GE242.out | refine below_set ?_ GE246.out | refine below_set ?_ GE250.out | refine below_set ?_ GE254.out | refine below_set ?_ GE258.out | refine below_set ?_ GE262.out | refine below_set ?_ GE266.out) | exact HB.out)⟩
    (try clear BK239)
    (try clear BK240)
    (try clear BK241)
    (try clear BK242)
    (try clear BK246)
    (try clear BK250)
    (try clear BK254)
    (try clear BK258)
    (try clear BK262)
    (try clear BK266)
    (try clear HB)
    generalize ((w80.setCell ⟨gb266, 0, none⟩ (.int .i64 t263)).setCell ⟨gb266, 1, none⟩ (.int .i64 t264)) = w91 at n0_ n1_ n2_ n3_ n4_ n5_ n6_ n7_ n8_ n9_ n10_ ⊢
    have BK239 := n0_
    have BK240 := n1_
    have BK241 := n2_
    have BK242 := n3_
    have BK246 := n4_
    have BK250 := n5_
    have BK254 := n6_
    have BK258 := n7_
    have BK262 := n8_
    have BK266 := n9_
    have HB := n10_
    clear n0_ n1_ n2_ n3_ n4_ n5_ n6_ n7_ n8_ n9_ n10_
    have n0_ := Aside0.mk (blk_drew BK239.out)
    have n1_ := Aside0.mk (blk_drew BK240.out)
    have n2_ := Aside0.mk (blk_drew BK241.out)
    have n3_ := Aside0.mk (blk_drew BK242.out)
    have n4_ := Aside0.mk (blk_drew BK246.out)
    have n5_ := Aside0.mk (blk_drew BK250.out)
    have n6_ := Aside0.mk (blk_drew BK254.out)
    have n7_ := Aside0.mk (blk_drew BK258.out)
    have n8_ := Aside0.mk (blk_drew BK262.out)
    have n9_ := Aside0.mk (blk_drew BK266.out)
    have n10_ := Aside0.mk (below_drew1 HB.out)
    clear BK239
    clear BK240
    clear BK241
    clear BK242
    clear BK246
    clear BK250
    clear BK254
    clear BK258
    clear BK262
    clear BK266
    clear HB
    have BK239 := n0_
    have BK240 := n1_
    have BK241 := n2_
    have BK242 := n3_
    have BK246 := n4_
    have BK250 := n5_
    have BK254 := n6_
    have BK258 := n7_
    have BK262 := n8_
    have BK266 := n9_
    have HB := n10_
    clear n0_ n1_ n2_ n3_ n4_ n5_ n6_ n7_ n8_ n9_ n10_
    refine start_ (n := 12) (S := fun w' => w'.cell? ⟨gb250, 0, none⟩ = some (.int .i64 t247) ∧ w'.cell? ⟨gb250, 1, none⟩ = some (.int .i64 t248) ∧ w'.cell? ⟨gb258, 0, none⟩ = some (.int .i64 t255) ∧ w'.cell? ⟨gb258, 1, none⟩ = some (.int .i64 t256) ∧ w'.cell? ⟨gb254, 0, none⟩ = some (.int .i64 t251) ∧ w'.cell? ⟨gb254, 1, none⟩ = some (.int .i64 t252) ∧ w'.cell? ⟨gb262, 0, none⟩ = some (.int .i64 t259) ∧ w'.cell? ⟨gb262, 1, none⟩ = some (.int .i64 t260) ∧ w'.cell? ⟨gb266, 0, none⟩ = some (.int .i64 t263) ∧ w'.cell? ⟨gb266, 1, none⟩ = some (.int .i64 t264)) (ds := []) #[false, false, false, false, false, false, false, false, false, false, false, false] (by kernel_rfl) rfl rfl ⟨(blk_cell BK250.out 0).trans rfl, (blk_cell BK250.out 1).trans rfl, (blk_cell BK258.out 0).trans rfl, (blk_cell BK258.out 1).trans rfl, (blk_cell BK254.out 0).trans rfl, (blk_cell BK254.out 1).trans rfl, (blk_cell BK262.out 0).trans rfl, (blk_cell BK262.out 1).trans rfl, (blk_cell BK266.out 0).trans rfl, (blk_cell BK266.out 1).trans rfl⟩ (fun hHeld => ?_); refine with_tabW place_Height.tab9 place_Height.bits9 (fun HT_ HW_ => ?_)
    generalize w91.drew = w92 at BK239 BK240 BK241 BK242 BK246 BK250 BK254 BK258 BK262 BK266 HB hHeld ⊢
    refine take_ (i := 0) (N := some 63) (v := ?_) (a' := ?_) #[true, false, false, false, false, false, false, false, false, false, false, false] rfl rfl (take_ofW HT_.out HW_.out (by kernel_rfl)) (fun _ _ _ h => h) (Or.inl ⟨by rfl, ?_⟩) hHeld ?_ ?_
    rotate_left
    · rintro w' ⟨s0, s1, s2, s3, s4, s5, s6, s7, s8, s9⟩
      go_simp
      with_reducible rfl
    rotate_left
    · simp only [Act.put, List.setIfInBounds_toArray, List.set_cons_zero, List.set_cons_succ, i64_w, i32_w]
      rfl
    refine take_ (i := 1) (N := some 64) (v := ?_) (a' := ?_) #[true, true, false, false, false, false, false, false, false, false, false, false] rfl rfl (take_ofW HT_.out HW_.out (by kernel_rfl)) (fun _ _ _ h => h) (Or.inl ⟨by rfl, ?_⟩) hHeld ?_ ?_
    rotate_left
    · rintro w' ⟨s0, s1, s2, s3, s4, s5, s6, s7, s8, s9⟩
      go_simp
      with_reducible rfl
    rotate_left
    · simp only [Act.put, List.setIfInBounds_toArray, List.set_cons_zero, List.set_cons_succ, i64_w, i32_w]
      rfl
    refine take_ (i := 3) (N := some 66) (v := ?_) (a' := ?_) #[true, true, false, true, false, false, false, false, false, false, false, false] rfl rfl (take_ofW HT_.out HW_.out (by kernel_rfl)) (fun _ _ _ h => h) (Or.inl ⟨by rfl, ?_⟩) hHeld ?_ ?_
    rotate_left
    · rintro w' ⟨s0, s1, s2, s3, s4, s5, s6, s7, s8, s9⟩
      go_simp
      with_reducible rfl
    rotate_left
    · simp only [Act.put, List.setIfInBounds_toArray, List.set_cons_zero, List.set_cons_succ, i64_w, i32_w]
      rfl
    refine take_ (i := 4) (N := some 67) (v := ?_) (a' := ?_) #[true, true, false, true, true, false, false, false, false, false, false, false] rfl rfl (take_ofW HT_.out HW_.out (by kernel_rfl)) (fun _ _ _ h => h) (Or.inl ⟨by rfl, ?_⟩) hHeld ?_ ?_
    rotate_left
    · rintro w' ⟨s0, s1, s2, s3, s4, s5, s6, s7, s8, s9⟩
      go_simp
      with_reducible rfl
    rotate_left
    · simp only [Act.put, List.setIfInBounds_toArray, List.set_cons_zero, List.set_cons_succ, i64_w, i32_w]
      rfl
    refine take_ (i := 6) (N := some 69) (v := ?_) (a' := ?_) #[true, true, false, true, true, false, true, false, false, false, false, false] rfl rfl (take_ofW HT_.out HW_.out (by kernel_rfl)) (fun _ _ _ h => h) (Or.inl ⟨by rfl, ?_⟩) hHeld ?_ ?_
    rotate_left
    · rintro w' ⟨s0, s1, s2, s3, s4, s5, s6, s7, s8, s9⟩
      go_simp
      with_reducible rfl
    rotate_left
    · simp only [Act.put, List.setIfInBounds_toArray, List.set_cons_zero, List.set_cons_succ, i64_w, i32_w]
      rfl
    refine join_ (σ := Nat × Nat) 2 #[true, true, true, true, true, true, true, true, true, true, false, false] (fun s_ => [(65, .agg #[.int .i64 t267, .int .i64 t268]), (68, .agg #[.int .i64 t269, .int .i64 t270]), (70, .agg #[.int .i64 t271, .int .i64 t272]), (22, .pointer (some ⟨s_.1, 0, none⟩)), (23, .pointer (some ⟨s_.2, 0, none⟩))]) (fun s_ w' => (w'.cell? ⟨gb250, 0, none⟩ = some (.int .i64 t247) ∧ w'.cell? ⟨gb250, 1, none⟩ = some (.int .i64 t248) ∧ w'.cell? ⟨gb258, 0, none⟩ = some (.int .i64 t255) ∧ w'.cell? ⟨gb258, 1, none⟩ = some (.int .i64 t256) ∧ w'.cell? ⟨gb254, 0, none⟩ = some (.int .i64 t251) ∧ w'.cell? ⟨gb254, 1, none⟩ = some (.int .i64 t252) ∧ w'.cell? ⟨gb262, 0, none⟩ = some (.int .i64 t259) ∧ w'.cell? ⟨gb262, 1, none⟩ = some (.int .i64 t260) ∧ w'.cell? ⟨gb266, 0, none⟩ = some (.int .i64 t263) ∧ w'.cell? ⟨gb266, 1, none⟩ = some (.int .i64 t264)) ∧ (w'.heap[gb239]? = some (.cells #[.int .i64 a0_0, .int .i64 a0_1] 37 (0, 0))) ∧ (w'.heap[gb240]? = some (.cells #[.int .i64 a1_0, .int .i64 a1_1] 29 (0, 0))) ∧ (w'.heap[gb241]? = some (.cells #[.int .i64 a2_0, .int .i64 a2_1] 29 (0, 0))) ∧ (w'.heap[gb242]? = some (.cells #[.int .i64 0, .int .i64 0] 29 (0, 0))) ∧ (w'.heap[gb246]? = some (.cells #[.int .i64 t243, .int .i64 t244] 29 (0, 0))) ∧ (w'.heap[gb250]? = some (.cells #[.int .i64 t247, .int .i64 t248] 29 (0, 0))) ∧ (w'.heap[gb254]? = some (.cells #[.int .i64 t251, .int .i64 t252] 29 (0, 0))) ∧ (w'.heap[gb258]? = some (.cells #[.int .i64 t255, .int .i64 t256] 29 (0, 0))) ∧ (w'.heap[gb262]? = some (.cells #[.int .i64 t259, .int .i64 t260] 29 (0, 0))) ∧ (w'.heap[gb266]? = some (.cells #[.int .i64 t263, .int .i64 t264] 29 (0, 0))) ∧ (w'.heap[s_.1]? = some (.cells #[.int .i64 0, .int .i64 0] 29 (0, 0))) ∧ (w'.heap[s_.2]? = some (.cells #[.int .i64 0, .int .i64 0] 29 (0, 0))) ∧ (w.heap.size ≤ s_.1) ∧ (w.heap.size ≤ s_.1) ∧ (gb239 ≠ s_.1) ∧ (s_.1 ≠ gb239) ∧ (gb240 ≠ s_.1) ∧ (s_.1 ≠ gb240) ∧ (gb241 ≠ s_.1) ∧ (s_.1 ≠ gb241) ∧ (gb242 ≠ s_.1) ∧ (s_.1 ≠ gb242) ∧ (gb246 ≠ s_.1) ∧ (s_.1 ≠ gb246) ∧ (gb250 ≠ s_.1) ∧ (s_.1 ≠ gb250) ∧ (gb254 ≠ s_.1) ∧ (s_.1 ≠ gb254) ∧ (gb258 ≠ s_.1) ∧ (s_.1 ≠ gb258) ∧ (gb262 ≠ s_.1) ∧ (s_.1 ≠ gb262) ∧ (gb266 ≠ s_.1) ∧ (s_.1 ≠ gb266) ∧ (s_.2 ≠ s_.1) ∧ (s_.1 ≠ s_.2) ∧ (w.heap.size ≤ s_.2) ∧ (w.heap.size ≤ s_.2) ∧ (gb239 ≠ s_.2) ∧ (s_.2 ≠ gb239) ∧ (gb240 ≠ s_.2) ∧ (s_.2 ≠ gb240) ∧ (gb241 ≠ s_.2) ∧ (s_.2 ≠ gb241) ∧ (gb242 ≠ s_.2) ∧ (s_.2 ≠ gb242) ∧ (gb246 ≠ s_.2) ∧ (s_.2 ≠ gb246) ∧ (gb250 ≠ s_.2) ∧ (s_.2 ≠ gb250) ∧ (gb254 ≠ s_.2) ∧ (s_.2 ≠ gb254) ∧ (gb258 ≠ s_.2) ∧ (s_.2 ≠ gb258) ∧ (gb262 ≠ s_.2) ∧ (s_.2 ≠ gb262) ∧ (gb266 ≠ s_.2) ∧ (s_.2 ≠ gb266) ∧ (Below w.heap.size w w')) ?_ ?_
    rotate_left
    · intro hJ2_5_7_8_9
      refine join_ (σ := Nat) 3 #[true, true, true, true, true, true, true, true, true, false, false, false] (fun s_ => [(65, .agg #[.int .i64 t267, .int .i64 t268]), (68, .agg #[.int .i64 t269, .int .i64 t270]), (70, .agg #[.int .i64 t271, .int .i64 t272]), (22, .pointer (some ⟨s_, 0, none⟩))]) (fun s_ w' => (w'.cell? ⟨gb250, 0, none⟩ = some (.int .i64 t247) ∧ w'.cell? ⟨gb250, 1, none⟩ = some (.int .i64 t248) ∧ w'.cell? ⟨gb258, 0, none⟩ = some (.int .i64 t255) ∧ w'.cell? ⟨gb258, 1, none⟩ = some (.int .i64 t256) ∧ w'.cell? ⟨gb254, 0, none⟩ = some (.int .i64 t251) ∧ w'.cell? ⟨gb254, 1, none⟩ = some (.int .i64 t252) ∧ w'.cell? ⟨gb262, 0, none⟩ = some (.int .i64 t259) ∧ w'.cell? ⟨gb262, 1, none⟩ = some (.int .i64 t260) ∧ w'.cell? ⟨gb266, 0, none⟩ = some (.int .i64 t263) ∧ w'.cell? ⟨gb266, 1, none⟩ = some (.int .i64 t264)) ∧ (w'.heap[gb239]? = some (.cells #[.int .i64 a0_0, .int .i64 a0_1] 37 (0, 0))) ∧ (w'.heap[gb240]? = some (.cells #[.int .i64 a1_0, .int .i64 a1_1] 29 (0, 0))) ∧ (w'.heap[gb241]? = some (.cells #[.int .i64 a2_0, .int .i64 a2_1] 29 (0, 0))) ∧ (w'.heap[gb242]? = some (.cells #[.int .i64 0, .int .i64 0] 29 (0, 0))) ∧ (w'.heap[gb246]? = some (.cells #[.int .i64 t243, .int .i64 t244] 29 (0, 0))) ∧ (w'.heap[gb250]? = some (.cells #[.int .i64 t247, .int .i64 t248] 29 (0, 0))) ∧ (w'.heap[gb254]? = some (.cells #[.int .i64 t251, .int .i64 t252] 29 (0, 0))) ∧ (w'.heap[gb258]? = some (.cells #[.int .i64 t255, .int .i64 t256] 29 (0, 0))) ∧ (w'.heap[gb262]? = some (.cells #[.int .i64 t259, .int .i64 t260] 29 (0, 0))) ∧ (w'.heap[gb266]? = some (.cells #[.int .i64 t263, .int .i64 t264] 29 (0, 0))) ∧ (w'.heap[s_]? = some (.cells #[.int .i64 0, .int .i64 0] 29 (0, 0))) ∧ (w.heap.size ≤ s_) ∧ (w.heap.size ≤ s_) ∧ (gb239 ≠ s_) ∧ (s_ ≠ gb239) ∧ (gb240 ≠ s_) ∧ (s_ ≠ gb240) ∧ (gb241 ≠ s_) ∧ (s_ ≠ gb241) ∧ (gb242 ≠ s_) ∧ (s_ ≠ gb242) ∧ (gb246 ≠ s_) ∧ (s_ ≠ gb246) ∧ (gb250 ≠ s_) ∧ (s_ ≠ gb250) ∧ (gb254 ≠ s_) ∧ (s_ ≠ gb254) ∧ (gb258 ≠ s_) ∧ (s_ ≠ gb258) ∧ (gb262 ≠ s_) ∧ (s_ ≠ gb262) ∧ (gb266 ≠ s_) ∧ (s_ ≠ gb266) ∧ (Below w.heap.size w w')) ?_ ?_
      rotate_left
      · intro hJ2_5_7_8
        refine join_ (σ := Nat) 3 #[true, true, true, true, true, true, true, true, false, true, false, false] (fun s_ => [(65, .agg #[.int .i64 t267, .int .i64 t268]), (68, .agg #[.int .i64 t269, .int .i64 t270]), (70, .agg #[.int .i64 t271, .int .i64 t272]), (23, .pointer (some ⟨s_, 0, none⟩))]) (fun s_ w' => (w'.cell? ⟨gb250, 0, none⟩ = some (.int .i64 t247) ∧ w'.cell? ⟨gb250, 1, none⟩ = some (.int .i64 t248) ∧ w'.cell? ⟨gb258, 0, none⟩ = some (.int .i64 t255) ∧ w'.cell? ⟨gb258, 1, none⟩ = some (.int .i64 t256) ∧ w'.cell? ⟨gb254, 0, none⟩ = some (.int .i64 t251) ∧ w'.cell? ⟨gb254, 1, none⟩ = some (.int .i64 t252) ∧ w'.cell? ⟨gb262, 0, none⟩ = some (.int .i64 t259) ∧ w'.cell? ⟨gb262, 1, none⟩ = some (.int .i64 t260) ∧ w'.cell? ⟨gb266, 0, none⟩ = some (.int .i64 t263) ∧ w'.cell? ⟨gb266, 1, none⟩ = some (.int .i64 t264)) ∧ (w'.heap[gb239]? = some (.cells #[.int .i64 a0_0, .int .i64 a0_1] 37 (0, 0))) ∧ (w'.heap[gb240]? = some (.cells #[.int .i64 a1_0, .int .i64 a1_1] 29 (0, 0))) ∧ (w'.heap[gb241]? = some (.cells #[.int .i64 a2_0, .int .i64 a2_1] 29 (0, 0))) ∧ (w'.heap[gb242]? = some (.cells #[.int .i64 0, .int .i64 0] 29 (0, 0))) ∧ (w'.heap[gb246]? = some (.cells #[.int .i64 t243, .int .i64 t244] 29 (0, 0))) ∧ (w'.heap[gb250]? = some (.cells #[.int .i64 t247, .int .i64 t248] 29 (0, 0))) ∧ (w'.heap[gb254]? = some (.cells #[.int .i64 t251, .int .i64 t252] 29 (0, 0))) ∧ (w'.heap[gb258]? = some (.cells #[.int .i64 t255, .int .i64 t256] 29 (0, 0))) ∧ (w'.heap[gb262]? = some (.cells #[.int .i64 t259, .int .i64 t260] 29 (0, 0))) ∧ (w'.heap[gb266]? = some (.cells #[.int .i64 t263, .int .i64 t264] 29 (0, 0))) ∧ (w'.heap[s_]? = some (.cells #[.int .i64 0, .int .i64 0] 29 (0, 0))) ∧ (w.heap.size ≤ s_) ∧ (w.heap.size ≤ s_) ∧ (gb239 ≠ s_) ∧ (s_ ≠ gb239) ∧ (gb240 ≠ s_) ∧ (s_ ≠ gb240) ∧ (gb241 ≠ s_) ∧ (s_ ≠ gb241) ∧ (gb242 ≠ s_) ∧ (s_ ≠ gb242) ∧ (gb246 ≠ s_) ∧ (s_ ≠ gb246) ∧ (gb250 ≠ s_) ∧ (s_ ≠ gb250) ∧ (gb254 ≠ s_) ∧ (s_ ≠ gb254) ∧ (gb258 ≠ s_) ∧ (s_ ≠ gb258) ∧ (gb262 ≠ s_) ∧ (s_ ≠ gb262) ∧ (gb266 ≠ s_) ∧ (s_ ≠ gb266) ∧ (Below w.heap.size w w')) ?_ ?_
        rotate_left
        · intro hJ2_5_7_9
          refine join_ (σ := Nat × Nat) 3 #[true, true, true, true, true, true, true, false, true, true, false, false] (fun s_ => [(65, .agg #[.int .i64 t267, .int .i64 t268]), (68, .agg #[.int .i64 t269, .int .i64 t270]), (22, .pointer (some ⟨s_.1, 0, none⟩)), (23, .pointer (some ⟨s_.2, 0, none⟩))]) (fun s_ w' => (w'.cell? ⟨gb250, 0, none⟩ = some (.int .i64 t247) ∧ w'.cell? ⟨gb250, 1, none⟩ = some (.int .i64 t248) ∧ w'.cell? ⟨gb258, 0, none⟩ = some (.int .i64 t255) ∧ w'.cell? ⟨gb258, 1, none⟩ = some (.int .i64 t256) ∧ w'.cell? ⟨gb254, 0, none⟩ = some (.int .i64 t251) ∧ w'.cell? ⟨gb254, 1, none⟩ = some (.int .i64 t252) ∧ w'.cell? ⟨gb262, 0, none⟩ = some (.int .i64 t259) ∧ w'.cell? ⟨gb262, 1, none⟩ = some (.int .i64 t260) ∧ w'.cell? ⟨gb266, 0, none⟩ = some (.int .i64 t263) ∧ w'.cell? ⟨gb266, 1, none⟩ = some (.int .i64 t264)) ∧ (w'.heap[gb239]? = some (.cells #[.int .i64 a0_0, .int .i64 a0_1] 37 (0, 0))) ∧ (w'.heap[gb240]? = some (.cells #[.int .i64 a1_0, .int .i64 a1_1] 29 (0, 0))) ∧ (w'.heap[gb241]? = some (.cells #[.int .i64 a2_0, .int .i64 a2_1] 29 (0, 0))) ∧ (w'.heap[gb242]? = some (.cells #[.int .i64 0, .int .i64 0] 29 (0, 0))) ∧ (w'.heap[gb246]? = some (.cells #[.int .i64 t243, .int .i64 t244] 29 (0, 0))) ∧ (w'.heap[gb250]? = some (.cells #[.int .i64 t247, .int .i64 t248] 29 (0, 0))) ∧ (w'.heap[gb254]? = some (.cells #[.int .i64 t251, .int .i64 t252] 29 (0, 0))) ∧ (w'.heap[gb258]? = some (.cells #[.int .i64 t255, .int .i64 t256] 29 (0, 0))) ∧ (w'.heap[gb262]? = some (.cells #[.int .i64 t259, .int .i64 t260] 29 (0, 0))) ∧ (w'.heap[gb266]? = some (.cells #[.int .i64 t263, .int .i64 t264] 29 (0, 0))) ∧ (w'.heap[s_.1]? = some (.cells #[.int .i64 0, .int .i64 0] 29 (0, 0))) ∧ (w'.heap[s_.2]? = some (.cells #[.int .i64 0, .int .i64 0] 29 (0, 0))) ∧ (w.heap.size ≤ s_.1) ∧ (w.heap.size ≤ s_.1) ∧ (gb239 ≠ s_.1) ∧ (s_.1 ≠ gb239) ∧ (gb240 ≠ s_.1) ∧ (s_.1 ≠ gb240) ∧ (gb241 ≠ s_.1) ∧ (s_.1 ≠ gb241) ∧ (gb242 ≠ s_.1) ∧ (s_.1 ≠ gb242) ∧ (gb246 ≠ s_.1) ∧ (s_.1 ≠ gb246) ∧ (gb250 ≠ s_.1) ∧ (s_.1 ≠ gb250) ∧ (gb254 ≠ s_.1) ∧ (s_.1 ≠ gb254) ∧ (gb258 ≠ s_.1) ∧ (s_.1 ≠ gb258) ∧ (gb262 ≠ s_.1) ∧ (s_.1 ≠ gb262) ∧ (gb266 ≠ s_.1) ∧ (s_.1 ≠ gb266) ∧ (s_.2 ≠ s_.1) ∧ (s_.1 ≠ s_.2) ∧ (w.heap.size ≤ s_.2) ∧ (w.heap.size ≤ s_.2) ∧ (gb239 ≠ s_.2) ∧ (s_.2 ≠ gb239) ∧ (gb240 ≠ s_.2) ∧ (s_.2 ≠ gb240) ∧ (gb241 ≠ s_.2) ∧ (s_.2 ≠ gb241) ∧ (gb242 ≠ s_.2) ∧ (s_.2 ≠ gb242) ∧ (gb246 ≠ s_.2) ∧ (s_.2 ≠ gb246) ∧ (gb250 ≠ s_.2) ∧ (s_.2 ≠ gb250) ∧ (gb254 ≠ s_.2) ∧ (s_.2 ≠ gb254) ∧ (gb258 ≠ s_.2) ∧ (s_.2 ≠ gb258) ∧ (gb262 ≠ s_.2) ∧ (s_.2 ≠ gb262) ∧ (gb266 ≠ s_.2) ∧ (s_.2 ≠ gb266) ∧ (Below w.heap.size w w')) ?_ ?_
          rotate_left
          · intro hJ2_5_8_9
            refine join_ (σ := Unit) 4 #[true, true, true, true, true, true, true, true, false, false, false, false] (fun s_ => [(65, .agg #[.int .i64 t267, .int .i64 t268]), (68, .agg #[.int .i64 t269, .int .i64 t270]), (70, .agg #[.int .i64 t271, .int .i64 t272])]) (fun s_ w' => (w'.cell? ⟨gb250, 0, none⟩ = some (.int .i64 t247) ∧ w'.cell? ⟨gb250, 1, none⟩ = some (.int .i64 t248) ∧ w'.cell? ⟨gb258, 0, none⟩ = some (.int .i64 t255) ∧ w'.cell? ⟨gb258, 1, none⟩ = some (.int .i64 t256) ∧ w'.cell? ⟨gb254, 0, none⟩ = some (.int .i64 t251) ∧ w'.cell? ⟨gb254, 1, none⟩ = some (.int .i64 t252) ∧ w'.cell? ⟨gb262, 0, none⟩ = some (.int .i64 t259) ∧ w'.cell? ⟨gb262, 1, none⟩ = some (.int .i64 t260) ∧ w'.cell? ⟨gb266, 0, none⟩ = some (.int .i64 t263) ∧ w'.cell? ⟨gb266, 1, none⟩ = some (.int .i64 t264)) ∧ (w'.heap[gb239]? = some (.cells #[.int .i64 a0_0, .int .i64 a0_1] 37 (0, 0))) ∧ (w'.heap[gb240]? = some (.cells #[.int .i64 a1_0, .int .i64 a1_1] 29 (0, 0))) ∧ (w'.heap[gb241]? = some (.cells #[.int .i64 a2_0, .int .i64 a2_1] 29 (0, 0))) ∧ (w'.heap[gb242]? = some (.cells #[.int .i64 0, .int .i64 0] 29 (0, 0))) ∧ (w'.heap[gb246]? = some (.cells #[.int .i64 t243, .int .i64 t244] 29 (0, 0))) ∧ (w'.heap[gb250]? = some (.cells #[.int .i64 t247, .int .i64 t248] 29 (0, 0))) ∧ (w'.heap[gb254]? = some (.cells #[.int .i64 t251, .int .i64 t252] 29 (0, 0))) ∧ (w'.heap[gb258]? = some (.cells #[.int .i64 t255, .int .i64 t256] 29 (0, 0))) ∧ (w'.heap[gb262]? = some (.cells #[.int .i64 t259, .int .i64 t260] 29 (0, 0))) ∧ (w'.heap[gb266]? = some (.cells #[.int .i64 t263, .int .i64 t264] 29 (0, 0))) ∧ (Below w.heap.size w w')) ?_ ?_
            rotate_left
            · intro hJ2_5_7
              refine join_ (σ := Nat) 4 #[true, true, true, true, true, true, true, false, true, false, false, false] (fun s_ => [(65, .agg #[.int .i64 t267, .int .i64 t268]), (68, .agg #[.int .i64 t269, .int .i64 t270]), (22, .pointer (some ⟨s_, 0, none⟩))]) (fun s_ w' => (w'.cell? ⟨gb250, 0, none⟩ = some (.int .i64 t247) ∧ w'.cell? ⟨gb250, 1, none⟩ = some (.int .i64 t248) ∧ w'.cell? ⟨gb258, 0, none⟩ = some (.int .i64 t255) ∧ w'.cell? ⟨gb258, 1, none⟩ = some (.int .i64 t256) ∧ w'.cell? ⟨gb254, 0, none⟩ = some (.int .i64 t251) ∧ w'.cell? ⟨gb254, 1, none⟩ = some (.int .i64 t252) ∧ w'.cell? ⟨gb262, 0, none⟩ = some (.int .i64 t259) ∧ w'.cell? ⟨gb262, 1, none⟩ = some (.int .i64 t260) ∧ w'.cell? ⟨gb266, 0, none⟩ = some (.int .i64 t263) ∧ w'.cell? ⟨gb266, 1, none⟩ = some (.int .i64 t264)) ∧ (w'.heap[gb239]? = some (.cells #[.int .i64 a0_0, .int .i64 a0_1] 37 (0, 0))) ∧ (w'.heap[gb240]? = some (.cells #[.int .i64 a1_0, .int .i64 a1_1] 29 (0, 0))) ∧ (w'.heap[gb241]? = some (.cells #[.int .i64 a2_0, .int .i64 a2_1] 29 (0, 0))) ∧ (w'.heap[gb242]? = some (.cells #[.int .i64 0, .int .i64 0] 29 (0, 0))) ∧ (w'.heap[gb246]? = some (.cells #[.int .i64 t243, .int .i64 t244] 29 (0, 0))) ∧ (w'.heap[gb250]? = some (.cells #[.int .i64 t247, .int .i64 t248] 29 (0, 0))) ∧ (w'.heap[gb254]? = some (.cells #[.int .i64 t251, .int .i64 t252] 29 (0, 0))) ∧ (w'.heap[gb258]? = some (.cells #[.int .i64 t255, .int .i64 t256] 29 (0, 0))) ∧ (w'.heap[gb262]? = some (.cells #[.int .i64 t259, .int .i64 t260] 29 (0, 0))) ∧ (w'.heap[gb266]? = some (.cells #[.int .i64 t263, .int .i64 t264] 29 (0, 0))) ∧ (w'.heap[s_]? = some (.cells #[.int .i64 0, .int .i64 0] 29 (0, 0))) ∧ (w.heap.size ≤ s_) ∧ (w.heap.size ≤ s_) ∧ (gb239 ≠ s_) ∧ (s_ ≠ gb239) ∧ (gb240 ≠ s_) ∧ (s_ ≠ gb240) ∧ (gb241 ≠ s_) ∧ (s_ ≠ gb241) ∧ (gb242 ≠ s_) ∧ (s_ ≠ gb242) ∧ (gb246 ≠ s_) ∧ (s_ ≠ gb246) ∧ (gb250 ≠ s_) ∧ (s_ ≠ gb250) ∧ (gb254 ≠ s_) ∧ (s_ ≠ gb254) ∧ (gb258 ≠ s_) ∧ (s_ ≠ gb258) ∧ (gb262 ≠ s_) ∧ (s_ ≠ gb262) ∧ (gb266 ≠ s_) ∧ (s_ ≠ gb266) ∧ (Below w.heap.size w w')) ?_ ?_
              rotate_left
              · intro hJ2_5_8
                refine join_ (σ := Nat) 4 #[true, true, true, true, true, true, true, false, false, true, false, false] (fun s_ => [(65, .agg #[.int .i64 t267, .int .i64 t268]), (68, .agg #[.int .i64 t269, .int .i64 t270]), (23, .pointer (some ⟨s_, 0, none⟩))]) (fun s_ w' => (w'.cell? ⟨gb250, 0, none⟩ = some (.int .i64 t247) ∧ w'.cell? ⟨gb250, 1, none⟩ = some (.int .i64 t248) ∧ w'.cell? ⟨gb258, 0, none⟩ = some (.int .i64 t255) ∧ w'.cell? ⟨gb258, 1, none⟩ = some (.int .i64 t256) ∧ w'.cell? ⟨gb254, 0, none⟩ = some (.int .i64 t251) ∧ w'.cell? ⟨gb254, 1, none⟩ = some (.int .i64 t252) ∧ w'.cell? ⟨gb262, 0, none⟩ = some (.int .i64 t259) ∧ w'.cell? ⟨gb262, 1, none⟩ = some (.int .i64 t260) ∧ w'.cell? ⟨gb266, 0, none⟩ = some (.int .i64 t263) ∧ w'.cell? ⟨gb266, 1, none⟩ = some (.int .i64 t264)) ∧ (w'.heap[gb239]? = some (.cells #[.int .i64 a0_0, .int .i64 a0_1] 37 (0, 0))) ∧ (w'.heap[gb240]? = some (.cells #[.int .i64 a1_0, .int .i64 a1_1] 29 (0, 0))) ∧ (w'.heap[gb241]? = some (.cells #[.int .i64 a2_0, .int .i64 a2_1] 29 (0, 0))) ∧ (w'.heap[gb242]? = some (.cells #[.int .i64 0, .int .i64 0] 29 (0, 0))) ∧ (w'.heap[gb246]? = some (.cells #[.int .i64 t243, .int .i64 t244] 29 (0, 0))) ∧ (w'.heap[gb250]? = some (.cells #[.int .i64 t247, .int .i64 t248] 29 (0, 0))) ∧ (w'.heap[gb254]? = some (.cells #[.int .i64 t251, .int .i64 t252] 29 (0, 0))) ∧ (w'.heap[gb258]? = some (.cells #[.int .i64 t255, .int .i64 t256] 29 (0, 0))) ∧ (w'.heap[gb262]? = some (.cells #[.int .i64 t259, .int .i64 t260] 29 (0, 0))) ∧ (w'.heap[gb266]? = some (.cells #[.int .i64 t263, .int .i64 t264] 29 (0, 0))) ∧ (w'.heap[s_]? = some (.cells #[.int .i64 0, .int .i64 0] 29 (0, 0))) ∧ (w.heap.size ≤ s_) ∧ (w.heap.size ≤ s_) ∧ (gb239 ≠ s_) ∧ (s_ ≠ gb239) ∧ (gb240 ≠ s_) ∧ (s_ ≠ gb240) ∧ (gb241 ≠ s_) ∧ (s_ ≠ gb241) ∧ (gb242 ≠ s_) ∧ (s_ ≠ gb242) ∧ (gb246 ≠ s_) ∧ (s_ ≠ gb246) ∧ (gb250 ≠ s_) ∧ (s_ ≠ gb250) ∧ (gb254 ≠ s_) ∧ (s_ ≠ gb254) ∧ (gb258 ≠ s_) ∧ (s_ ≠ gb258) ∧ (gb262 ≠ s_) ∧ (s_ ≠ gb262) ∧ (gb266 ≠ s_) ∧ (s_ ≠ gb266) ∧ (Below w.heap.size w w')) ?_ ?_
                rotate_left
                · intro hJ2_5_9
                  refine join_ (σ := Nat × Nat) 4 #[true, true, true, true, true, false, true, false, true, true, false, false] (fun s_ => [(65, .agg #[.int .i64 t267, .int .i64 t268]), (22, .pointer (some ⟨s_.1, 0, none⟩)), (23, .pointer (some ⟨s_.2, 0, none⟩))]) (fun s_ w' => (w'.cell? ⟨gb250, 0, none⟩ = some (.int .i64 t247) ∧ w'.cell? ⟨gb250, 1, none⟩ = some (.int .i64 t248) ∧ w'.cell? ⟨gb258, 0, none⟩ = some (.int .i64 t255) ∧ w'.cell? ⟨gb258, 1, none⟩ = some (.int .i64 t256) ∧ w'.cell? ⟨gb254, 0, none⟩ = some (.int .i64 t251) ∧ w'.cell? ⟨gb254, 1, none⟩ = some (.int .i64 t252) ∧ w'.cell? ⟨gb262, 0, none⟩ = some (.int .i64 t259) ∧ w'.cell? ⟨gb262, 1, none⟩ = some (.int .i64 t260) ∧ w'.cell? ⟨gb266, 0, none⟩ = some (.int .i64 t263) ∧ w'.cell? ⟨gb266, 1, none⟩ = some (.int .i64 t264)) ∧ (w'.heap[gb239]? = some (.cells #[.int .i64 a0_0, .int .i64 a0_1] 37 (0, 0))) ∧ (w'.heap[gb240]? = some (.cells #[.int .i64 a1_0, .int .i64 a1_1] 29 (0, 0))) ∧ (w'.heap[gb241]? = some (.cells #[.int .i64 a2_0, .int .i64 a2_1] 29 (0, 0))) ∧ (w'.heap[gb242]? = some (.cells #[.int .i64 0, .int .i64 0] 29 (0, 0))) ∧ (w'.heap[gb246]? = some (.cells #[.int .i64 t243, .int .i64 t244] 29 (0, 0))) ∧ (w'.heap[gb250]? = some (.cells #[.int .i64 t247, .int .i64 t248] 29 (0, 0))) ∧ (w'.heap[gb254]? = some (.cells #[.int .i64 t251, .int .i64 t252] 29 (0, 0))) ∧ (w'.heap[gb258]? = some (.cells #[.int .i64 t255, .int .i64 t256] 29 (0, 0))) ∧ (w'.heap[gb262]? = some (.cells #[.int .i64 t259, .int .i64 t260] 29 (0, 0))) ∧ (w'.heap[gb266]? = some (.cells #[.int .i64 t263, .int .i64 t264] 29 (0, 0))) ∧ (w'.heap[s_.1]? = some (.cells #[.int .i64 0, .int .i64 0] 29 (0, 0))) ∧ (w'.heap[s_.2]? = some (.cells #[.int .i64 0, .int .i64 0] 29 (0, 0))) ∧ (w.heap.size ≤ s_.1) ∧ (w.heap.size ≤ s_.1) ∧ (gb239 ≠ s_.1) ∧ (s_.1 ≠ gb239) ∧ (gb240 ≠ s_.1) ∧ (s_.1 ≠ gb240) ∧ (gb241 ≠ s_.1) ∧ (s_.1 ≠ gb241) ∧ (gb242 ≠ s_.1) ∧ (s_.1 ≠ gb242) ∧ (gb246 ≠ s_.1) ∧ (s_.1 ≠ gb246) ∧ (gb250 ≠ s_.1) ∧ (s_.1 ≠ gb250) ∧ (gb254 ≠ s_.1) ∧ (s_.1 ≠ gb254) ∧ (gb258 ≠ s_.1) ∧ (s_.1 ≠ gb258) ∧ (gb262 ≠ s_.1) ∧ (s_.1 ≠ gb262) ∧ (gb266 ≠ s_.1) ∧ (s_.1 ≠ gb266) ∧ (s_.2 ≠ s_.1) ∧ (s_.1 ≠ s_.2) ∧ (w.heap.size ≤ s_.2) ∧ (w.heap.size ≤ s_.2) ∧ (gb239 ≠ s_.2) ∧ (s_.2 ≠ gb239) ∧ (gb240 ≠ s_.2) ∧ (s_.2 ≠ gb240) ∧ (gb241 ≠ s_.2) ∧ (s_.2 ≠ gb241) ∧ (gb242 ≠ s_.2) ∧ (s_.2 ≠ gb242) ∧ (gb246 ≠ s_.2) ∧ (s_.2 ≠ gb246) ∧ (gb250 ≠ s_.2) ∧ (s_.2 ≠ gb250) ∧ (gb254 ≠ s_.2) ∧ (s_.2 ≠ gb254) ∧ (gb258 ≠ s_.2) ∧ (s_.2 ≠ gb258) ∧ (gb262 ≠ s_.2) ∧ (s_.2 ≠ gb262) ∧ (gb266 ≠ s_.2) ∧ (s_.2 ≠ gb266) ∧ (Below w.heap.size w w')) ?_ ?_
                  rotate_left
                  · intro hJ2_8_9
                    refine join_ (σ := Unit) 5 #[true, true, true, true, true, true, true, false, false, false, false, false] (fun s_ => [(65, .agg #[.int .i64 t267, .int .i64 t268]), (68, .agg #[.int .i64 t269, .int .i64 t270])]) (fun s_ w' => (w'.cell? ⟨gb250, 0, none⟩ = some (.int .i64 t247) ∧ w'.cell? ⟨gb250, 1, none⟩ = some (.int .i64 t248) ∧ w'.cell? ⟨gb258, 0, none⟩ = some (.int .i64 t255) ∧ w'.cell? ⟨gb258, 1, none⟩ = some (.int .i64 t256) ∧ w'.cell? ⟨gb254, 0, none⟩ = some (.int .i64 t251) ∧ w'.cell? ⟨gb254, 1, none⟩ = some (.int .i64 t252) ∧ w'.cell? ⟨gb262, 0, none⟩ = some (.int .i64 t259) ∧ w'.cell? ⟨gb262, 1, none⟩ = some (.int .i64 t260) ∧ w'.cell? ⟨gb266, 0, none⟩ = some (.int .i64 t263) ∧ w'.cell? ⟨gb266, 1, none⟩ = some (.int .i64 t264)) ∧ (w'.heap[gb239]? = some (.cells #[.int .i64 a0_0, .int .i64 a0_1] 37 (0, 0))) ∧ (w'.heap[gb240]? = some (.cells #[.int .i64 a1_0, .int .i64 a1_1] 29 (0, 0))) ∧ (w'.heap[gb241]? = some (.cells #[.int .i64 a2_0, .int .i64 a2_1] 29 (0, 0))) ∧ (w'.heap[gb242]? = some (.cells #[.int .i64 0, .int .i64 0] 29 (0, 0))) ∧ (w'.heap[gb246]? = some (.cells #[.int .i64 t243, .int .i64 t244] 29 (0, 0))) ∧ (w'.heap[gb250]? = some (.cells #[.int .i64 t247, .int .i64 t248] 29 (0, 0))) ∧ (w'.heap[gb254]? = some (.cells #[.int .i64 t251, .int .i64 t252] 29 (0, 0))) ∧ (w'.heap[gb258]? = some (.cells #[.int .i64 t255, .int .i64 t256] 29 (0, 0))) ∧ (w'.heap[gb262]? = some (.cells #[.int .i64 t259, .int .i64 t260] 29 (0, 0))) ∧ (w'.heap[gb266]? = some (.cells #[.int .i64 t263, .int .i64 t264] 29 (0, 0))) ∧ (Below w.heap.size w w')) ?_ ?_
                    rotate_left
                    · intro hJ2_5
                      refine join_ (σ := Nat) 5 #[true, true, true, true, true, false, true, false, true, false, false, false] (fun s_ => [(65, .agg #[.int .i64 t267, .int .i64 t268]), (22, .pointer (some ⟨s_, 0, none⟩))]) (fun s_ w' => (w'.cell? ⟨gb250, 0, none⟩ = some (.int .i64 t247) ∧ w'.cell? ⟨gb250, 1, none⟩ = some (.int .i64 t248) ∧ w'.cell? ⟨gb258, 0, none⟩ = some (.int .i64 t255) ∧ w'.cell? ⟨gb258, 1, none⟩ = some (.int .i64 t256) ∧ w'.cell? ⟨gb254, 0, none⟩ = some (.int .i64 t251) ∧ w'.cell? ⟨gb254, 1, none⟩ = some (.int .i64 t252) ∧ w'.cell? ⟨gb262, 0, none⟩ = some (.int .i64 t259) ∧ w'.cell? ⟨gb262, 1, none⟩ = some (.int .i64 t260) ∧ w'.cell? ⟨gb266, 0, none⟩ = some (.int .i64 t263) ∧ w'.cell? ⟨gb266, 1, none⟩ = some (.int .i64 t264)) ∧ (w'.heap[gb239]? = some (.cells #[.int .i64 a0_0, .int .i64 a0_1] 37 (0, 0))) ∧ (w'.heap[gb240]? = some (.cells #[.int .i64 a1_0, .int .i64 a1_1] 29 (0, 0))) ∧ (w'.heap[gb241]? = some (.cells #[.int .i64 a2_0, .int .i64 a2_1] 29 (0, 0))) ∧ (w'.heap[gb242]? = some (.cells #[.int .i64 0, .int .i64 0] 29 (0, 0))) ∧ (w'.heap[gb246]? = some (.cells #[.int .i64 t243, .int .i64 t244] 29 (0, 0))) ∧ (w'.heap[gb250]? = some (.cells #[.int .i64 t247, .int .i64 t248] 29 (0, 0))) ∧ (w'.heap[gb254]? = some (.cells #[.int .i64 t251, .int .i64 t252] 29 (0, 0))) ∧ (w'.heap[gb258]? = some (.cells #[.int .i64 t255, .int .i64 t256] 29 (0, 0))) ∧ (w'.heap[gb262]? = some (.cells #[.int .i64 t259, .int .i64 t260] 29 (0, 0))) ∧ (w'.heap[gb266]? = some (.cells #[.int .i64 t263, .int .i64 t264] 29 (0, 0))) ∧ (w'.heap[s_]? = some (.cells #[.int .i64 0, .int .i64 0] 29 (0, 0))) ∧ (w.heap.size ≤ s_) ∧ (w.heap.size ≤ s_) ∧ (gb239 ≠ s_) ∧ (s_ ≠ gb239) ∧ (gb240 ≠ s_) ∧ (s_ ≠ gb240) ∧ (gb241 ≠ s_) ∧ (s_ ≠ gb241) ∧ (gb242 ≠ s_) ∧ (s_ ≠ gb242) ∧ (gb246 ≠ s_) ∧ (s_ ≠ gb246) ∧ (gb250 ≠ s_) ∧ (s_ ≠ gb250) ∧ (gb254 ≠ s_) ∧ (s_ ≠ gb254) ∧ (gb258 ≠ s_) ∧ (s_ ≠ gb258) ∧ (gb262 ≠ s_) ∧ (s_ ≠ gb262) ∧ (gb266 ≠ s_) ∧ (s_ ≠ gb266) ∧ (Below w.heap.size w w')) ?_ ?_
                      rotate_left
                      · intro hJ2_8
                        refine join_ (σ := Nat) 5 #[true, true, true, true, true, false, true, false, false, true, false, false] (fun s_ => [(65, .agg #[.int .i64 t267, .int .i64 t268]), (23, .pointer (some ⟨s_, 0, none⟩))]) (fun s_ w' => (w'.cell? ⟨gb250, 0, none⟩ = some (.int .i64 t247) ∧ w'.cell? ⟨gb250, 1, none⟩ = some (.int .i64 t248) ∧ w'.cell? ⟨gb258, 0, none⟩ = some (.int .i64 t255) ∧ w'.cell? ⟨gb258, 1, none⟩ = some (.int .i64 t256) ∧ w'.cell? ⟨gb254, 0, none⟩ = some (.int .i64 t251) ∧ w'.cell? ⟨gb254, 1, none⟩ = some (.int .i64 t252) ∧ w'.cell? ⟨gb262, 0, none⟩ = some (.int .i64 t259) ∧ w'.cell? ⟨gb262, 1, none⟩ = some (.int .i64 t260) ∧ w'.cell? ⟨gb266, 0, none⟩ = some (.int .i64 t263) ∧ w'.cell? ⟨gb266, 1, none⟩ = some (.int .i64 t264)) ∧ (w'.heap[gb239]? = some (.cells #[.int .i64 a0_0, .int .i64 a0_1] 37 (0, 0))) ∧ (w'.heap[gb240]? = some (.cells #[.int .i64 a1_0, .int .i64 a1_1] 29 (0, 0))) ∧ (w'.heap[gb241]? = some (.cells #[.int .i64 a2_0, .int .i64 a2_1] 29 (0, 0))) ∧ (w'.heap[gb242]? = some (.cells #[.int .i64 0, .int .i64 0] 29 (0, 0))) ∧ (w'.heap[gb246]? = some (.cells #[.int .i64 t243, .int .i64 t244] 29 (0, 0))) ∧ (w'.heap[gb250]? = some (.cells #[.int .i64 t247, .int .i64 t248] 29 (0, 0))) ∧ (w'.heap[gb254]? = some (.cells #[.int .i64 t251, .int .i64 t252] 29 (0, 0))) ∧ (w'.heap[gb258]? = some (.cells #[.int .i64 t255, .int .i64 t256] 29 (0, 0))) ∧ (w'.heap[gb262]? = some (.cells #[.int .i64 t259, .int .i64 t260] 29 (0, 0))) ∧ (w'.heap[gb266]? = some (.cells #[.int .i64 t263, .int .i64 t264] 29 (0, 0))) ∧ (w'.heap[s_]? = some (.cells #[.int .i64 0, .int .i64 0] 29 (0, 0))) ∧ (w.heap.size ≤ s_) ∧ (w.heap.size ≤ s_) ∧ (gb239 ≠ s_) ∧ (s_ ≠ gb239) ∧ (gb240 ≠ s_) ∧ (s_ ≠ gb240) ∧ (gb241 ≠ s_) ∧ (s_ ≠ gb241) ∧ (gb242 ≠ s_) ∧ (s_ ≠ gb242) ∧ (gb246 ≠ s_) ∧ (s_ ≠ gb246) ∧ (gb250 ≠ s_) ∧ (s_ ≠ gb250) ∧ (gb254 ≠ s_) ∧ (s_ ≠ gb254) ∧ (gb258 ≠ s_) ∧ (s_ ≠ gb258) ∧ (gb262 ≠ s_) ∧ (s_ ≠ gb262) ∧ (gb266 ≠ s_) ∧ (s_ ≠ gb266) ∧ (Below w.heap.size w w')) ?_ ?_
                        rotate_left
                        · intro hJ2_9
                          refine join_ (σ := Nat × Nat) 5 #[true, true, false, true, true, false, true, false, true, true, false, false] (fun s_ => [(22, .pointer (some ⟨s_.1, 0, none⟩)), (23, .pointer (some ⟨s_.2, 0, none⟩))]) (fun s_ w' => (w'.cell? ⟨gb250, 0, none⟩ = some (.int .i64 t247) ∧ w'.cell? ⟨gb250, 1, none⟩ = some (.int .i64 t248) ∧ w'.cell? ⟨gb258, 0, none⟩ = some (.int .i64 t255) ∧ w'.cell? ⟨gb258, 1, none⟩ = some (.int .i64 t256) ∧ w'.cell? ⟨gb254, 0, none⟩ = some (.int .i64 t251) ∧ w'.cell? ⟨gb254, 1, none⟩ = some (.int .i64 t252) ∧ w'.cell? ⟨gb262, 0, none⟩ = some (.int .i64 t259) ∧ w'.cell? ⟨gb262, 1, none⟩ = some (.int .i64 t260) ∧ w'.cell? ⟨gb266, 0, none⟩ = some (.int .i64 t263) ∧ w'.cell? ⟨gb266, 1, none⟩ = some (.int .i64 t264)) ∧ (w'.heap[gb239]? = some (.cells #[.int .i64 a0_0, .int .i64 a0_1] 37 (0, 0))) ∧ (w'.heap[gb240]? = some (.cells #[.int .i64 a1_0, .int .i64 a1_1] 29 (0, 0))) ∧ (w'.heap[gb241]? = some (.cells #[.int .i64 a2_0, .int .i64 a2_1] 29 (0, 0))) ∧ (w'.heap[gb242]? = some (.cells #[.int .i64 0, .int .i64 0] 29 (0, 0))) ∧ (w'.heap[gb246]? = some (.cells #[.int .i64 t243, .int .i64 t244] 29 (0, 0))) ∧ (w'.heap[gb250]? = some (.cells #[.int .i64 t247, .int .i64 t248] 29 (0, 0))) ∧ (w'.heap[gb254]? = some (.cells #[.int .i64 t251, .int .i64 t252] 29 (0, 0))) ∧ (w'.heap[gb258]? = some (.cells #[.int .i64 t255, .int .i64 t256] 29 (0, 0))) ∧ (w'.heap[gb262]? = some (.cells #[.int .i64 t259, .int .i64 t260] 29 (0, 0))) ∧ (w'.heap[gb266]? = some (.cells #[.int .i64 t263, .int .i64 t264] 29 (0, 0))) ∧ (w'.heap[s_.1]? = some (.cells #[.int .i64 0, .int .i64 0] 29 (0, 0))) ∧ (w'.heap[s_.2]? = some (.cells #[.int .i64 0, .int .i64 0] 29 (0, 0))) ∧ (w.heap.size ≤ s_.1) ∧ (w.heap.size ≤ s_.1) ∧ (gb239 ≠ s_.1) ∧ (s_.1 ≠ gb239) ∧ (gb240 ≠ s_.1) ∧ (s_.1 ≠ gb240) ∧ (gb241 ≠ s_.1) ∧ (s_.1 ≠ gb241) ∧ (gb242 ≠ s_.1) ∧ (s_.1 ≠ gb242) ∧ (gb246 ≠ s_.1) ∧ (s_.1 ≠ gb246) ∧ (gb250 ≠ s_.1) ∧ (s_.1 ≠ gb250) ∧ (gb254 ≠ s_.1) ∧ (s_.1 ≠ gb254) ∧ (gb258 ≠ s_.1) ∧ (s_.1 ≠ gb258) ∧ (gb262 ≠ s_.1) ∧ (s_.1 ≠ gb262) ∧ (gb266 ≠ s_.1) ∧ (s_.1 ≠ gb266) ∧ (s_.2 ≠ s_.1) ∧ (s_.1 ≠ s_.2) ∧ (w.heap.size ≤ s_.2) ∧ (w.heap.size ≤ s_.2) ∧ (gb239 ≠ s_.2) ∧ (s_.2 ≠ gb239) ∧ (gb240 ≠ s_.2) ∧ (s_.2 ≠ gb240) ∧ (gb241 ≠ s_.2) ∧ (s_.2 ≠ gb241) ∧ (gb242 ≠ s_.2) ∧ (s_.2 ≠ gb242) ∧ (gb246 ≠ s_.2) ∧ (s_.2 ≠ gb246) ∧ (gb250 ≠ s_.2) ∧ (s_.2 ≠ gb250) ∧ (gb254 ≠ s_.2) ∧ (s_.2 ≠ gb254) ∧ (gb258 ≠ s_.2) ∧ (s_.2 ≠ gb258) ∧ (gb262 ≠ s_.2) ∧ (s_.2 ≠ gb262) ∧ (gb266 ≠ s_.2) ∧ (s_.2 ≠ gb266) ∧ (Below w.heap.size w w')) ?_ ?_
                          rotate_left
                          · intro hJ8_9
                            refine join_ (σ := Unit) 6 #[true, true, true, true, true, false, true, false, false, false, false, false] (fun s_ => [(65, .agg #[.int .i64 t267, .int .i64 t268])]) (fun s_ w' => (w'.cell? ⟨gb250, 0, none⟩ = some (.int .i64 t247) ∧ w'.cell? ⟨gb250, 1, none⟩ = some (.int .i64 t248) ∧ w'.cell? ⟨gb258, 0, none⟩ = some (.int .i64 t255) ∧ w'.cell? ⟨gb258, 1, none⟩ = some (.int .i64 t256) ∧ w'.cell? ⟨gb254, 0, none⟩ = some (.int .i64 t251) ∧ w'.cell? ⟨gb254, 1, none⟩ = some (.int .i64 t252) ∧ w'.cell? ⟨gb262, 0, none⟩ = some (.int .i64 t259) ∧ w'.cell? ⟨gb262, 1, none⟩ = some (.int .i64 t260) ∧ w'.cell? ⟨gb266, 0, none⟩ = some (.int .i64 t263) ∧ w'.cell? ⟨gb266, 1, none⟩ = some (.int .i64 t264)) ∧ (w'.heap[gb239]? = some (.cells #[.int .i64 a0_0, .int .i64 a0_1] 37 (0, 0))) ∧ (w'.heap[gb240]? = some (.cells #[.int .i64 a1_0, .int .i64 a1_1] 29 (0, 0))) ∧ (w'.heap[gb241]? = some (.cells #[.int .i64 a2_0, .int .i64 a2_1] 29 (0, 0))) ∧ (w'.heap[gb242]? = some (.cells #[.int .i64 0, .int .i64 0] 29 (0, 0))) ∧ (w'.heap[gb246]? = some (.cells #[.int .i64 t243, .int .i64 t244] 29 (0, 0))) ∧ (w'.heap[gb250]? = some (.cells #[.int .i64 t247, .int .i64 t248] 29 (0, 0))) ∧ (w'.heap[gb254]? = some (.cells #[.int .i64 t251, .int .i64 t252] 29 (0, 0))) ∧ (w'.heap[gb258]? = some (.cells #[.int .i64 t255, .int .i64 t256] 29 (0, 0))) ∧ (w'.heap[gb262]? = some (.cells #[.int .i64 t259, .int .i64 t260] 29 (0, 0))) ∧ (w'.heap[gb266]? = some (.cells #[.int .i64 t263, .int .i64 t264] 29 (0, 0))) ∧ (Below w.heap.size w w')) ?_ ?_
                            rotate_left
                            · intro hJ2
                              refine join_ (σ := Nat) 6 #[true, true, false, true, true, false, true, false, true, false, false, false] (fun s_ => [(22, .pointer (some ⟨s_, 0, none⟩))]) (fun s_ w' => (w'.cell? ⟨gb250, 0, none⟩ = some (.int .i64 t247) ∧ w'.cell? ⟨gb250, 1, none⟩ = some (.int .i64 t248) ∧ w'.cell? ⟨gb258, 0, none⟩ = some (.int .i64 t255) ∧ w'.cell? ⟨gb258, 1, none⟩ = some (.int .i64 t256) ∧ w'.cell? ⟨gb254, 0, none⟩ = some (.int .i64 t251) ∧ w'.cell? ⟨gb254, 1, none⟩ = some (.int .i64 t252) ∧ w'.cell? ⟨gb262, 0, none⟩ = some (.int .i64 t259) ∧ w'.cell? ⟨gb262, 1, none⟩ = some (.int .i64 t260) ∧ w'.cell? ⟨gb266, 0, none⟩ = some (.int .i64 t263) ∧ w'.cell? ⟨gb266, 1, none⟩ = some (.int .i64 t264)) ∧ (w'.heap[gb239]? = some (.cells #[.int .i64 a0_0, .int .i64 a0_1] 37 (0, 0))) ∧ (w'.heap[gb240]? = some (.cells #[.int .i64 a1_0, .int .i64 a1_1] 29 (0, 0))) ∧ (w'.heap[gb241]? = some (.cells #[.int .i64 a2_0, .int .i64 a2_1] 29 (0, 0))) ∧ (w'.heap[gb242]? = some (.cells #[.int .i64 0, .int .i64 0] 29 (0, 0))) ∧ (w'.heap[gb246]? = some (.cells #[.int .i64 t243, .int .i64 t244] 29 (0, 0))) ∧ (w'.heap[gb250]? = some (.cells #[.int .i64 t247, .int .i64 t248] 29 (0, 0))) ∧ (w'.heap[gb254]? = some (.cells #[.int .i64 t251, .int .i64 t252] 29 (0, 0))) ∧ (w'.heap[gb258]? = some (.cells #[.int .i64 t255, .int .i64 t256] 29 (0, 0))) ∧ (w'.heap[gb262]? = some (.cells #[.int .i64 t259, .int .i64 t260] 29 (0, 0))) ∧ (w'.heap[gb266]? = some (.cells #[.int .i64 t263, .int .i64 t264] 29 (0, 0))) ∧ (w'.heap[s_]? = some (.cells #[.int .i64 0, .int .i64 0] 29 (0, 0))) ∧ (w.heap.size ≤ s_) ∧ (w.heap.size ≤ s_) ∧ (gb239 ≠ s_) ∧ (s_ ≠ gb239) ∧ (gb240 ≠ s_) ∧ (s_ ≠ gb240) ∧ (gb241 ≠ s_) ∧ (s_ ≠ gb241) ∧ (gb242 ≠ s_) ∧ (s_ ≠ gb242) ∧ (gb246 ≠ s_) ∧ (s_ ≠ gb246) ∧ (gb250 ≠ s_) ∧ (s_ ≠ gb250) ∧ (gb254 ≠ s_) ∧ (s_ ≠ gb254) ∧ (gb258 ≠ s_) ∧ (s_ ≠ gb258) ∧ (gb262 ≠ s_) ∧ (s_ ≠ gb262) ∧ (gb266 ≠ s_) ∧ (s_ ≠ gb266) ∧ (Below w.heap.size w w')) ?_ ?_
                              rotate_left
                              · intro hJ8
                                refine join_ (σ := Nat) 6 #[true, true, false, true, true, false, true, false, false, true, false, false] (fun s_ => [(23, .pointer (some ⟨s_, 0, none⟩))]) (fun s_ w' => (w'.cell? ⟨gb250, 0, none⟩ = some (.int .i64 t247) ∧ w'.cell? ⟨gb250, 1, none⟩ = some (.int .i64 t248) ∧ w'.cell? ⟨gb258, 0, none⟩ = some (.int .i64 t255) ∧ w'.cell? ⟨gb258, 1, none⟩ = some (.int .i64 t256) ∧ w'.cell? ⟨gb254, 0, none⟩ = some (.int .i64 t251) ∧ w'.cell? ⟨gb254, 1, none⟩ = some (.int .i64 t252) ∧ w'.cell? ⟨gb262, 0, none⟩ = some (.int .i64 t259) ∧ w'.cell? ⟨gb262, 1, none⟩ = some (.int .i64 t260) ∧ w'.cell? ⟨gb266, 0, none⟩ = some (.int .i64 t263) ∧ w'.cell? ⟨gb266, 1, none⟩ = some (.int .i64 t264)) ∧ (w'.heap[gb239]? = some (.cells #[.int .i64 a0_0, .int .i64 a0_1] 37 (0, 0))) ∧ (w'.heap[gb240]? = some (.cells #[.int .i64 a1_0, .int .i64 a1_1] 29 (0, 0))) ∧ (w'.heap[gb241]? = some (.cells #[.int .i64 a2_0, .int .i64 a2_1] 29 (0, 0))) ∧ (w'.heap[gb242]? = some (.cells #[.int .i64 0, .int .i64 0] 29 (0, 0))) ∧ (w'.heap[gb246]? = some (.cells #[.int .i64 t243, .int .i64 t244] 29 (0, 0))) ∧ (w'.heap[gb250]? = some (.cells #[.int .i64 t247, .int .i64 t248] 29 (0, 0))) ∧ (w'.heap[gb254]? = some (.cells #[.int .i64 t251, .int .i64 t252] 29 (0, 0))) ∧ (w'.heap[gb258]? = some (.cells #[.int .i64 t255, .int .i64 t256] 29 (0, 0))) ∧ (w'.heap[gb262]? = some (.cells #[.int .i64 t259, .int .i64 t260] 29 (0, 0))) ∧ (w'.heap[gb266]? = some (.cells #[.int .i64 t263, .int .i64 t264] 29 (0, 0))) ∧ (w'.heap[s_]? = some (.cells #[.int .i64 0, .int .i64 0] 29 (0, 0))) ∧ (w.heap.size ≤ s_) ∧ (w.heap.size ≤ s_) ∧ (gb239 ≠ s_) ∧ (s_ ≠ gb239) ∧ (gb240 ≠ s_) ∧ (s_ ≠ gb240) ∧ (gb241 ≠ s_) ∧ (s_ ≠ gb241) ∧ (gb242 ≠ s_) ∧ (s_ ≠ gb242) ∧ (gb246 ≠ s_) ∧ (s_ ≠ gb246) ∧ (gb250 ≠ s_) ∧ (s_ ≠ gb250) ∧ (gb254 ≠ s_) ∧ (s_ ≠ gb254) ∧ (gb258 ≠ s_) ∧ (s_ ≠ gb258) ∧ (gb262 ≠ s_) ∧ (s_ ≠ gb262) ∧ (gb266 ≠ s_) ∧ (s_ ≠ gb266) ∧ (Below w.heap.size w w')) ?_ ?_
                                rotate_left
                                · intro hJ9
                                  refine three_ (i := 2) (j := 8) (k := 9) (Ni := some 65) (Nj := some 22) (Nk := some 23) #[true, true, true, true, true, false, true, false, false, false, false, false] #[true, true, false, true, true, false, true, false, true, false, false, false] #[true, true, false, true, true, false, true, false, false, true, false, false] rfl rfl rfl rfl rfl rfl (three_of HT_.out (by kernel_rfl)) (by decide) (by decide) (by decide) (fun K hK => ?_) (fun K hK => ?_) (fun K hK => ?_)
                                  · skip
                                    refine goes_ Try.func46 (by kernel_rfl) rfl #[.agg #[.int .i64 t247, .int .i64 t248], .agg #[.int .i64 t255, .int .i64 t256]] (by rfl) rfl rfl (by (try simp only [List.map_toArray, List.map_cons, List.map_nil]); first | done | rfl | (simp only [List.length_drop, List.length_take]; rfl)) ?_
                                    with_reducible refine (sun_Unit.calls t247 t248 t255 t256 t267 t268 _ A12.out).mono ?_
                                    rintro e w93 ⟨rfl, hb⟩
                                    refine ⟨_, rfl, ?_⟩
                                    replace BK239 := nx_ BK239 hb
                                    replace BK240 := nx_ BK240 hb
                                    replace BK241 := nx_ BK241 hb
                                    replace BK242 := nx_ BK242 hb
                                    replace BK246 := nx_ BK246 hb
                                    replace BK250 := nx_ BK250 hb
                                    replace BK254 := nx_ BK254 hb
                                    replace BK258 := nx_ BK258 hb
                                    replace BK262 := nx_ BK262 hb
                                    replace BK266 := nx_ BK266 hb
                                    replace HB := hx_ HB hb
                                    (try clear hb)
                                    (try clear hb2)
                                    (try clear hk)
                                    (try clear hi)
                                    refine hK.out _ _ ⟨(blk_cell BK250.out 0).trans rfl, (blk_cell BK250.out 1).trans rfl, (blk_cell BK258.out 0).trans rfl, (blk_cell BK258.out 1).trans rfl, (blk_cell BK254.out 0).trans rfl, (blk_cell BK254.out 1).trans rfl, (blk_cell BK262.out 0).trans rfl, (blk_cell BK262.out 1).trans rfl, (blk_cell BK266.out 0).trans rfl, (blk_cell BK266.out 1).trans rfl⟩ (fun hHeld => ?_)
                                    clear hK K
                                    refine norm_ (a' := ?_) ?_ ?_
                                    rotate_left
                                    · show Act.put _ (some 65) _ = _
                                      simp only [Act.put, List.setIfInBounds_toArray, List.set_cons_zero, List.set_cons_succ, i64_w, i32_w]
                                      rfl
                                    exact norm_ (by first | (simp only [putAll, Act.put, List.setIfInBounds_toArray, List.set_cons_zero, List.set_cons_succ]; done) | (simp only [putAll, Act.put, List.setIfInBounds_toArray, List.set_cons_zero, List.set_cons_succ]; rfl)) (hJ2 () _ ⟨hHeld, (gr_ BK239.out), (gr_ BK240.out), (gr_ BK241.out), (gr_ BK242.out), (gr_ BK246.out), (gr_ BK250.out), (gr_ BK254.out), (gr_ BK258.out), (gr_ BK262.out), (gr_ BK266.out), (by repeat (first | (with_reducible first | exact HB.out | apply below_alloc | apply pw_below_drewN | apply below_drew1 | refine below_set ?_ GE239.out | refine below_set ?_ GE240.out | refine below_set ?_ GE241.out | refine below_set ?_ GE242.out | refine below_set ?_ GE246.out | refine below_set ?_ GE250.out | refine below_set ?_ GE254.out | refine below_set ?_ GE258.out | refine below_set ?_ GE262.out | refine below_set ?_ GE266.out) | exact HB.out))⟩)
                                  · skip
                                    refine box_step ?hg (N := 22) ?hd (cs := #[.int .i64 0, .int .i64 0]) (t := 29) ?hr ?_; (case hd => rfl); (case hg => rfl); (case hr => first | (go_simp; done) | (go_simp; rfl))
                                    intro gb273 hg w93 hbox hb
                                    have BK273 := Aside0.mk hbox
                                    have GW273 := ge_ (hb_ HB.out) hg
                                    have GE273 := ge_ (hb_ HB.out) hg
                                    have NB239_273 := nb_ (gr_ BK239.out) hg
                                    have NB273_239 := bn_ (gr_ BK239.out) hg
                                    have NB240_273 := nb_ (gr_ BK240.out) hg
                                    have NB273_240 := bn_ (gr_ BK240.out) hg
                                    have NB241_273 := nb_ (gr_ BK241.out) hg
                                    have NB273_241 := bn_ (gr_ BK241.out) hg
                                    have NB242_273 := nb_ (gr_ BK242.out) hg
                                    have NB273_242 := bn_ (gr_ BK242.out) hg
                                    have NB246_273 := nb_ (gr_ BK246.out) hg
                                    have NB273_246 := bn_ (gr_ BK246.out) hg
                                    have NB250_273 := nb_ (gr_ BK250.out) hg
                                    have NB273_250 := bn_ (gr_ BK250.out) hg
                                    have NB254_273 := nb_ (gr_ BK254.out) hg
                                    have NB273_254 := bn_ (gr_ BK254.out) hg
                                    have NB258_273 := nb_ (gr_ BK258.out) hg
                                    have NB273_258 := bn_ (gr_ BK258.out) hg
                                    have NB262_273 := nb_ (gr_ BK262.out) hg
                                    have NB273_262 := bn_ (gr_ BK262.out) hg
                                    have NB266_273 := nb_ (gr_ BK266.out) hg
                                    have NB273_266 := bn_ (gr_ BK266.out) hg
                                    replace BK239 := nx_ BK239 hb
                                    replace BK240 := nx_ BK240 hb
                                    replace BK241 := nx_ BK241 hb
                                    replace BK242 := nx_ BK242 hb
                                    replace BK246 := nx_ BK246 hb
                                    replace BK250 := nx_ BK250 hb
                                    replace BK254 := nx_ BK254 hb
                                    replace BK258 := nx_ BK258 hb
                                    replace BK262 := nx_ BK262 hb
                                    replace BK266 := nx_ BK266 hb
                                    replace HB := hx_ HB hb
                                    clear hb hbox hg
                                    refine hK.out _ _ ⟨(blk_cell BK250.out 0).trans rfl, (blk_cell BK250.out 1).trans rfl, (blk_cell BK258.out 0).trans rfl, (blk_cell BK258.out 1).trans rfl, (blk_cell BK254.out 0).trans rfl, (blk_cell BK254.out 1).trans rfl, (blk_cell BK262.out 0).trans rfl, (blk_cell BK262.out 1).trans rfl, (blk_cell BK266.out 0).trans rfl, (blk_cell BK266.out 1).trans rfl⟩ (fun hHeld => ?_)
                                    clear hK K
                                    refine norm_ (a' := ?_) ?_ ?_
                                    rotate_left
                                    · show Act.put _ (some 22) _ = _
                                      simp only [Act.put, List.setIfInBounds_toArray, List.set_cons_zero, List.set_cons_succ, i64_w, i32_w]
                                      rfl
                                    exact norm_ (by first | (simp only [putAll, Act.put, List.setIfInBounds_toArray, List.set_cons_zero, List.set_cons_succ]; done) | (simp only [putAll, Act.put, List.setIfInBounds_toArray, List.set_cons_zero, List.set_cons_succ]; rfl)) (hJ8 (gb273) _ ⟨hHeld, (gr_ BK239.out), (gr_ BK240.out), (gr_ BK241.out), (gr_ BK242.out), (gr_ BK246.out), (gr_ BK250.out), (gr_ BK254.out), (gr_ BK258.out), (gr_ BK262.out), (gr_ BK266.out), (gr_ BK273.out), GW273.out, GE273.out, NB239_273.out, NB273_239.out, NB240_273.out, NB273_240.out, NB241_273.out, NB273_241.out, NB242_273.out, NB273_242.out, NB246_273.out, NB273_246.out, NB250_273.out, NB273_250.out, NB254_273.out, NB273_254.out, NB258_273.out, NB273_258.out, NB262_273.out, NB273_262.out, NB266_273.out, NB273_266.out, (by repeat (first | (with_reducible first | exact HB.out | apply below_alloc | apply pw_below_drewN | apply below_drew1 | refine below_set ?_ GE239.out | refine below_set ?_ GE240.out | refine below_set ?_ GE241.out | refine below_set ?_ GE242.out | refine below_set ?_ GE246.out | refine below_set ?_ GE250.out | refine below_set ?_ GE254.out | refine below_set ?_ GE258.out | refine below_set ?_ GE262.out | refine below_set ?_ GE266.out | refine below_set ?_ GE273.out) | exact HB.out))⟩)
                                  · skip
                                    refine box_step ?hg (N := 23) ?hd (cs := #[.int .i64 0, .int .i64 0]) (t := 29) ?hr ?_; (case hd => rfl); (case hg => rfl); (case hr => first | (go_simp; done) | (go_simp; rfl))
                                    intro gb274 hg w93 hbox hb
                                    have BK274 := Aside0.mk hbox
                                    have GW274 := ge_ (hb_ HB.out) hg
                                    have GE274 := ge_ (hb_ HB.out) hg
                                    have NB239_274 := nb_ (gr_ BK239.out) hg
                                    have NB274_239 := bn_ (gr_ BK239.out) hg
                                    have NB240_274 := nb_ (gr_ BK240.out) hg
                                    have NB274_240 := bn_ (gr_ BK240.out) hg
                                    have NB241_274 := nb_ (gr_ BK241.out) hg
                                    have NB274_241 := bn_ (gr_ BK241.out) hg
                                    have NB242_274 := nb_ (gr_ BK242.out) hg
                                    have NB274_242 := bn_ (gr_ BK242.out) hg
                                    have NB246_274 := nb_ (gr_ BK246.out) hg
                                    have NB274_246 := bn_ (gr_ BK246.out) hg
                                    have NB250_274 := nb_ (gr_ BK250.out) hg
                                    have NB274_250 := bn_ (gr_ BK250.out) hg
                                    have NB254_274 := nb_ (gr_ BK254.out) hg
                                    have NB274_254 := bn_ (gr_ BK254.out) hg
                                    have NB258_274 := nb_ (gr_ BK258.out) hg
                                    have NB274_258 := bn_ (gr_ BK258.out) hg
                                    have NB262_274 := nb_ (gr_ BK262.out) hg
                                    have NB274_262 := bn_ (gr_ BK262.out) hg
                                    have NB266_274 := nb_ (gr_ BK266.out) hg
                                    have NB274_266 := bn_ (gr_ BK266.out) hg
                                    replace BK239 := nx_ BK239 hb
                                    replace BK240 := nx_ BK240 hb
                                    replace BK241 := nx_ BK241 hb
                                    replace BK242 := nx_ BK242 hb
                                    replace BK246 := nx_ BK246 hb
                                    replace BK250 := nx_ BK250 hb
                                    replace BK254 := nx_ BK254 hb
                                    replace BK258 := nx_ BK258 hb
                                    replace BK262 := nx_ BK262 hb
                                    replace BK266 := nx_ BK266 hb
                                    replace HB := hx_ HB hb
                                    clear hb hbox hg
                                    refine hK.out _ _ ⟨(blk_cell BK250.out 0).trans rfl, (blk_cell BK250.out 1).trans rfl, (blk_cell BK258.out 0).trans rfl, (blk_cell BK258.out 1).trans rfl, (blk_cell BK254.out 0).trans rfl, (blk_cell BK254.out 1).trans rfl, (blk_cell BK262.out 0).trans rfl, (blk_cell BK262.out 1).trans rfl, (blk_cell BK266.out 0).trans rfl, (blk_cell BK266.out 1).trans rfl⟩ (fun hHeld => ?_)
                                    clear hK K
                                    refine norm_ (a' := ?_) ?_ ?_
                                    rotate_left
                                    · show Act.put _ (some 23) _ = _
                                      simp only [Act.put, List.setIfInBounds_toArray, List.set_cons_zero, List.set_cons_succ, i64_w, i32_w]
                                      rfl
                                    exact norm_ (by first | (simp only [putAll, Act.put, List.setIfInBounds_toArray, List.set_cons_zero, List.set_cons_succ]; done) | (simp only [putAll, Act.put, List.setIfInBounds_toArray, List.set_cons_zero, List.set_cons_succ]; rfl)) (hJ9 (gb274) _ ⟨hHeld, (gr_ BK239.out), (gr_ BK240.out), (gr_ BK241.out), (gr_ BK242.out), (gr_ BK246.out), (gr_ BK250.out), (gr_ BK254.out), (gr_ BK258.out), (gr_ BK262.out), (gr_ BK266.out), (gr_ BK274.out), GW274.out, GE274.out, NB239_274.out, NB274_239.out, NB240_274.out, NB274_240.out, NB241_274.out, NB274_241.out, NB242_274.out, NB274_242.out, NB246_274.out, NB274_246.out, NB250_274.out, NB274_250.out, NB254_274.out, NB274_254.out, NB258_274.out, NB274_258.out, NB262_274.out, NB274_262.out, NB266_274.out, NB274_266.out, (by repeat (first | (with_reducible first | exact HB.out | apply below_alloc | apply pw_below_drewN | apply below_drew1 | refine below_set ?_ GE239.out | refine below_set ?_ GE240.out | refine below_set ?_ GE241.out | refine below_set ?_ GE242.out | refine below_set ?_ GE246.out | refine below_set ?_ GE250.out | refine below_set ?_ GE254.out | refine below_set ?_ GE258.out | refine below_set ?_ GE262.out | refine below_set ?_ GE266.out | refine below_set ?_ GE274.out) | exact HB.out))⟩)
                                · skip
                                  rintro gb274 w94 ⟨hS_, h0_, h1_, h2_, h3_, h4_, h5_, h6_, h7_, h8_, h9_, h10_, h11_, h12_, h13_, h14_, h15_, h16_, h17_, h18_, h19_, h20_, h21_, h22_, h23_, h24_, h25_, h26_, h27_, h28_, h29_, h30_, h31_, h32_, h33_⟩
                                  replace BK239 : Aside0 (w94.heap[gb239]? = some (.cells #[.int .i64 a0_0, .int .i64 a0_1] 37 (0, 0))) := ⟨h0_⟩
                                  replace BK240 : Aside0 (w94.heap[gb240]? = some (.cells #[.int .i64 a1_0, .int .i64 a1_1] 29 (0, 0))) := ⟨h1_⟩
                                  replace BK241 : Aside0 (w94.heap[gb241]? = some (.cells #[.int .i64 a2_0, .int .i64 a2_1] 29 (0, 0))) := ⟨h2_⟩
                                  replace BK242 : Aside0 (w94.heap[gb242]? = some (.cells #[.int .i64 0, .int .i64 0] 29 (0, 0))) := ⟨h3_⟩
                                  replace BK246 : Aside0 (w94.heap[gb246]? = some (.cells #[.int .i64 t243, .int .i64 t244] 29 (0, 0))) := ⟨h4_⟩
                                  replace BK250 : Aside0 (w94.heap[gb250]? = some (.cells #[.int .i64 t247, .int .i64 t248] 29 (0, 0))) := ⟨h5_⟩
                                  replace BK254 : Aside0 (w94.heap[gb254]? = some (.cells #[.int .i64 t251, .int .i64 t252] 29 (0, 0))) := ⟨h6_⟩
                                  replace BK258 : Aside0 (w94.heap[gb258]? = some (.cells #[.int .i64 t255, .int .i64 t256] 29 (0, 0))) := ⟨h7_⟩
                                  replace BK262 : Aside0 (w94.heap[gb262]? = some (.cells #[.int .i64 t259, .int .i64 t260] 29 (0, 0))) := ⟨h8_⟩
                                  replace BK266 : Aside0 (w94.heap[gb266]? = some (.cells #[.int .i64 t263, .int .i64 t264] 29 (0, 0))) := ⟨h9_⟩
                                  have BK274 : Aside0 (w94.heap[gb274]? = some (.cells #[.int .i64 0, .int .i64 0] 29 (0, 0))) := ⟨h10_⟩
                                  have GW274 : Aside0 (w.heap.size ≤ gb274) := ⟨h11_⟩
                                  have GE274 : Aside0 (w.heap.size ≤ gb274) := ⟨h12_⟩
                                  have NB239_274 : Aside0 (gb239 ≠ gb274) := ⟨h13_⟩
                                  have NB274_239 : Aside0 (gb274 ≠ gb239) := ⟨h14_⟩
                                  have NB240_274 : Aside0 (gb240 ≠ gb274) := ⟨h15_⟩
                                  have NB274_240 : Aside0 (gb274 ≠ gb240) := ⟨h16_⟩
                                  have NB241_274 : Aside0 (gb241 ≠ gb274) := ⟨h17_⟩
                                  have NB274_241 : Aside0 (gb274 ≠ gb241) := ⟨h18_⟩
                                  have NB242_274 : Aside0 (gb242 ≠ gb274) := ⟨h19_⟩
                                  have NB274_242 : Aside0 (gb274 ≠ gb242) := ⟨h20_⟩
                                  have NB246_274 : Aside0 (gb246 ≠ gb274) := ⟨h21_⟩
                                  have NB274_246 : Aside0 (gb274 ≠ gb246) := ⟨h22_⟩
                                  have NB250_274 : Aside0 (gb250 ≠ gb274) := ⟨h23_⟩
                                  have NB274_250 : Aside0 (gb274 ≠ gb250) := ⟨h24_⟩
                                  have NB254_274 : Aside0 (gb254 ≠ gb274) := ⟨h25_⟩
                                  have NB274_254 : Aside0 (gb274 ≠ gb254) := ⟨h26_⟩
                                  have NB258_274 : Aside0 (gb258 ≠ gb274) := ⟨h27_⟩
                                  have NB274_258 : Aside0 (gb274 ≠ gb258) := ⟨h28_⟩
                                  have NB262_274 : Aside0 (gb262 ≠ gb274) := ⟨h29_⟩
                                  have NB274_262 : Aside0 (gb274 ≠ gb262) := ⟨h30_⟩
                                  have NB266_274 : Aside0 (gb266 ≠ gb274) := ⟨h31_⟩
                                  have NB274_266 : Aside0 (gb274 ≠ gb266) := ⟨h32_⟩
                                  replace HB : Aside0 (Below w.heap.size w w94) := ⟨h33_⟩
                                  clear h0_ h1_ h2_ h3_ h4_ h5_ h6_ h7_ h8_ h9_ h10_ h11_ h12_ h13_ h14_ h15_ h16_ h17_ h18_ h19_ h20_ h21_ h22_ h23_ h24_ h25_ h26_ h27_ h28_ h29_ h30_ h31_ h32_ h33_
                                  have hHeld : w94.cell? ⟨gb250, 0, none⟩ = some (.int .i64 t247) ∧ w94.cell? ⟨gb250, 1, none⟩ = some (.int .i64 t248) ∧ w94.cell? ⟨gb258, 0, none⟩ = some (.int .i64 t255) ∧ w94.cell? ⟨gb258, 1, none⟩ = some (.int .i64 t256) ∧ w94.cell? ⟨gb254, 0, none⟩ = some (.int .i64 t251) ∧ w94.cell? ⟨gb254, 1, none⟩ = some (.int .i64 t252) ∧ w94.cell? ⟨gb262, 0, none⟩ = some (.int .i64 t259) ∧ w94.cell? ⟨gb262, 1, none⟩ = some (.int .i64 t260) ∧ w94.cell? ⟨gb266, 0, none⟩ = some (.int .i64 t263) ∧ w94.cell? ⟨gb266, 1, none⟩ = some (.int .i64 t264) := hS_
                                  refine norm_ (a' := ?_) ?_ ?_
                                  rotate_left
                                  · simp only [putAll, Act.put, List.setIfInBounds_toArray, List.set_cons_zero, List.set_cons_succ]
                                    rfl
                                  refine two_ (i := 2) (j := 8) (Ni := some 65) (Nj := some 22) #[true, true, true, true, true, false, true, false, false, true, false, false] #[true, true, false, true, true, false, true, false, true, true, false, false] rfl rfl rfl rfl (two_of HT_.out (by kernel_rfl)) (by decide) (by decide) (fun K hK => ?_) (fun K hK => ?_)
                                  · skip
                                    refine goes_ Try.func46 (by kernel_rfl) rfl #[.agg #[.int .i64 t247, .int .i64 t248], .agg #[.int .i64 t255, .int .i64 t256]] (by rfl) rfl rfl (by (try simp only [List.map_toArray, List.map_cons, List.map_nil]); first | done | rfl | (simp only [List.length_drop, List.length_take]; rfl)) ?_
                                    with_reducible refine (sun_Unit.calls t247 t248 t255 t256 t267 t268 _ A12.out).mono ?_
                                    rintro e w95 ⟨rfl, hb⟩
                                    refine ⟨_, rfl, ?_⟩
                                    replace BK239 := nx_ BK239 hb
                                    replace BK240 := nx_ BK240 hb
                                    replace BK241 := nx_ BK241 hb
                                    replace BK242 := nx_ BK242 hb
                                    replace BK246 := nx_ BK246 hb
                                    replace BK250 := nx_ BK250 hb
                                    replace BK254 := nx_ BK254 hb
                                    replace BK258 := nx_ BK258 hb
                                    replace BK262 := nx_ BK262 hb
                                    replace BK266 := nx_ BK266 hb
                                    replace BK274 := nx_ BK274 hb
                                    replace HB := hx_ HB hb
                                    (try clear hb)
                                    (try clear hb2)
                                    (try clear hk)
                                    (try clear hi)
                                    refine hK.out _ _ ⟨(blk_cell BK250.out 0).trans rfl, (blk_cell BK250.out 1).trans rfl, (blk_cell BK258.out 0).trans rfl, (blk_cell BK258.out 1).trans rfl, (blk_cell BK254.out 0).trans rfl, (blk_cell BK254.out 1).trans rfl, (blk_cell BK262.out 0).trans rfl, (blk_cell BK262.out 1).trans rfl, (blk_cell BK266.out 0).trans rfl, (blk_cell BK266.out 1).trans rfl⟩ (fun hHeld => ?_)
                                    clear hK K
                                    refine norm_ (a' := ?_) ?_ ?_
                                    rotate_left
                                    · show Act.put _ (some 65) _ = _
                                      simp only [Act.put, List.setIfInBounds_toArray, List.set_cons_zero, List.set_cons_succ, i64_w, i32_w]
                                      rfl
                                    exact norm_ (by first | (simp only [putAll, Act.put, List.setIfInBounds_toArray, List.set_cons_zero, List.set_cons_succ]; done) | (simp only [putAll, Act.put, List.setIfInBounds_toArray, List.set_cons_zero, List.set_cons_succ]; rfl)) (hJ2_9 (gb274) _ ⟨hHeld, (gr_ BK239.out), (gr_ BK240.out), (gr_ BK241.out), (gr_ BK242.out), (gr_ BK246.out), (gr_ BK250.out), (gr_ BK254.out), (gr_ BK258.out), (gr_ BK262.out), (gr_ BK266.out), (gr_ BK274.out), GW274.out, GE274.out, NB239_274.out, NB274_239.out, NB240_274.out, NB274_240.out, NB241_274.out, NB274_241.out, NB242_274.out, NB274_242.out, NB246_274.out, NB274_246.out, NB250_274.out, NB274_250.out, NB254_274.out, NB274_254.out, NB258_274.out, NB274_258.out, NB262_274.out, NB274_262.out, NB266_274.out, NB274_266.out, (by repeat (first | (with_reducible first | exact HB.out | apply below_alloc | apply pw_below_drewN | apply below_drew1 | refine below_set ?_ GE239.out | refine below_set ?_ GE240.out | refine below_set ?_ GE241.out | refine below_set ?_ GE242.out | refine below_set ?_ GE246.out | refine below_set ?_ GE250.out | refine below_set ?_ GE254.out | refine below_set ?_ GE258.out | refine below_set ?_ GE262.out | refine below_set ?_ GE266.out | refine below_set ?_ GE274.out) | exact HB.out))⟩)
                                  · skip
                                    refine box_step ?hg (N := 22) ?hd (cs := #[.int .i64 0, .int .i64 0]) (t := 29) ?hr ?_; (case hd => rfl); (case hg => rfl); (case hr => first | (go_simp; done) | (go_simp; rfl))
                                    intro gb273 hg w95 hbox hb
                                    have BK273 := Aside0.mk hbox
                                    have GW273 := ge_ (hb_ HB.out) hg
                                    have GE273 := ge_ (hb_ HB.out) hg
                                    have NB239_273 := nb_ (gr_ BK239.out) hg
                                    have NB273_239 := bn_ (gr_ BK239.out) hg
                                    have NB240_273 := nb_ (gr_ BK240.out) hg
                                    have NB273_240 := bn_ (gr_ BK240.out) hg
                                    have NB241_273 := nb_ (gr_ BK241.out) hg
                                    have NB273_241 := bn_ (gr_ BK241.out) hg
                                    have NB242_273 := nb_ (gr_ BK242.out) hg
                                    have NB273_242 := bn_ (gr_ BK242.out) hg
                                    have NB246_273 := nb_ (gr_ BK246.out) hg
                                    have NB273_246 := bn_ (gr_ BK246.out) hg
                                    have NB250_273 := nb_ (gr_ BK250.out) hg
                                    have NB273_250 := bn_ (gr_ BK250.out) hg
                                    have NB254_273 := nb_ (gr_ BK254.out) hg
                                    have NB273_254 := bn_ (gr_ BK254.out) hg
                                    have NB258_273 := nb_ (gr_ BK258.out) hg
                                    have NB273_258 := bn_ (gr_ BK258.out) hg
                                    have NB262_273 := nb_ (gr_ BK262.out) hg
                                    have NB273_262 := bn_ (gr_ BK262.out) hg
                                    have NB266_273 := nb_ (gr_ BK266.out) hg
                                    have NB273_266 := bn_ (gr_ BK266.out) hg
                                    have NB274_273 := nb_ (gr_ BK274.out) hg
                                    have NB273_274 := bn_ (gr_ BK274.out) hg
                                    replace BK239 := nx_ BK239 hb
                                    replace BK240 := nx_ BK240 hb
                                    replace BK241 := nx_ BK241 hb
                                    replace BK242 := nx_ BK242 hb
                                    replace BK246 := nx_ BK246 hb
                                    replace BK250 := nx_ BK250 hb
                                    replace BK254 := nx_ BK254 hb
                                    replace BK258 := nx_ BK258 hb
                                    replace BK262 := nx_ BK262 hb
                                    replace BK266 := nx_ BK266 hb
                                    replace BK274 := nx_ BK274 hb
                                    replace HB := hx_ HB hb
                                    clear hb hbox hg
                                    refine hK.out _ _ ⟨(blk_cell BK250.out 0).trans rfl, (blk_cell BK250.out 1).trans rfl, (blk_cell BK258.out 0).trans rfl, (blk_cell BK258.out 1).trans rfl, (blk_cell BK254.out 0).trans rfl, (blk_cell BK254.out 1).trans rfl, (blk_cell BK262.out 0).trans rfl, (blk_cell BK262.out 1).trans rfl, (blk_cell BK266.out 0).trans rfl, (blk_cell BK266.out 1).trans rfl⟩ (fun hHeld => ?_)
                                    clear hK K
                                    refine norm_ (a' := ?_) ?_ ?_
                                    rotate_left
                                    · show Act.put _ (some 22) _ = _
                                      simp only [Act.put, List.setIfInBounds_toArray, List.set_cons_zero, List.set_cons_succ, i64_w, i32_w]
                                      rfl
                                    exact norm_ (by first | (simp only [putAll, Act.put, List.setIfInBounds_toArray, List.set_cons_zero, List.set_cons_succ]; done) | (simp only [putAll, Act.put, List.setIfInBounds_toArray, List.set_cons_zero, List.set_cons_succ]; rfl)) (hJ8_9 (gb273, gb274) _ ⟨hHeld, (gr_ BK239.out), (gr_ BK240.out), (gr_ BK241.out), (gr_ BK242.out), (gr_ BK246.out), (gr_ BK250.out), (gr_ BK254.out), (gr_ BK258.out), (gr_ BK262.out), (gr_ BK266.out), (gr_ BK273.out), (gr_ BK274.out), GW273.out, GE273.out, NB239_273.out, NB273_239.out, NB240_273.out, NB273_240.out, NB241_273.out, NB273_241.out, NB242_273.out, NB273_242.out, NB246_273.out, NB273_246.out, NB250_273.out, NB273_250.out, NB254_273.out, NB273_254.out, NB258_273.out, NB273_258.out, NB262_273.out, NB273_262.out, NB266_273.out, NB273_266.out, NB274_273.out, NB273_274.out, GW274.out, GE274.out, NB239_274.out, NB274_239.out, NB240_274.out, NB274_240.out, NB241_274.out, NB274_241.out, NB242_274.out, NB274_242.out, NB246_274.out, NB274_246.out, NB250_274.out, NB274_250.out, NB254_274.out, NB274_254.out, NB258_274.out, NB274_258.out, NB262_274.out, NB274_262.out, NB266_274.out, NB274_266.out, (by repeat (first | (with_reducible first | exact HB.out | apply below_alloc | apply pw_below_drewN | apply below_drew1 | refine below_set ?_ GE239.out | refine below_set ?_ GE240.out | refine below_set ?_ GE241.out | refine below_set ?_ GE242.out | refine below_set ?_ GE246.out | refine below_set ?_ GE250.out | refine below_set ?_ GE254.out | refine below_set ?_ GE258.out | refine below_set ?_ GE262.out | refine below_set ?_ GE266.out | refine below_set ?_ GE274.out | refine below_set ?_ GE273.out) | exact HB.out))⟩)
                              · skip
                                rintro gb273 w94 ⟨hS_, h0_, h1_, h2_, h3_, h4_, h5_, h6_, h7_, h8_, h9_, h10_, h11_, h12_, h13_, h14_, h15_, h16_, h17_, h18_, h19_, h20_, h21_, h22_, h23_, h24_, h25_, h26_, h27_, h28_, h29_, h30_, h31_, h32_, h33_⟩
                                replace BK239 : Aside0 (w94.heap[gb239]? = some (.cells #[.int .i64 a0_0, .int .i64 a0_1] 37 (0, 0))) := ⟨h0_⟩
                                replace BK240 : Aside0 (w94.heap[gb240]? = some (.cells #[.int .i64 a1_0, .int .i64 a1_1] 29 (0, 0))) := ⟨h1_⟩
                                replace BK241 : Aside0 (w94.heap[gb241]? = some (.cells #[.int .i64 a2_0, .int .i64 a2_1] 29 (0, 0))) := ⟨h2_⟩
                                replace BK242 : Aside0 (w94.heap[gb242]? = some (.cells #[.int .i64 0, .int .i64 0] 29 (0, 0))) := ⟨h3_⟩
                                replace BK246 : Aside0 (w94.heap[gb246]? = some (.cells #[.int .i64 t243, .int .i64 t244] 29 (0, 0))) := ⟨h4_⟩
                                replace BK250 : Aside0 (w94.heap[gb250]? = some (.cells #[.int .i64 t247, .int .i64 t248] 29 (0, 0))) := ⟨h5_⟩
                                replace BK254 : Aside0 (w94.heap[gb254]? = some (.cells #[.int .i64 t251, .int .i64 t252] 29 (0, 0))) := ⟨h6_⟩
                                replace BK258 : Aside0 (w94.heap[gb258]? = some (.cells #[.int .i64 t255, .int .i64 t256] 29 (0, 0))) := ⟨h7_⟩
                                replace BK262 : Aside0 (w94.heap[gb262]? = some (.cells #[.int .i64 t259, .int .i64 t260] 29 (0, 0))) := ⟨h8_⟩
                                replace BK266 : Aside0 (w94.heap[gb266]? = some (.cells #[.int .i64 t263, .int .i64 t264] 29 (0, 0))) := ⟨h9_⟩
                                have BK273 : Aside0 (w94.heap[gb273]? = some (.cells #[.int .i64 0, .int .i64 0] 29 (0, 0))) := ⟨h10_⟩
                                have GW273 : Aside0 (w.heap.size ≤ gb273) := ⟨h11_⟩
                                have GE273 : Aside0 (w.heap.size ≤ gb273) := ⟨h12_⟩
                                have NB239_273 : Aside0 (gb239 ≠ gb273) := ⟨h13_⟩
                                have NB273_239 : Aside0 (gb273 ≠ gb239) := ⟨h14_⟩
                                have NB240_273 : Aside0 (gb240 ≠ gb273) := ⟨h15_⟩
                                have NB273_240 : Aside0 (gb273 ≠ gb240) := ⟨h16_⟩
                                have NB241_273 : Aside0 (gb241 ≠ gb273) := ⟨h17_⟩
                                have NB273_241 : Aside0 (gb273 ≠ gb241) := ⟨h18_⟩
                                have NB242_273 : Aside0 (gb242 ≠ gb273) := ⟨h19_⟩
                                have NB273_242 : Aside0 (gb273 ≠ gb242) := ⟨h20_⟩
                                have NB246_273 : Aside0 (gb246 ≠ gb273) := ⟨h21_⟩
                                have NB273_246 : Aside0 (gb273 ≠ gb246) := ⟨h22_⟩
                                have NB250_273 : Aside0 (gb250 ≠ gb273) := ⟨h23_⟩
                                have NB273_250 : Aside0 (gb273 ≠ gb250) := ⟨h24_⟩
                                have NB254_273 : Aside0 (gb254 ≠ gb273) := ⟨h25_⟩
                                have NB273_254 : Aside0 (gb273 ≠ gb254) := ⟨h26_⟩
                                have NB258_273 : Aside0 (gb258 ≠ gb273) := ⟨h27_⟩
                                have NB273_258 : Aside0 (gb273 ≠ gb258) := ⟨h28_⟩
                                have NB262_273 : Aside0 (gb262 ≠ gb273) := ⟨h29_⟩
                                have NB273_262 : Aside0 (gb273 ≠ gb262) := ⟨h30_⟩
                                have NB266_273 : Aside0 (gb266 ≠ gb273) := ⟨h31_⟩
                                have NB273_266 : Aside0 (gb273 ≠ gb266) := ⟨h32_⟩
                                replace HB : Aside0 (Below w.heap.size w w94) := ⟨h33_⟩
                                clear h0_ h1_ h2_ h3_ h4_ h5_ h6_ h7_ h8_ h9_ h10_ h11_ h12_ h13_ h14_ h15_ h16_ h17_ h18_ h19_ h20_ h21_ h22_ h23_ h24_ h25_ h26_ h27_ h28_ h29_ h30_ h31_ h32_ h33_
                                have hHeld : w94.cell? ⟨gb250, 0, none⟩ = some (.int .i64 t247) ∧ w94.cell? ⟨gb250, 1, none⟩ = some (.int .i64 t248) ∧ w94.cell? ⟨gb258, 0, none⟩ = some (.int .i64 t255) ∧ w94.cell? ⟨gb258, 1, none⟩ = some (.int .i64 t256) ∧ w94.cell? ⟨gb254, 0, none⟩ = some (.int .i64 t251) ∧ w94.cell? ⟨gb254, 1, none⟩ = some (.int .i64 t252) ∧ w94.cell? ⟨gb262, 0, none⟩ = some (.int .i64 t259) ∧ w94.cell? ⟨gb262, 1, none⟩ = some (.int .i64 t260) ∧ w94.cell? ⟨gb266, 0, none⟩ = some (.int .i64 t263) ∧ w94.cell? ⟨gb266, 1, none⟩ = some (.int .i64 t264) := hS_
                                refine norm_ (a' := ?_) ?_ ?_
                                rotate_left
                                · simp only [putAll, Act.put, List.setIfInBounds_toArray, List.set_cons_zero, List.set_cons_succ]
                                  rfl
                                refine two_ (i := 2) (j := 9) (Ni := some 65) (Nj := some 23) #[true, true, true, true, true, false, true, false, true, false, false, false] #[true, true, false, true, true, false, true, false, true, true, false, false] rfl rfl rfl rfl (two_of HT_.out (by kernel_rfl)) (by decide) (by decide) (fun K hK => ?_) (fun K hK => ?_)
                                · skip
                                  refine goes_ Try.func46 (by kernel_rfl) rfl #[.agg #[.int .i64 t247, .int .i64 t248], .agg #[.int .i64 t255, .int .i64 t256]] (by rfl) rfl rfl (by (try simp only [List.map_toArray, List.map_cons, List.map_nil]); first | done | rfl | (simp only [List.length_drop, List.length_take]; rfl)) ?_
                                  with_reducible refine (sun_Unit.calls t247 t248 t255 t256 t267 t268 _ A12.out).mono ?_
                                  rintro e w95 ⟨rfl, hb⟩
                                  refine ⟨_, rfl, ?_⟩
                                  replace BK239 := nx_ BK239 hb
                                  replace BK240 := nx_ BK240 hb
                                  replace BK241 := nx_ BK241 hb
                                  replace BK242 := nx_ BK242 hb
                                  replace BK246 := nx_ BK246 hb
                                  replace BK250 := nx_ BK250 hb
                                  replace BK254 := nx_ BK254 hb
                                  replace BK258 := nx_ BK258 hb
                                  replace BK262 := nx_ BK262 hb
                                  replace BK266 := nx_ BK266 hb
                                  replace BK273 := nx_ BK273 hb
                                  replace HB := hx_ HB hb
                                  (try clear hb)
                                  (try clear hb2)
                                  (try clear hk)
                                  (try clear hi)
                                  refine hK.out _ _ ⟨(blk_cell BK250.out 0).trans rfl, (blk_cell BK250.out 1).trans rfl, (blk_cell BK258.out 0).trans rfl, (blk_cell BK258.out 1).trans rfl, (blk_cell BK254.out 0).trans rfl, (blk_cell BK254.out 1).trans rfl, (blk_cell BK262.out 0).trans rfl, (blk_cell BK262.out 1).trans rfl, (blk_cell BK266.out 0).trans rfl, (blk_cell BK266.out 1).trans rfl⟩ (fun hHeld => ?_)
                                  clear hK K
                                  refine norm_ (a' := ?_) ?_ ?_
                                  rotate_left
                                  · show Act.put _ (some 65) _ = _
                                    simp only [Act.put, List.setIfInBounds_toArray, List.set_cons_zero, List.set_cons_succ, i64_w, i32_w]
                                    rfl
                                  exact norm_ (by first | (simp only [putAll, Act.put, List.setIfInBounds_toArray, List.set_cons_zero, List.set_cons_succ]; done) | (simp only [putAll, Act.put, List.setIfInBounds_toArray, List.set_cons_zero, List.set_cons_succ]; rfl)) (hJ2_8 (gb273) _ ⟨hHeld, (gr_ BK239.out), (gr_ BK240.out), (gr_ BK241.out), (gr_ BK242.out), (gr_ BK246.out), (gr_ BK250.out), (gr_ BK254.out), (gr_ BK258.out), (gr_ BK262.out), (gr_ BK266.out), (gr_ BK273.out), GW273.out, GE273.out, NB239_273.out, NB273_239.out, NB240_273.out, NB273_240.out, NB241_273.out, NB273_241.out, NB242_273.out, NB273_242.out, NB246_273.out, NB273_246.out, NB250_273.out, NB273_250.out, NB254_273.out, NB273_254.out, NB258_273.out, NB273_258.out, NB262_273.out, NB273_262.out, NB266_273.out, NB273_266.out, (by repeat (first | (with_reducible first | exact HB.out | apply below_alloc | apply pw_below_drewN | apply below_drew1 | refine below_set ?_ GE239.out | refine below_set ?_ GE240.out | refine below_set ?_ GE241.out | refine below_set ?_ GE242.out | refine below_set ?_ GE246.out | refine below_set ?_ GE250.out | refine below_set ?_ GE254.out | refine below_set ?_ GE258.out | refine below_set ?_ GE262.out | refine below_set ?_ GE266.out | refine below_set ?_ GE273.out) | exact HB.out))⟩)
                                · skip
                                  refine box_step ?hg (N := 23) ?hd (cs := #[.int .i64 0, .int .i64 0]) (t := 29) ?hr ?_; (case hd => rfl); (case hg => rfl); (case hr => first | (go_simp; done) | (go_simp; rfl))
                                  intro gb274 hg w95 hbox hb
                                  have BK274 := Aside0.mk hbox
                                  have GW274 := ge_ (hb_ HB.out) hg
                                  have GE274 := ge_ (hb_ HB.out) hg
                                  have NB239_274 := nb_ (gr_ BK239.out) hg
                                  have NB274_239 := bn_ (gr_ BK239.out) hg
                                  have NB240_274 := nb_ (gr_ BK240.out) hg
                                  have NB274_240 := bn_ (gr_ BK240.out) hg
                                  have NB241_274 := nb_ (gr_ BK241.out) hg
                                  have NB274_241 := bn_ (gr_ BK241.out) hg
                                  have NB242_274 := nb_ (gr_ BK242.out) hg
                                  have NB274_242 := bn_ (gr_ BK242.out) hg
                                  have NB246_274 := nb_ (gr_ BK246.out) hg
                                  have NB274_246 := bn_ (gr_ BK246.out) hg
                                  have NB250_274 := nb_ (gr_ BK250.out) hg
                                  have NB274_250 := bn_ (gr_ BK250.out) hg
                                  have NB254_274 := nb_ (gr_ BK254.out) hg
                                  have NB274_254 := bn_ (gr_ BK254.out) hg
                                  have NB258_274 := nb_ (gr_ BK258.out) hg
                                  have NB274_258 := bn_ (gr_ BK258.out) hg
                                  have NB262_274 := nb_ (gr_ BK262.out) hg
                                  have NB274_262 := bn_ (gr_ BK262.out) hg
                                  have NB266_274 := nb_ (gr_ BK266.out) hg
                                  have NB274_266 := bn_ (gr_ BK266.out) hg
                                  have NB273_274 := nb_ (gr_ BK273.out) hg
                                  have NB274_273 := bn_ (gr_ BK273.out) hg
                                  replace BK239 := nx_ BK239 hb
                                  replace BK240 := nx_ BK240 hb
                                  replace BK241 := nx_ BK241 hb
                                  replace BK242 := nx_ BK242 hb
                                  replace BK246 := nx_ BK246 hb
                                  replace BK250 := nx_ BK250 hb
                                  replace BK254 := nx_ BK254 hb
                                  replace BK258 := nx_ BK258 hb
                                  replace BK262 := nx_ BK262 hb
                                  replace BK266 := nx_ BK266 hb
                                  replace BK273 := nx_ BK273 hb
                                  replace HB := hx_ HB hb
                                  clear hb hbox hg
                                  refine hK.out _ _ ⟨(blk_cell BK250.out 0).trans rfl, (blk_cell BK250.out 1).trans rfl, (blk_cell BK258.out 0).trans rfl, (blk_cell BK258.out 1).trans rfl, (blk_cell BK254.out 0).trans rfl, (blk_cell BK254.out 1).trans rfl, (blk_cell BK262.out 0).trans rfl, (blk_cell BK262.out 1).trans rfl, (blk_cell BK266.out 0).trans rfl, (blk_cell BK266.out 1).trans rfl⟩ (fun hHeld => ?_)
                                  clear hK K
                                  refine norm_ (a' := ?_) ?_ ?_
                                  rotate_left
                                  · show Act.put _ (some 23) _ = _
                                    simp only [Act.put, List.setIfInBounds_toArray, List.set_cons_zero, List.set_cons_succ, i64_w, i32_w]
                                    rfl
                                  exact norm_ (by first | (simp only [putAll, Act.put, List.setIfInBounds_toArray, List.set_cons_zero, List.set_cons_succ]; done) | (simp only [putAll, Act.put, List.setIfInBounds_toArray, List.set_cons_zero, List.set_cons_succ]; rfl)) (hJ8_9 (gb273, gb274) _ ⟨hHeld, (gr_ BK239.out), (gr_ BK240.out), (gr_ BK241.out), (gr_ BK242.out), (gr_ BK246.out), (gr_ BK250.out), (gr_ BK254.out), (gr_ BK258.out), (gr_ BK262.out), (gr_ BK266.out), (gr_ BK273.out), (gr_ BK274.out), GW273.out, GE273.out, NB239_273.out, NB273_239.out, NB240_273.out, NB273_240.out, NB241_273.out, NB273_241.out, NB242_273.out, NB273_242.out, NB246_273.out, NB273_246.out, NB250_273.out, NB273_250.out, NB254_273.out, NB273_254.out, NB258_273.out, NB273_258.out, NB262_273.out, NB273_262.out, NB266_273.out, NB273_266.out, NB274_273.out, NB273_274.out, GW274.out, GE274.out, NB239_274.out, NB274_239.out, NB240_274.out, NB274_240.out, NB241_274.out, NB274_241.out, NB242_274.out, NB274_242.out, NB246_274.out, NB274_246.out, NB250_274.out, NB274_250.out, NB254_274.out, NB274_254.out, NB258_274.out, NB274_258.out, NB262_274.out, NB274_262.out, NB266_274.out, NB274_266.out, (by repeat (first | (with_reducible first | exact HB.out | apply below_alloc | apply pw_below_drewN | apply below_drew1 | refine below_set ?_ GE239.out | refine below_set ?_ GE240.out | refine below_set ?_ GE241.out | refine below_set ?_ GE242.out | refine below_set ?_ GE246.out | refine below_set ?_ GE250.out | refine below_set ?_ GE254.out | refine below_set ?_ GE258.out | refine below_set ?_ GE262.out | refine below_set ?_ GE266.out | refine below_set ?_ GE273.out | refine below_set ?_ GE274.out) | exact HB.out))⟩)
                            · skip
                              rintro _ w94 ⟨hS_, h0_, h1_, h2_, h3_, h4_, h5_, h6_, h7_, h8_, h9_, h10_⟩
                              replace BK239 : Aside0 (w94.heap[gb239]? = some (.cells #[.int .i64 a0_0, .int .i64 a0_1] 37 (0, 0))) := ⟨h0_⟩
                              replace BK240 : Aside0 (w94.heap[gb240]? = some (.cells #[.int .i64 a1_0, .int .i64 a1_1] 29 (0, 0))) := ⟨h1_⟩
                              replace BK241 : Aside0 (w94.heap[gb241]? = some (.cells #[.int .i64 a2_0, .int .i64 a2_1] 29 (0, 0))) := ⟨h2_⟩
                              replace BK242 : Aside0 (w94.heap[gb242]? = some (.cells #[.int .i64 0, .int .i64 0] 29 (0, 0))) := ⟨h3_⟩
                              replace BK246 : Aside0 (w94.heap[gb246]? = some (.cells #[.int .i64 t243, .int .i64 t244] 29 (0, 0))) := ⟨h4_⟩
                              replace BK250 : Aside0 (w94.heap[gb250]? = some (.cells #[.int .i64 t247, .int .i64 t248] 29 (0, 0))) := ⟨h5_⟩
                              replace BK254 : Aside0 (w94.heap[gb254]? = some (.cells #[.int .i64 t251, .int .i64 t252] 29 (0, 0))) := ⟨h6_⟩
                              replace BK258 : Aside0 (w94.heap[gb258]? = some (.cells #[.int .i64 t255, .int .i64 t256] 29 (0, 0))) := ⟨h7_⟩
                              replace BK262 : Aside0 (w94.heap[gb262]? = some (.cells #[.int .i64 t259, .int .i64 t260] 29 (0, 0))) := ⟨h8_⟩
                              replace BK266 : Aside0 (w94.heap[gb266]? = some (.cells #[.int .i64 t263, .int .i64 t264] 29 (0, 0))) := ⟨h9_⟩
                              replace HB : Aside0 (Below w.heap.size w w94) := ⟨h10_⟩
                              clear h0_ h1_ h2_ h3_ h4_ h5_ h6_ h7_ h8_ h9_ h10_
                              have hHeld : w94.cell? ⟨gb250, 0, none⟩ = some (.int .i64 t247) ∧ w94.cell? ⟨gb250, 1, none⟩ = some (.int .i64 t248) ∧ w94.cell? ⟨gb258, 0, none⟩ = some (.int .i64 t255) ∧ w94.cell? ⟨gb258, 1, none⟩ = some (.int .i64 t256) ∧ w94.cell? ⟨gb254, 0, none⟩ = some (.int .i64 t251) ∧ w94.cell? ⟨gb254, 1, none⟩ = some (.int .i64 t252) ∧ w94.cell? ⟨gb262, 0, none⟩ = some (.int .i64 t259) ∧ w94.cell? ⟨gb262, 1, none⟩ = some (.int .i64 t260) ∧ w94.cell? ⟨gb266, 0, none⟩ = some (.int .i64 t263) ∧ w94.cell? ⟨gb266, 1, none⟩ = some (.int .i64 t264) := hS_
                              refine norm_ (a' := ?_) ?_ ?_
                              rotate_left
                              · simp only [putAll, Act.put, List.setIfInBounds_toArray, List.set_cons_zero, List.set_cons_succ]
                                rfl
                              refine three_ (i := 5) (j := 8) (k := 9) (Ni := some 68) (Nj := some 22) (Nk := some 23) #[true, true, true, true, true, true, true, false, false, false, false, false] #[true, true, true, true, true, false, true, false, true, false, false, false] #[true, true, true, true, true, false, true, false, false, true, false, false] rfl rfl rfl rfl rfl rfl (three_of HT_.out (by kernel_rfl)) (by decide) (by decide) (by decide) (fun K hK => ?_) (fun K hK => ?_) (fun K hK => ?_)
                              · skip
                                refine goes_ Try.func46 (by kernel_rfl) rfl #[.agg #[.int .i64 t251, .int .i64 t252], .agg #[.int .i64 t259, .int .i64 t260]] (by rfl) rfl rfl (by (try simp only [List.map_toArray, List.map_cons, List.map_nil]); first | done | rfl | (simp only [List.length_drop, List.length_take]; rfl)) ?_
                                with_reducible refine (sun_Unit.calls t251 t252 t259 t260 t269 t270 _ A13.out).mono ?_
                                rintro e w95 ⟨rfl, hb⟩
                                refine ⟨_, rfl, ?_⟩
                                replace BK239 := nx_ BK239 hb
                                replace BK240 := nx_ BK240 hb
                                replace BK241 := nx_ BK241 hb
                                replace BK242 := nx_ BK242 hb
                                replace BK246 := nx_ BK246 hb
                                replace BK250 := nx_ BK250 hb
                                replace BK254 := nx_ BK254 hb
                                replace BK258 := nx_ BK258 hb
                                replace BK262 := nx_ BK262 hb
                                replace BK266 := nx_ BK266 hb
                                replace HB := hx_ HB hb
                                (try clear hb)
                                (try clear hb2)
                                (try clear hk)
                                (try clear hi)
                                refine hK.out _ _ ⟨(blk_cell BK250.out 0).trans rfl, (blk_cell BK250.out 1).trans rfl, (blk_cell BK258.out 0).trans rfl, (blk_cell BK258.out 1).trans rfl, (blk_cell BK254.out 0).trans rfl, (blk_cell BK254.out 1).trans rfl, (blk_cell BK262.out 0).trans rfl, (blk_cell BK262.out 1).trans rfl, (blk_cell BK266.out 0).trans rfl, (blk_cell BK266.out 1).trans rfl⟩ (fun hHeld => ?_)
                                clear hK K
                                refine norm_ (a' := ?_) ?_ ?_
                                rotate_left
                                · show Act.put _ (some 68) _ = _
                                  simp only [Act.put, List.setIfInBounds_toArray, List.set_cons_zero, List.set_cons_succ, i64_w, i32_w]
                                  rfl
                                exact norm_ (by first | (simp only [putAll, Act.put, List.setIfInBounds_toArray, List.set_cons_zero, List.set_cons_succ]; done) | (simp only [putAll, Act.put, List.setIfInBounds_toArray, List.set_cons_zero, List.set_cons_succ]; rfl)) (hJ2_5 () _ ⟨hHeld, (gr_ BK239.out), (gr_ BK240.out), (gr_ BK241.out), (gr_ BK242.out), (gr_ BK246.out), (gr_ BK250.out), (gr_ BK254.out), (gr_ BK258.out), (gr_ BK262.out), (gr_ BK266.out), (by repeat (first | (with_reducible first | exact HB.out | apply below_alloc | apply pw_below_drewN | apply below_drew1 | refine below_set ?_ GE239.out | refine below_set ?_ GE240.out | refine below_set ?_ GE241.out | refine below_set ?_ GE242.out | refine below_set ?_ GE246.out | refine below_set ?_ GE250.out | refine below_set ?_ GE254.out | refine below_set ?_ GE258.out | refine below_set ?_ GE262.out | refine below_set ?_ GE266.out) | exact HB.out))⟩)
                              · skip
                                refine box_step ?hg (N := 22) ?hd (cs := #[.int .i64 0, .int .i64 0]) (t := 29) ?hr ?_; (case hd => rfl); (case hg => rfl); (case hr => first | (go_simp; done) | (go_simp; rfl))
                                intro gb273 hg w95 hbox hb
                                have BK273 := Aside0.mk hbox
                                have GW273 := ge_ (hb_ HB.out) hg
                                have GE273 := ge_ (hb_ HB.out) hg
                                have NB239_273 := nb_ (gr_ BK239.out) hg
                                have NB273_239 := bn_ (gr_ BK239.out) hg
                                have NB240_273 := nb_ (gr_ BK240.out) hg
                                have NB273_240 := bn_ (gr_ BK240.out) hg
                                have NB241_273 := nb_ (gr_ BK241.out) hg
                                have NB273_241 := bn_ (gr_ BK241.out) hg
                                have NB242_273 := nb_ (gr_ BK242.out) hg
                                have NB273_242 := bn_ (gr_ BK242.out) hg
                                have NB246_273 := nb_ (gr_ BK246.out) hg
                                have NB273_246 := bn_ (gr_ BK246.out) hg
                                have NB250_273 := nb_ (gr_ BK250.out) hg
                                have NB273_250 := bn_ (gr_ BK250.out) hg
                                have NB254_273 := nb_ (gr_ BK254.out) hg
                                have NB273_254 := bn_ (gr_ BK254.out) hg
                                have NB258_273 := nb_ (gr_ BK258.out) hg
                                have NB273_258 := bn_ (gr_ BK258.out) hg
                                have NB262_273 := nb_ (gr_ BK262.out) hg
                                have NB273_262 := bn_ (gr_ BK262.out) hg
                                have NB266_273 := nb_ (gr_ BK266.out) hg
                                have NB273_266 := bn_ (gr_ BK266.out) hg
                                replace BK239 := nx_ BK239 hb
                                replace BK240 := nx_ BK240 hb
                                replace BK241 := nx_ BK241 hb
                                replace BK242 := nx_ BK242 hb
                                replace BK246 := nx_ BK246 hb
                                replace BK250 := nx_ BK250 hb
                                replace BK254 := nx_ BK254 hb
                                replace BK258 := nx_ BK258 hb
                                replace BK262 := nx_ BK262 hb
                                replace BK266 := nx_ BK266 hb
                                replace HB := hx_ HB hb
                                clear hb hbox hg
                                refine hK.out _ _ ⟨(blk_cell BK250.out 0).trans rfl, (blk_cell BK250.out 1).trans rfl, (blk_cell BK258.out 0).trans rfl, (blk_cell BK258.out 1).trans rfl, (blk_cell BK254.out 0).trans rfl, (blk_cell BK254.out 1).trans rfl, (blk_cell BK262.out 0).trans rfl, (blk_cell BK262.out 1).trans rfl, (blk_cell BK266.out 0).trans rfl, (blk_cell BK266.out 1).trans rfl⟩ (fun hHeld => ?_)
                                clear hK K
                                refine norm_ (a' := ?_) ?_ ?_
                                rotate_left
                                · show Act.put _ (some 22) _ = _
                                  simp only [Act.put, List.setIfInBounds_toArray, List.set_cons_zero, List.set_cons_succ, i64_w, i32_w]
                                  rfl
                                exact norm_ (by first | (simp only [putAll, Act.put, List.setIfInBounds_toArray, List.set_cons_zero, List.set_cons_succ]; done) | (simp only [putAll, Act.put, List.setIfInBounds_toArray, List.set_cons_zero, List.set_cons_succ]; rfl)) (hJ2_8 (gb273) _ ⟨hHeld, (gr_ BK239.out), (gr_ BK240.out), (gr_ BK241.out), (gr_ BK242.out), (gr_ BK246.out), (gr_ BK250.out), (gr_ BK254.out), (gr_ BK258.out), (gr_ BK262.out), (gr_ BK266.out), (gr_ BK273.out), GW273.out, GE273.out, NB239_273.out, NB273_239.out, NB240_273.out, NB273_240.out, NB241_273.out, NB273_241.out, NB242_273.out, NB273_242.out, NB246_273.out, NB273_246.out, NB250_273.out, NB273_250.out, NB254_273.out, NB273_254.out, NB258_273.out, NB273_258.out, NB262_273.out, NB273_262.out, NB266_273.out, NB273_266.out, (by repeat (first | (with_reducible first | exact HB.out | apply below_alloc | apply pw_below_drewN | apply below_drew1 | refine below_set ?_ GE239.out | refine below_set ?_ GE240.out | refine below_set ?_ GE241.out | refine below_set ?_ GE242.out | refine below_set ?_ GE246.out | refine below_set ?_ GE250.out | refine below_set ?_ GE254.out | refine below_set ?_ GE258.out | refine below_set ?_ GE262.out | refine below_set ?_ GE266.out | refine below_set ?_ GE273.out) | exact HB.out))⟩)
                              · skip
                                refine box_step ?hg (N := 23) ?hd (cs := #[.int .i64 0, .int .i64 0]) (t := 29) ?hr ?_; (case hd => rfl); (case hg => rfl); (case hr => first | (go_simp; done) | (go_simp; rfl))
                                intro gb274 hg w95 hbox hb
                                have BK274 := Aside0.mk hbox
                                have GW274 := ge_ (hb_ HB.out) hg
                                have GE274 := ge_ (hb_ HB.out) hg
                                have NB239_274 := nb_ (gr_ BK239.out) hg
                                have NB274_239 := bn_ (gr_ BK239.out) hg
                                have NB240_274 := nb_ (gr_ BK240.out) hg
                                have NB274_240 := bn_ (gr_ BK240.out) hg
                                have NB241_274 := nb_ (gr_ BK241.out) hg
                                have NB274_241 := bn_ (gr_ BK241.out) hg
                                have NB242_274 := nb_ (gr_ BK242.out) hg
                                have NB274_242 := bn_ (gr_ BK242.out) hg
                                have NB246_274 := nb_ (gr_ BK246.out) hg
                                have NB274_246 := bn_ (gr_ BK246.out) hg
                                have NB250_274 := nb_ (gr_ BK250.out) hg
                                have NB274_250 := bn_ (gr_ BK250.out) hg
                                have NB254_274 := nb_ (gr_ BK254.out) hg
                                have NB274_254 := bn_ (gr_ BK254.out) hg
                                have NB258_274 := nb_ (gr_ BK258.out) hg
                                have NB274_258 := bn_ (gr_ BK258.out) hg
                                have NB262_274 := nb_ (gr_ BK262.out) hg
                                have NB274_262 := bn_ (gr_ BK262.out) hg
                                have NB266_274 := nb_ (gr_ BK266.out) hg
                                have NB274_266 := bn_ (gr_ BK266.out) hg
                                replace BK239 := nx_ BK239 hb
                                replace BK240 := nx_ BK240 hb
                                replace BK241 := nx_ BK241 hb
                                replace BK242 := nx_ BK242 hb
                                replace BK246 := nx_ BK246 hb
                                replace BK250 := nx_ BK250 hb
                                replace BK254 := nx_ BK254 hb
                                replace BK258 := nx_ BK258 hb
                                replace BK262 := nx_ BK262 hb
                                replace BK266 := nx_ BK266 hb
                                replace HB := hx_ HB hb
                                clear hb hbox hg
                                refine hK.out _ _ ⟨(blk_cell BK250.out 0).trans rfl, (blk_cell BK250.out 1).trans rfl, (blk_cell BK258.out 0).trans rfl, (blk_cell BK258.out 1).trans rfl, (blk_cell BK254.out 0).trans rfl, (blk_cell BK254.out 1).trans rfl, (blk_cell BK262.out 0).trans rfl, (blk_cell BK262.out 1).trans rfl, (blk_cell BK266.out 0).trans rfl, (blk_cell BK266.out 1).trans rfl⟩ (fun hHeld => ?_)
                                clear hK K
                                refine norm_ (a' := ?_) ?_ ?_
                                rotate_left
                                · show Act.put _ (some 23) _ = _
                                  simp only [Act.put, List.setIfInBounds_toArray, List.set_cons_zero, List.set_cons_succ, i64_w, i32_w]
                                  rfl
                                exact norm_ (by first | (simp only [putAll, Act.put, List.setIfInBounds_toArray, List.set_cons_zero, List.set_cons_succ]; done) | (simp only [putAll, Act.put, List.setIfInBounds_toArray, List.set_cons_zero, List.set_cons_succ]; rfl)) (hJ2_9 (gb274) _ ⟨hHeld, (gr_ BK239.out), (gr_ BK240.out), (gr_ BK241.out), (gr_ BK242.out), (gr_ BK246.out), (gr_ BK250.out), (gr_ BK254.out), (gr_ BK258.out), (gr_ BK262.out), (gr_ BK266.out), (gr_ BK274.out), GW274.out, GE274.out, NB239_274.out, NB274_239.out, NB240_274.out, NB274_240.out, NB241_274.out, NB274_241.out, NB242_274.out, NB274_242.out, NB246_274.out, NB274_246.out, NB250_274.out, NB274_250.out, NB254_274.out, NB274_254.out, NB258_274.out, NB274_258.out, NB262_274.out, NB274_262.out, NB266_274.out, NB274_266.out, (by repeat (first | (with_reducible first | exact HB.out | apply below_alloc | apply pw_below_drewN | apply below_drew1 | refine below_set ?_ GE239.out | refine below_set ?_ GE240.out | refine below_set ?_ GE241.out | refine below_set ?_ GE242.out | refine below_set ?_ GE246.out | refine below_set ?_ GE250.out | refine below_set ?_ GE254.out | refine below_set ?_ GE258.out | refine below_set ?_ GE262.out | refine below_set ?_ GE266.out | refine below_set ?_ GE274.out) | exact HB.out))⟩)
                          · skip
                            rintro ⟨gb273, gb274⟩ w95 ⟨hS_, h0_, h1_, h2_, h3_, h4_, h5_, h6_, h7_, h8_, h9_, h10_, h11_, h12_, h13_, h14_, h15_, h16_, h17_, h18_, h19_, h20_, h21_, h22_, h23_, h24_, h25_, h26_, h27_, h28_, h29_, h30_, h31_, h32_, h33_, h34_, h35_, h36_, h37_, h38_, h39_, h40_, h41_, h42_, h43_, h44_, h45_, h46_, h47_, h48_, h49_, h50_, h51_, h52_, h53_, h54_, h55_, h56_, h57_, h58_⟩
                            replace BK239 : Aside0 (w95.heap[gb239]? = some (.cells #[.int .i64 a0_0, .int .i64 a0_1] 37 (0, 0))) := ⟨h0_⟩
                            replace BK240 : Aside0 (w95.heap[gb240]? = some (.cells #[.int .i64 a1_0, .int .i64 a1_1] 29 (0, 0))) := ⟨h1_⟩
                            replace BK241 : Aside0 (w95.heap[gb241]? = some (.cells #[.int .i64 a2_0, .int .i64 a2_1] 29 (0, 0))) := ⟨h2_⟩
                            replace BK242 : Aside0 (w95.heap[gb242]? = some (.cells #[.int .i64 0, .int .i64 0] 29 (0, 0))) := ⟨h3_⟩
                            replace BK246 : Aside0 (w95.heap[gb246]? = some (.cells #[.int .i64 t243, .int .i64 t244] 29 (0, 0))) := ⟨h4_⟩
                            replace BK250 : Aside0 (w95.heap[gb250]? = some (.cells #[.int .i64 t247, .int .i64 t248] 29 (0, 0))) := ⟨h5_⟩
                            replace BK254 : Aside0 (w95.heap[gb254]? = some (.cells #[.int .i64 t251, .int .i64 t252] 29 (0, 0))) := ⟨h6_⟩
                            replace BK258 : Aside0 (w95.heap[gb258]? = some (.cells #[.int .i64 t255, .int .i64 t256] 29 (0, 0))) := ⟨h7_⟩
                            replace BK262 : Aside0 (w95.heap[gb262]? = some (.cells #[.int .i64 t259, .int .i64 t260] 29 (0, 0))) := ⟨h8_⟩
                            replace BK266 : Aside0 (w95.heap[gb266]? = some (.cells #[.int .i64 t263, .int .i64 t264] 29 (0, 0))) := ⟨h9_⟩
                            have BK273 : Aside0 (w95.heap[gb273]? = some (.cells #[.int .i64 0, .int .i64 0] 29 (0, 0))) := ⟨h10_⟩
                            have BK274 : Aside0 (w95.heap[gb274]? = some (.cells #[.int .i64 0, .int .i64 0] 29 (0, 0))) := ⟨h11_⟩
                            have GW273 : Aside0 (w.heap.size ≤ gb273) := ⟨h12_⟩
                            have GE273 : Aside0 (w.heap.size ≤ gb273) := ⟨h13_⟩
                            have NB239_273 : Aside0 (gb239 ≠ gb273) := ⟨h14_⟩
                            have NB273_239 : Aside0 (gb273 ≠ gb239) := ⟨h15_⟩
                            have NB240_273 : Aside0 (gb240 ≠ gb273) := ⟨h16_⟩
                            have NB273_240 : Aside0 (gb273 ≠ gb240) := ⟨h17_⟩
                            have NB241_273 : Aside0 (gb241 ≠ gb273) := ⟨h18_⟩
                            have NB273_241 : Aside0 (gb273 ≠ gb241) := ⟨h19_⟩
                            have NB242_273 : Aside0 (gb242 ≠ gb273) := ⟨h20_⟩
                            have NB273_242 : Aside0 (gb273 ≠ gb242) := ⟨h21_⟩
                            have NB246_273 : Aside0 (gb246 ≠ gb273) := ⟨h22_⟩
                            have NB273_246 : Aside0 (gb273 ≠ gb246) := ⟨h23_⟩
                            have NB250_273 : Aside0 (gb250 ≠ gb273) := ⟨h24_⟩
                            have NB273_250 : Aside0 (gb273 ≠ gb250) := ⟨h25_⟩
                            have NB254_273 : Aside0 (gb254 ≠ gb273) := ⟨h26_⟩
                            have NB273_254 : Aside0 (gb273 ≠ gb254) := ⟨h27_⟩
                            have NB258_273 : Aside0 (gb258 ≠ gb273) := ⟨h28_⟩
                            have NB273_258 : Aside0 (gb273 ≠ gb258) := ⟨h29_⟩
                            have NB262_273 : Aside0 (gb262 ≠ gb273) := ⟨h30_⟩
                            have NB273_262 : Aside0 (gb273 ≠ gb262) := ⟨h31_⟩
                            have NB266_273 : Aside0 (gb266 ≠ gb273) := ⟨h32_⟩
                            have NB273_266 : Aside0 (gb273 ≠ gb266) := ⟨h33_⟩
                            have NB274_273 : Aside0 (gb274 ≠ gb273) := ⟨h34_⟩
                            have NB273_274 : Aside0 (gb273 ≠ gb274) := ⟨h35_⟩
                            have GW274 : Aside0 (w.heap.size ≤ gb274) := ⟨h36_⟩
                            have GE274 : Aside0 (w.heap.size ≤ gb274) := ⟨h37_⟩
                            have NB239_274 : Aside0 (gb239 ≠ gb274) := ⟨h38_⟩
                            have NB274_239 : Aside0 (gb274 ≠ gb239) := ⟨h39_⟩
                            have NB240_274 : Aside0 (gb240 ≠ gb274) := ⟨h40_⟩
                            have NB274_240 : Aside0 (gb274 ≠ gb240) := ⟨h41_⟩
                            have NB241_274 : Aside0 (gb241 ≠ gb274) := ⟨h42_⟩
                            have NB274_241 : Aside0 (gb274 ≠ gb241) := ⟨h43_⟩
                            have NB242_274 : Aside0 (gb242 ≠ gb274) := ⟨h44_⟩
                            have NB274_242 : Aside0 (gb274 ≠ gb242) := ⟨h45_⟩
                            have NB246_274 : Aside0 (gb246 ≠ gb274) := ⟨h46_⟩
                            have NB274_246 : Aside0 (gb274 ≠ gb246) := ⟨h47_⟩
                            have NB250_274 : Aside0 (gb250 ≠ gb274) := ⟨h48_⟩
                            have NB274_250 : Aside0 (gb274 ≠ gb250) := ⟨h49_⟩
                            have NB254_274 : Aside0 (gb254 ≠ gb274) := ⟨h50_⟩
                            have NB274_254 : Aside0 (gb274 ≠ gb254) := ⟨h51_⟩
                            have NB258_274 : Aside0 (gb258 ≠ gb274) := ⟨h52_⟩
                            have NB274_258 : Aside0 (gb274 ≠ gb258) := ⟨h53_⟩
                            have NB262_274 : Aside0 (gb262 ≠ gb274) := ⟨h54_⟩
                            have NB274_262 : Aside0 (gb274 ≠ gb262) := ⟨h55_⟩
                            have NB266_274 : Aside0 (gb266 ≠ gb274) := ⟨h56_⟩
                            have NB274_266 : Aside0 (gb274 ≠ gb266) := ⟨h57_⟩
                            replace HB : Aside0 (Below w.heap.size w w95) := ⟨h58_⟩
                            clear h0_ h1_ h2_ h3_ h4_ h5_ h6_ h7_ h8_ h9_ h10_ h11_ h12_ h13_ h14_ h15_ h16_ h17_ h18_ h19_ h20_ h21_ h22_ h23_ h24_ h25_ h26_ h27_ h28_ h29_ h30_ h31_ h32_ h33_ h34_ h35_ h36_ h37_ h38_ h39_ h40_ h41_ h42_ h43_ h44_ h45_ h46_ h47_ h48_ h49_ h50_ h51_ h52_ h53_ h54_ h55_ h56_ h57_ h58_
                            have hHeld : w95.cell? ⟨gb250, 0, none⟩ = some (.int .i64 t247) ∧ w95.cell? ⟨gb250, 1, none⟩ = some (.int .i64 t248) ∧ w95.cell? ⟨gb258, 0, none⟩ = some (.int .i64 t255) ∧ w95.cell? ⟨gb258, 1, none⟩ = some (.int .i64 t256) ∧ w95.cell? ⟨gb254, 0, none⟩ = some (.int .i64 t251) ∧ w95.cell? ⟨gb254, 1, none⟩ = some (.int .i64 t252) ∧ w95.cell? ⟨gb262, 0, none⟩ = some (.int .i64 t259) ∧ w95.cell? ⟨gb262, 1, none⟩ = some (.int .i64 t260) ∧ w95.cell? ⟨gb266, 0, none⟩ = some (.int .i64 t263) ∧ w95.cell? ⟨gb266, 1, none⟩ = some (.int .i64 t264) := hS_
                            refine norm_ (a' := ?_) ?_ ?_
                            rotate_left
                            · simp only [putAll, Act.put, List.setIfInBounds_toArray, List.set_cons_zero, List.set_cons_succ]
                              rfl
                            refine one_ (i := 2) (N := some 65) #[true, true, true, true, true, false, true, false, true, true, false, false] rfl rfl (one_of HT_.out (by kernel_rfl)) (by decide) (fun K hK => ?_)
                            refine goes_ Try.func46 (by kernel_rfl) rfl #[.agg #[.int .i64 t247, .int .i64 t248], .agg #[.int .i64 t255, .int .i64 t256]] (by rfl) rfl rfl (by (try simp only [List.map_toArray, List.map_cons, List.map_nil]); first | done | rfl | (simp only [List.length_drop, List.length_take]; rfl)) ?_
                            with_reducible refine (sun_Unit.calls t247 t248 t255 t256 t267 t268 _ A12.out).mono ?_
                            rintro e w96 ⟨rfl, hb⟩
                            refine ⟨_, rfl, ?_⟩
                            replace BK239 := nx_ BK239 hb
                            replace BK240 := nx_ BK240 hb
                            replace BK241 := nx_ BK241 hb
                            replace BK242 := nx_ BK242 hb
                            replace BK246 := nx_ BK246 hb
                            replace BK250 := nx_ BK250 hb
                            replace BK254 := nx_ BK254 hb
                            replace BK258 := nx_ BK258 hb
                            replace BK262 := nx_ BK262 hb
                            replace BK266 := nx_ BK266 hb
                            replace BK273 := nx_ BK273 hb
                            replace BK274 := nx_ BK274 hb
                            replace HB := hx_ HB hb
                            (try clear hb)
                            (try clear hb2)
                            (try clear hk)
                            (try clear hi)
                            refine hK.out _ _ ⟨(blk_cell BK250.out 0).trans rfl, (blk_cell BK250.out 1).trans rfl, (blk_cell BK258.out 0).trans rfl, (blk_cell BK258.out 1).trans rfl, (blk_cell BK254.out 0).trans rfl, (blk_cell BK254.out 1).trans rfl, (blk_cell BK262.out 0).trans rfl, (blk_cell BK262.out 1).trans rfl, (blk_cell BK266.out 0).trans rfl, (blk_cell BK266.out 1).trans rfl⟩ (fun hHeld => ?_)
                            clear hK K
                            refine norm_ (a' := ?_) ?_ ?_
                            rotate_left
                            · show Act.put _ (some 65) _ = _
                              simp only [Act.put, List.setIfInBounds_toArray, List.set_cons_zero, List.set_cons_succ, i64_w, i32_w]
                              rfl
                            exact norm_ (by first | (simp only [putAll, Act.put, List.setIfInBounds_toArray, List.set_cons_zero, List.set_cons_succ]; done) | (simp only [putAll, Act.put, List.setIfInBounds_toArray, List.set_cons_zero, List.set_cons_succ]; rfl)) (hJ2_8_9 (gb273, gb274) _ ⟨hHeld, (gr_ BK239.out), (gr_ BK240.out), (gr_ BK241.out), (gr_ BK242.out), (gr_ BK246.out), (gr_ BK250.out), (gr_ BK254.out), (gr_ BK258.out), (gr_ BK262.out), (gr_ BK266.out), (gr_ BK273.out), (gr_ BK274.out), GW273.out, GE273.out, NB239_273.out, NB273_239.out, NB240_273.out, NB273_240.out, NB241_273.out, NB273_241.out, NB242_273.out, NB273_242.out, NB246_273.out, NB273_246.out, NB250_273.out, NB273_250.out, NB254_273.out, NB273_254.out, NB258_273.out, NB273_258.out, NB262_273.out, NB273_262.out, NB266_273.out, NB273_266.out, NB274_273.out, NB273_274.out, GW274.out, GE274.out, NB239_274.out, NB274_239.out, NB240_274.out, NB274_240.out, NB241_274.out, NB274_241.out, NB242_274.out, NB274_242.out, NB246_274.out, NB274_246.out, NB250_274.out, NB274_250.out, NB254_274.out, NB274_254.out, NB258_274.out, NB274_258.out, NB262_274.out, NB274_262.out, NB266_274.out, NB274_266.out, (by repeat (first | (with_reducible first | exact HB.out | apply below_alloc | apply pw_below_drewN | apply below_drew1 | refine below_set ?_ GE239.out | refine below_set ?_ GE240.out | refine below_set ?_ GE241.out | refine below_set ?_ GE242.out | refine below_set ?_ GE246.out | refine below_set ?_ GE250.out | refine below_set ?_ GE254.out | refine below_set ?_ GE258.out | refine below_set ?_ GE262.out | refine below_set ?_ GE266.out | refine below_set ?_ GE273.out | refine below_set ?_ GE274.out) | exact HB.out))⟩)
                        · skip
                          rintro gb274 w95 ⟨hS_, h0_, h1_, h2_, h3_, h4_, h5_, h6_, h7_, h8_, h9_, h10_, h11_, h12_, h13_, h14_, h15_, h16_, h17_, h18_, h19_, h20_, h21_, h22_, h23_, h24_, h25_, h26_, h27_, h28_, h29_, h30_, h31_, h32_, h33_⟩
                          replace BK239 : Aside0 (w95.heap[gb239]? = some (.cells #[.int .i64 a0_0, .int .i64 a0_1] 37 (0, 0))) := ⟨h0_⟩
                          replace BK240 : Aside0 (w95.heap[gb240]? = some (.cells #[.int .i64 a1_0, .int .i64 a1_1] 29 (0, 0))) := ⟨h1_⟩
                          replace BK241 : Aside0 (w95.heap[gb241]? = some (.cells #[.int .i64 a2_0, .int .i64 a2_1] 29 (0, 0))) := ⟨h2_⟩
                          replace BK242 : Aside0 (w95.heap[gb242]? = some (.cells #[.int .i64 0, .int .i64 0] 29 (0, 0))) := ⟨h3_⟩
                          replace BK246 : Aside0 (w95.heap[gb246]? = some (.cells #[.int .i64 t243, .int .i64 t244] 29 (0, 0))) := ⟨h4_⟩
                          replace BK250 : Aside0 (w95.heap[gb250]? = some (.cells #[.int .i64 t247, .int .i64 t248] 29 (0, 0))) := ⟨h5_⟩
                          replace BK254 : Aside0 (w95.heap[gb254]? = some (.cells #[.int .i64 t251, .int .i64 t252] 29 (0, 0))) := ⟨h6_⟩
                          replace BK258 : Aside0 (w95.heap[gb258]? = some (.cells #[.int .i64 t255, .int .i64 t256] 29 (0, 0))) := ⟨h7_⟩
                          replace BK262 : Aside0 (w95.heap[gb262]? = some (.cells #[.int .i64 t259, .int .i64 t260] 29 (0, 0))) := ⟨h8_⟩
                          replace BK266 : Aside0 (w95.heap[gb266]? = some (.cells #[.int .i64 t263, .int .i64 t264] 29 (0, 0))) := ⟨h9_⟩
                          have BK274 : Aside0 (w95.heap[gb274]? = some (.cells #[.int .i64 0, .int .i64 0] 29 (0, 0))) := ⟨h10_⟩
                          have GW274 : Aside0 (w.heap.size ≤ gb274) := ⟨h11_⟩
                          have GE274 : Aside0 (w.heap.size ≤ gb274) := ⟨h12_⟩
                          have NB239_274 : Aside0 (gb239 ≠ gb274) := ⟨h13_⟩
                          have NB274_239 : Aside0 (gb274 ≠ gb239) := ⟨h14_⟩
                          have NB240_274 : Aside0 (gb240 ≠ gb274) := ⟨h15_⟩
                          have NB274_240 : Aside0 (gb274 ≠ gb240) := ⟨h16_⟩
                          have NB241_274 : Aside0 (gb241 ≠ gb274) := ⟨h17_⟩
                          have NB274_241 : Aside0 (gb274 ≠ gb241) := ⟨h18_⟩
                          have NB242_274 : Aside0 (gb242 ≠ gb274) := ⟨h19_⟩
                          have NB274_242 : Aside0 (gb274 ≠ gb242) := ⟨h20_⟩
                          have NB246_274 : Aside0 (gb246 ≠ gb274) := ⟨h21_⟩
                          have NB274_246 : Aside0 (gb274 ≠ gb246) := ⟨h22_⟩
                          have NB250_274 : Aside0 (gb250 ≠ gb274) := ⟨h23_⟩
                          have NB274_250 : Aside0 (gb274 ≠ gb250) := ⟨h24_⟩
                          have NB254_274 : Aside0 (gb254 ≠ gb274) := ⟨h25_⟩
                          have NB274_254 : Aside0 (gb274 ≠ gb254) := ⟨h26_⟩
                          have NB258_274 : Aside0 (gb258 ≠ gb274) := ⟨h27_⟩
                          have NB274_258 : Aside0 (gb274 ≠ gb258) := ⟨h28_⟩
                          have NB262_274 : Aside0 (gb262 ≠ gb274) := ⟨h29_⟩
                          have NB274_262 : Aside0 (gb274 ≠ gb262) := ⟨h30_⟩
                          have NB266_274 : Aside0 (gb266 ≠ gb274) := ⟨h31_⟩
                          have NB274_266 : Aside0 (gb274 ≠ gb266) := ⟨h32_⟩
                          replace HB : Aside0 (Below w.heap.size w w95) := ⟨h33_⟩
                          clear h0_ h1_ h2_ h3_ h4_ h5_ h6_ h7_ h8_ h9_ h10_ h11_ h12_ h13_ h14_ h15_ h16_ h17_ h18_ h19_ h20_ h21_ h22_ h23_ h24_ h25_ h26_ h27_ h28_ h29_ h30_ h31_ h32_ h33_
                          have hHeld : w95.cell? ⟨gb250, 0, none⟩ = some (.int .i64 t247) ∧ w95.cell? ⟨gb250, 1, none⟩ = some (.int .i64 t248) ∧ w95.cell? ⟨gb258, 0, none⟩ = some (.int .i64 t255) ∧ w95.cell? ⟨gb258, 1, none⟩ = some (.int .i64 t256) ∧ w95.cell? ⟨gb254, 0, none⟩ = some (.int .i64 t251) ∧ w95.cell? ⟨gb254, 1, none⟩ = some (.int .i64 t252) ∧ w95.cell? ⟨gb262, 0, none⟩ = some (.int .i64 t259) ∧ w95.cell? ⟨gb262, 1, none⟩ = some (.int .i64 t260) ∧ w95.cell? ⟨gb266, 0, none⟩ = some (.int .i64 t263) ∧ w95.cell? ⟨gb266, 1, none⟩ = some (.int .i64 t264) := hS_
                          refine norm_ (a' := ?_) ?_ ?_
                          rotate_left
                          · simp only [putAll, Act.put, List.setIfInBounds_toArray, List.set_cons_zero, List.set_cons_succ]
                            rfl
                          refine two_ (i := 5) (j := 8) (Ni := some 68) (Nj := some 22) #[true, true, true, true, true, true, true, false, false, true, false, false] #[true, true, true, true, true, false, true, false, true, true, false, false] rfl rfl rfl rfl (two_of HT_.out (by kernel_rfl)) (by decide) (by decide) (fun K hK => ?_) (fun K hK => ?_)
                          · skip
                            refine goes_ Try.func46 (by kernel_rfl) rfl #[.agg #[.int .i64 t251, .int .i64 t252], .agg #[.int .i64 t259, .int .i64 t260]] (by rfl) rfl rfl (by (try simp only [List.map_toArray, List.map_cons, List.map_nil]); first | done | rfl | (simp only [List.length_drop, List.length_take]; rfl)) ?_
                            with_reducible refine (sun_Unit.calls t251 t252 t259 t260 t269 t270 _ A13.out).mono ?_
                            rintro e w96 ⟨rfl, hb⟩
                            refine ⟨_, rfl, ?_⟩
                            replace BK239 := nx_ BK239 hb
                            replace BK240 := nx_ BK240 hb
                            replace BK241 := nx_ BK241 hb
                            replace BK242 := nx_ BK242 hb
                            replace BK246 := nx_ BK246 hb
                            replace BK250 := nx_ BK250 hb
                            replace BK254 := nx_ BK254 hb
                            replace BK258 := nx_ BK258 hb
                            replace BK262 := nx_ BK262 hb
                            replace BK266 := nx_ BK266 hb
                            replace BK274 := nx_ BK274 hb
                            replace HB := hx_ HB hb
                            (try clear hb)
                            (try clear hb2)
                            (try clear hk)
                            (try clear hi)
                            refine hK.out _ _ ⟨(blk_cell BK250.out 0).trans rfl, (blk_cell BK250.out 1).trans rfl, (blk_cell BK258.out 0).trans rfl, (blk_cell BK258.out 1).trans rfl, (blk_cell BK254.out 0).trans rfl, (blk_cell BK254.out 1).trans rfl, (blk_cell BK262.out 0).trans rfl, (blk_cell BK262.out 1).trans rfl, (blk_cell BK266.out 0).trans rfl, (blk_cell BK266.out 1).trans rfl⟩ (fun hHeld => ?_)
                            clear hK K
                            refine norm_ (a' := ?_) ?_ ?_
                            rotate_left
                            · show Act.put _ (some 68) _ = _
                              simp only [Act.put, List.setIfInBounds_toArray, List.set_cons_zero, List.set_cons_succ, i64_w, i32_w]
                              rfl
                            exact norm_ (by first | (simp only [putAll, Act.put, List.setIfInBounds_toArray, List.set_cons_zero, List.set_cons_succ]; done) | (simp only [putAll, Act.put, List.setIfInBounds_toArray, List.set_cons_zero, List.set_cons_succ]; rfl)) (hJ2_5_9 (gb274) _ ⟨hHeld, (gr_ BK239.out), (gr_ BK240.out), (gr_ BK241.out), (gr_ BK242.out), (gr_ BK246.out), (gr_ BK250.out), (gr_ BK254.out), (gr_ BK258.out), (gr_ BK262.out), (gr_ BK266.out), (gr_ BK274.out), GW274.out, GE274.out, NB239_274.out, NB274_239.out, NB240_274.out, NB274_240.out, NB241_274.out, NB274_241.out, NB242_274.out, NB274_242.out, NB246_274.out, NB274_246.out, NB250_274.out, NB274_250.out, NB254_274.out, NB274_254.out, NB258_274.out, NB274_258.out, NB262_274.out, NB274_262.out, NB266_274.out, NB274_266.out, (by repeat (first | (with_reducible first | exact HB.out | apply below_alloc | apply pw_below_drewN | apply below_drew1 | refine below_set ?_ GE239.out | refine below_set ?_ GE240.out | refine below_set ?_ GE241.out | refine below_set ?_ GE242.out | refine below_set ?_ GE246.out | refine below_set ?_ GE250.out | refine below_set ?_ GE254.out | refine below_set ?_ GE258.out | refine below_set ?_ GE262.out | refine below_set ?_ GE266.out | refine below_set ?_ GE274.out) | exact HB.out))⟩)
                          · skip
                            refine box_step ?hg (N := 22) ?hd (cs := #[.int .i64 0, .int .i64 0]) (t := 29) ?hr ?_; (case hd => rfl); (case hg => rfl); (case hr => first | (go_simp; done) | (go_simp; rfl))
                            intro gb273 hg w96 hbox hb
                            have BK273 := Aside0.mk hbox
                            have GW273 := ge_ (hb_ HB.out) hg
                            have GE273 := ge_ (hb_ HB.out) hg
                            have NB239_273 := nb_ (gr_ BK239.out) hg
                            have NB273_239 := bn_ (gr_ BK239.out) hg
                            have NB240_273 := nb_ (gr_ BK240.out) hg
                            have NB273_240 := bn_ (gr_ BK240.out) hg
                            have NB241_273 := nb_ (gr_ BK241.out) hg
                            have NB273_241 := bn_ (gr_ BK241.out) hg
                            have NB242_273 := nb_ (gr_ BK242.out) hg
                            have NB273_242 := bn_ (gr_ BK242.out) hg
                            have NB246_273 := nb_ (gr_ BK246.out) hg
                            have NB273_246 := bn_ (gr_ BK246.out) hg
                            have NB250_273 := nb_ (gr_ BK250.out) hg
                            have NB273_250 := bn_ (gr_ BK250.out) hg
                            have NB254_273 := nb_ (gr_ BK254.out) hg
                            have NB273_254 := bn_ (gr_ BK254.out) hg
                            have NB258_273 := nb_ (gr_ BK258.out) hg
                            have NB273_258 := bn_ (gr_ BK258.out) hg
                            have NB262_273 := nb_ (gr_ BK262.out) hg
                            have NB273_262 := bn_ (gr_ BK262.out) hg
                            have NB266_273 := nb_ (gr_ BK266.out) hg
                            have NB273_266 := bn_ (gr_ BK266.out) hg
                            have NB274_273 := nb_ (gr_ BK274.out) hg
                            have NB273_274 := bn_ (gr_ BK274.out) hg
                            replace BK239 := nx_ BK239 hb
                            replace BK240 := nx_ BK240 hb
                            replace BK241 := nx_ BK241 hb
                            replace BK242 := nx_ BK242 hb
                            replace BK246 := nx_ BK246 hb
                            replace BK250 := nx_ BK250 hb
                            replace BK254 := nx_ BK254 hb
                            replace BK258 := nx_ BK258 hb
                            replace BK262 := nx_ BK262 hb
                            replace BK266 := nx_ BK266 hb
                            replace BK274 := nx_ BK274 hb
                            replace HB := hx_ HB hb
                            clear hb hbox hg
                            refine hK.out _ _ ⟨(blk_cell BK250.out 0).trans rfl, (blk_cell BK250.out 1).trans rfl, (blk_cell BK258.out 0).trans rfl, (blk_cell BK258.out 1).trans rfl, (blk_cell BK254.out 0).trans rfl, (blk_cell BK254.out 1).trans rfl, (blk_cell BK262.out 0).trans rfl, (blk_cell BK262.out 1).trans rfl, (blk_cell BK266.out 0).trans rfl, (blk_cell BK266.out 1).trans rfl⟩ (fun hHeld => ?_)
                            clear hK K
                            refine norm_ (a' := ?_) ?_ ?_
                            rotate_left
                            · show Act.put _ (some 22) _ = _
                              simp only [Act.put, List.setIfInBounds_toArray, List.set_cons_zero, List.set_cons_succ, i64_w, i32_w]
                              rfl
                            exact norm_ (by first | (simp only [putAll, Act.put, List.setIfInBounds_toArray, List.set_cons_zero, List.set_cons_succ]; done) | (simp only [putAll, Act.put, List.setIfInBounds_toArray, List.set_cons_zero, List.set_cons_succ]; rfl)) (hJ2_8_9 (gb273, gb274) _ ⟨hHeld, (gr_ BK239.out), (gr_ BK240.out), (gr_ BK241.out), (gr_ BK242.out), (gr_ BK246.out), (gr_ BK250.out), (gr_ BK254.out), (gr_ BK258.out), (gr_ BK262.out), (gr_ BK266.out), (gr_ BK273.out), (gr_ BK274.out), GW273.out, GE273.out, NB239_273.out, NB273_239.out, NB240_273.out, NB273_240.out, NB241_273.out, NB273_241.out, NB242_273.out, NB273_242.out, NB246_273.out, NB273_246.out, NB250_273.out, NB273_250.out, NB254_273.out, NB273_254.out, NB258_273.out, NB273_258.out, NB262_273.out, NB273_262.out, NB266_273.out, NB273_266.out, NB274_273.out, NB273_274.out, GW274.out, GE274.out, NB239_274.out, NB274_239.out, NB240_274.out, NB274_240.out, NB241_274.out, NB274_241.out, NB242_274.out, NB274_242.out, NB246_274.out, NB274_246.out, NB250_274.out, NB274_250.out, NB254_274.out, NB274_254.out, NB258_274.out, NB274_258.out, NB262_274.out, NB274_262.out, NB266_274.out, NB274_266.out, (by repeat (first | (with_reducible first | exact HB.out | apply below_alloc | apply pw_below_drewN | apply below_drew1 | refine below_set ?_ GE239.out | refine below_set ?_ GE240.out | refine below_set ?_ GE241.out | refine below_set ?_ GE242.out | refine below_set ?_ GE246.out | refine below_set ?_ GE250.out | refine below_set ?_ GE254.out | refine below_set ?_ GE258.out | refine below_set ?_ GE262.out | refine below_set ?_ GE266.out | refine below_set ?_ GE274.out | refine below_set ?_ GE273.out) | exact HB.out))⟩)
                      · skip
                        rintro gb273 w95 ⟨hS_, h0_, h1_, h2_, h3_, h4_, h5_, h6_, h7_, h8_, h9_, h10_, h11_, h12_, h13_, h14_, h15_, h16_, h17_, h18_, h19_, h20_, h21_, h22_, h23_, h24_, h25_, h26_, h27_, h28_, h29_, h30_, h31_, h32_, h33_⟩
                        replace BK239 : Aside0 (w95.heap[gb239]? = some (.cells #[.int .i64 a0_0, .int .i64 a0_1] 37 (0, 0))) := ⟨h0_⟩
                        replace BK240 : Aside0 (w95.heap[gb240]? = some (.cells #[.int .i64 a1_0, .int .i64 a1_1] 29 (0, 0))) := ⟨h1_⟩
                        replace BK241 : Aside0 (w95.heap[gb241]? = some (.cells #[.int .i64 a2_0, .int .i64 a2_1] 29 (0, 0))) := ⟨h2_⟩
                        replace BK242 : Aside0 (w95.heap[gb242]? = some (.cells #[.int .i64 0, .int .i64 0] 29 (0, 0))) := ⟨h3_⟩
                        replace BK246 : Aside0 (w95.heap[gb246]? = some (.cells #[.int .i64 t243, .int .i64 t244] 29 (0, 0))) := ⟨h4_⟩
                        replace BK250 : Aside0 (w95.heap[gb250]? = some (.cells #[.int .i64 t247, .int .i64 t248] 29 (0, 0))) := ⟨h5_⟩
                        replace BK254 : Aside0 (w95.heap[gb254]? = some (.cells #[.int .i64 t251, .int .i64 t252] 29 (0, 0))) := ⟨h6_⟩
                        replace BK258 : Aside0 (w95.heap[gb258]? = some (.cells #[.int .i64 t255, .int .i64 t256] 29 (0, 0))) := ⟨h7_⟩
                        replace BK262 : Aside0 (w95.heap[gb262]? = some (.cells #[.int .i64 t259, .int .i64 t260] 29 (0, 0))) := ⟨h8_⟩
                        replace BK266 : Aside0 (w95.heap[gb266]? = some (.cells #[.int .i64 t263, .int .i64 t264] 29 (0, 0))) := ⟨h9_⟩
                        have BK273 : Aside0 (w95.heap[gb273]? = some (.cells #[.int .i64 0, .int .i64 0] 29 (0, 0))) := ⟨h10_⟩
                        have GW273 : Aside0 (w.heap.size ≤ gb273) := ⟨h11_⟩
                        have GE273 : Aside0 (w.heap.size ≤ gb273) := ⟨h12_⟩
                        have NB239_273 : Aside0 (gb239 ≠ gb273) := ⟨h13_⟩
                        have NB273_239 : Aside0 (gb273 ≠ gb239) := ⟨h14_⟩
                        have NB240_273 : Aside0 (gb240 ≠ gb273) := ⟨h15_⟩
                        have NB273_240 : Aside0 (gb273 ≠ gb240) := ⟨h16_⟩
                        have NB241_273 : Aside0 (gb241 ≠ gb273) := ⟨h17_⟩
                        have NB273_241 : Aside0 (gb273 ≠ gb241) := ⟨h18_⟩
                        have NB242_273 : Aside0 (gb242 ≠ gb273) := ⟨h19_⟩
                        have NB273_242 : Aside0 (gb273 ≠ gb242) := ⟨h20_⟩
                        have NB246_273 : Aside0 (gb246 ≠ gb273) := ⟨h21_⟩
                        have NB273_246 : Aside0 (gb273 ≠ gb246) := ⟨h22_⟩
                        have NB250_273 : Aside0 (gb250 ≠ gb273) := ⟨h23_⟩
                        have NB273_250 : Aside0 (gb273 ≠ gb250) := ⟨h24_⟩
                        have NB254_273 : Aside0 (gb254 ≠ gb273) := ⟨h25_⟩
                        have NB273_254 : Aside0 (gb273 ≠ gb254) := ⟨h26_⟩
                        have NB258_273 : Aside0 (gb258 ≠ gb273) := ⟨h27_⟩
                        have NB273_258 : Aside0 (gb273 ≠ gb258) := ⟨h28_⟩
                        have NB262_273 : Aside0 (gb262 ≠ gb273) := ⟨h29_⟩
                        have NB273_262 : Aside0 (gb273 ≠ gb262) := ⟨h30_⟩
                        have NB266_273 : Aside0 (gb266 ≠ gb273) := ⟨h31_⟩
                        have NB273_266 : Aside0 (gb273 ≠ gb266) := ⟨h32_⟩
                        replace HB : Aside0 (Below w.heap.size w w95) := ⟨h33_⟩
                        clear h0_ h1_ h2_ h3_ h4_ h5_ h6_ h7_ h8_ h9_ h10_ h11_ h12_ h13_ h14_ h15_ h16_ h17_ h18_ h19_ h20_ h21_ h22_ h23_ h24_ h25_ h26_ h27_ h28_ h29_ h30_ h31_ h32_ h33_
                        have hHeld : w95.cell? ⟨gb250, 0, none⟩ = some (.int .i64 t247) ∧ w95.cell? ⟨gb250, 1, none⟩ = some (.int .i64 t248) ∧ w95.cell? ⟨gb258, 0, none⟩ = some (.int .i64 t255) ∧ w95.cell? ⟨gb258, 1, none⟩ = some (.int .i64 t256) ∧ w95.cell? ⟨gb254, 0, none⟩ = some (.int .i64 t251) ∧ w95.cell? ⟨gb254, 1, none⟩ = some (.int .i64 t252) ∧ w95.cell? ⟨gb262, 0, none⟩ = some (.int .i64 t259) ∧ w95.cell? ⟨gb262, 1, none⟩ = some (.int .i64 t260) ∧ w95.cell? ⟨gb266, 0, none⟩ = some (.int .i64 t263) ∧ w95.cell? ⟨gb266, 1, none⟩ = some (.int .i64 t264) := hS_
                        refine norm_ (a' := ?_) ?_ ?_
                        rotate_left
                        · simp only [putAll, Act.put, List.setIfInBounds_toArray, List.set_cons_zero, List.set_cons_succ]
                          rfl
                        refine two_ (i := 5) (j := 9) (Ni := some 68) (Nj := some 23) #[true, true, true, true, true, true, true, false, true, false, false, false] #[true, true, true, true, true, false, true, false, true, true, false, false] rfl rfl rfl rfl (two_of HT_.out (by kernel_rfl)) (by decide) (by decide) (fun K hK => ?_) (fun K hK => ?_)
                        · skip
                          refine goes_ Try.func46 (by kernel_rfl) rfl #[.agg #[.int .i64 t251, .int .i64 t252], .agg #[.int .i64 t259, .int .i64 t260]] (by rfl) rfl rfl (by (try simp only [List.map_toArray, List.map_cons, List.map_nil]); first | done | rfl | (simp only [List.length_drop, List.length_take]; rfl)) ?_
                          with_reducible refine (sun_Unit.calls t251 t252 t259 t260 t269 t270 _ A13.out).mono ?_
                          rintro e w96 ⟨rfl, hb⟩
                          refine ⟨_, rfl, ?_⟩
                          replace BK239 := nx_ BK239 hb
                          replace BK240 := nx_ BK240 hb
                          replace BK241 := nx_ BK241 hb
                          replace BK242 := nx_ BK242 hb
                          replace BK246 := nx_ BK246 hb
                          replace BK250 := nx_ BK250 hb
                          replace BK254 := nx_ BK254 hb
                          replace BK258 := nx_ BK258 hb
                          replace BK262 := nx_ BK262 hb
                          replace BK266 := nx_ BK266 hb
                          replace BK273 := nx_ BK273 hb
                          replace HB := hx_ HB hb
                          (try clear hb)
                          (try clear hb2)
                          (try clear hk)
                          (try clear hi)
                          refine hK.out _ _ ⟨(blk_cell BK250.out 0).trans rfl, (blk_cell BK250.out 1).trans rfl, (blk_cell BK258.out 0).trans rfl, (blk_cell BK258.out 1).trans rfl, (blk_cell BK254.out 0).trans rfl, (blk_cell BK254.out 1).trans rfl, (blk_cell BK262.out 0).trans rfl, (blk_cell BK262.out 1).trans rfl, (blk_cell BK266.out 0).trans rfl, (blk_cell BK266.out 1).trans rfl⟩ (fun hHeld => ?_)
                          clear hK K
                          refine norm_ (a' := ?_) ?_ ?_
                          rotate_left
                          · show Act.put _ (some 68) _ = _
                            simp only [Act.put, List.setIfInBounds_toArray, List.set_cons_zero, List.set_cons_succ, i64_w, i32_w]
                            rfl
                          exact norm_ (by first | (simp only [putAll, Act.put, List.setIfInBounds_toArray, List.set_cons_zero, List.set_cons_succ]; done) | (simp only [putAll, Act.put, List.setIfInBounds_toArray, List.set_cons_zero, List.set_cons_succ]; rfl)) (hJ2_5_8 (gb273) _ ⟨hHeld, (gr_ BK239.out), (gr_ BK240.out), (gr_ BK241.out), (gr_ BK242.out), (gr_ BK246.out), (gr_ BK250.out), (gr_ BK254.out), (gr_ BK258.out), (gr_ BK262.out), (gr_ BK266.out), (gr_ BK273.out), GW273.out, GE273.out, NB239_273.out, NB273_239.out, NB240_273.out, NB273_240.out, NB241_273.out, NB273_241.out, NB242_273.out, NB273_242.out, NB246_273.out, NB273_246.out, NB250_273.out, NB273_250.out, NB254_273.out, NB273_254.out, NB258_273.out, NB273_258.out, NB262_273.out, NB273_262.out, NB266_273.out, NB273_266.out, (by repeat (first | (with_reducible first | exact HB.out | apply below_alloc | apply pw_below_drewN | apply below_drew1 | refine below_set ?_ GE239.out | refine below_set ?_ GE240.out | refine below_set ?_ GE241.out | refine below_set ?_ GE242.out | refine below_set ?_ GE246.out | refine below_set ?_ GE250.out | refine below_set ?_ GE254.out | refine below_set ?_ GE258.out | refine below_set ?_ GE262.out | refine below_set ?_ GE266.out | refine below_set ?_ GE273.out) | exact HB.out))⟩)
                        · skip
                          refine box_step ?hg (N := 23) ?hd (cs := #[.int .i64 0, .int .i64 0]) (t := 29) ?hr ?_; (case hd => rfl); (case hg => rfl); (case hr => first | (go_simp; done) | (go_simp; rfl))
                          intro gb274 hg w96 hbox hb
                          have BK274 := Aside0.mk hbox
                          have GW274 := ge_ (hb_ HB.out) hg
                          have GE274 := ge_ (hb_ HB.out) hg
                          have NB239_274 := nb_ (gr_ BK239.out) hg
                          have NB274_239 := bn_ (gr_ BK239.out) hg
                          have NB240_274 := nb_ (gr_ BK240.out) hg
                          have NB274_240 := bn_ (gr_ BK240.out) hg
                          have NB241_274 := nb_ (gr_ BK241.out) hg
                          have NB274_241 := bn_ (gr_ BK241.out) hg
                          have NB242_274 := nb_ (gr_ BK242.out) hg
                          have NB274_242 := bn_ (gr_ BK242.out) hg
                          have NB246_274 := nb_ (gr_ BK246.out) hg
                          have NB274_246 := bn_ (gr_ BK246.out) hg
                          have NB250_274 := nb_ (gr_ BK250.out) hg
                          have NB274_250 := bn_ (gr_ BK250.out) hg
                          have NB254_274 := nb_ (gr_ BK254.out) hg
                          have NB274_254 := bn_ (gr_ BK254.out) hg
                          have NB258_274 := nb_ (gr_ BK258.out) hg
                          have NB274_258 := bn_ (gr_ BK258.out) hg
                          have NB262_274 := nb_ (gr_ BK262.out) hg
                          have NB274_262 := bn_ (gr_ BK262.out) hg
                          have NB266_274 := nb_ (gr_ BK266.out) hg
                          have NB274_266 := bn_ (gr_ BK266.out) hg
                          have NB273_274 := nb_ (gr_ BK273.out) hg
                          have NB274_273 := bn_ (gr_ BK273.out) hg
                          replace BK239 := nx_ BK239 hb
                          replace BK240 := nx_ BK240 hb
                          replace BK241 := nx_ BK241 hb
                          replace BK242 := nx_ BK242 hb
                          replace BK246 := nx_ BK246 hb
                          replace BK250 := nx_ BK250 hb
                          replace BK254 := nx_ BK254 hb
                          replace BK258 := nx_ BK258 hb
                          replace BK262 := nx_ BK262 hb
                          replace BK266 := nx_ BK266 hb
                          replace BK273 := nx_ BK273 hb
                          replace HB := hx_ HB hb
                          clear hb hbox hg
                          refine hK.out _ _ ⟨(blk_cell BK250.out 0).trans rfl, (blk_cell BK250.out 1).trans rfl, (blk_cell BK258.out 0).trans rfl, (blk_cell BK258.out 1).trans rfl, (blk_cell BK254.out 0).trans rfl, (blk_cell BK254.out 1).trans rfl, (blk_cell BK262.out 0).trans rfl, (blk_cell BK262.out 1).trans rfl, (blk_cell BK266.out 0).trans rfl, (blk_cell BK266.out 1).trans rfl⟩ (fun hHeld => ?_)
                          clear hK K
                          refine norm_ (a' := ?_) ?_ ?_
                          rotate_left
                          · show Act.put _ (some 23) _ = _
                            simp only [Act.put, List.setIfInBounds_toArray, List.set_cons_zero, List.set_cons_succ, i64_w, i32_w]
                            rfl
                          exact norm_ (by first | (simp only [putAll, Act.put, List.setIfInBounds_toArray, List.set_cons_zero, List.set_cons_succ]; done) | (simp only [putAll, Act.put, List.setIfInBounds_toArray, List.set_cons_zero, List.set_cons_succ]; rfl)) (hJ2_8_9 (gb273, gb274) _ ⟨hHeld, (gr_ BK239.out), (gr_ BK240.out), (gr_ BK241.out), (gr_ BK242.out), (gr_ BK246.out), (gr_ BK250.out), (gr_ BK254.out), (gr_ BK258.out), (gr_ BK262.out), (gr_ BK266.out), (gr_ BK273.out), (gr_ BK274.out), GW273.out, GE273.out, NB239_273.out, NB273_239.out, NB240_273.out, NB273_240.out, NB241_273.out, NB273_241.out, NB242_273.out, NB273_242.out, NB246_273.out, NB273_246.out, NB250_273.out, NB273_250.out, NB254_273.out, NB273_254.out, NB258_273.out, NB273_258.out, NB262_273.out, NB273_262.out, NB266_273.out, NB273_266.out, NB274_273.out, NB273_274.out, GW274.out, GE274.out, NB239_274.out, NB274_239.out, NB240_274.out, NB274_240.out, NB241_274.out, NB274_241.out, NB242_274.out, NB274_242.out, NB246_274.out, NB274_246.out, NB250_274.out, NB274_250.out, NB254_274.out, NB274_254.out, NB258_274.out, NB274_258.out, NB262_274.out, NB274_262.out, NB266_274.out, NB274_266.out, (by repeat (first | (with_reducible first | exact HB.out | apply below_alloc | apply pw_below_drewN | apply below_drew1 | refine below_set ?_ GE239.out | refine below_set ?_ GE240.out | refine below_set ?_ GE241.out | refine below_set ?_ GE242.out | refine below_set ?_ GE246.out | refine below_set ?_ GE250.out | refine below_set ?_ GE254.out | refine below_set ?_ GE258.out | refine below_set ?_ GE262.out | refine below_set ?_ GE266.out | refine below_set ?_ GE273.out | refine below_set ?_ GE274.out) | exact HB.out))⟩)
                    · skip
                      rintro _ w95 ⟨hS_, h0_, h1_, h2_, h3_, h4_, h5_, h6_, h7_, h8_, h9_, h10_⟩
                      replace BK239 : Aside0 (w95.heap[gb239]? = some (.cells #[.int .i64 a0_0, .int .i64 a0_1] 37 (0, 0))) := ⟨h0_⟩
                      replace BK240 : Aside0 (w95.heap[gb240]? = some (.cells #[.int .i64 a1_0, .int .i64 a1_1] 29 (0, 0))) := ⟨h1_⟩
                      replace BK241 : Aside0 (w95.heap[gb241]? = some (.cells #[.int .i64 a2_0, .int .i64 a2_1] 29 (0, 0))) := ⟨h2_⟩
                      replace BK242 : Aside0 (w95.heap[gb242]? = some (.cells #[.int .i64 0, .int .i64 0] 29 (0, 0))) := ⟨h3_⟩
                      replace BK246 : Aside0 (w95.heap[gb246]? = some (.cells #[.int .i64 t243, .int .i64 t244] 29 (0, 0))) := ⟨h4_⟩
                      replace BK250 : Aside0 (w95.heap[gb250]? = some (.cells #[.int .i64 t247, .int .i64 t248] 29 (0, 0))) := ⟨h5_⟩
                      replace BK254 : Aside0 (w95.heap[gb254]? = some (.cells #[.int .i64 t251, .int .i64 t252] 29 (0, 0))) := ⟨h6_⟩
                      replace BK258 : Aside0 (w95.heap[gb258]? = some (.cells #[.int .i64 t255, .int .i64 t256] 29 (0, 0))) := ⟨h7_⟩
                      replace BK262 : Aside0 (w95.heap[gb262]? = some (.cells #[.int .i64 t259, .int .i64 t260] 29 (0, 0))) := ⟨h8_⟩
                      replace BK266 : Aside0 (w95.heap[gb266]? = some (.cells #[.int .i64 t263, .int .i64 t264] 29 (0, 0))) := ⟨h9_⟩
                      replace HB : Aside0 (Below w.heap.size w w95) := ⟨h10_⟩
                      clear h0_ h1_ h2_ h3_ h4_ h5_ h6_ h7_ h8_ h9_ h10_
                      have hHeld : w95.cell? ⟨gb250, 0, none⟩ = some (.int .i64 t247) ∧ w95.cell? ⟨gb250, 1, none⟩ = some (.int .i64 t248) ∧ w95.cell? ⟨gb258, 0, none⟩ = some (.int .i64 t255) ∧ w95.cell? ⟨gb258, 1, none⟩ = some (.int .i64 t256) ∧ w95.cell? ⟨gb254, 0, none⟩ = some (.int .i64 t251) ∧ w95.cell? ⟨gb254, 1, none⟩ = some (.int .i64 t252) ∧ w95.cell? ⟨gb262, 0, none⟩ = some (.int .i64 t259) ∧ w95.cell? ⟨gb262, 1, none⟩ = some (.int .i64 t260) ∧ w95.cell? ⟨gb266, 0, none⟩ = some (.int .i64 t263) ∧ w95.cell? ⟨gb266, 1, none⟩ = some (.int .i64 t264) := hS_
                      refine norm_ (a' := ?_) ?_ ?_
                      rotate_left
                      · simp only [putAll, Act.put, List.setIfInBounds_toArray, List.set_cons_zero, List.set_cons_succ]
                        rfl
                      refine three_ (i := 7) (j := 8) (k := 9) (Ni := some 70) (Nj := some 22) (Nk := some 23) #[true, true, true, true, true, true, true, true, false, false, false, false] #[true, true, true, true, true, true, true, false, true, false, false, false] #[true, true, true, true, true, true, true, false, false, true, false, false] rfl rfl rfl rfl rfl rfl (three_of HT_.out (by kernel_rfl)) (by decide) (by decide) (by decide) (fun K hK => ?_) (fun K hK => ?_) (fun K hK => ?_)
                      · skip
                        refine goes_ Try.func46 (by kernel_rfl) rfl #[.agg #[.int .i64 t269, .int .i64 t270], .agg #[.int .i64 t263, .int .i64 t264]] (by rfl) rfl rfl (by (try simp only [List.map_toArray, List.map_cons, List.map_nil]); first | done | rfl | (simp only [List.length_drop, List.length_take]; rfl)) ?_
                        with_reducible refine (sun_Unit.calls t269 t270 t263 t264 t271 t272 _ A14.out).mono ?_
                        rintro e w96 ⟨rfl, hb⟩
                        refine ⟨_, rfl, ?_⟩
                        replace BK239 := nx_ BK239 hb
                        replace BK240 := nx_ BK240 hb
                        replace BK241 := nx_ BK241 hb
                        replace BK242 := nx_ BK242 hb
                        replace BK246 := nx_ BK246 hb
                        replace BK250 := nx_ BK250 hb
                        replace BK254 := nx_ BK254 hb
                        replace BK258 := nx_ BK258 hb
                        replace BK262 := nx_ BK262 hb
                        replace BK266 := nx_ BK266 hb
                        replace HB := hx_ HB hb
                        (try clear hb)
                        (try clear hb2)
                        (try clear hk)
                        (try clear hi)
                        refine hK.out _ _ ⟨(blk_cell BK250.out 0).trans rfl, (blk_cell BK250.out 1).trans rfl, (blk_cell BK258.out 0).trans rfl, (blk_cell BK258.out 1).trans rfl, (blk_cell BK254.out 0).trans rfl, (blk_cell BK254.out 1).trans rfl, (blk_cell BK262.out 0).trans rfl, (blk_cell BK262.out 1).trans rfl, (blk_cell BK266.out 0).trans rfl, (blk_cell BK266.out 1).trans rfl⟩ (fun hHeld => ?_)
                        clear hK K
                        refine norm_ (a' := ?_) ?_ ?_
                        rotate_left
                        · show Act.put _ (some 70) _ = _
                          simp only [Act.put, List.setIfInBounds_toArray, List.set_cons_zero, List.set_cons_succ, i64_w, i32_w]
                          rfl
                        exact norm_ (by first | (simp only [putAll, Act.put, List.setIfInBounds_toArray, List.set_cons_zero, List.set_cons_succ]; done) | (simp only [putAll, Act.put, List.setIfInBounds_toArray, List.set_cons_zero, List.set_cons_succ]; rfl)) (hJ2_5_7 () _ ⟨hHeld, (gr_ BK239.out), (gr_ BK240.out), (gr_ BK241.out), (gr_ BK242.out), (gr_ BK246.out), (gr_ BK250.out), (gr_ BK254.out), (gr_ BK258.out), (gr_ BK262.out), (gr_ BK266.out), (by repeat (first | (with_reducible first | exact HB.out | apply below_alloc | apply pw_below_drewN | apply below_drew1 | refine below_set ?_ GE239.out | refine below_set ?_ GE240.out | refine below_set ?_ GE241.out | refine below_set ?_ GE242.out | refine below_set ?_ GE246.out | refine below_set ?_ GE250.out | refine below_set ?_ GE254.out | refine below_set ?_ GE258.out | refine below_set ?_ GE262.out | refine below_set ?_ GE266.out) | exact HB.out))⟩)
                      · skip
                        refine box_step ?hg (N := 22) ?hd (cs := #[.int .i64 0, .int .i64 0]) (t := 29) ?hr ?_; (case hd => rfl); (case hg => rfl); (case hr => first | (go_simp; done) | (go_simp; rfl))
                        intro gb273 hg w96 hbox hb
                        have BK273 := Aside0.mk hbox
                        have GW273 := ge_ (hb_ HB.out) hg
                        have GE273 := ge_ (hb_ HB.out) hg
                        have NB239_273 := nb_ (gr_ BK239.out) hg
                        have NB273_239 := bn_ (gr_ BK239.out) hg
                        have NB240_273 := nb_ (gr_ BK240.out) hg
                        have NB273_240 := bn_ (gr_ BK240.out) hg
                        have NB241_273 := nb_ (gr_ BK241.out) hg
                        have NB273_241 := bn_ (gr_ BK241.out) hg
                        have NB242_273 := nb_ (gr_ BK242.out) hg
                        have NB273_242 := bn_ (gr_ BK242.out) hg
                        have NB246_273 := nb_ (gr_ BK246.out) hg
                        have NB273_246 := bn_ (gr_ BK246.out) hg
                        have NB250_273 := nb_ (gr_ BK250.out) hg
                        have NB273_250 := bn_ (gr_ BK250.out) hg
                        have NB254_273 := nb_ (gr_ BK254.out) hg
                        have NB273_254 := bn_ (gr_ BK254.out) hg
                        have NB258_273 := nb_ (gr_ BK258.out) hg
                        have NB273_258 := bn_ (gr_ BK258.out) hg
                        have NB262_273 := nb_ (gr_ BK262.out) hg
                        have NB273_262 := bn_ (gr_ BK262.out) hg
                        have NB266_273 := nb_ (gr_ BK266.out) hg
                        have NB273_266 := bn_ (gr_ BK266.out) hg
                        replace BK239 := nx_ BK239 hb
                        replace BK240 := nx_ BK240 hb
                        replace BK241 := nx_ BK241 hb
                        replace BK242 := nx_ BK242 hb
                        replace BK246 := nx_ BK246 hb
                        replace BK250 := nx_ BK250 hb
                        replace BK254 := nx_ BK254 hb
                        replace BK258 := nx_ BK258 hb
                        replace BK262 := nx_ BK262 hb
                        replace BK266 := nx_ BK266 hb
                        replace HB := hx_ HB hb
                        clear hb hbox hg
                        refine hK.out _ _ ⟨(blk_cell BK250.out 0).trans rfl, (blk_cell BK250.out 1).trans rfl, (blk_cell BK258.out 0).trans rfl, (blk_cell BK258.out 1).trans rfl, (blk_cell BK254.out 0).trans rfl, (blk_cell BK254.out 1).trans rfl, (blk_cell BK262.out 0).trans rfl, (blk_cell BK262.out 1).trans rfl, (blk_cell BK266.out 0).trans rfl, (blk_cell BK266.out 1).trans rfl⟩ (fun hHeld => ?_)
                        clear hK K
                        refine norm_ (a' := ?_) ?_ ?_
                        rotate_left
                        · show Act.put _ (some 22) _ = _
                          simp only [Act.put, List.setIfInBounds_toArray, List.set_cons_zero, List.set_cons_succ, i64_w, i32_w]
                          rfl
                        exact norm_ (by first | (simp only [putAll, Act.put, List.setIfInBounds_toArray, List.set_cons_zero, List.set_cons_succ]; done) | (simp only [putAll, Act.put, List.setIfInBounds_toArray, List.set_cons_zero, List.set_cons_succ]; rfl)) (hJ2_5_8 (gb273) _ ⟨hHeld, (gr_ BK239.out), (gr_ BK240.out), (gr_ BK241.out), (gr_ BK242.out), (gr_ BK246.out), (gr_ BK250.out), (gr_ BK254.out), (gr_ BK258.out), (gr_ BK262.out), (gr_ BK266.out), (gr_ BK273.out), GW273.out, GE273.out, NB239_273.out, NB273_239.out, NB240_273.out, NB273_240.out, NB241_273.out, NB273_241.out, NB242_273.out, NB273_242.out, NB246_273.out, NB273_246.out, NB250_273.out, NB273_250.out, NB254_273.out, NB273_254.out, NB258_273.out, NB273_258.out, NB262_273.out, NB273_262.out, NB266_273.out, NB273_266.out, (by repeat (first | (with_reducible first | exact HB.out | apply below_alloc | apply pw_below_drewN | apply below_drew1 | refine below_set ?_ GE239.out | refine below_set ?_ GE240.out | refine below_set ?_ GE241.out | refine below_set ?_ GE242.out | refine below_set ?_ GE246.out | refine below_set ?_ GE250.out | refine below_set ?_ GE254.out | refine below_set ?_ GE258.out | refine below_set ?_ GE262.out | refine below_set ?_ GE266.out | refine below_set ?_ GE273.out) | exact HB.out))⟩)
                      · skip
                        refine box_step ?hg (N := 23) ?hd (cs := #[.int .i64 0, .int .i64 0]) (t := 29) ?hr ?_; (case hd => rfl); (case hg => rfl); (case hr => first | (go_simp; done) | (go_simp; rfl))
                        intro gb274 hg w96 hbox hb
                        have BK274 := Aside0.mk hbox
                        have GW274 := ge_ (hb_ HB.out) hg
                        have GE274 := ge_ (hb_ HB.out) hg
                        have NB239_274 := nb_ (gr_ BK239.out) hg
                        have NB274_239 := bn_ (gr_ BK239.out) hg
                        have NB240_274 := nb_ (gr_ BK240.out) hg
                        have NB274_240 := bn_ (gr_ BK240.out) hg
                        have NB241_274 := nb_ (gr_ BK241.out) hg
                        have NB274_241 := bn_ (gr_ BK241.out) hg
                        have NB242_274 := nb_ (gr_ BK242.out) hg
                        have NB274_242 := bn_ (gr_ BK242.out) hg
                        have NB246_274 := nb_ (gr_ BK246.out) hg
                        have NB274_246 := bn_ (gr_ BK246.out) hg
                        have NB250_274 := nb_ (gr_ BK250.out) hg
                        have NB274_250 := bn_ (gr_ BK250.out) hg
                        have NB254_274 := nb_ (gr_ BK254.out) hg
                        have NB274_254 := bn_ (gr_ BK254.out) hg
                        have NB258_274 := nb_ (gr_ BK258.out) hg
                        have NB274_258 := bn_ (gr_ BK258.out) hg
                        have NB262_274 := nb_ (gr_ BK262.out) hg
                        have NB274_262 := bn_ (gr_ BK262.out) hg
                        have NB266_274 := nb_ (gr_ BK266.out) hg
                        have NB274_266 := bn_ (gr_ BK266.out) hg
                        replace BK239 := nx_ BK239 hb
                        replace BK240 := nx_ BK240 hb
                        replace BK241 := nx_ BK241 hb
                        replace BK242 := nx_ BK242 hb
                        replace BK246 := nx_ BK246 hb
                        replace BK250 := nx_ BK250 hb
                        replace BK254 := nx_ BK254 hb
                        replace BK258 := nx_ BK258 hb
                        replace BK262 := nx_ BK262 hb
                        replace BK266 := nx_ BK266 hb
                        replace HB := hx_ HB hb
                        clear hb hbox hg
                        refine hK.out _ _ ⟨(blk_cell BK250.out 0).trans rfl, (blk_cell BK250.out 1).trans rfl, (blk_cell BK258.out 0).trans rfl, (blk_cell BK258.out 1).trans rfl, (blk_cell BK254.out 0).trans rfl, (blk_cell BK254.out 1).trans rfl, (blk_cell BK262.out 0).trans rfl, (blk_cell BK262.out 1).trans rfl, (blk_cell BK266.out 0).trans rfl, (blk_cell BK266.out 1).trans rfl⟩ (fun hHeld => ?_)
                        clear hK K
                        refine norm_ (a' := ?_) ?_ ?_
                        rotate_left
                        · show Act.put _ (some 23) _ = _
                          simp only [Act.put, List.setIfInBounds_toArray, List.set_cons_zero, List.set_cons_succ, i64_w, i32_w]
                          rfl
                        exact norm_ (by first | (simp only [putAll, Act.put, List.setIfInBounds_toArray, List.set_cons_zero, List.set_cons_succ]; done) | (simp only [putAll, Act.put, List.setIfInBounds_toArray, List.set_cons_zero, List.set_cons_succ]; rfl)) (hJ2_5_9 (gb274) _ ⟨hHeld, (gr_ BK239.out), (gr_ BK240.out), (gr_ BK241.out), (gr_ BK242.out), (gr_ BK246.out), (gr_ BK250.out), (gr_ BK254.out), (gr_ BK258.out), (gr_ BK262.out), (gr_ BK266.out), (gr_ BK274.out), GW274.out, GE274.out, NB239_274.out, NB274_239.out, NB240_274.out, NB274_240.out, NB241_274.out, NB274_241.out, NB242_274.out, NB274_242.out, NB246_274.out, NB274_246.out, NB250_274.out, NB274_250.out, NB254_274.out, NB274_254.out, NB258_274.out, NB274_258.out, NB262_274.out, NB274_262.out, NB266_274.out, NB274_266.out, (by repeat (first | (with_reducible first | exact HB.out | apply below_alloc | apply pw_below_drewN | apply below_drew1 | refine below_set ?_ GE239.out | refine below_set ?_ GE240.out | refine below_set ?_ GE241.out | refine below_set ?_ GE242.out | refine below_set ?_ GE246.out | refine below_set ?_ GE250.out | refine below_set ?_ GE254.out | refine below_set ?_ GE258.out | refine below_set ?_ GE262.out | refine below_set ?_ GE266.out | refine below_set ?_ GE274.out) | exact HB.out))⟩)
                  · skip
                    rintro ⟨gb273, gb274⟩ w96 ⟨hS_, h0_, h1_, h2_, h3_, h4_, h5_, h6_, h7_, h8_, h9_, h10_, h11_, h12_, h13_, h14_, h15_, h16_, h17_, h18_, h19_, h20_, h21_, h22_, h23_, h24_, h25_, h26_, h27_, h28_, h29_, h30_, h31_, h32_, h33_, h34_, h35_, h36_, h37_, h38_, h39_, h40_, h41_, h42_, h43_, h44_, h45_, h46_, h47_, h48_, h49_, h50_, h51_, h52_, h53_, h54_, h55_, h56_, h57_, h58_⟩
                    replace BK239 : Aside0 (w96.heap[gb239]? = some (.cells #[.int .i64 a0_0, .int .i64 a0_1] 37 (0, 0))) := ⟨h0_⟩
                    replace BK240 : Aside0 (w96.heap[gb240]? = some (.cells #[.int .i64 a1_0, .int .i64 a1_1] 29 (0, 0))) := ⟨h1_⟩
                    replace BK241 : Aside0 (w96.heap[gb241]? = some (.cells #[.int .i64 a2_0, .int .i64 a2_1] 29 (0, 0))) := ⟨h2_⟩
                    replace BK242 : Aside0 (w96.heap[gb242]? = some (.cells #[.int .i64 0, .int .i64 0] 29 (0, 0))) := ⟨h3_⟩
                    replace BK246 : Aside0 (w96.heap[gb246]? = some (.cells #[.int .i64 t243, .int .i64 t244] 29 (0, 0))) := ⟨h4_⟩
                    replace BK250 : Aside0 (w96.heap[gb250]? = some (.cells #[.int .i64 t247, .int .i64 t248] 29 (0, 0))) := ⟨h5_⟩
                    replace BK254 : Aside0 (w96.heap[gb254]? = some (.cells #[.int .i64 t251, .int .i64 t252] 29 (0, 0))) := ⟨h6_⟩
                    replace BK258 : Aside0 (w96.heap[gb258]? = some (.cells #[.int .i64 t255, .int .i64 t256] 29 (0, 0))) := ⟨h7_⟩
                    replace BK262 : Aside0 (w96.heap[gb262]? = some (.cells #[.int .i64 t259, .int .i64 t260] 29 (0, 0))) := ⟨h8_⟩
                    replace BK266 : Aside0 (w96.heap[gb266]? = some (.cells #[.int .i64 t263, .int .i64 t264] 29 (0, 0))) := ⟨h9_⟩
                    have BK273 : Aside0 (w96.heap[gb273]? = some (.cells #[.int .i64 0, .int .i64 0] 29 (0, 0))) := ⟨h10_⟩
                    have BK274 : Aside0 (w96.heap[gb274]? = some (.cells #[.int .i64 0, .int .i64 0] 29 (0, 0))) := ⟨h11_⟩
                    have GW273 : Aside0 (w.heap.size ≤ gb273) := ⟨h12_⟩
                    have GE273 : Aside0 (w.heap.size ≤ gb273) := ⟨h13_⟩
                    have NB239_273 : Aside0 (gb239 ≠ gb273) := ⟨h14_⟩
                    have NB273_239 : Aside0 (gb273 ≠ gb239) := ⟨h15_⟩
                    have NB240_273 : Aside0 (gb240 ≠ gb273) := ⟨h16_⟩
                    have NB273_240 : Aside0 (gb273 ≠ gb240) := ⟨h17_⟩
                    have NB241_273 : Aside0 (gb241 ≠ gb273) := ⟨h18_⟩
                    have NB273_241 : Aside0 (gb273 ≠ gb241) := ⟨h19_⟩
                    have NB242_273 : Aside0 (gb242 ≠ gb273) := ⟨h20_⟩
                    have NB273_242 : Aside0 (gb273 ≠ gb242) := ⟨h21_⟩
                    have NB246_273 : Aside0 (gb246 ≠ gb273) := ⟨h22_⟩
                    have NB273_246 : Aside0 (gb273 ≠ gb246) := ⟨h23_⟩
                    have NB250_273 : Aside0 (gb250 ≠ gb273) := ⟨h24_⟩
                    have NB273_250 : Aside0 (gb273 ≠ gb250) := ⟨h25_⟩
                    have NB254_273 : Aside0 (gb254 ≠ gb273) := ⟨h26_⟩
                    have NB273_254 : Aside0 (gb273 ≠ gb254) := ⟨h27_⟩
                    have NB258_273 : Aside0 (gb258 ≠ gb273) := ⟨h28_⟩
                    have NB273_258 : Aside0 (gb273 ≠ gb258) := ⟨h29_⟩
                    have NB262_273 : Aside0 (gb262 ≠ gb273) := ⟨h30_⟩
                    have NB273_262 : Aside0 (gb273 ≠ gb262) := ⟨h31_⟩
                    have NB266_273 : Aside0 (gb266 ≠ gb273) := ⟨h32_⟩
                    have NB273_266 : Aside0 (gb273 ≠ gb266) := ⟨h33_⟩
                    have NB274_273 : Aside0 (gb274 ≠ gb273) := ⟨h34_⟩
                    have NB273_274 : Aside0 (gb273 ≠ gb274) := ⟨h35_⟩
                    have GW274 : Aside0 (w.heap.size ≤ gb274) := ⟨h36_⟩
                    have GE274 : Aside0 (w.heap.size ≤ gb274) := ⟨h37_⟩
                    have NB239_274 : Aside0 (gb239 ≠ gb274) := ⟨h38_⟩
                    have NB274_239 : Aside0 (gb274 ≠ gb239) := ⟨h39_⟩
                    have NB240_274 : Aside0 (gb240 ≠ gb274) := ⟨h40_⟩
                    have NB274_240 : Aside0 (gb274 ≠ gb240) := ⟨h41_⟩
                    have NB241_274 : Aside0 (gb241 ≠ gb274) := ⟨h42_⟩
                    have NB274_241 : Aside0 (gb274 ≠ gb241) := ⟨h43_⟩
                    have NB242_274 : Aside0 (gb242 ≠ gb274) := ⟨h44_⟩
                    have NB274_242 : Aside0 (gb274 ≠ gb242) := ⟨h45_⟩
                    have NB246_274 : Aside0 (gb246 ≠ gb274) := ⟨h46_⟩
                    have NB274_246 : Aside0 (gb274 ≠ gb246) := ⟨h47_⟩
                    have NB250_274 : Aside0 (gb250 ≠ gb274) := ⟨h48_⟩
                    have NB274_250 : Aside0 (gb274 ≠ gb250) := ⟨h49_⟩
                    have NB254_274 : Aside0 (gb254 ≠ gb274) := ⟨h50_⟩
                    have NB274_254 : Aside0 (gb274 ≠ gb254) := ⟨h51_⟩
                    have NB258_274 : Aside0 (gb258 ≠ gb274) := ⟨h52_⟩
                    have NB274_258 : Aside0 (gb274 ≠ gb258) := ⟨h53_⟩
                    have NB262_274 : Aside0 (gb262 ≠ gb274) := ⟨h54_⟩
                    have NB274_262 : Aside0 (gb274 ≠ gb262) := ⟨h55_⟩
                    have NB266_274 : Aside0 (gb266 ≠ gb274) := ⟨h56_⟩
                    have NB274_266 : Aside0 (gb274 ≠ gb266) := ⟨h57_⟩
                    replace HB : Aside0 (Below w.heap.size w w96) := ⟨h58_⟩
                    clear h0_ h1_ h2_ h3_ h4_ h5_ h6_ h7_ h8_ h9_ h10_ h11_ h12_ h13_ h14_ h15_ h16_ h17_ h18_ h19_ h20_ h21_ h22_ h23_ h24_ h25_ h26_ h27_ h28_ h29_ h30_ h31_ h32_ h33_ h34_ h35_ h36_ h37_ h38_ h39_ h40_ h41_ h42_ h43_ h44_ h45_ h46_ h47_ h48_ h49_ h50_ h51_ h52_ h53_ h54_ h55_ h56_ h57_ h58_
                    have hHeld : w96.cell? ⟨gb250, 0, none⟩ = some (.int .i64 t247) ∧ w96.cell? ⟨gb250, 1, none⟩ = some (.int .i64 t248) ∧ w96.cell? ⟨gb258, 0, none⟩ = some (.int .i64 t255) ∧ w96.cell? ⟨gb258, 1, none⟩ = some (.int .i64 t256) ∧ w96.cell? ⟨gb254, 0, none⟩ = some (.int .i64 t251) ∧ w96.cell? ⟨gb254, 1, none⟩ = some (.int .i64 t252) ∧ w96.cell? ⟨gb262, 0, none⟩ = some (.int .i64 t259) ∧ w96.cell? ⟨gb262, 1, none⟩ = some (.int .i64 t260) ∧ w96.cell? ⟨gb266, 0, none⟩ = some (.int .i64 t263) ∧ w96.cell? ⟨gb266, 1, none⟩ = some (.int .i64 t264) := hS_
                    refine norm_ (a' := ?_) ?_ ?_
                    rotate_left
                    · simp only [putAll, Act.put, List.setIfInBounds_toArray, List.set_cons_zero, List.set_cons_succ]
                      rfl
                    refine one_ (i := 5) (N := some 68) #[true, true, true, true, true, true, true, false, true, true, false, false] rfl rfl (one_of HT_.out (by kernel_rfl)) (by decide) (fun K hK => ?_)
                    refine goes_ Try.func46 (by kernel_rfl) rfl #[.agg #[.int .i64 t251, .int .i64 t252], .agg #[.int .i64 t259, .int .i64 t260]] (by rfl) rfl rfl (by (try simp only [List.map_toArray, List.map_cons, List.map_nil]); first | done | rfl | (simp only [List.length_drop, List.length_take]; rfl)) ?_
                    with_reducible refine (sun_Unit.calls t251 t252 t259 t260 t269 t270 _ A13.out).mono ?_
                    rintro e w97 ⟨rfl, hb⟩
                    refine ⟨_, rfl, ?_⟩
                    replace BK239 := nx_ BK239 hb
                    replace BK240 := nx_ BK240 hb
                    replace BK241 := nx_ BK241 hb
                    replace BK242 := nx_ BK242 hb
                    replace BK246 := nx_ BK246 hb
                    replace BK250 := nx_ BK250 hb
                    replace BK254 := nx_ BK254 hb
                    replace BK258 := nx_ BK258 hb
                    replace BK262 := nx_ BK262 hb
                    replace BK266 := nx_ BK266 hb
                    replace BK273 := nx_ BK273 hb
                    replace BK274 := nx_ BK274 hb
                    replace HB := hx_ HB hb
                    (try clear hb)
                    (try clear hb2)
                    (try clear hk)
                    (try clear hi)
                    refine hK.out _ _ ⟨(blk_cell BK250.out 0).trans rfl, (blk_cell BK250.out 1).trans rfl, (blk_cell BK258.out 0).trans rfl, (blk_cell BK258.out 1).trans rfl, (blk_cell BK254.out 0).trans rfl, (blk_cell BK254.out 1).trans rfl, (blk_cell BK262.out 0).trans rfl, (blk_cell BK262.out 1).trans rfl, (blk_cell BK266.out 0).trans rfl, (blk_cell BK266.out 1).trans rfl⟩ (fun hHeld => ?_)
                    clear hK K
                    refine norm_ (a' := ?_) ?_ ?_
                    rotate_left
                    · show Act.put _ (some 68) _ = _
                      simp only [Act.put, List.setIfInBounds_toArray, List.set_cons_zero, List.set_cons_succ, i64_w, i32_w]
                      rfl
                    exact norm_ (by first | (simp only [putAll, Act.put, List.setIfInBounds_toArray, List.set_cons_zero, List.set_cons_succ]; done) | (simp only [putAll, Act.put, List.setIfInBounds_toArray, List.set_cons_zero, List.set_cons_succ]; rfl)) (hJ2_5_8_9 (gb273, gb274) _ ⟨hHeld, (gr_ BK239.out), (gr_ BK240.out), (gr_ BK241.out), (gr_ BK242.out), (gr_ BK246.out), (gr_ BK250.out), (gr_ BK254.out), (gr_ BK258.out), (gr_ BK262.out), (gr_ BK266.out), (gr_ BK273.out), (gr_ BK274.out), GW273.out, GE273.out, NB239_273.out, NB273_239.out, NB240_273.out, NB273_240.out, NB241_273.out, NB273_241.out, NB242_273.out, NB273_242.out, NB246_273.out, NB273_246.out, NB250_273.out, NB273_250.out, NB254_273.out, NB273_254.out, NB258_273.out, NB273_258.out, NB262_273.out, NB273_262.out, NB266_273.out, NB273_266.out, NB274_273.out, NB273_274.out, GW274.out, GE274.out, NB239_274.out, NB274_239.out, NB240_274.out, NB274_240.out, NB241_274.out, NB274_241.out, NB242_274.out, NB274_242.out, NB246_274.out, NB274_246.out, NB250_274.out, NB274_250.out, NB254_274.out, NB274_254.out, NB258_274.out, NB274_258.out, NB262_274.out, NB274_262.out, NB266_274.out, NB274_266.out, (by repeat (first | (with_reducible first | exact HB.out | apply below_alloc | apply pw_below_drewN | apply below_drew1 | refine below_set ?_ GE239.out | refine below_set ?_ GE240.out | refine below_set ?_ GE241.out | refine below_set ?_ GE242.out | refine below_set ?_ GE246.out | refine below_set ?_ GE250.out | refine below_set ?_ GE254.out | refine below_set ?_ GE258.out | refine below_set ?_ GE262.out | refine below_set ?_ GE266.out | refine below_set ?_ GE273.out | refine below_set ?_ GE274.out) | exact HB.out))⟩)
                · skip
                  rintro gb274 w96 ⟨hS_, h0_, h1_, h2_, h3_, h4_, h5_, h6_, h7_, h8_, h9_, h10_, h11_, h12_, h13_, h14_, h15_, h16_, h17_, h18_, h19_, h20_, h21_, h22_, h23_, h24_, h25_, h26_, h27_, h28_, h29_, h30_, h31_, h32_, h33_⟩
                  replace BK239 : Aside0 (w96.heap[gb239]? = some (.cells #[.int .i64 a0_0, .int .i64 a0_1] 37 (0, 0))) := ⟨h0_⟩
                  replace BK240 : Aside0 (w96.heap[gb240]? = some (.cells #[.int .i64 a1_0, .int .i64 a1_1] 29 (0, 0))) := ⟨h1_⟩
                  replace BK241 : Aside0 (w96.heap[gb241]? = some (.cells #[.int .i64 a2_0, .int .i64 a2_1] 29 (0, 0))) := ⟨h2_⟩
                  replace BK242 : Aside0 (w96.heap[gb242]? = some (.cells #[.int .i64 0, .int .i64 0] 29 (0, 0))) := ⟨h3_⟩
                  replace BK246 : Aside0 (w96.heap[gb246]? = some (.cells #[.int .i64 t243, .int .i64 t244] 29 (0, 0))) := ⟨h4_⟩
                  replace BK250 : Aside0 (w96.heap[gb250]? = some (.cells #[.int .i64 t247, .int .i64 t248] 29 (0, 0))) := ⟨h5_⟩
                  replace BK254 : Aside0 (w96.heap[gb254]? = some (.cells #[.int .i64 t251, .int .i64 t252] 29 (0, 0))) := ⟨h6_⟩
                  replace BK258 : Aside0 (w96.heap[gb258]? = some (.cells #[.int .i64 t255, .int .i64 t256] 29 (0, 0))) := ⟨h7_⟩
                  replace BK262 : Aside0 (w96.heap[gb262]? = some (.cells #[.int .i64 t259, .int .i64 t260] 29 (0, 0))) := ⟨h8_⟩
                  replace BK266 : Aside0 (w96.heap[gb266]? = some (.cells #[.int .i64 t263, .int .i64 t264] 29 (0, 0))) := ⟨h9_⟩
                  have BK274 : Aside0 (w96.heap[gb274]? = some (.cells #[.int .i64 0, .int .i64 0] 29 (0, 0))) := ⟨h10_⟩
                  have GW274 : Aside0 (w.heap.size ≤ gb274) := ⟨h11_⟩
                  have GE274 : Aside0 (w.heap.size ≤ gb274) := ⟨h12_⟩
                  have NB239_274 : Aside0 (gb239 ≠ gb274) := ⟨h13_⟩
                  have NB274_239 : Aside0 (gb274 ≠ gb239) := ⟨h14_⟩
                  have NB240_274 : Aside0 (gb240 ≠ gb274) := ⟨h15_⟩
                  have NB274_240 : Aside0 (gb274 ≠ gb240) := ⟨h16_⟩
                  have NB241_274 : Aside0 (gb241 ≠ gb274) := ⟨h17_⟩
                  have NB274_241 : Aside0 (gb274 ≠ gb241) := ⟨h18_⟩
                  have NB242_274 : Aside0 (gb242 ≠ gb274) := ⟨h19_⟩
                  have NB274_242 : Aside0 (gb274 ≠ gb242) := ⟨h20_⟩
                  have NB246_274 : Aside0 (gb246 ≠ gb274) := ⟨h21_⟩
                  have NB274_246 : Aside0 (gb274 ≠ gb246) := ⟨h22_⟩
                  have NB250_274 : Aside0 (gb250 ≠ gb274) := ⟨h23_⟩
                  have NB274_250 : Aside0 (gb274 ≠ gb250) := ⟨h24_⟩
                  have NB254_274 : Aside0 (gb254 ≠ gb274) := ⟨h25_⟩
                  have NB274_254 : Aside0 (gb274 ≠ gb254) := ⟨h26_⟩
                  have NB258_274 : Aside0 (gb258 ≠ gb274) := ⟨h27_⟩
                  have NB274_258 : Aside0 (gb274 ≠ gb258) := ⟨h28_⟩
                  have NB262_274 : Aside0 (gb262 ≠ gb274) := ⟨h29_⟩
                  have NB274_262 : Aside0 (gb274 ≠ gb262) := ⟨h30_⟩
                  have NB266_274 : Aside0 (gb266 ≠ gb274) := ⟨h31_⟩
                  have NB274_266 : Aside0 (gb274 ≠ gb266) := ⟨h32_⟩
                  replace HB : Aside0 (Below w.heap.size w w96) := ⟨h33_⟩
                  clear h0_ h1_ h2_ h3_ h4_ h5_ h6_ h7_ h8_ h9_ h10_ h11_ h12_ h13_ h14_ h15_ h16_ h17_ h18_ h19_ h20_ h21_ h22_ h23_ h24_ h25_ h26_ h27_ h28_ h29_ h30_ h31_ h32_ h33_
                  have hHeld : w96.cell? ⟨gb250, 0, none⟩ = some (.int .i64 t247) ∧ w96.cell? ⟨gb250, 1, none⟩ = some (.int .i64 t248) ∧ w96.cell? ⟨gb258, 0, none⟩ = some (.int .i64 t255) ∧ w96.cell? ⟨gb258, 1, none⟩ = some (.int .i64 t256) ∧ w96.cell? ⟨gb254, 0, none⟩ = some (.int .i64 t251) ∧ w96.cell? ⟨gb254, 1, none⟩ = some (.int .i64 t252) ∧ w96.cell? ⟨gb262, 0, none⟩ = some (.int .i64 t259) ∧ w96.cell? ⟨gb262, 1, none⟩ = some (.int .i64 t260) ∧ w96.cell? ⟨gb266, 0, none⟩ = some (.int .i64 t263) ∧ w96.cell? ⟨gb266, 1, none⟩ = some (.int .i64 t264) := hS_
                  refine norm_ (a' := ?_) ?_ ?_
                  rotate_left
                  · simp only [putAll, Act.put, List.setIfInBounds_toArray, List.set_cons_zero, List.set_cons_succ]
                    rfl
                  refine two_ (i := 7) (j := 8) (Ni := some 70) (Nj := some 22) #[true, true, true, true, true, true, true, true, false, true, false, false] #[true, true, true, true, true, true, true, false, true, true, false, false] rfl rfl rfl rfl (two_of HT_.out (by kernel_rfl)) (by decide) (by decide) (fun K hK => ?_) (fun K hK => ?_)
                  · skip
                    refine goes_ Try.func46 (by kernel_rfl) rfl #[.agg #[.int .i64 t269, .int .i64 t270], .agg #[.int .i64 t263, .int .i64 t264]] (by rfl) rfl rfl (by (try simp only [List.map_toArray, List.map_cons, List.map_nil]); first | done | rfl | (simp only [List.length_drop, List.length_take]; rfl)) ?_
                    with_reducible refine (sun_Unit.calls t269 t270 t263 t264 t271 t272 _ A14.out).mono ?_
                    rintro e w97 ⟨rfl, hb⟩
                    refine ⟨_, rfl, ?_⟩
                    replace BK239 := nx_ BK239 hb
                    replace BK240 := nx_ BK240 hb
                    replace BK241 := nx_ BK241 hb
                    replace BK242 := nx_ BK242 hb
                    replace BK246 := nx_ BK246 hb
                    replace BK250 := nx_ BK250 hb
                    replace BK254 := nx_ BK254 hb
                    replace BK258 := nx_ BK258 hb
                    replace BK262 := nx_ BK262 hb
                    replace BK266 := nx_ BK266 hb
                    replace BK274 := nx_ BK274 hb
                    replace HB := hx_ HB hb
                    (try clear hb)
                    (try clear hb2)
                    (try clear hk)
                    (try clear hi)
                    refine hK.out _ _ ⟨(blk_cell BK250.out 0).trans rfl, (blk_cell BK250.out 1).trans rfl, (blk_cell BK258.out 0).trans rfl, (blk_cell BK258.out 1).trans rfl, (blk_cell BK254.out 0).trans rfl, (blk_cell BK254.out 1).trans rfl, (blk_cell BK262.out 0).trans rfl, (blk_cell BK262.out 1).trans rfl, (blk_cell BK266.out 0).trans rfl, (blk_cell BK266.out 1).trans rfl⟩ (fun hHeld => ?_)
                    clear hK K
                    refine norm_ (a' := ?_) ?_ ?_
                    rotate_left
                    · show Act.put _ (some 70) _ = _
                      simp only [Act.put, List.setIfInBounds_toArray, List.set_cons_zero, List.set_cons_succ, i64_w, i32_w]
                      rfl
                    exact norm_ (by first | (simp only [putAll, Act.put, List.setIfInBounds_toArray, List.set_cons_zero, List.set_cons_succ]; done) | (simp only [putAll, Act.put, List.setIfInBounds_toArray, List.set_cons_zero, List.set_cons_succ]; rfl)) (hJ2_5_7_9 (gb274) _ ⟨hHeld, (gr_ BK239.out), (gr_ BK240.out), (gr_ BK241.out), (gr_ BK242.out), (gr_ BK246.out), (gr_ BK250.out), (gr_ BK254.out), (gr_ BK258.out), (gr_ BK262.out), (gr_ BK266.out), (gr_ BK274.out), GW274.out, GE274.out, NB239_274.out, NB274_239.out, NB240_274.out, NB274_240.out, NB241_274.out, NB274_241.out, NB242_274.out, NB274_242.out, NB246_274.out, NB274_246.out, NB250_274.out, NB274_250.out, NB254_274.out, NB274_254.out, NB258_274.out, NB274_258.out, NB262_274.out, NB274_262.out, NB266_274.out, NB274_266.out, (by repeat (first | (with_reducible first | exact HB.out | apply below_alloc | apply pw_below_drewN | apply below_drew1 | refine below_set ?_ GE239.out | refine below_set ?_ GE240.out | refine below_set ?_ GE241.out | refine below_set ?_ GE242.out | refine below_set ?_ GE246.out | refine below_set ?_ GE250.out | refine below_set ?_ GE254.out | refine below_set ?_ GE258.out | refine below_set ?_ GE262.out | refine below_set ?_ GE266.out | refine below_set ?_ GE274.out) | exact HB.out))⟩)
                  · skip
                    refine box_step ?hg (N := 22) ?hd (cs := #[.int .i64 0, .int .i64 0]) (t := 29) ?hr ?_; (case hd => rfl); (case hg => rfl); (case hr => first | (go_simp; done) | (go_simp; rfl))
                    intro gb273 hg w97 hbox hb
                    have BK273 := Aside0.mk hbox
                    have GW273 := ge_ (hb_ HB.out) hg
                    have GE273 := ge_ (hb_ HB.out) hg
                    have NB239_273 := nb_ (gr_ BK239.out) hg
                    have NB273_239 := bn_ (gr_ BK239.out) hg
                    have NB240_273 := nb_ (gr_ BK240.out) hg
                    have NB273_240 := bn_ (gr_ BK240.out) hg
                    have NB241_273 := nb_ (gr_ BK241.out) hg
                    have NB273_241 := bn_ (gr_ BK241.out) hg
                    have NB242_273 := nb_ (gr_ BK242.out) hg
                    have NB273_242 := bn_ (gr_ BK242.out) hg
                    have NB246_273 := nb_ (gr_ BK246.out) hg
                    have NB273_246 := bn_ (gr_ BK246.out) hg
                    have NB250_273 := nb_ (gr_ BK250.out) hg
                    have NB273_250 := bn_ (gr_ BK250.out) hg
                    have NB254_273 := nb_ (gr_ BK254.out) hg
                    have NB273_254 := bn_ (gr_ BK254.out) hg
                    have NB258_273 := nb_ (gr_ BK258.out) hg
                    have NB273_258 := bn_ (gr_ BK258.out) hg
                    have NB262_273 := nb_ (gr_ BK262.out) hg
                    have NB273_262 := bn_ (gr_ BK262.out) hg
                    have NB266_273 := nb_ (gr_ BK266.out) hg
                    have NB273_266 := bn_ (gr_ BK266.out) hg
                    have NB274_273 := nb_ (gr_ BK274.out) hg
                    have NB273_274 := bn_ (gr_ BK274.out) hg
                    replace BK239 := nx_ BK239 hb
                    replace BK240 := nx_ BK240 hb
                    replace BK241 := nx_ BK241 hb
                    replace BK242 := nx_ BK242 hb
                    replace BK246 := nx_ BK246 hb
                    replace BK250 := nx_ BK250 hb
                    replace BK254 := nx_ BK254 hb
                    replace BK258 := nx_ BK258 hb
                    replace BK262 := nx_ BK262 hb
                    replace BK266 := nx_ BK266 hb
                    replace BK274 := nx_ BK274 hb
                    replace HB := hx_ HB hb
                    clear hb hbox hg
                    refine hK.out _ _ ⟨(blk_cell BK250.out 0).trans rfl, (blk_cell BK250.out 1).trans rfl, (blk_cell BK258.out 0).trans rfl, (blk_cell BK258.out 1).trans rfl, (blk_cell BK254.out 0).trans rfl, (blk_cell BK254.out 1).trans rfl, (blk_cell BK262.out 0).trans rfl, (blk_cell BK262.out 1).trans rfl, (blk_cell BK266.out 0).trans rfl, (blk_cell BK266.out 1).trans rfl⟩ (fun hHeld => ?_)
                    clear hK K
                    refine norm_ (a' := ?_) ?_ ?_
                    rotate_left
                    · show Act.put _ (some 22) _ = _
                      simp only [Act.put, List.setIfInBounds_toArray, List.set_cons_zero, List.set_cons_succ, i64_w, i32_w]
                      rfl
                    exact norm_ (by first | (simp only [putAll, Act.put, List.setIfInBounds_toArray, List.set_cons_zero, List.set_cons_succ]; done) | (simp only [putAll, Act.put, List.setIfInBounds_toArray, List.set_cons_zero, List.set_cons_succ]; rfl)) (hJ2_5_8_9 (gb273, gb274) _ ⟨hHeld, (gr_ BK239.out), (gr_ BK240.out), (gr_ BK241.out), (gr_ BK242.out), (gr_ BK246.out), (gr_ BK250.out), (gr_ BK254.out), (gr_ BK258.out), (gr_ BK262.out), (gr_ BK266.out), (gr_ BK273.out), (gr_ BK274.out), GW273.out, GE273.out, NB239_273.out, NB273_239.out, NB240_273.out, NB273_240.out, NB241_273.out, NB273_241.out, NB242_273.out, NB273_242.out, NB246_273.out, NB273_246.out, NB250_273.out, NB273_250.out, NB254_273.out, NB273_254.out, NB258_273.out, NB273_258.out, NB262_273.out, NB273_262.out, NB266_273.out, NB273_266.out, NB274_273.out, NB273_274.out, GW274.out, GE274.out, NB239_274.out, NB274_239.out, NB240_274.out, NB274_240.out, NB241_274.out, NB274_241.out, NB242_274.out, NB274_242.out, NB246_274.out, NB274_246.out, NB250_274.out, NB274_250.out, NB254_274.out, NB274_254.out, NB258_274.out, NB274_258.out, NB262_274.out, NB274_262.out, NB266_274.out, NB274_266.out, (by repeat (first | (with_reducible first | exact HB.out | apply below_alloc | apply pw_below_drewN | apply below_drew1 | refine below_set ?_ GE239.out | refine below_set ?_ GE240.out | refine below_set ?_ GE241.out | refine below_set ?_ GE242.out | refine below_set ?_ GE246.out | refine below_set ?_ GE250.out | refine below_set ?_ GE254.out | refine below_set ?_ GE258.out | refine below_set ?_ GE262.out | refine below_set ?_ GE266.out | refine below_set ?_ GE274.out | refine below_set ?_ GE273.out) | exact HB.out))⟩)
              · skip
                rintro gb273 w96 ⟨hS_, h0_, h1_, h2_, h3_, h4_, h5_, h6_, h7_, h8_, h9_, h10_, h11_, h12_, h13_, h14_, h15_, h16_, h17_, h18_, h19_, h20_, h21_, h22_, h23_, h24_, h25_, h26_, h27_, h28_, h29_, h30_, h31_, h32_, h33_⟩
                replace BK239 : Aside0 (w96.heap[gb239]? = some (.cells #[.int .i64 a0_0, .int .i64 a0_1] 37 (0, 0))) := ⟨h0_⟩
                replace BK240 : Aside0 (w96.heap[gb240]? = some (.cells #[.int .i64 a1_0, .int .i64 a1_1] 29 (0, 0))) := ⟨h1_⟩
                replace BK241 : Aside0 (w96.heap[gb241]? = some (.cells #[.int .i64 a2_0, .int .i64 a2_1] 29 (0, 0))) := ⟨h2_⟩
                replace BK242 : Aside0 (w96.heap[gb242]? = some (.cells #[.int .i64 0, .int .i64 0] 29 (0, 0))) := ⟨h3_⟩
                replace BK246 : Aside0 (w96.heap[gb246]? = some (.cells #[.int .i64 t243, .int .i64 t244] 29 (0, 0))) := ⟨h4_⟩
                replace BK250 : Aside0 (w96.heap[gb250]? = some (.cells #[.int .i64 t247, .int .i64 t248] 29 (0, 0))) := ⟨h5_⟩
                replace BK254 : Aside0 (w96.heap[gb254]? = some (.cells #[.int .i64 t251, .int .i64 t252] 29 (0, 0))) := ⟨h6_⟩
                replace BK258 : Aside0 (w96.heap[gb258]? = some (.cells #[.int .i64 t255, .int .i64 t256] 29 (0, 0))) := ⟨h7_⟩
                replace BK262 : Aside0 (w96.heap[gb262]? = some (.cells #[.int .i64 t259, .int .i64 t260] 29 (0, 0))) := ⟨h8_⟩
                replace BK266 : Aside0 (w96.heap[gb266]? = some (.cells #[.int .i64 t263, .int .i64 t264] 29 (0, 0))) := ⟨h9_⟩
                have BK273 : Aside0 (w96.heap[gb273]? = some (.cells #[.int .i64 0, .int .i64 0] 29 (0, 0))) := ⟨h10_⟩
                have GW273 : Aside0 (w.heap.size ≤ gb273) := ⟨h11_⟩
                have GE273 : Aside0 (w.heap.size ≤ gb273) := ⟨h12_⟩
                have NB239_273 : Aside0 (gb239 ≠ gb273) := ⟨h13_⟩
                have NB273_239 : Aside0 (gb273 ≠ gb239) := ⟨h14_⟩
                have NB240_273 : Aside0 (gb240 ≠ gb273) := ⟨h15_⟩
                have NB273_240 : Aside0 (gb273 ≠ gb240) := ⟨h16_⟩
                have NB241_273 : Aside0 (gb241 ≠ gb273) := ⟨h17_⟩
                have NB273_241 : Aside0 (gb273 ≠ gb241) := ⟨h18_⟩
                have NB242_273 : Aside0 (gb242 ≠ gb273) := ⟨h19_⟩
                have NB273_242 : Aside0 (gb273 ≠ gb242) := ⟨h20_⟩
                have NB246_273 : Aside0 (gb246 ≠ gb273) := ⟨h21_⟩
                have NB273_246 : Aside0 (gb273 ≠ gb246) := ⟨h22_⟩
                have NB250_273 : Aside0 (gb250 ≠ gb273) := ⟨h23_⟩
                have NB273_250 : Aside0 (gb273 ≠ gb250) := ⟨h24_⟩
                have NB254_273 : Aside0 (gb254 ≠ gb273) := ⟨h25_⟩
                have NB273_254 : Aside0 (gb273 ≠ gb254) := ⟨h26_⟩
                have NB258_273 : Aside0 (gb258 ≠ gb273) := ⟨h27_⟩
                have NB273_258 : Aside0 (gb273 ≠ gb258) := ⟨h28_⟩
                have NB262_273 : Aside0 (gb262 ≠ gb273) := ⟨h29_⟩
                have NB273_262 : Aside0 (gb273 ≠ gb262) := ⟨h30_⟩
                have NB266_273 : Aside0 (gb266 ≠ gb273) := ⟨h31_⟩
                have NB273_266 : Aside0 (gb273 ≠ gb266) := ⟨h32_⟩
                replace HB : Aside0 (Below w.heap.size w w96) := ⟨h33_⟩
                clear h0_ h1_ h2_ h3_ h4_ h5_ h6_ h7_ h8_ h9_ h10_ h11_ h12_ h13_ h14_ h15_ h16_ h17_ h18_ h19_ h20_ h21_ h22_ h23_ h24_ h25_ h26_ h27_ h28_ h29_ h30_ h31_ h32_ h33_
                have hHeld : w96.cell? ⟨gb250, 0, none⟩ = some (.int .i64 t247) ∧ w96.cell? ⟨gb250, 1, none⟩ = some (.int .i64 t248) ∧ w96.cell? ⟨gb258, 0, none⟩ = some (.int .i64 t255) ∧ w96.cell? ⟨gb258, 1, none⟩ = some (.int .i64 t256) ∧ w96.cell? ⟨gb254, 0, none⟩ = some (.int .i64 t251) ∧ w96.cell? ⟨gb254, 1, none⟩ = some (.int .i64 t252) ∧ w96.cell? ⟨gb262, 0, none⟩ = some (.int .i64 t259) ∧ w96.cell? ⟨gb262, 1, none⟩ = some (.int .i64 t260) ∧ w96.cell? ⟨gb266, 0, none⟩ = some (.int .i64 t263) ∧ w96.cell? ⟨gb266, 1, none⟩ = some (.int .i64 t264) := hS_
                refine norm_ (a' := ?_) ?_ ?_
                rotate_left
                · simp only [putAll, Act.put, List.setIfInBounds_toArray, List.set_cons_zero, List.set_cons_succ]
                  rfl
                refine two_ (i := 7) (j := 9) (Ni := some 70) (Nj := some 23) #[true, true, true, true, true, true, true, true, true, false, false, false] #[true, true, true, true, true, true, true, false, true, true, false, false] rfl rfl rfl rfl (two_of HT_.out (by kernel_rfl)) (by decide) (by decide) (fun K hK => ?_) (fun K hK => ?_)
                · skip
                  refine goes_ Try.func46 (by kernel_rfl) rfl #[.agg #[.int .i64 t269, .int .i64 t270], .agg #[.int .i64 t263, .int .i64 t264]] (by rfl) rfl rfl (by (try simp only [List.map_toArray, List.map_cons, List.map_nil]); first | done | rfl | (simp only [List.length_drop, List.length_take]; rfl)) ?_
                  with_reducible refine (sun_Unit.calls t269 t270 t263 t264 t271 t272 _ A14.out).mono ?_
                  rintro e w97 ⟨rfl, hb⟩
                  refine ⟨_, rfl, ?_⟩
                  replace BK239 := nx_ BK239 hb
                  replace BK240 := nx_ BK240 hb
                  replace BK241 := nx_ BK241 hb
                  replace BK242 := nx_ BK242 hb
                  replace BK246 := nx_ BK246 hb
                  replace BK250 := nx_ BK250 hb
                  replace BK254 := nx_ BK254 hb
                  replace BK258 := nx_ BK258 hb
                  replace BK262 := nx_ BK262 hb
                  replace BK266 := nx_ BK266 hb
                  replace BK273 := nx_ BK273 hb
                  replace HB := hx_ HB hb
                  (try clear hb)
                  (try clear hb2)
                  (try clear hk)
                  (try clear hi)
                  refine hK.out _ _ ⟨(blk_cell BK250.out 0).trans rfl, (blk_cell BK250.out 1).trans rfl, (blk_cell BK258.out 0).trans rfl, (blk_cell BK258.out 1).trans rfl, (blk_cell BK254.out 0).trans rfl, (blk_cell BK254.out 1).trans rfl, (blk_cell BK262.out 0).trans rfl, (blk_cell BK262.out 1).trans rfl, (blk_cell BK266.out 0).trans rfl, (blk_cell BK266.out 1).trans rfl⟩ (fun hHeld => ?_)
                  clear hK K
                  refine norm_ (a' := ?_) ?_ ?_
                  rotate_left
                  · show Act.put _ (some 70) _ = _
                    simp only [Act.put, List.setIfInBounds_toArray, List.set_cons_zero, List.set_cons_succ, i64_w, i32_w]
                    rfl
                  exact norm_ (by first | (simp only [putAll, Act.put, List.setIfInBounds_toArray, List.set_cons_zero, List.set_cons_succ]; done) | (simp only [putAll, Act.put, List.setIfInBounds_toArray, List.set_cons_zero, List.set_cons_succ]; rfl)) (hJ2_5_7_8 (gb273) _ ⟨hHeld, (gr_ BK239.out), (gr_ BK240.out), (gr_ BK241.out), (gr_ BK242.out), (gr_ BK246.out), (gr_ BK250.out), (gr_ BK254.out), (gr_ BK258.out), (gr_ BK262.out), (gr_ BK266.out), (gr_ BK273.out), GW273.out, GE273.out, NB239_273.out, NB273_239.out, NB240_273.out, NB273_240.out, NB241_273.out, NB273_241.out, NB242_273.out, NB273_242.out, NB246_273.out, NB273_246.out, NB250_273.out, NB273_250.out, NB254_273.out, NB273_254.out, NB258_273.out, NB273_258.out, NB262_273.out, NB273_262.out, NB266_273.out, NB273_266.out, (by repeat (first | (with_reducible first | exact HB.out | apply below_alloc | apply pw_below_drewN | apply below_drew1 | refine below_set ?_ GE239.out | refine below_set ?_ GE240.out | refine below_set ?_ GE241.out | refine below_set ?_ GE242.out | refine below_set ?_ GE246.out | refine below_set ?_ GE250.out | refine below_set ?_ GE254.out | refine below_set ?_ GE258.out | refine below_set ?_ GE262.out | refine below_set ?_ GE266.out | refine below_set ?_ GE273.out) | exact HB.out))⟩)
                · skip
                  refine box_step ?hg (N := 23) ?hd (cs := #[.int .i64 0, .int .i64 0]) (t := 29) ?hr ?_; (case hd => rfl); (case hg => rfl); (case hr => first | (go_simp; done) | (go_simp; rfl))
                  intro gb274 hg w97 hbox hb
                  have BK274 := Aside0.mk hbox
                  have GW274 := ge_ (hb_ HB.out) hg
                  have GE274 := ge_ (hb_ HB.out) hg
                  have NB239_274 := nb_ (gr_ BK239.out) hg
                  have NB274_239 := bn_ (gr_ BK239.out) hg
                  have NB240_274 := nb_ (gr_ BK240.out) hg
                  have NB274_240 := bn_ (gr_ BK240.out) hg
                  have NB241_274 := nb_ (gr_ BK241.out) hg
                  have NB274_241 := bn_ (gr_ BK241.out) hg
                  have NB242_274 := nb_ (gr_ BK242.out) hg
                  have NB274_242 := bn_ (gr_ BK242.out) hg
                  have NB246_274 := nb_ (gr_ BK246.out) hg
                  have NB274_246 := bn_ (gr_ BK246.out) hg
                  have NB250_274 := nb_ (gr_ BK250.out) hg
                  have NB274_250 := bn_ (gr_ BK250.out) hg
                  have NB254_274 := nb_ (gr_ BK254.out) hg
                  have NB274_254 := bn_ (gr_ BK254.out) hg
                  have NB258_274 := nb_ (gr_ BK258.out) hg
                  have NB274_258 := bn_ (gr_ BK258.out) hg
                  have NB262_274 := nb_ (gr_ BK262.out) hg
                  have NB274_262 := bn_ (gr_ BK262.out) hg
                  have NB266_274 := nb_ (gr_ BK266.out) hg
                  have NB274_266 := bn_ (gr_ BK266.out) hg
                  have NB273_274 := nb_ (gr_ BK273.out) hg
                  have NB274_273 := bn_ (gr_ BK273.out) hg
                  replace BK239 := nx_ BK239 hb
                  replace BK240 := nx_ BK240 hb
                  replace BK241 := nx_ BK241 hb
                  replace BK242 := nx_ BK242 hb
                  replace BK246 := nx_ BK246 hb
                  replace BK250 := nx_ BK250 hb
                  replace BK254 := nx_ BK254 hb
                  replace BK258 := nx_ BK258 hb
                  replace BK262 := nx_ BK262 hb
                  replace BK266 := nx_ BK266 hb
                  replace BK273 := nx_ BK273 hb
                  replace HB := hx_ HB hb
                  clear hb hbox hg
                  refine hK.out _ _ ⟨(blk_cell BK250.out 0).trans rfl, (blk_cell BK250.out 1).trans rfl, (blk_cell BK258.out 0).trans rfl, (blk_cell BK258.out 1).trans rfl, (blk_cell BK254.out 0).trans rfl, (blk_cell BK254.out 1).trans rfl, (blk_cell BK262.out 0).trans rfl, (blk_cell BK262.out 1).trans rfl, (blk_cell BK266.out 0).trans rfl, (blk_cell BK266.out 1).trans rfl⟩ (fun hHeld => ?_)
                  clear hK K
                  refine norm_ (a' := ?_) ?_ ?_
                  rotate_left
                  · show Act.put _ (some 23) _ = _
                    simp only [Act.put, List.setIfInBounds_toArray, List.set_cons_zero, List.set_cons_succ, i64_w, i32_w]
                    rfl
                  exact norm_ (by first | (simp only [putAll, Act.put, List.setIfInBounds_toArray, List.set_cons_zero, List.set_cons_succ]; done) | (simp only [putAll, Act.put, List.setIfInBounds_toArray, List.set_cons_zero, List.set_cons_succ]; rfl)) (hJ2_5_8_9 (gb273, gb274) _ ⟨hHeld, (gr_ BK239.out), (gr_ BK240.out), (gr_ BK241.out), (gr_ BK242.out), (gr_ BK246.out), (gr_ BK250.out), (gr_ BK254.out), (gr_ BK258.out), (gr_ BK262.out), (gr_ BK266.out), (gr_ BK273.out), (gr_ BK274.out), GW273.out, GE273.out, NB239_273.out, NB273_239.out, NB240_273.out, NB273_240.out, NB241_273.out, NB273_241.out, NB242_273.out, NB273_242.out, NB246_273.out, NB273_246.out, NB250_273.out, NB273_250.out, NB254_273.out, NB273_254.out, NB258_273.out, NB273_258.out, NB262_273.out, NB273_262.out, NB266_273.out, NB273_266.out, NB274_273.out, NB273_274.out, GW274.out, GE274.out, NB239_274.out, NB274_239.out, NB240_274.out, NB274_240.out, NB241_274.out, NB274_241.out, NB242_274.out, NB274_242.out, NB246_274.out, NB274_246.out, NB250_274.out, NB274_250.out, NB254_274.out, NB274_254.out, NB258_274.out, NB274_258.out, NB262_274.out, NB274_262.out, NB266_274.out, NB274_266.out, (by repeat (first | (with_reducible first | exact HB.out | apply below_alloc | apply pw_below_drewN | apply below_drew1 | refine below_set ?_ GE239.out | refine below_set ?_ GE240.out | refine below_set ?_ GE241.out | refine below_set ?_ GE242.out | refine below_set ?_ GE246.out | refine below_set ?_ GE250.out | refine below_set ?_ GE254.out | refine below_set ?_ GE258.out | refine below_set ?_ GE262.out | refine below_set ?_ GE266.out | refine below_set ?_ GE273.out | refine below_set ?_ GE274.out) | exact HB.out))⟩)
            · skip
              rintro _ w96 ⟨hS_, h0_, h1_, h2_, h3_, h4_, h5_, h6_, h7_, h8_, h9_, h10_⟩
              replace BK239 : Aside0 (w96.heap[gb239]? = some (.cells #[.int .i64 a0_0, .int .i64 a0_1] 37 (0, 0))) := ⟨h0_⟩
              replace BK240 : Aside0 (w96.heap[gb240]? = some (.cells #[.int .i64 a1_0, .int .i64 a1_1] 29 (0, 0))) := ⟨h1_⟩
              replace BK241 : Aside0 (w96.heap[gb241]? = some (.cells #[.int .i64 a2_0, .int .i64 a2_1] 29 (0, 0))) := ⟨h2_⟩
              replace BK242 : Aside0 (w96.heap[gb242]? = some (.cells #[.int .i64 0, .int .i64 0] 29 (0, 0))) := ⟨h3_⟩
              replace BK246 : Aside0 (w96.heap[gb246]? = some (.cells #[.int .i64 t243, .int .i64 t244] 29 (0, 0))) := ⟨h4_⟩
              replace BK250 : Aside0 (w96.heap[gb250]? = some (.cells #[.int .i64 t247, .int .i64 t248] 29 (0, 0))) := ⟨h5_⟩
              replace BK254 : Aside0 (w96.heap[gb254]? = some (.cells #[.int .i64 t251, .int .i64 t252] 29 (0, 0))) := ⟨h6_⟩
              replace BK258 : Aside0 (w96.heap[gb258]? = some (.cells #[.int .i64 t255, .int .i64 t256] 29 (0, 0))) := ⟨h7_⟩
              replace BK262 : Aside0 (w96.heap[gb262]? = some (.cells #[.int .i64 t259, .int .i64 t260] 29 (0, 0))) := ⟨h8_⟩
              replace BK266 : Aside0 (w96.heap[gb266]? = some (.cells #[.int .i64 t263, .int .i64 t264] 29 (0, 0))) := ⟨h9_⟩
              replace HB : Aside0 (Below w.heap.size w w96) := ⟨h10_⟩
              clear h0_ h1_ h2_ h3_ h4_ h5_ h6_ h7_ h8_ h9_ h10_
              have hHeld : w96.cell? ⟨gb250, 0, none⟩ = some (.int .i64 t247) ∧ w96.cell? ⟨gb250, 1, none⟩ = some (.int .i64 t248) ∧ w96.cell? ⟨gb258, 0, none⟩ = some (.int .i64 t255) ∧ w96.cell? ⟨gb258, 1, none⟩ = some (.int .i64 t256) ∧ w96.cell? ⟨gb254, 0, none⟩ = some (.int .i64 t251) ∧ w96.cell? ⟨gb254, 1, none⟩ = some (.int .i64 t252) ∧ w96.cell? ⟨gb262, 0, none⟩ = some (.int .i64 t259) ∧ w96.cell? ⟨gb262, 1, none⟩ = some (.int .i64 t260) ∧ w96.cell? ⟨gb266, 0, none⟩ = some (.int .i64 t263) ∧ w96.cell? ⟨gb266, 1, none⟩ = some (.int .i64 t264) := hS_
              refine norm_ (a' := ?_) ?_ ?_
              rotate_left
              · simp only [putAll, Act.put, List.setIfInBounds_toArray, List.set_cons_zero, List.set_cons_succ]
                rfl
              refine two_ (i := 8) (j := 9) (Ni := some 22) (Nj := some 23) #[true, true, true, true, true, true, true, true, true, false, false, false] #[true, true, true, true, true, true, true, true, false, true, false, false] rfl rfl rfl rfl (two_of HT_.out (by kernel_rfl)) (by decide) (by decide) (fun K hK => ?_) (fun K hK => ?_)
              · skip
                refine box_step ?hg (N := 22) ?hd (cs := #[.int .i64 0, .int .i64 0]) (t := 29) ?hr ?_; (case hd => rfl); (case hg => rfl); (case hr => first | (go_simp; done) | (go_simp; rfl))
                intro gb273 hg w97 hbox hb
                have BK273 := Aside0.mk hbox
                have GW273 := ge_ (hb_ HB.out) hg
                have GE273 := ge_ (hb_ HB.out) hg
                have NB239_273 := nb_ (gr_ BK239.out) hg
                have NB273_239 := bn_ (gr_ BK239.out) hg
                have NB240_273 := nb_ (gr_ BK240.out) hg
                have NB273_240 := bn_ (gr_ BK240.out) hg
                have NB241_273 := nb_ (gr_ BK241.out) hg
                have NB273_241 := bn_ (gr_ BK241.out) hg
                have NB242_273 := nb_ (gr_ BK242.out) hg
                have NB273_242 := bn_ (gr_ BK242.out) hg
                have NB246_273 := nb_ (gr_ BK246.out) hg
                have NB273_246 := bn_ (gr_ BK246.out) hg
                have NB250_273 := nb_ (gr_ BK250.out) hg
                have NB273_250 := bn_ (gr_ BK250.out) hg
                have NB254_273 := nb_ (gr_ BK254.out) hg
                have NB273_254 := bn_ (gr_ BK254.out) hg
                have NB258_273 := nb_ (gr_ BK258.out) hg
                have NB273_258 := bn_ (gr_ BK258.out) hg
                have NB262_273 := nb_ (gr_ BK262.out) hg
                have NB273_262 := bn_ (gr_ BK262.out) hg
                have NB266_273 := nb_ (gr_ BK266.out) hg
                have NB273_266 := bn_ (gr_ BK266.out) hg
                replace BK239 := nx_ BK239 hb
                replace BK240 := nx_ BK240 hb
                replace BK241 := nx_ BK241 hb
                replace BK242 := nx_ BK242 hb
                replace BK246 := nx_ BK246 hb
                replace BK250 := nx_ BK250 hb
                replace BK254 := nx_ BK254 hb
                replace BK258 := nx_ BK258 hb
                replace BK262 := nx_ BK262 hb
                replace BK266 := nx_ BK266 hb
                replace HB := hx_ HB hb
                clear hb hbox hg
                refine hK.out _ _ ⟨(blk_cell BK250.out 0).trans rfl, (blk_cell BK250.out 1).trans rfl, (blk_cell BK258.out 0).trans rfl, (blk_cell BK258.out 1).trans rfl, (blk_cell BK254.out 0).trans rfl, (blk_cell BK254.out 1).trans rfl, (blk_cell BK262.out 0).trans rfl, (blk_cell BK262.out 1).trans rfl, (blk_cell BK266.out 0).trans rfl, (blk_cell BK266.out 1).trans rfl⟩ (fun hHeld => ?_)
                clear hK K
                refine norm_ (a' := ?_) ?_ ?_
                rotate_left
                · show Act.put _ (some 22) _ = _
                  simp only [Act.put, List.setIfInBounds_toArray, List.set_cons_zero, List.set_cons_succ, i64_w, i32_w]
                  rfl
                exact norm_ (by first | (simp only [putAll, Act.put, List.setIfInBounds_toArray, List.set_cons_zero, List.set_cons_succ]; done) | (simp only [putAll, Act.put, List.setIfInBounds_toArray, List.set_cons_zero, List.set_cons_succ]; rfl)) (hJ2_5_7_8 (gb273) _ ⟨hHeld, (gr_ BK239.out), (gr_ BK240.out), (gr_ BK241.out), (gr_ BK242.out), (gr_ BK246.out), (gr_ BK250.out), (gr_ BK254.out), (gr_ BK258.out), (gr_ BK262.out), (gr_ BK266.out), (gr_ BK273.out), GW273.out, GE273.out, NB239_273.out, NB273_239.out, NB240_273.out, NB273_240.out, NB241_273.out, NB273_241.out, NB242_273.out, NB273_242.out, NB246_273.out, NB273_246.out, NB250_273.out, NB273_250.out, NB254_273.out, NB273_254.out, NB258_273.out, NB273_258.out, NB262_273.out, NB273_262.out, NB266_273.out, NB273_266.out, (by repeat (first | (with_reducible first | exact HB.out | apply below_alloc | apply pw_below_drewN | apply below_drew1 | refine below_set ?_ GE239.out | refine below_set ?_ GE240.out | refine below_set ?_ GE241.out | refine below_set ?_ GE242.out | refine below_set ?_ GE246.out | refine below_set ?_ GE250.out | refine below_set ?_ GE254.out | refine below_set ?_ GE258.out | refine below_set ?_ GE262.out | refine below_set ?_ GE266.out | refine below_set ?_ GE273.out) | exact HB.out))⟩)
              · skip
                refine box_step ?hg (N := 23) ?hd (cs := #[.int .i64 0, .int .i64 0]) (t := 29) ?hr ?_; (case hd => rfl); (case hg => rfl); (case hr => first | (go_simp; done) | (go_simp; rfl))
                intro gb274 hg w97 hbox hb
                have BK274 := Aside0.mk hbox
                have GW274 := ge_ (hb_ HB.out) hg
                have GE274 := ge_ (hb_ HB.out) hg
                have NB239_274 := nb_ (gr_ BK239.out) hg
                have NB274_239 := bn_ (gr_ BK239.out) hg
                have NB240_274 := nb_ (gr_ BK240.out) hg
                have NB274_240 := bn_ (gr_ BK240.out) hg
                have NB241_274 := nb_ (gr_ BK241.out) hg
                have NB274_241 := bn_ (gr_ BK241.out) hg
                have NB242_274 := nb_ (gr_ BK242.out) hg
                have NB274_242 := bn_ (gr_ BK242.out) hg
                have NB246_274 := nb_ (gr_ BK246.out) hg
                have NB274_246 := bn_ (gr_ BK246.out) hg
                have NB250_274 := nb_ (gr_ BK250.out) hg
                have NB274_250 := bn_ (gr_ BK250.out) hg
                have NB254_274 := nb_ (gr_ BK254.out) hg
                have NB274_254 := bn_ (gr_ BK254.out) hg
                have NB258_274 := nb_ (gr_ BK258.out) hg
                have NB274_258 := bn_ (gr_ BK258.out) hg
                have NB262_274 := nb_ (gr_ BK262.out) hg
                have NB274_262 := bn_ (gr_ BK262.out) hg
                have NB266_274 := nb_ (gr_ BK266.out) hg
                have NB274_266 := bn_ (gr_ BK266.out) hg
                replace BK239 := nx_ BK239 hb
                replace BK240 := nx_ BK240 hb
                replace BK241 := nx_ BK241 hb
                replace BK242 := nx_ BK242 hb
                replace BK246 := nx_ BK246 hb
                replace BK250 := nx_ BK250 hb
                replace BK254 := nx_ BK254 hb
                replace BK258 := nx_ BK258 hb
                replace BK262 := nx_ BK262 hb
                replace BK266 := nx_ BK266 hb
                replace HB := hx_ HB hb
                clear hb hbox hg
                refine hK.out _ _ ⟨(blk_cell BK250.out 0).trans rfl, (blk_cell BK250.out 1).trans rfl, (blk_cell BK258.out 0).trans rfl, (blk_cell BK258.out 1).trans rfl, (blk_cell BK254.out 0).trans rfl, (blk_cell BK254.out 1).trans rfl, (blk_cell BK262.out 0).trans rfl, (blk_cell BK262.out 1).trans rfl, (blk_cell BK266.out 0).trans rfl, (blk_cell BK266.out 1).trans rfl⟩ (fun hHeld => ?_)
                clear hK K
                refine norm_ (a' := ?_) ?_ ?_
                rotate_left
                · show Act.put _ (some 23) _ = _
                  simp only [Act.put, List.setIfInBounds_toArray, List.set_cons_zero, List.set_cons_succ, i64_w, i32_w]
                  rfl
                exact norm_ (by first | (simp only [putAll, Act.put, List.setIfInBounds_toArray, List.set_cons_zero, List.set_cons_succ]; done) | (simp only [putAll, Act.put, List.setIfInBounds_toArray, List.set_cons_zero, List.set_cons_succ]; rfl)) (hJ2_5_7_9 (gb274) _ ⟨hHeld, (gr_ BK239.out), (gr_ BK240.out), (gr_ BK241.out), (gr_ BK242.out), (gr_ BK246.out), (gr_ BK250.out), (gr_ BK254.out), (gr_ BK258.out), (gr_ BK262.out), (gr_ BK266.out), (gr_ BK274.out), GW274.out, GE274.out, NB239_274.out, NB274_239.out, NB240_274.out, NB274_240.out, NB241_274.out, NB274_241.out, NB242_274.out, NB274_242.out, NB246_274.out, NB274_246.out, NB250_274.out, NB274_250.out, NB254_274.out, NB274_254.out, NB258_274.out, NB274_258.out, NB262_274.out, NB274_262.out, NB266_274.out, NB274_266.out, (by repeat (first | (with_reducible first | exact HB.out | apply below_alloc | apply pw_below_drewN | apply below_drew1 | refine below_set ?_ GE239.out | refine below_set ?_ GE240.out | refine below_set ?_ GE241.out | refine below_set ?_ GE242.out | refine below_set ?_ GE246.out | refine below_set ?_ GE250.out | refine below_set ?_ GE254.out | refine below_set ?_ GE258.out | refine below_set ?_ GE262.out | refine below_set ?_ GE266.out | refine below_set ?_ GE274.out) | exact HB.out))⟩)
          · skip
            rintro ⟨gb273, gb274⟩ w97 ⟨hS_, h0_, h1_, h2_, h3_, h4_, h5_, h6_, h7_, h8_, h9_, h10_, h11_, h12_, h13_, h14_, h15_, h16_, h17_, h18_, h19_, h20_, h21_, h22_, h23_, h24_, h25_, h26_, h27_, h28_, h29_, h30_, h31_, h32_, h33_, h34_, h35_, h36_, h37_, h38_, h39_, h40_, h41_, h42_, h43_, h44_, h45_, h46_, h47_, h48_, h49_, h50_, h51_, h52_, h53_, h54_, h55_, h56_, h57_, h58_⟩
            replace BK239 : Aside0 (w97.heap[gb239]? = some (.cells #[.int .i64 a0_0, .int .i64 a0_1] 37 (0, 0))) := ⟨h0_⟩
            replace BK240 : Aside0 (w97.heap[gb240]? = some (.cells #[.int .i64 a1_0, .int .i64 a1_1] 29 (0, 0))) := ⟨h1_⟩
            replace BK241 : Aside0 (w97.heap[gb241]? = some (.cells #[.int .i64 a2_0, .int .i64 a2_1] 29 (0, 0))) := ⟨h2_⟩
            replace BK242 : Aside0 (w97.heap[gb242]? = some (.cells #[.int .i64 0, .int .i64 0] 29 (0, 0))) := ⟨h3_⟩
            replace BK246 : Aside0 (w97.heap[gb246]? = some (.cells #[.int .i64 t243, .int .i64 t244] 29 (0, 0))) := ⟨h4_⟩
            replace BK250 : Aside0 (w97.heap[gb250]? = some (.cells #[.int .i64 t247, .int .i64 t248] 29 (0, 0))) := ⟨h5_⟩
            replace BK254 : Aside0 (w97.heap[gb254]? = some (.cells #[.int .i64 t251, .int .i64 t252] 29 (0, 0))) := ⟨h6_⟩
            replace BK258 : Aside0 (w97.heap[gb258]? = some (.cells #[.int .i64 t255, .int .i64 t256] 29 (0, 0))) := ⟨h7_⟩
            replace BK262 : Aside0 (w97.heap[gb262]? = some (.cells #[.int .i64 t259, .int .i64 t260] 29 (0, 0))) := ⟨h8_⟩
            replace BK266 : Aside0 (w97.heap[gb266]? = some (.cells #[.int .i64 t263, .int .i64 t264] 29 (0, 0))) := ⟨h9_⟩
            have BK273 : Aside0 (w97.heap[gb273]? = some (.cells #[.int .i64 0, .int .i64 0] 29 (0, 0))) := ⟨h10_⟩
            have BK274 : Aside0 (w97.heap[gb274]? = some (.cells #[.int .i64 0, .int .i64 0] 29 (0, 0))) := ⟨h11_⟩
            have GW273 : Aside0 (w.heap.size ≤ gb273) := ⟨h12_⟩
            have GE273 : Aside0 (w.heap.size ≤ gb273) := ⟨h13_⟩
            have NB239_273 : Aside0 (gb239 ≠ gb273) := ⟨h14_⟩
            have NB273_239 : Aside0 (gb273 ≠ gb239) := ⟨h15_⟩
            have NB240_273 : Aside0 (gb240 ≠ gb273) := ⟨h16_⟩
            have NB273_240 : Aside0 (gb273 ≠ gb240) := ⟨h17_⟩
            have NB241_273 : Aside0 (gb241 ≠ gb273) := ⟨h18_⟩
            have NB273_241 : Aside0 (gb273 ≠ gb241) := ⟨h19_⟩
            have NB242_273 : Aside0 (gb242 ≠ gb273) := ⟨h20_⟩
            have NB273_242 : Aside0 (gb273 ≠ gb242) := ⟨h21_⟩
            have NB246_273 : Aside0 (gb246 ≠ gb273) := ⟨h22_⟩
            have NB273_246 : Aside0 (gb273 ≠ gb246) := ⟨h23_⟩
            have NB250_273 : Aside0 (gb250 ≠ gb273) := ⟨h24_⟩
            have NB273_250 : Aside0 (gb273 ≠ gb250) := ⟨h25_⟩
            have NB254_273 : Aside0 (gb254 ≠ gb273) := ⟨h26_⟩
            have NB273_254 : Aside0 (gb273 ≠ gb254) := ⟨h27_⟩
            have NB258_273 : Aside0 (gb258 ≠ gb273) := ⟨h28_⟩
            have NB273_258 : Aside0 (gb273 ≠ gb258) := ⟨h29_⟩
            have NB262_273 : Aside0 (gb262 ≠ gb273) := ⟨h30_⟩
            have NB273_262 : Aside0 (gb273 ≠ gb262) := ⟨h31_⟩
            have NB266_273 : Aside0 (gb266 ≠ gb273) := ⟨h32_⟩
            have NB273_266 : Aside0 (gb273 ≠ gb266) := ⟨h33_⟩
            have NB274_273 : Aside0 (gb274 ≠ gb273) := ⟨h34_⟩
            have NB273_274 : Aside0 (gb273 ≠ gb274) := ⟨h35_⟩
            have GW274 : Aside0 (w.heap.size ≤ gb274) := ⟨h36_⟩
            have GE274 : Aside0 (w.heap.size ≤ gb274) := ⟨h37_⟩
            have NB239_274 : Aside0 (gb239 ≠ gb274) := ⟨h38_⟩
            have NB274_239 : Aside0 (gb274 ≠ gb239) := ⟨h39_⟩
            have NB240_274 : Aside0 (gb240 ≠ gb274) := ⟨h40_⟩
            have NB274_240 : Aside0 (gb274 ≠ gb240) := ⟨h41_⟩
            have NB241_274 : Aside0 (gb241 ≠ gb274) := ⟨h42_⟩
            have NB274_241 : Aside0 (gb274 ≠ gb241) := ⟨h43_⟩
            have NB242_274 : Aside0 (gb242 ≠ gb274) := ⟨h44_⟩
            have NB274_242 : Aside0 (gb274 ≠ gb242) := ⟨h45_⟩
            have NB246_274 : Aside0 (gb246 ≠ gb274) := ⟨h46_⟩
            have NB274_246 : Aside0 (gb274 ≠ gb246) := ⟨h47_⟩
            have NB250_274 : Aside0 (gb250 ≠ gb274) := ⟨h48_⟩
            have NB274_250 : Aside0 (gb274 ≠ gb250) := ⟨h49_⟩
            have NB254_274 : Aside0 (gb254 ≠ gb274) := ⟨h50_⟩
            have NB274_254 : Aside0 (gb274 ≠ gb254) := ⟨h51_⟩
            have NB258_274 : Aside0 (gb258 ≠ gb274) := ⟨h52_⟩
            have NB274_258 : Aside0 (gb274 ≠ gb258) := ⟨h53_⟩
            have NB262_274 : Aside0 (gb262 ≠ gb274) := ⟨h54_⟩
            have NB274_262 : Aside0 (gb274 ≠ gb262) := ⟨h55_⟩
            have NB266_274 : Aside0 (gb266 ≠ gb274) := ⟨h56_⟩
            have NB274_266 : Aside0 (gb274 ≠ gb266) := ⟨h57_⟩
            replace HB : Aside0 (Below w.heap.size w w97) := ⟨h58_⟩
            clear h0_ h1_ h2_ h3_ h4_ h5_ h6_ h7_ h8_ h9_ h10_ h11_ h12_ h13_ h14_ h15_ h16_ h17_ h18_ h19_ h20_ h21_ h22_ h23_ h24_ h25_ h26_ h27_ h28_ h29_ h30_ h31_ h32_ h33_ h34_ h35_ h36_ h37_ h38_ h39_ h40_ h41_ h42_ h43_ h44_ h45_ h46_ h47_ h48_ h49_ h50_ h51_ h52_ h53_ h54_ h55_ h56_ h57_ h58_
            have hHeld : w97.cell? ⟨gb250, 0, none⟩ = some (.int .i64 t247) ∧ w97.cell? ⟨gb250, 1, none⟩ = some (.int .i64 t248) ∧ w97.cell? ⟨gb258, 0, none⟩ = some (.int .i64 t255) ∧ w97.cell? ⟨gb258, 1, none⟩ = some (.int .i64 t256) ∧ w97.cell? ⟨gb254, 0, none⟩ = some (.int .i64 t251) ∧ w97.cell? ⟨gb254, 1, none⟩ = some (.int .i64 t252) ∧ w97.cell? ⟨gb262, 0, none⟩ = some (.int .i64 t259) ∧ w97.cell? ⟨gb262, 1, none⟩ = some (.int .i64 t260) ∧ w97.cell? ⟨gb266, 0, none⟩ = some (.int .i64 t263) ∧ w97.cell? ⟨gb266, 1, none⟩ = some (.int .i64 t264) := hS_
            refine norm_ (a' := ?_) ?_ ?_
            rotate_left
            · simp only [putAll, Act.put, List.setIfInBounds_toArray, List.set_cons_zero, List.set_cons_succ]
              rfl
            refine one_ (i := 7) (N := some 70) #[true, true, true, true, true, true, true, true, true, true, false, false] rfl rfl (one_of HT_.out (by kernel_rfl)) (by decide) (fun K hK => ?_)
            refine goes_ Try.func46 (by kernel_rfl) rfl #[.agg #[.int .i64 t269, .int .i64 t270], .agg #[.int .i64 t263, .int .i64 t264]] (by rfl) rfl rfl (by (try simp only [List.map_toArray, List.map_cons, List.map_nil]); first | done | rfl | (simp only [List.length_drop, List.length_take]; rfl)) ?_
            with_reducible refine (sun_Unit.calls t269 t270 t263 t264 t271 t272 _ A14.out).mono ?_
            rintro e w98 ⟨rfl, hb⟩
            refine ⟨_, rfl, ?_⟩
            replace BK239 := nx_ BK239 hb
            replace BK240 := nx_ BK240 hb
            replace BK241 := nx_ BK241 hb
            replace BK242 := nx_ BK242 hb
            replace BK246 := nx_ BK246 hb
            replace BK250 := nx_ BK250 hb
            replace BK254 := nx_ BK254 hb
            replace BK258 := nx_ BK258 hb
            replace BK262 := nx_ BK262 hb
            replace BK266 := nx_ BK266 hb
            replace BK273 := nx_ BK273 hb
            replace BK274 := nx_ BK274 hb
            replace HB := hx_ HB hb
            (try clear hb)
            (try clear hb2)
            (try clear hk)
            (try clear hi)
            refine hK.out _ _ ⟨(blk_cell BK250.out 0).trans rfl, (blk_cell BK250.out 1).trans rfl, (blk_cell BK258.out 0).trans rfl, (blk_cell BK258.out 1).trans rfl, (blk_cell BK254.out 0).trans rfl, (blk_cell BK254.out 1).trans rfl, (blk_cell BK262.out 0).trans rfl, (blk_cell BK262.out 1).trans rfl, (blk_cell BK266.out 0).trans rfl, (blk_cell BK266.out 1).trans rfl⟩ (fun hHeld => ?_)
            clear hK K
            refine norm_ (a' := ?_) ?_ ?_
            rotate_left
            · show Act.put _ (some 70) _ = _
              simp only [Act.put, List.setIfInBounds_toArray, List.set_cons_zero, List.set_cons_succ, i64_w, i32_w]
              rfl
            exact norm_ (by first | (simp only [putAll, Act.put, List.setIfInBounds_toArray, List.set_cons_zero, List.set_cons_succ]; done) | (simp only [putAll, Act.put, List.setIfInBounds_toArray, List.set_cons_zero, List.set_cons_succ]; rfl)) (hJ2_5_7_8_9 (gb273, gb274) _ ⟨hHeld, (gr_ BK239.out), (gr_ BK240.out), (gr_ BK241.out), (gr_ BK242.out), (gr_ BK246.out), (gr_ BK250.out), (gr_ BK254.out), (gr_ BK258.out), (gr_ BK262.out), (gr_ BK266.out), (gr_ BK273.out), (gr_ BK274.out), GW273.out, GE273.out, NB239_273.out, NB273_239.out, NB240_273.out, NB273_240.out, NB241_273.out, NB273_241.out, NB242_273.out, NB273_242.out, NB246_273.out, NB273_246.out, NB250_273.out, NB273_250.out, NB254_273.out, NB273_254.out, NB258_273.out, NB273_258.out, NB262_273.out, NB273_262.out, NB266_273.out, NB273_266.out, NB274_273.out, NB273_274.out, GW274.out, GE274.out, NB239_274.out, NB274_239.out, NB240_274.out, NB274_240.out, NB241_274.out, NB274_241.out, NB242_274.out, NB274_242.out, NB246_274.out, NB274_246.out, NB250_274.out, NB274_250.out, NB254_274.out, NB274_254.out, NB258_274.out, NB274_258.out, NB262_274.out, NB274_262.out, NB266_274.out, NB274_266.out, (by repeat (first | (with_reducible first | exact HB.out | apply below_alloc | apply pw_below_drewN | apply below_drew1 | refine below_set ?_ GE239.out | refine below_set ?_ GE240.out | refine below_set ?_ GE241.out | refine below_set ?_ GE242.out | refine below_set ?_ GE246.out | refine below_set ?_ GE250.out | refine below_set ?_ GE254.out | refine below_set ?_ GE258.out | refine below_set ?_ GE262.out | refine below_set ?_ GE266.out | refine below_set ?_ GE273.out | refine below_set ?_ GE274.out) | exact HB.out))⟩)
        · skip
          rintro gb274 w97 ⟨hS_, h0_, h1_, h2_, h3_, h4_, h5_, h6_, h7_, h8_, h9_, h10_, h11_, h12_, h13_, h14_, h15_, h16_, h17_, h18_, h19_, h20_, h21_, h22_, h23_, h24_, h25_, h26_, h27_, h28_, h29_, h30_, h31_, h32_, h33_⟩
          replace BK239 : Aside0 (w97.heap[gb239]? = some (.cells #[.int .i64 a0_0, .int .i64 a0_1] 37 (0, 0))) := ⟨h0_⟩
          replace BK240 : Aside0 (w97.heap[gb240]? = some (.cells #[.int .i64 a1_0, .int .i64 a1_1] 29 (0, 0))) := ⟨h1_⟩
          replace BK241 : Aside0 (w97.heap[gb241]? = some (.cells #[.int .i64 a2_0, .int .i64 a2_1] 29 (0, 0))) := ⟨h2_⟩
          replace BK242 : Aside0 (w97.heap[gb242]? = some (.cells #[.int .i64 0, .int .i64 0] 29 (0, 0))) := ⟨h3_⟩
          replace BK246 : Aside0 (w97.heap[gb246]? = some (.cells #[.int .i64 t243, .int .i64 t244] 29 (0, 0))) := ⟨h4_⟩
          replace BK250 : Aside0 (w97.heap[gb250]? = some (.cells #[.int .i64 t247, .int .i64 t248] 29 (0, 0))) := ⟨h5_⟩
          replace BK254 : Aside0 (w97.heap[gb254]? = some (.cells #[.int .i64 t251, .int .i64 t252] 29 (0, 0))) := ⟨h6_⟩
          replace BK258 : Aside0 (w97.heap[gb258]? = some (.cells #[.int .i64 t255, .int .i64 t256] 29 (0, 0))) := ⟨h7_⟩
          replace BK262 : Aside0 (w97.heap[gb262]? = some (.cells #[.int .i64 t259, .int .i64 t260] 29 (0, 0))) := ⟨h8_⟩
          replace BK266 : Aside0 (w97.heap[gb266]? = some (.cells #[.int .i64 t263, .int .i64 t264] 29 (0, 0))) := ⟨h9_⟩
          have BK274 : Aside0 (w97.heap[gb274]? = some (.cells #[.int .i64 0, .int .i64 0] 29 (0, 0))) := ⟨h10_⟩
          have GW274 : Aside0 (w.heap.size ≤ gb274) := ⟨h11_⟩
          have GE274 : Aside0 (w.heap.size ≤ gb274) := ⟨h12_⟩
          have NB239_274 : Aside0 (gb239 ≠ gb274) := ⟨h13_⟩
          have NB274_239 : Aside0 (gb274 ≠ gb239) := ⟨h14_⟩
          have NB240_274 : Aside0 (gb240 ≠ gb274) := ⟨h15_⟩
          have NB274_240 : Aside0 (gb274 ≠ gb240) := ⟨h16_⟩
          have NB241_274 : Aside0 (gb241 ≠ gb274) := ⟨h17_⟩
          have NB274_241 : Aside0 (gb274 ≠ gb241) := ⟨h18_⟩
          have NB242_274 : Aside0 (gb242 ≠ gb274) := ⟨h19_⟩
          have NB274_242 : Aside0 (gb274 ≠ gb242) := ⟨h20_⟩
          have NB246_274 : Aside0 (gb246 ≠ gb274) := ⟨h21_⟩
          have NB274_246 : Aside0 (gb274 ≠ gb246) := ⟨h22_⟩
          have NB250_274 : Aside0 (gb250 ≠ gb274) := ⟨h23_⟩
          have NB274_250 : Aside0 (gb274 ≠ gb250) := ⟨h24_⟩
          have NB254_274 : Aside0 (gb254 ≠ gb274) := ⟨h25_⟩
          have NB274_254 : Aside0 (gb274 ≠ gb254) := ⟨h26_⟩
          have NB258_274 : Aside0 (gb258 ≠ gb274) := ⟨h27_⟩
          have NB274_258 : Aside0 (gb274 ≠ gb258) := ⟨h28_⟩
          have NB262_274 : Aside0 (gb262 ≠ gb274) := ⟨h29_⟩
          have NB274_262 : Aside0 (gb274 ≠ gb262) := ⟨h30_⟩
          have NB266_274 : Aside0 (gb266 ≠ gb274) := ⟨h31_⟩
          have NB274_266 : Aside0 (gb274 ≠ gb266) := ⟨h32_⟩
          replace HB : Aside0 (Below w.heap.size w w97) := ⟨h33_⟩
          clear h0_ h1_ h2_ h3_ h4_ h5_ h6_ h7_ h8_ h9_ h10_ h11_ h12_ h13_ h14_ h15_ h16_ h17_ h18_ h19_ h20_ h21_ h22_ h23_ h24_ h25_ h26_ h27_ h28_ h29_ h30_ h31_ h32_ h33_
          have hHeld : w97.cell? ⟨gb250, 0, none⟩ = some (.int .i64 t247) ∧ w97.cell? ⟨gb250, 1, none⟩ = some (.int .i64 t248) ∧ w97.cell? ⟨gb258, 0, none⟩ = some (.int .i64 t255) ∧ w97.cell? ⟨gb258, 1, none⟩ = some (.int .i64 t256) ∧ w97.cell? ⟨gb254, 0, none⟩ = some (.int .i64 t251) ∧ w97.cell? ⟨gb254, 1, none⟩ = some (.int .i64 t252) ∧ w97.cell? ⟨gb262, 0, none⟩ = some (.int .i64 t259) ∧ w97.cell? ⟨gb262, 1, none⟩ = some (.int .i64 t260) ∧ w97.cell? ⟨gb266, 0, none⟩ = some (.int .i64 t263) ∧ w97.cell? ⟨gb266, 1, none⟩ = some (.int .i64 t264) := hS_
          refine norm_ (a' := ?_) ?_ ?_
          rotate_left
          · simp only [putAll, Act.put, List.setIfInBounds_toArray, List.set_cons_zero, List.set_cons_succ]
            rfl
          refine one_ (i := 8) (N := some 22) #[true, true, true, true, true, true, true, true, true, true, false, false] rfl rfl (one_of HT_.out (by kernel_rfl)) (by decide) (fun K hK => ?_)
          refine box_step ?hg (N := 22) ?hd (cs := #[.int .i64 0, .int .i64 0]) (t := 29) ?hr ?_; (case hd => rfl); (case hg => rfl); (case hr => first | (go_simp; done) | (go_simp; rfl))
          intro gb273 hg w98 hbox hb
          have BK273 := Aside0.mk hbox
          have GW273 := ge_ (hb_ HB.out) hg
          have GE273 := ge_ (hb_ HB.out) hg
          have NB239_273 := nb_ (gr_ BK239.out) hg
          have NB273_239 := bn_ (gr_ BK239.out) hg
          have NB240_273 := nb_ (gr_ BK240.out) hg
          have NB273_240 := bn_ (gr_ BK240.out) hg
          have NB241_273 := nb_ (gr_ BK241.out) hg
          have NB273_241 := bn_ (gr_ BK241.out) hg
          have NB242_273 := nb_ (gr_ BK242.out) hg
          have NB273_242 := bn_ (gr_ BK242.out) hg
          have NB246_273 := nb_ (gr_ BK246.out) hg
          have NB273_246 := bn_ (gr_ BK246.out) hg
          have NB250_273 := nb_ (gr_ BK250.out) hg
          have NB273_250 := bn_ (gr_ BK250.out) hg
          have NB254_273 := nb_ (gr_ BK254.out) hg
          have NB273_254 := bn_ (gr_ BK254.out) hg
          have NB258_273 := nb_ (gr_ BK258.out) hg
          have NB273_258 := bn_ (gr_ BK258.out) hg
          have NB262_273 := nb_ (gr_ BK262.out) hg
          have NB273_262 := bn_ (gr_ BK262.out) hg
          have NB266_273 := nb_ (gr_ BK266.out) hg
          have NB273_266 := bn_ (gr_ BK266.out) hg
          have NB274_273 := nb_ (gr_ BK274.out) hg
          have NB273_274 := bn_ (gr_ BK274.out) hg
          replace BK239 := nx_ BK239 hb
          replace BK240 := nx_ BK240 hb
          replace BK241 := nx_ BK241 hb
          replace BK242 := nx_ BK242 hb
          replace BK246 := nx_ BK246 hb
          replace BK250 := nx_ BK250 hb
          replace BK254 := nx_ BK254 hb
          replace BK258 := nx_ BK258 hb
          replace BK262 := nx_ BK262 hb
          replace BK266 := nx_ BK266 hb
          replace BK274 := nx_ BK274 hb
          replace HB := hx_ HB hb
          clear hb hbox hg
          refine hK.out _ _ ⟨(blk_cell BK250.out 0).trans rfl, (blk_cell BK250.out 1).trans rfl, (blk_cell BK258.out 0).trans rfl, (blk_cell BK258.out 1).trans rfl, (blk_cell BK254.out 0).trans rfl, (blk_cell BK254.out 1).trans rfl, (blk_cell BK262.out 0).trans rfl, (blk_cell BK262.out 1).trans rfl, (blk_cell BK266.out 0).trans rfl, (blk_cell BK266.out 1).trans rfl⟩ (fun hHeld => ?_)
          clear hK K
          refine norm_ (a' := ?_) ?_ ?_
          rotate_left
          · show Act.put _ (some 22) _ = _
            simp only [Act.put, List.setIfInBounds_toArray, List.set_cons_zero, List.set_cons_succ, i64_w, i32_w]
            rfl
          exact norm_ (by first | (simp only [putAll, Act.put, List.setIfInBounds_toArray, List.set_cons_zero, List.set_cons_succ]; done) | (simp only [putAll, Act.put, List.setIfInBounds_toArray, List.set_cons_zero, List.set_cons_succ]; rfl)) (hJ2_5_7_8_9 (gb273, gb274) _ ⟨hHeld, (gr_ BK239.out), (gr_ BK240.out), (gr_ BK241.out), (gr_ BK242.out), (gr_ BK246.out), (gr_ BK250.out), (gr_ BK254.out), (gr_ BK258.out), (gr_ BK262.out), (gr_ BK266.out), (gr_ BK273.out), (gr_ BK274.out), GW273.out, GE273.out, NB239_273.out, NB273_239.out, NB240_273.out, NB273_240.out, NB241_273.out, NB273_241.out, NB242_273.out, NB273_242.out, NB246_273.out, NB273_246.out, NB250_273.out, NB273_250.out, NB254_273.out, NB273_254.out, NB258_273.out, NB273_258.out, NB262_273.out, NB273_262.out, NB266_273.out, NB273_266.out, NB274_273.out, NB273_274.out, GW274.out, GE274.out, NB239_274.out, NB274_239.out, NB240_274.out, NB274_240.out, NB241_274.out, NB274_241.out, NB242_274.out, NB274_242.out, NB246_274.out, NB274_246.out, NB250_274.out, NB274_250.out, NB254_274.out, NB274_254.out, NB258_274.out, NB274_258.out, NB262_274.out, NB274_262.out, NB266_274.out, NB274_266.out, (by repeat (first | (with_reducible first | exact HB.out | apply below_alloc | apply pw_below_drewN | apply below_drew1 | refine below_set ?_ GE239.out | refine below_set ?_ GE240.out | refine below_set ?_ GE241.out | refine below_set ?_ GE242.out | refine below_set ?_ GE246.out | refine below_set ?_ GE250.out | refine below_set ?_ GE254.out | refine below_set ?_ GE258.out | refine below_set ?_ GE262.out | refine below_set ?_ GE266.out | refine below_set ?_ GE274.out | refine below_set ?_ GE273.out) | exact HB.out))⟩)
      · skip
        rintro gb273 w97 ⟨hS_, h0_, h1_, h2_, h3_, h4_, h5_, h6_, h7_, h8_, h9_, h10_, h11_, h12_, h13_, h14_, h15_, h16_, h17_, h18_, h19_, h20_, h21_, h22_, h23_, h24_, h25_, h26_, h27_, h28_, h29_, h30_, h31_, h32_, h33_⟩
        replace BK239 : Aside0 (w97.heap[gb239]? = some (.cells #[.int .i64 a0_0, .int .i64 a0_1] 37 (0, 0))) := ⟨h0_⟩
        replace BK240 : Aside0 (w97.heap[gb240]? = some (.cells #[.int .i64 a1_0, .int .i64 a1_1] 29 (0, 0))) := ⟨h1_⟩
        replace BK241 : Aside0 (w97.heap[gb241]? = some (.cells #[.int .i64 a2_0, .int .i64 a2_1] 29 (0, 0))) := ⟨h2_⟩
        replace BK242 : Aside0 (w97.heap[gb242]? = some (.cells #[.int .i64 0, .int .i64 0] 29 (0, 0))) := ⟨h3_⟩
        replace BK246 : Aside0 (w97.heap[gb246]? = some (.cells #[.int .i64 t243, .int .i64 t244] 29 (0, 0))) := ⟨h4_⟩
        replace BK250 : Aside0 (w97.heap[gb250]? = some (.cells #[.int .i64 t247, .int .i64 t248] 29 (0, 0))) := ⟨h5_⟩
        replace BK254 : Aside0 (w97.heap[gb254]? = some (.cells #[.int .i64 t251, .int .i64 t252] 29 (0, 0))) := ⟨h6_⟩
        replace BK258 : Aside0 (w97.heap[gb258]? = some (.cells #[.int .i64 t255, .int .i64 t256] 29 (0, 0))) := ⟨h7_⟩
        replace BK262 : Aside0 (w97.heap[gb262]? = some (.cells #[.int .i64 t259, .int .i64 t260] 29 (0, 0))) := ⟨h8_⟩
        replace BK266 : Aside0 (w97.heap[gb266]? = some (.cells #[.int .i64 t263, .int .i64 t264] 29 (0, 0))) := ⟨h9_⟩
        have BK273 : Aside0 (w97.heap[gb273]? = some (.cells #[.int .i64 0, .int .i64 0] 29 (0, 0))) := ⟨h10_⟩
        have GW273 : Aside0 (w.heap.size ≤ gb273) := ⟨h11_⟩
        have GE273 : Aside0 (w.heap.size ≤ gb273) := ⟨h12_⟩
        have NB239_273 : Aside0 (gb239 ≠ gb273) := ⟨h13_⟩
        have NB273_239 : Aside0 (gb273 ≠ gb239) := ⟨h14_⟩
        have NB240_273 : Aside0 (gb240 ≠ gb273) := ⟨h15_⟩
        have NB273_240 : Aside0 (gb273 ≠ gb240) := ⟨h16_⟩
        have NB241_273 : Aside0 (gb241 ≠ gb273) := ⟨h17_⟩
        have NB273_241 : Aside0 (gb273 ≠ gb241) := ⟨h18_⟩
        have NB242_273 : Aside0 (gb242 ≠ gb273) := ⟨h19_⟩
        have NB273_242 : Aside0 (gb273 ≠ gb242) := ⟨h20_⟩
        have NB246_273 : Aside0 (gb246 ≠ gb273) := ⟨h21_⟩
        have NB273_246 : Aside0 (gb273 ≠ gb246) := ⟨h22_⟩
        have NB250_273 : Aside0 (gb250 ≠ gb273) := ⟨h23_⟩
        have NB273_250 : Aside0 (gb273 ≠ gb250) := ⟨h24_⟩
        have NB254_273 : Aside0 (gb254 ≠ gb273) := ⟨h25_⟩
        have NB273_254 : Aside0 (gb273 ≠ gb254) := ⟨h26_⟩
        have NB258_273 : Aside0 (gb258 ≠ gb273) := ⟨h27_⟩
        have NB273_258 : Aside0 (gb273 ≠ gb258) := ⟨h28_⟩
        have NB262_273 : Aside0 (gb262 ≠ gb273) := ⟨h29_⟩
        have NB273_262 : Aside0 (gb273 ≠ gb262) := ⟨h30_⟩
        have NB266_273 : Aside0 (gb266 ≠ gb273) := ⟨h31_⟩
        have NB273_266 : Aside0 (gb273 ≠ gb266) := ⟨h32_⟩
        replace HB : Aside0 (Below w.heap.size w w97) := ⟨h33_⟩
        clear h0_ h1_ h2_ h3_ h4_ h5_ h6_ h7_ h8_ h9_ h10_ h11_ h12_ h13_ h14_ h15_ h16_ h17_ h18_ h19_ h20_ h21_ h22_ h23_ h24_ h25_ h26_ h27_ h28_ h29_ h30_ h31_ h32_ h33_
        have hHeld : w97.cell? ⟨gb250, 0, none⟩ = some (.int .i64 t247) ∧ w97.cell? ⟨gb250, 1, none⟩ = some (.int .i64 t248) ∧ w97.cell? ⟨gb258, 0, none⟩ = some (.int .i64 t255) ∧ w97.cell? ⟨gb258, 1, none⟩ = some (.int .i64 t256) ∧ w97.cell? ⟨gb254, 0, none⟩ = some (.int .i64 t251) ∧ w97.cell? ⟨gb254, 1, none⟩ = some (.int .i64 t252) ∧ w97.cell? ⟨gb262, 0, none⟩ = some (.int .i64 t259) ∧ w97.cell? ⟨gb262, 1, none⟩ = some (.int .i64 t260) ∧ w97.cell? ⟨gb266, 0, none⟩ = some (.int .i64 t263) ∧ w97.cell? ⟨gb266, 1, none⟩ = some (.int .i64 t264) := hS_
        refine norm_ (a' := ?_) ?_ ?_
        rotate_left
        · simp only [putAll, Act.put, List.setIfInBounds_toArray, List.set_cons_zero, List.set_cons_succ]
          rfl
        refine one_ (i := 9) (N := some 23) #[true, true, true, true, true, true, true, true, true, true, false, false] rfl rfl (one_of HT_.out (by kernel_rfl)) (by decide) (fun K hK => ?_)
        refine box_step ?hg (N := 23) ?hd (cs := #[.int .i64 0, .int .i64 0]) (t := 29) ?hr ?_; (case hd => rfl); (case hg => rfl); (case hr => first | (go_simp; done) | (go_simp; rfl))
        intro gb274 hg w98 hbox hb
        have BK274 := Aside0.mk hbox
        have GW274 := ge_ (hb_ HB.out) hg
        have GE274 := ge_ (hb_ HB.out) hg
        have NB239_274 := nb_ (gr_ BK239.out) hg
        have NB274_239 := bn_ (gr_ BK239.out) hg
        have NB240_274 := nb_ (gr_ BK240.out) hg
        have NB274_240 := bn_ (gr_ BK240.out) hg
        have NB241_274 := nb_ (gr_ BK241.out) hg
        have NB274_241 := bn_ (gr_ BK241.out) hg
        have NB242_274 := nb_ (gr_ BK242.out) hg
        have NB274_242 := bn_ (gr_ BK242.out) hg
        have NB246_274 := nb_ (gr_ BK246.out) hg
        have NB274_246 := bn_ (gr_ BK246.out) hg
        have NB250_274 := nb_ (gr_ BK250.out) hg
        have NB274_250 := bn_ (gr_ BK250.out) hg
        have NB254_274 := nb_ (gr_ BK254.out) hg
        have NB274_254 := bn_ (gr_ BK254.out) hg
        have NB258_274 := nb_ (gr_ BK258.out) hg
        have NB274_258 := bn_ (gr_ BK258.out) hg
        have NB262_274 := nb_ (gr_ BK262.out) hg
        have NB274_262 := bn_ (gr_ BK262.out) hg
        have NB266_274 := nb_ (gr_ BK266.out) hg
        have NB274_266 := bn_ (gr_ BK266.out) hg
        have NB273_274 := nb_ (gr_ BK273.out) hg
        have NB274_273 := bn_ (gr_ BK273.out) hg
        replace BK239 := nx_ BK239 hb
        replace BK240 := nx_ BK240 hb
        replace BK241 := nx_ BK241 hb
        replace BK242 := nx_ BK242 hb
        replace BK246 := nx_ BK246 hb
        replace BK250 := nx_ BK250 hb
        replace BK254 := nx_ BK254 hb
        replace BK258 := nx_ BK258 hb
        replace BK262 := nx_ BK262 hb
        replace BK266 := nx_ BK266 hb
        replace BK273 := nx_ BK273 hb
        replace HB := hx_ HB hb
        clear hb hbox hg
        refine hK.out _ _ ⟨(blk_cell BK250.out 0).trans rfl, (blk_cell BK250.out 1).trans rfl, (blk_cell BK258.out 0).trans rfl, (blk_cell BK258.out 1).trans rfl, (blk_cell BK254.out 0).trans rfl, (blk_cell BK254.out 1).trans rfl, (blk_cell BK262.out 0).trans rfl, (blk_cell BK262.out 1).trans rfl, (blk_cell BK266.out 0).trans rfl, (blk_cell BK266.out 1).trans rfl⟩ (fun hHeld => ?_)
        clear hK K
        refine norm_ (a' := ?_) ?_ ?_
        rotate_left
        · show Act.put _ (some 23) _ = _
          simp only [Act.put, List.setIfInBounds_toArray, List.set_cons_zero, List.set_cons_succ, i64_w, i32_w]
          rfl
        exact norm_ (by first | (simp only [putAll, Act.put, List.setIfInBounds_toArray, List.set_cons_zero, List.set_cons_succ]; done) | (simp only [putAll, Act.put, List.setIfInBounds_toArray, List.set_cons_zero, List.set_cons_succ]; rfl)) (hJ2_5_7_8_9 (gb273, gb274) _ ⟨hHeld, (gr_ BK239.out), (gr_ BK240.out), (gr_ BK241.out), (gr_ BK242.out), (gr_ BK246.out), (gr_ BK250.out), (gr_ BK254.out), (gr_ BK258.out), (gr_ BK262.out), (gr_ BK266.out), (gr_ BK273.out), (gr_ BK274.out), GW273.out, GE273.out, NB239_273.out, NB273_239.out, NB240_273.out, NB273_240.out, NB241_273.out, NB273_241.out, NB242_273.out, NB273_242.out, NB246_273.out, NB273_246.out, NB250_273.out, NB273_250.out, NB254_273.out, NB273_254.out, NB258_273.out, NB273_258.out, NB262_273.out, NB273_262.out, NB266_273.out, NB273_266.out, NB274_273.out, NB273_274.out, GW274.out, GE274.out, NB239_274.out, NB274_239.out, NB240_274.out, NB274_240.out, NB241_274.out, NB274_241.out, NB242_274.out, NB274_242.out, NB246_274.out, NB274_246.out, NB250_274.out, NB274_250.out, NB254_274.out, NB274_254.out, NB258_274.out, NB274_258.out, NB262_274.out, NB274_262.out, NB266_274.out, NB274_266.out, (by repeat (first | (with_reducible first | exact HB.out | apply below_alloc | apply pw_below_drewN | apply below_drew1 | refine below_set ?_ GE239.out | refine below_set ?_ GE240.out | refine below_set ?_ GE241.out | refine below_set ?_ GE242.out | refine below_set ?_ GE246.out | refine below_set ?_ GE250.out | refine below_set ?_ GE254.out | refine below_set ?_ GE258.out | refine below_set ?_ GE262.out | refine below_set ?_ GE266.out | refine below_set ?_ GE273.out | refine below_set ?_ GE274.out) | exact HB.out))⟩)
    rintro ⟨gb273, gb274⟩ w98 ⟨hS_, h0_, h1_, h2_, h3_, h4_, h5_, h6_, h7_, h8_, h9_, h10_, h11_, h12_, h13_, h14_, h15_, h16_, h17_, h18_, h19_, h20_, h21_, h22_, h23_, h24_, h25_, h26_, h27_, h28_, h29_, h30_, h31_, h32_, h33_, h34_, h35_, h36_, h37_, h38_, h39_, h40_, h41_, h42_, h43_, h44_, h45_, h46_, h47_, h48_, h49_, h50_, h51_, h52_, h53_, h54_, h55_, h56_, h57_, h58_⟩
    replace BK239 : Aside0 (w98.heap[gb239]? = some (.cells #[.int .i64 a0_0, .int .i64 a0_1] 37 (0, 0))) := ⟨h0_⟩
    replace BK240 : Aside0 (w98.heap[gb240]? = some (.cells #[.int .i64 a1_0, .int .i64 a1_1] 29 (0, 0))) := ⟨h1_⟩
    replace BK241 : Aside0 (w98.heap[gb241]? = some (.cells #[.int .i64 a2_0, .int .i64 a2_1] 29 (0, 0))) := ⟨h2_⟩
    replace BK242 : Aside0 (w98.heap[gb242]? = some (.cells #[.int .i64 0, .int .i64 0] 29 (0, 0))) := ⟨h3_⟩
    replace BK246 : Aside0 (w98.heap[gb246]? = some (.cells #[.int .i64 t243, .int .i64 t244] 29 (0, 0))) := ⟨h4_⟩
    replace BK250 : Aside0 (w98.heap[gb250]? = some (.cells #[.int .i64 t247, .int .i64 t248] 29 (0, 0))) := ⟨h5_⟩
    replace BK254 : Aside0 (w98.heap[gb254]? = some (.cells #[.int .i64 t251, .int .i64 t252] 29 (0, 0))) := ⟨h6_⟩
    replace BK258 : Aside0 (w98.heap[gb258]? = some (.cells #[.int .i64 t255, .int .i64 t256] 29 (0, 0))) := ⟨h7_⟩
    replace BK262 : Aside0 (w98.heap[gb262]? = some (.cells #[.int .i64 t259, .int .i64 t260] 29 (0, 0))) := ⟨h8_⟩
    replace BK266 : Aside0 (w98.heap[gb266]? = some (.cells #[.int .i64 t263, .int .i64 t264] 29 (0, 0))) := ⟨h9_⟩
    have BK273 : Aside0 (w98.heap[gb273]? = some (.cells #[.int .i64 0, .int .i64 0] 29 (0, 0))) := ⟨h10_⟩
    have BK274 : Aside0 (w98.heap[gb274]? = some (.cells #[.int .i64 0, .int .i64 0] 29 (0, 0))) := ⟨h11_⟩
    have GW273 : Aside0 (w.heap.size ≤ gb273) := ⟨h12_⟩
    have GE273 : Aside0 (w.heap.size ≤ gb273) := ⟨h13_⟩
    have NB239_273 : Aside0 (gb239 ≠ gb273) := ⟨h14_⟩
    have NB273_239 : Aside0 (gb273 ≠ gb239) := ⟨h15_⟩
    have NB240_273 : Aside0 (gb240 ≠ gb273) := ⟨h16_⟩
    have NB273_240 : Aside0 (gb273 ≠ gb240) := ⟨h17_⟩
    have NB241_273 : Aside0 (gb241 ≠ gb273) := ⟨h18_⟩
    have NB273_241 : Aside0 (gb273 ≠ gb241) := ⟨h19_⟩
    have NB242_273 : Aside0 (gb242 ≠ gb273) := ⟨h20_⟩
    have NB273_242 : Aside0 (gb273 ≠ gb242) := ⟨h21_⟩
    have NB246_273 : Aside0 (gb246 ≠ gb273) := ⟨h22_⟩
    have NB273_246 : Aside0 (gb273 ≠ gb246) := ⟨h23_⟩
    have NB250_273 : Aside0 (gb250 ≠ gb273) := ⟨h24_⟩
    have NB273_250 : Aside0 (gb273 ≠ gb250) := ⟨h25_⟩
    have NB254_273 : Aside0 (gb254 ≠ gb273) := ⟨h26_⟩
    have NB273_254 : Aside0 (gb273 ≠ gb254) := ⟨h27_⟩
    have NB258_273 : Aside0 (gb258 ≠ gb273) := ⟨h28_⟩
    have NB273_258 : Aside0 (gb273 ≠ gb258) := ⟨h29_⟩
    have NB262_273 : Aside0 (gb262 ≠ gb273) := ⟨h30_⟩
    have NB273_262 : Aside0 (gb273 ≠ gb262) := ⟨h31_⟩
    have NB266_273 : Aside0 (gb266 ≠ gb273) := ⟨h32_⟩
    have NB273_266 : Aside0 (gb273 ≠ gb266) := ⟨h33_⟩
    have NB274_273 : Aside0 (gb274 ≠ gb273) := ⟨h34_⟩
    have NB273_274 : Aside0 (gb273 ≠ gb274) := ⟨h35_⟩
    have GW274 : Aside0 (w.heap.size ≤ gb274) := ⟨h36_⟩
    have GE274 : Aside0 (w.heap.size ≤ gb274) := ⟨h37_⟩
    have NB239_274 : Aside0 (gb239 ≠ gb274) := ⟨h38_⟩
    have NB274_239 : Aside0 (gb274 ≠ gb239) := ⟨h39_⟩
    have NB240_274 : Aside0 (gb240 ≠ gb274) := ⟨h40_⟩
    have NB274_240 : Aside0 (gb274 ≠ gb240) := ⟨h41_⟩
    have NB241_274 : Aside0 (gb241 ≠ gb274) := ⟨h42_⟩
    have NB274_241 : Aside0 (gb274 ≠ gb241) := ⟨h43_⟩
    have NB242_274 : Aside0 (gb242 ≠ gb274) := ⟨h44_⟩
    have NB274_242 : Aside0 (gb274 ≠ gb242) := ⟨h45_⟩
    have NB246_274 : Aside0 (gb246 ≠ gb274) := ⟨h46_⟩
    have NB274_246 : Aside0 (gb274 ≠ gb246) := ⟨h47_⟩
    have NB250_274 : Aside0 (gb250 ≠ gb274) := ⟨h48_⟩
    have NB274_250 : Aside0 (gb274 ≠ gb250) := ⟨h49_⟩
    have NB254_274 : Aside0 (gb254 ≠ gb274) := ⟨h50_⟩
    have NB274_254 : Aside0 (gb274 ≠ gb254) := ⟨h51_⟩
    have NB258_274 : Aside0 (gb258 ≠ gb274) := ⟨h52_⟩
    have NB274_258 : Aside0 (gb274 ≠ gb258) := ⟨h53_⟩
    have NB262_274 : Aside0 (gb262 ≠ gb274) := ⟨h54_⟩
    have NB274_262 : Aside0 (gb274 ≠ gb262) := ⟨h55_⟩
    have NB266_274 : Aside0 (gb266 ≠ gb274) := ⟨h56_⟩
    have NB274_266 : Aside0 (gb274 ≠ gb266) := ⟨h57_⟩
    replace HB : Aside0 (Below w.heap.size w w98) := ⟨h58_⟩
    clear h0_ h1_ h2_ h3_ h4_ h5_ h6_ h7_ h8_ h9_ h10_ h11_ h12_ h13_ h14_ h15_ h16_ h17_ h18_ h19_ h20_ h21_ h22_ h23_ h24_ h25_ h26_ h27_ h28_ h29_ h30_ h31_ h32_ h33_ h34_ h35_ h36_ h37_ h38_ h39_ h40_ h41_ h42_ h43_ h44_ h45_ h46_ h47_ h48_ h49_ h50_ h51_ h52_ h53_ h54_ h55_ h56_ h57_ h58_
    have hHeld : w98.cell? ⟨gb250, 0, none⟩ = some (.int .i64 t247) ∧ w98.cell? ⟨gb250, 1, none⟩ = some (.int .i64 t248) ∧ w98.cell? ⟨gb258, 0, none⟩ = some (.int .i64 t255) ∧ w98.cell? ⟨gb258, 1, none⟩ = some (.int .i64 t256) ∧ w98.cell? ⟨gb254, 0, none⟩ = some (.int .i64 t251) ∧ w98.cell? ⟨gb254, 1, none⟩ = some (.int .i64 t252) ∧ w98.cell? ⟨gb262, 0, none⟩ = some (.int .i64 t259) ∧ w98.cell? ⟨gb262, 1, none⟩ = some (.int .i64 t260) ∧ w98.cell? ⟨gb266, 0, none⟩ = some (.int .i64 t263) ∧ w98.cell? ⟨gb266, 1, none⟩ = some (.int .i64 t264) := hS_
    refine norm_ (a' := ?_) ?_ ?_
    rotate_left
    · simp only [putAll, Act.put, List.setIfInBounds_toArray, List.set_cons_zero, List.set_cons_succ]
      rfl
    refine one_ (i := 10) (N := none) #[true, true, true, true, true, true, true, true, true, true, true, false] rfl rfl (one_of HT_.out (by kernel_rfl)) (by decide) (fun K hK => ?_)
    have hs99 : w98.cell? ⟨gb273, 0, none⟩ = some (.int .i64 0) := (blk_cell BK273.out 0).trans rfl
    have hfs99 := blk_frozen BK273.out 0
    have hns99_0 := NB239_273.out
    have hns99_1 := NB240_273.out
    have hns99_2 := NB241_273.out
    have hns99_3 := NB242_273.out
    have hns99_4 := NB246_273.out
    have hns99_5 := NB250_273.out
    have hns99_6 := NB254_273.out
    have hns99_7 := NB258_273.out
    have hns99_8 := NB262_273.out
    have hns99_9 := NB266_273.out
    have hns99_11 := NB274_273.out
    have hms99_0 := NB273_239.out
    have hms99_1 := NB273_240.out
    have hms99_2 := NB273_241.out
    have hms99_3 := NB273_242.out
    have hms99_4 := NB273_246.out
    have hms99_5 := NB273_250.out
    have hms99_6 := NB273_254.out
    have hms99_7 := NB273_258.out
    have hms99_8 := NB273_262.out
    have hms99_9 := NB273_266.out
    have hms99_11 := NB273_274.out
    have hs100 : w98.cell? ⟨gb273, 1, none⟩ = some (.int .i64 0) := (blk_cell BK273.out 1).trans rfl
    have hfs100 := blk_frozen BK273.out 1
    have hns100_0 := NB239_273.out
    have hns100_1 := NB240_273.out
    have hns100_2 := NB241_273.out
    have hns100_3 := NB242_273.out
    have hns100_4 := NB246_273.out
    have hns100_5 := NB250_273.out
    have hns100_6 := NB254_273.out
    have hns100_7 := NB258_273.out
    have hns100_8 := NB262_273.out
    have hns100_9 := NB266_273.out
    have hns100_11 := NB274_273.out
    have hms100_0 := NB273_239.out
    have hms100_1 := NB273_240.out
    have hms100_2 := NB273_241.out
    have hms100_3 := NB273_242.out
    have hms100_4 := NB273_246.out
    have hms100_5 := NB273_250.out
    have hms100_6 := NB273_254.out
    have hms100_7 := NB273_258.out
    have hms100_8 := NB273_262.out
    have hms100_9 := NB273_266.out
    have hms100_11 := NB273_274.out
    refine skip_ (w1 := ?_) (by rfl) rfl ?_ ?_
    rotate_left
    · go_simp
      rfl
    refine hK.out _ _ ⟨((cell_far (p := ⟨gb273, _, none⟩) NB250_273.out _).trans (((cell_far (p := ⟨gb273, _, none⟩) NB250_273.out _).trans (hHeld.1)))), ((cell_far (p := ⟨gb273, _, none⟩) NB250_273.out _).trans (((cell_far (p := ⟨gb273, _, none⟩) NB250_273.out _).trans (hHeld.2.1)))), ((cell_far (p := ⟨gb273, _, none⟩) NB258_273.out _).trans (((cell_far (p := ⟨gb273, _, none⟩) NB258_273.out _).trans (hHeld.2.2.1)))), ((cell_far (p := ⟨gb273, _, none⟩) NB258_273.out _).trans (((cell_far (p := ⟨gb273, _, none⟩) NB258_273.out _).trans (hHeld.2.2.2.1)))), ((cell_far (p := ⟨gb273, _, none⟩) NB254_273.out _).trans (((cell_far (p := ⟨gb273, _, none⟩) NB254_273.out _).trans (hHeld.2.2.2.2.1)))), ((cell_far (p := ⟨gb273, _, none⟩) NB254_273.out _).trans (((cell_far (p := ⟨gb273, _, none⟩) NB254_273.out _).trans (hHeld.2.2.2.2.2.1)))), ((cell_far (p := ⟨gb273, _, none⟩) NB262_273.out _).trans (((cell_far (p := ⟨gb273, _, none⟩) NB262_273.out _).trans (hHeld.2.2.2.2.2.2.1)))), ((cell_far (p := ⟨gb273, _, none⟩) NB262_273.out _).trans (((cell_far (p := ⟨gb273, _, none⟩) NB262_273.out _).trans (hHeld.2.2.2.2.2.2.2.1)))), ((cell_far (p := ⟨gb273, _, none⟩) NB266_273.out _).trans (((cell_far (p := ⟨gb273, _, none⟩) NB266_273.out _).trans (hHeld.2.2.2.2.2.2.2.2.1)))), ((cell_far (p := ⟨gb273, _, none⟩) NB266_273.out _).trans (((cell_far (p := ⟨gb273, _, none⟩) NB266_273.out _).trans (hHeld.2.2.2.2.2.2.2.2.2))))⟩ (fun hHeld => ?_)
    clear hK K
    refine one_ (i := 11) (N := none) #[true, true, true, true, true, true, true, true, true, true, true, true] rfl rfl (one_of HT_.out (by kernel_rfl)) (by decide) (fun K hK => ?_)
    have hs101 : w98.cell? ⟨gb274, 0, none⟩ = some (.int .i64 0) := (blk_cell BK274.out 0).trans rfl
    have hfs101 := blk_frozen BK274.out 0
    have hns101_0 := NB239_274.out
    have hns101_1 := NB240_274.out
    have hns101_2 := NB241_274.out
    have hns101_3 := NB242_274.out
    have hns101_4 := NB246_274.out
    have hns101_5 := NB250_274.out
    have hns101_6 := NB254_274.out
    have hns101_7 := NB258_274.out
    have hns101_8 := NB262_274.out
    have hns101_9 := NB266_274.out
    have hns101_10 := NB273_274.out
    have hms101_0 := NB274_239.out
    have hms101_1 := NB274_240.out
    have hms101_2 := NB274_241.out
    have hms101_3 := NB274_242.out
    have hms101_4 := NB274_246.out
    have hms101_5 := NB274_250.out
    have hms101_6 := NB274_254.out
    have hms101_7 := NB274_258.out
    have hms101_8 := NB274_262.out
    have hms101_9 := NB274_266.out
    have hms101_10 := NB274_273.out
    have hs102 : w98.cell? ⟨gb274, 1, none⟩ = some (.int .i64 0) := (blk_cell BK274.out 1).trans rfl
    have hfs102 := blk_frozen BK274.out 1
    have hns102_0 := NB239_274.out
    have hns102_1 := NB240_274.out
    have hns102_2 := NB241_274.out
    have hns102_3 := NB242_274.out
    have hns102_4 := NB246_274.out
    have hns102_5 := NB250_274.out
    have hns102_6 := NB254_274.out
    have hns102_7 := NB258_274.out
    have hns102_8 := NB262_274.out
    have hns102_9 := NB266_274.out
    have hns102_10 := NB273_274.out
    have hms102_0 := NB274_239.out
    have hms102_1 := NB274_240.out
    have hms102_2 := NB274_241.out
    have hms102_3 := NB274_242.out
    have hms102_4 := NB274_246.out
    have hms102_5 := NB274_250.out
    have hms102_6 := NB274_254.out
    have hms102_7 := NB274_258.out
    have hms102_8 := NB274_262.out
    have hms102_9 := NB274_266.out
    have hms102_10 := NB274_273.out
    refine skip_ (w1 := ?_) (by rfl) rfl ?_ ?_
    rotate_left
    · go_simp
      rfl
    refine hK.out _ _ ⟨((cell_far (p := ⟨gb274, _, none⟩) NB250_274.out _).trans (((cell_far (p := ⟨gb274, _, none⟩) NB250_274.out _).trans (hHeld.1)))), ((cell_far (p := ⟨gb274, _, none⟩) NB250_274.out _).trans (((cell_far (p := ⟨gb274, _, none⟩) NB250_274.out _).trans (hHeld.2.1)))), ((cell_far (p := ⟨gb274, _, none⟩) NB258_274.out _).trans (((cell_far (p := ⟨gb274, _, none⟩) NB258_274.out _).trans (hHeld.2.2.1)))), ((cell_far (p := ⟨gb274, _, none⟩) NB258_274.out _).trans (((cell_far (p := ⟨gb274, _, none⟩) NB258_274.out _).trans (hHeld.2.2.2.1)))), ((cell_far (p := ⟨gb274, _, none⟩) NB254_274.out _).trans (((cell_far (p := ⟨gb274, _, none⟩) NB254_274.out _).trans (hHeld.2.2.2.2.1)))), ((cell_far (p := ⟨gb274, _, none⟩) NB254_274.out _).trans (((cell_far (p := ⟨gb274, _, none⟩) NB254_274.out _).trans (hHeld.2.2.2.2.2.1)))), ((cell_far (p := ⟨gb274, _, none⟩) NB262_274.out _).trans (((cell_far (p := ⟨gb274, _, none⟩) NB262_274.out _).trans (hHeld.2.2.2.2.2.2.1)))), ((cell_far (p := ⟨gb274, _, none⟩) NB262_274.out _).trans (((cell_far (p := ⟨gb274, _, none⟩) NB262_274.out _).trans (hHeld.2.2.2.2.2.2.2.1)))), ((cell_far (p := ⟨gb274, _, none⟩) NB266_274.out _).trans (((cell_far (p := ⟨gb274, _, none⟩) NB266_274.out _).trans (hHeld.2.2.2.2.2.2.2.2.1)))), ((cell_far (p := ⟨gb274, _, none⟩) NB266_274.out _).trans (((cell_far (p := ⟨gb274, _, none⟩) NB266_274.out _).trans (hHeld.2.2.2.2.2.2.2.2.2))))⟩ (fun hHeld => ?_)
    clear hK K
    refine done_ (done_of HT_.out (by kernel_rfl)) ?_
    have hnb103 := NB273_239.out
    have hnc103 := NB239_273.out
    have hnb104 := NB273_240.out
    have hnc104 := NB240_273.out
    have hnb105 := NB273_241.out
    have hnc105 := NB241_273.out
    have hnb106 := NB273_242.out
    have hnc106 := NB242_273.out
    have hnb107 := NB273_246.out
    have hnc107 := NB246_273.out
    have hnb108 := NB273_250.out
    have hnc108 := NB250_273.out
    have hnb109 := NB273_254.out
    have hnc109 := NB254_273.out
    have hnb110 := NB273_258.out
    have hnc110 := NB258_273.out
    have hnb111 := NB273_262.out
    have hnc111 := NB262_273.out
    have hnb112 := NB273_266.out
    have hnc112 := NB266_273.out
    have hnb113 := NB273_274.out
    have hnc113 := NB274_273.out
    have hcz114_0 : w98.cell? ⟨gb273, 0, none⟩ = some (.int .i64 0) := (blk_cell BK273.out 0).trans rfl
    have hcz114_1 : w98.cell? ⟨gb273, 1, none⟩ = some (.int .i64 0) := (blk_cell BK273.out 1).trans rfl
    have hfz114_0 := blk_frozen BK273.out 0
    have hfz114_1 := blk_frozen BK273.out 1
    have hnb115 := NB274_239.out
    have hnc115 := NB239_274.out
    have hnb116 := NB274_240.out
    have hnc116 := NB240_274.out
    have hnb117 := NB274_241.out
    have hnc117 := NB241_274.out
    have hnb118 := NB274_242.out
    have hnc118 := NB242_274.out
    have hnb119 := NB274_246.out
    have hnc119 := NB246_274.out
    have hnb120 := NB274_250.out
    have hnc120 := NB250_274.out
    have hnb121 := NB274_254.out
    have hnc121 := NB254_274.out
    have hnb122 := NB274_258.out
    have hnc122 := NB258_274.out
    have hnb123 := NB274_262.out
    have hnc123 := NB262_274.out
    have hnb124 := NB274_266.out
    have hnc124 := NB266_274.out
    have hcz125_0 : w98.cell? ⟨gb274, 0, none⟩ = some (.int .i64 0) := (blk_cell BK274.out 0).trans rfl
    have hcz125_1 : w98.cell? ⟨gb274, 1, none⟩ = some (.int .i64 0) := (blk_cell BK274.out 1).trans rfl
    have hfz125_0 := blk_frozen BK274.out 0
    have hfz125_1 := blk_frozen BK274.out 1
    try go_wp2_with (first | ((with_reducible refine gate_callee (f := 47) rfl ?_); refine goesL_ (some 82) rfl rfl Try.func47 (by kernel_rfl) rfl #[.agg #[.int .i64 (wrap64 (t267 + t271)), .int .i64 (wrap64 (t268 + t272))]] rfl (by (try simp only [List.map_toArray, List.map_cons, List.map_nil]); first | done | rfl | (simp only [List.length_drop, List.length_take]; rfl) | (rw [wrap_in_ (n := t267 + t271) (by omega) (by omega)]; rw [wrap_in_ (n := t268 + t272) (by omega) (by omega)]; rfl)) ?_; (with_reducible refine (sun_Clamp.calls (wrap64 (t267 + t271)) (wrap64 (t268 + t272)) t275 t276 _ A15.out).mono ?_); rintro e w126 ⟨rfl, hb⟩; refine ⟨_, rfl, ?_⟩; replace BK239 := Aside0.mk (blk_below (g := gb239) (o := .cells #[.int .i64 a0_0, .int .i64 a0_1] 37 (0, 0)) (gr_ (blk_far (gr_ (blk_far (gr_ (blk_far (gr_ (blk_far (gr_ BK239.out) NB239_273.out _)) NB239_273.out _)) NB239_274.out _)) NB239_274.out _)) hb); replace BK240 := Aside0.mk (blk_below (g := gb240) (o := .cells #[.int .i64 a1_0, .int .i64 a1_1] 29 (0, 0)) (gr_ (blk_far (gr_ (blk_far (gr_ (blk_far (gr_ (blk_far (gr_ BK240.out) NB240_273.out _)) NB240_273.out _)) NB240_274.out _)) NB240_274.out _)) hb); replace BK241 := Aside0.mk (blk_below (g := gb241) (o := .cells #[.int .i64 a2_0, .int .i64 a2_1] 29 (0, 0)) (gr_ (blk_far (gr_ (blk_far (gr_ (blk_far (gr_ (blk_far (gr_ BK241.out) NB241_273.out _)) NB241_273.out _)) NB241_274.out _)) NB241_274.out _)) hb); replace BK242 := Aside0.mk (blk_below (g := gb242) (o := .cells #[.int .i64 0, .int .i64 0] 29 (0, 0)) (gr_ (blk_far (gr_ (blk_far (gr_ (blk_far (gr_ (blk_far (gr_ BK242.out) NB242_273.out _)) NB242_273.out _)) NB242_274.out _)) NB242_274.out _)) hb); replace BK246 := Aside0.mk (blk_below (g := gb246) (o := .cells #[.int .i64 t243, .int .i64 t244] 29 (0, 0)) (gr_ (blk_far (gr_ (blk_far (gr_ (blk_far (gr_ (blk_far (gr_ BK246.out) NB246_273.out _)) NB246_273.out _)) NB246_274.out _)) NB246_274.out _)) hb); replace BK250 := Aside0.mk (blk_below (g := gb250) (o := .cells #[.int .i64 t247, .int .i64 t248] 29 (0, 0)) (gr_ (blk_far (gr_ (blk_far (gr_ (blk_far (gr_ (blk_far (gr_ BK250.out) NB250_273.out _)) NB250_273.out _)) NB250_274.out _)) NB250_274.out _)) hb); replace BK254 := Aside0.mk (blk_below (g := gb254) (o := .cells #[.int .i64 t251, .int .i64 t252] 29 (0, 0)) (gr_ (blk_far (gr_ (blk_far (gr_ (blk_far (gr_ (blk_far (gr_ BK254.out) NB254_273.out _)) NB254_273.out _)) NB254_274.out _)) NB254_274.out _)) hb); replace BK258 := Aside0.mk (blk_below (g := gb258) (o := .cells #[.int .i64 t255, .int .i64 t256] 29 (0, 0)) (gr_ (blk_far (gr_ (blk_far (gr_ (blk_far (gr_ (blk_far (gr_ BK258.out) NB258_273.out _)) NB258_273.out _)) NB258_274.out _)) NB258_274.out _)) hb); replace BK262 := Aside0.mk (blk_below (g := gb262) (o := .cells #[.int .i64 t259, .int .i64 t260] 29 (0, 0)) (gr_ (blk_far (gr_ (blk_far (gr_ (blk_far (gr_ (blk_far (gr_ BK262.out) NB262_273.out _)) NB262_273.out _)) NB262_274.out _)) NB262_274.out _)) hb); replace BK266 := Aside0.mk (blk_below (g := gb266) (o := .cells #[.int .i64 t263, .int .i64 t264] 29 (0, 0)) (gr_ (blk_far (gr_ (blk_far (gr_ (blk_far (gr_ (blk_far (gr_ BK266.out) NB266_273.out _)) NB266_273.out _)) NB266_274.out _)) NB266_274.out _)) hb); replace BK273 := Aside0.mk (blk_below (g := gb273) (o := .cells #[.int .i64 t267, .int .i64 t268] 29 (0, 0)) (gr_ (blk_far (gr_ (blk_far (gr_ (blk_put (cs := #[.int .i64 t267, .int .i64 0]) (gr_ (blk_put (cs := #[.int .i64 0, .int .i64 0]) (gr_ BK273.out) 0 _ rfl)) 1 _ rfl)) NB273_274.out _)) NB273_274.out _)) hb); replace BK274 := Aside0.mk (blk_below (g := gb274) (o := .cells #[.int .i64 t271, .int .i64 t272] 29 (0, 0)) (gr_ (blk_put (cs := #[.int .i64 t271, .int .i64 0]) (gr_ (blk_put (cs := #[.int .i64 0, .int .i64 0]) (gr_ (blk_far (gr_ (blk_far (gr_ BK274.out) NB274_273.out _)) NB274_273.out _)) 0 _ rfl)) 1 _ rfl)) hb); replace HB := Aside0.mk (below_step (by repeat (first | (with_reducible first | exact HB.out | apply below_alloc | apply pw_below_drewN | apply below_drew1 | refine below_set ?_ GE273.out | refine below_set ?_ GE274.out) | exact HB.out)) hb); (try clear hb); (try clear hb2); (try clear hk); (try clear hi); have hcz127_0 : w126.cell? ⟨gb242, 0, none⟩ = some (.int .i64 0) := (blk_cell BK242.out 0).trans rfl; have hcz127_1 : w126.cell? ⟨gb242, 1, none⟩ = some (.int .i64 0) := (blk_cell BK242.out 1).trans rfl; have hfz127_0 := blk_frozen BK242.out 0; have hfz127_1 := blk_frozen BK242.out 1))
    refine bodyPost_ret (results_ct rfl _ _ gb242 29 #[.int .i64 t275, .int .i64 t276] (0, 0) _ rfl (gr_ (blk_put (cs := #[.int .i64 t275, .int .i64 0]) (gr_ (blk_put (cs := #[.int .i64 0, .int .i64 0]) (gr_ BK242.out) 0 _ rfl)) 1 _ rfl)) Try.underlying29 rfl (by kernel_rfl)) rfl ?_
    exact ⟨by first | rfl | (simp [errW_none, errW_some] <;> rfl) | (simp [*, errW_none, errW_some] <;> rfl), by repeat (first | (with_reducible first | exact HB.out | apply below_alloc | apply pw_below_drewN | apply below_drew1 | refine below_set ?_ GE239.out | refine below_set ?_ GE240.out | refine below_set ?_ GE241.out | refine below_set ?_ GE242.out | refine below_set ?_ GE246.out | refine below_set ?_ GE250.out | refine below_set ?_ GE254.out | refine below_set ?_ GE258.out | refine below_set ?_ GE262.out | refine below_set ?_ GE266.out | refine below_set ?_ GE273.out | refine below_set ?_ GE274.out) | exact HB.out)⟩
  · rw [if_neg c6] at H
    have c6b0 : (t245 == 0) = false := beq_eq_false_iff_ne.mpr c6
    have c6b1 : (t245 != 0) = true := bne_iff_ne.mpr c6
    simp only [Option.some.injEq, Prod.mk.injEq] at H
    obtain ⟨rfl, rfl, rfl⟩ := H
    go_enter Try.func29, Try.ntmps29
    go_wp2_with (first | ((with_reducible refine gate_dst (N := 4) rfl ?_); refine box_event ?hg (N := 4) ?hd (cs := #[.int .i64 a0_0, .int .i64 a0_1]) (t := 37) ?hr ?_; (case hd => rfl); (case hg => rfl); (case hr => first | (go_simp; done) | (go_simp; rfl)); intro gb239 hg w128 hbox hb; have BK239 := Aside0.mk hbox; have GW239 := ge_ (hb_ HB.out) hg; have GE239 := ge_ (hb_ HB.out) hg; replace HB := hx_ HB hb; clear hb hbox hg) | ((with_reducible refine gate_dst (N := 5) rfl ?_); refine box_event ?hg (N := 5) ?hd (cs := #[.int .i64 a1_0, .int .i64 a1_1]) (t := 29) ?hr ?_; (case hd => rfl); (case hg => rfl); (case hr => first | (go_simp; done) | (go_simp; rfl)); intro gb240 hg w129 hbox hb; have BK240 := Aside0.mk hbox; have GW240 := ge_ (hb_ HB.out) hg; have GE240 := ge_ (hb_ HB.out) hg; have NB239_240 := nb_ (gr_ BK239.out) hg; have NB240_239 := bn_ (gr_ BK239.out) hg; replace BK239 := nx_ BK239 hb; replace HB := hx_ HB hb; clear hb hbox hg) | ((with_reducible refine gate_dst (N := 6) rfl ?_); refine box_event ?hg (N := 6) ?hd (cs := #[.int .i64 a2_0, .int .i64 a2_1]) (t := 29) ?hr ?_; (case hd => rfl); (case hg => rfl); (case hr => first | (go_simp; done) | (go_simp; rfl)); intro gb241 hg w130 hbox hb; have BK241 := Aside0.mk hbox; have GW241 := ge_ (hb_ HB.out) hg; have GE241 := ge_ (hb_ HB.out) hg; have NB239_241 := nb_ (gr_ BK239.out) hg; have NB241_239 := bn_ (gr_ BK239.out) hg; have NB240_241 := nb_ (gr_ BK240.out) hg; have NB241_240 := bn_ (gr_ BK240.out) hg; replace BK239 := nx_ BK239 hb; replace BK240 := nx_ BK240 hb; replace HB := hx_ HB hb; clear hb hbox hg) | ((with_reducible refine gate_dst (N := 8) rfl ?_); refine box_event ?hg (N := 8) ?hd (cs := #[.int .i64 0, .int .i64 0]) (t := 29) ?hr ?_; (case hd => rfl); (case hg => rfl); (case hr => first | (go_simp; done) | (go_simp; rfl)); intro gb242 hg w131 hbox hb; have BK242 := Aside0.mk hbox; have GW242 := ge_ (hb_ HB.out) hg; have GE242 := ge_ (hb_ HB.out) hg; have NB239_242 := nb_ (gr_ BK239.out) hg; have NB242_239 := bn_ (gr_ BK239.out) hg; have NB240_242 := nb_ (gr_ BK240.out) hg; have NB242_240 := bn_ (gr_ BK240.out) hg; have NB241_242 := nb_ (gr_ BK241.out) hg; have NB242_241 := bn_ (gr_ BK241.out) hg; replace BK239 := nx_ BK239 hb; replace BK240 := nx_ BK240 hb; replace BK241 := nx_ BK241 hb; replace HB := hx_ HB hb; clear hb hbox hg; have hnb132 := NB239_240.out; have hnc132 := NB240_239.out; have hnb133 := NB239_241.out; have hnc133 := NB241_239.out; have hnb134 := NB239_242.out; have hnc134 := NB242_239.out; have hcz135_0 : w131.cell? ⟨gb239, 0, none⟩ = some (.int .i64 a0_0) := (blk_cell BK239.out 0).trans rfl; have hcz135_1 : w131.cell? ⟨gb239, 1, none⟩ = some (.int .i64 a0_1) := (blk_cell BK239.out 1).trans rfl; have hfz135_0 := blk_frozen BK239.out 0; have hfz135_1 := blk_frozen BK239.out 1; have hnb136 := NB240_241.out; have hnc136 := NB241_240.out; have hnb137 := NB240_242.out; have hnc137 := NB242_240.out; have hcz138_0 : w131.cell? ⟨gb240, 0, none⟩ = some (.int .i64 a1_0) := (blk_cell BK240.out 0).trans rfl; have hcz138_1 : w131.cell? ⟨gb240, 1, none⟩ = some (.int .i64 a1_1) := (blk_cell BK240.out 1).trans rfl; have hfz138_0 := blk_frozen BK240.out 0; have hfz138_1 := blk_frozen BK240.out 1; have hnb139 := NB241_242.out; have hnc139 := NB242_241.out; have hcz140_0 : w131.cell? ⟨gb241, 0, none⟩ = some (.int .i64 a2_0) := (blk_cell BK241.out 0).trans rfl; have hcz140_1 : w131.cell? ⟨gb241, 1, none⟩ = some (.int .i64 a2_1) := (blk_cell BK241.out 1).trans rfl; have hfz140_0 := blk_frozen BK241.out 0; have hfz140_1 := blk_frozen BK241.out 1) | ((with_reducible refine gate_callee (f := 45) rfl ?_); refine goesL_ (some 29) rfl rfl Try.func45 (by kernel_rfl) rfl #[.agg #[.int .i64 a0_0, .int .i64 a0_1], .agg #[.int .i64 a1_0, .int .i64 a1_1], .agg #[.int .i64 a2_0, .int .i64 a2_1], .int .i64 a3] rfl (by (try simp only [List.map_toArray, List.map_cons, List.map_nil]); first | done | rfl | (simp only [List.length_drop, List.length_take]; rfl)) ?_; (with_reducible refine (place_hour.calls k a0_0 a0_1 a1_0 a1_1 a2_0 a2_1 a3 t243 t244 t245 _ A5.out).mono ?_); rintro e w141 ⟨rfl, hb⟩; refine ⟨_, rfl, ?_⟩; replace BK239 := nx_ BK239 hb; replace BK240 := nx_ BK240 hb; replace BK241 := nx_ BK241 hb; replace BK242 := nx_ BK242 hb; replace HB := hx_ HB hb; (try clear hb); (try clear hb2); (try clear hk); (try clear hi)) | ((with_reducible refine gate_dst (N := 10) rfl ?_); refine box_event ?hg (N := 10) ?hd (cs := #[.int .i64 0, .int .i64 0]) (t := 29) ?hr ?_; (case hd => rfl); (case hg => rfl); (case hr => first | (go_simp; done) | (go_simp; rfl)); intro gb246 hg w142 hbox hb; have BK246 := Aside0.mk hbox; have GW246 := ge_ (hb_ HB.out) hg; have GE246 := ge_ (hb_ HB.out) hg; have NB239_246 := nb_ (gr_ BK239.out) hg; have NB246_239 := bn_ (gr_ BK239.out) hg; have NB240_246 := nb_ (gr_ BK240.out) hg; have NB246_240 := bn_ (gr_ BK240.out) hg; have NB241_246 := nb_ (gr_ BK241.out) hg; have NB246_241 := bn_ (gr_ BK241.out) hg; have NB242_246 := nb_ (gr_ BK242.out) hg; have NB246_242 := bn_ (gr_ BK242.out) hg; replace BK239 := nx_ BK239 hb; replace BK240 := nx_ BK240 hb; replace BK241 := nx_ BK241 hb; replace BK242 := nx_ BK242 hb; replace HB := hx_ HB hb; clear hb hbox hg; have hnb143 := NB246_239.out; have hnc143 := NB239_246.out; have hnb144 := NB246_240.out; have hnc144 := NB240_246.out; have hnb145 := NB246_241.out; have hnc145 := NB241_246.out; have hnb146 := NB246_242.out; have hnc146 := NB242_246.out; have hcz147_0 : w142.cell? ⟨gb246, 0, none⟩ = some (.int .i64 0) := (blk_cell BK246.out 0).trans rfl; have hcz147_1 : w142.cell? ⟨gb246, 1, none⟩ = some (.int .i64 0) := (blk_cell BK246.out 1).trans rfl; have hfz147_0 := blk_frozen BK246.out 0; have hfz147_1 := blk_frozen BK246.out 1; have hcz148_0 : w142.cell? ⟨gb242, 0, none⟩ = some (.int .i64 0) := (blk_cell BK242.out 0).trans rfl; have hcz148_1 : w142.cell? ⟨gb242, 1, none⟩ = some (.int .i64 0) := (blk_cell BK242.out 1).trans rfl; have hfz148_0 := blk_frozen BK242.out 0; have hfz148_1 := blk_frozen BK242.out 1))
    refine bodyPost_ret (results_ct rfl _ _ gb242 29 #[.int .i64 0, .int .i64 0] (0, 0) _ rfl (gr_ (blk_put (cs := #[.int .i64 0, .int .i64 0]) (gr_ (blk_put (cs := #[.int .i64 0, .int .i64 0]) (gr_ (blk_far (gr_ (blk_far (gr_ BK242.out) NB242_246.out _)) NB242_246.out _)) 0 _ rfl)) 1 _ rfl)) Try.underlying29 rfl (by kernel_rfl)) rfl ?_
    exact ⟨by first | rfl | (simp [errW_none, errW_some] <;> rfl) | (simp [*, errW_none, errW_some] <;> rfl), by repeat (first | (with_reducible first | exact HB.out | apply below_alloc | apply pw_below_drewN | apply below_drew1 | refine below_set ?_ GE239.out | refine below_set ?_ GE240.out | refine below_set ?_ GE241.out | refine below_set ?_ GE242.out | refine below_set ?_ GE246.out) | exact HB.out)⟩

end Go.Proofs.Ytemfkcdhkmmbeaa.JQ
