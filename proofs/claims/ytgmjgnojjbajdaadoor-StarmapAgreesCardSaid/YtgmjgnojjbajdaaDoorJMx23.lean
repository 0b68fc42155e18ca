-- Made by a program of this session (wip/hp.py, over the kit's print) out of the translation. Not trusted: Lean checks it.
import Derived.Test.YtgmjgnojjbajdaaDoorJMx0
import Derived.Test.YtgmjgnojjbajdaaDoorJMx1
import Derived.Test.YtgmjgnojjbajdaaDoorJMx2
import Derived.Test.YtgmjgnojjbajdaaDoorJMx3
import Derived.Test.YtgmjgnojjbajdaaDoorJMx21
import Derived.Test.YtgmjgnojjbajdaaDoorJMx22
namespace Go.Proofs.YtgmjgnojjbajdaaDoor.JM
open Go.RowKit Go.Proofs.YtgmjgnojjbajdaaDoorW.PrintWords Go.Proofs.YtgmjgnojjbajdaaDoorW.PrintLast Go.Proofs.YtgmjgnojjbajdaaDoorW.PrintMore
attribute [local go_sem] max2_int min2_int max_two min_two max_three min_three max_four min_four   -- for this text's walks alone
set_option linter.unusedVariables false
set_option linter.unusedSimpArgs false

/-! ### ephemeriskeep2_StarmapAgrees: function 7 -/
set_option maxHeartbeats 8000000 in
set_option maxRecDepth 100000 in
theorem ephemeriskeep2_StarmapAgrees.calls (k : Nat) (a0_0 : Int) (a0_1 : Int) (a1 : Int) (r : Bool) (w : World) (h : ephemeriskeep2_StarmapAgrees.f k a0_0 a0_1 a1 = some r) (ht_ : Aside0 (Tab_ w)) :
  Calls Tryd.prog 7 #[.agg #[.int .i64 a0_0, .int .i64 a0_1], .int .i64 a1] w fun e w' => e = .returned (.bool r) ∧ Below w.heap.size w w' := by
 have hu41 := Tryd.underlying41
 have HB := Aside0.mk (Below.refl w.heap.size w)
 have H : ((ephemeriskeep2_starmapWorks.f k).bind fun t381 => (if t381 = true then ((ephemeriskeep2_site.f a0_0 a0_1).bind fun bt382 => ((ephemeriskeep2_instant.f a1).bind fun t384 => ((starmap_Map.f k bt382.1 bt382.2 t384).bind fun bt385 => ((star_Names.f).bind fun t389 => (ephemeriskeep2_StarmapAgrees.l0 k t384 bt385.1 bt385.2 0 t389 (t389.length : Int) 0 bt382.1 bt382.2))))) else (none))) = some r := h
 clear h
 replace H := Option.bind_eq_some_iff.mp H
 obtain ⟨t381, A30, H⟩ := H
 replace H : (if t381 = true then ((ephemeriskeep2_site.f a0_0 a0_1).bind fun bt382 => ((ephemeriskeep2_instant.f a1).bind fun t384 => ((starmap_Map.f k bt382.1 bt382.2 t384).bind fun bt385 => ((star_Names.f).bind fun t389 => (ephemeriskeep2_StarmapAgrees.l0 k t384 bt385.1 bt385.2 0 t389 (t389.length : Int) 0 bt382.1 bt382.2))))) else (none)) = some r := H
 have A3 := Aside0.mk A30
 clear A30
 by_cases c4 : t381 = true
 ·
  subst c4
  have H1 : ((ephemeriskeep2_site.f a0_0 a0_1).bind fun bt382 => ((ephemeriskeep2_instant.f a1).bind fun t384 => ((starmap_Map.f k bt382.1 bt382.2 t384).bind fun bt385 => ((star_Names.f).bind fun t389 => (ephemeriskeep2_StarmapAgrees.l0 k t384 bt385.1 bt385.2 0 t389 (t389.length : Int) 0 bt382.1 bt382.2))))) = some r := by rw [if_pos rfl] at H; exact H
  clear H
  have H := H1
  clear H1
  replace H := Option.bind_eq_some_iff.mp H
  obtain ⟨⟨t382, t383⟩, A50, H⟩ := H
  replace H : ((ephemeriskeep2_instant.f a1).bind fun t384 => ((starmap_Map.f k t382 t383 t384).bind fun bt385 => ((star_Names.f).bind fun t389 => (ephemeriskeep2_StarmapAgrees.l0 k t384 bt385.1 bt385.2 0 t389 (t389.length : Int) 0 t382 t383)))) = some r := H
  have A5 := Aside0.mk A50
  clear A50
  replace H := Option.bind_eq_some_iff.mp H
  obtain ⟨t384, A60, H⟩ := H
  replace H : ((starmap_Map.f k t382 t383 t384).bind fun bt385 => ((star_Names.f).bind fun t389 => (ephemeriskeep2_StarmapAgrees.l0 k t384 bt385.1 bt385.2 0 t389 (t389.length : Int) 0 t382 t383))) = some r := H
  have A6 := Aside0.mk A60
  clear A60
  replace H := Option.bind_eq_some_iff.mp H
  obtain ⟨⟨t385, t388⟩, A70, H⟩ := H
  replace H : ((star_Names.f).bind fun t389 => (ephemeriskeep2_StarmapAgrees.l0 k t384 t385 t388 0 t389 (t389.length : Int) 0 t382 t383)) = some r := H
  have A7 := Aside0.mk A70
  clear A70
  replace H := Option.bind_eq_some_iff.mp H
  obtain ⟨t389, A80, H⟩ := H
  replace H : (ephemeriskeep2_StarmapAgrees.l0 k t384 t385 t388 0 t389 (t389.length : Int) 0 t382 t383) = some r := H
  have A8 := Aside0.mk A80
  clear A80
  have H' := Aside0.mk H
  clear H
  go_enter Tryd.func7, Tryd.ntmps7
  go_wp2_with (first | ((with_reducible refine gate_dst (N := 2) rfl ?_); (try (refine gate_guard (by rfl) ?_; dsimp only)); refine box_event ?hg (N := 2) ?hd (cs := #[.int .i64 a0_0, .int .i64 a0_1]) (t := 41) ?hr ?_; (case hd => rfl); (case hg => rfl); (case hr => first | (go_simp; done) | (go_simp; rfl)); intro gb380 hg w9 hbox hb; have BK380 := Aside0.mk hbox; have GE380 := gez_ (hbz_ HB.out) hg; replace HB := hxz_ HB hb; clear hb hbox hg) | ((with_reducible refine gate_callee (f := 19) rfl ?_); refine goesL_ (some 12) rfl rfl Tryd.func19 (by kernel_rfl) rfl #[] rfl (by (try simp only [List.map_toArray, List.map_cons, List.map_nil]); first | done | rfl | (simp only [List.length_drop, List.length_take]; rfl)) ?_; (with_reducible refine (ephemeriskeep2_starmapWorks.calls k  true _ A3.out (tabz_ ht_ (by repeat (first | (with_reducible first | exact HB.out | apply below_alloc | apply pw_below_drewN | apply below_drew1 | apply below_drew | refine below_set ?_ (Aside0.out (by assumption))) | exact HB.out)))).mono ?_); rintro e w10 ⟨rfl, hb⟩; refine ⟨_, rfl, ?_⟩; replace BK380 := nxz_ BK380 hb; replace HB := hxz_ HB hb; (try clear hb); (try clear hb2); (try clear hk); (try clear hi); have hcz11_0 : w10.cell? ⟨gb380, 0, none⟩ = some (.int .i64 a0_0) := (blk_cell BK380.out 0).trans rfl; have hcz11_1 : w10.cell? ⟨gb380, 1, none⟩ = some (.int .i64 a0_1) := (blk_cell BK380.out 1).trans rfl; have hfz11_0 := blk_frozen BK380.out 0; have hfz11_1 := blk_frozen BK380.out 1) | ((with_reducible refine gate_callee (f := 21) rfl ?_); refine goesL_ (some 15) rfl rfl Tryd.func21 (by kernel_rfl) rfl #[.agg #[.int .i64 a0_0, .int .i64 a0_1]] rfl (by (try simp only [List.map_toArray, List.map_cons, List.map_nil]); first | done | rfl | (simp only [List.length_drop, List.length_take]; rfl)) ?_; (with_reducible refine (ephemeriskeep2_site.calls a0_0 a0_1 t382 t383 _ A5.out).mono ?_); rintro e w12 ⟨rfl, hb⟩; refine ⟨_, rfl, ?_⟩; replace BK380 := nxz_ BK380 hb; replace HB := hxz_ HB hb; (try clear hb); (try clear hb2); (try clear hk); (try clear hi)) | ((with_reducible refine gate_callee (f := 11) rfl ?_); refine goesL_ (some 17) rfl rfl Tryd.func11 (by kernel_rfl) rfl #[.int .i64 a1] rfl (by (try simp only [List.map_toArray, List.map_cons, List.map_nil]); first | done | rfl | (simp only [List.length_drop, List.length_take]; rfl)) ?_; (with_reducible refine (ephemeriskeep2_instant.calls a1 t384 _ A6.out).mono ?_); rintro e w' ⟨rfl, ⟨nd, rfl⟩⟩; refine ⟨_, rfl, ?_⟩; (try (rw [drewN_self w12]; generalize hq_ : World.drewN w12 _ = w12; have n0_ : Aside0 (w12.heap[gb380]? = some (.cells #[.int .i64 a0_0, .int .i64 a0_1] 41 (0, 0))) := ⟨by rw [← hq_]; exact (grz_ BK380.out)⟩; have n1_ : Aside0 (Below w.heap.size w w12) := ⟨by rw [← hq_]; exact (by repeat (first | (with_reducible first | exact HB.out | apply below_alloc | apply pw_below_drewN | apply below_drew1 | refine below_set ?_ GE380.out) | exact HB.out))⟩; clear BK380 HB hq_; have BK380 := n0_; have HB := n1_; clear n0_ n1_)); have hcz13_0 : w12.cell? ⟨gb380, 0, none⟩ = some (.int .i64 a0_0) := (blk_cell BK380.out 0).trans rfl; have hcz13_1 : w12.cell? ⟨gb380, 1, none⟩ = some (.int .i64 a0_1) := (blk_cell BK380.out 1).trans rfl; have hfz13_0 := blk_frozen BK380.out 0; have hfz13_1 := blk_frozen BK380.out 1) | ((with_reducible refine gate_callee (f := 20) rfl ?_); refine goesL_ (some 21) rfl rfl Tryd.func20 (by kernel_rfl) rfl #[.agg #[.int .i64 t382, .int .i64 t383], .int .i64 t384] rfl (by (try simp only [List.map_toArray, List.map_cons, List.map_nil]); first | done | rfl | (simp only [List.length_drop, List.length_take]; rfl)) ?_; (with_reducible refine (starmap_Map.calls k t382 t383 t384 t385 t388 _ A7.out (tabz_ ht_ (by repeat (first | (with_reducible first | exact HB.out | apply below_alloc | apply pw_below_drewN | apply below_drew1 | apply below_drew | refine below_set ?_ (Aside0.out (by assumption))) | exact HB.out)))).mono ?_); rintro e w14 ⟨v386, rfl, ho0, hb⟩; refine ⟨_, rfl, ?_⟩; have n0_ := Aside0.mk (Kd.R_lower ho0 (below_size (by repeat (first | (with_reducible first | exact HB.out | apply below_alloc | apply pw_below_drewN | apply below_drew1 | refine below_set ?_ GE380.out) | exact HB.out)))); have n1_ := Aside0.mk (blk_below (g := gb380) (o := .cells #[.int .i64 t382, .int .i64 t383] 41 (0, 0)) (grz_ (blk_put (cs := #[.int .i64 t382, .int .i64 a0_1]) (grz_ (blk_put (cs := #[.int .i64 a0_0, .int .i64 a0_1]) (grz_ BK380.out) 0 _ rfl)) 1 _ rfl)) hb); have n2_ := Aside0.mk (below_step (by repeat (first | (with_reducible first | exact HB.out | apply below_alloc | apply pw_below_drewN | apply below_drew1 | refine below_set ?_ GE380.out) | exact HB.out)) hb); clear BK380; clear HB; have HO387 := n0_; have BK380 := n1_; have HB := n2_; clear n0_ n1_ n2_; (try clear hb); (try clear hb2); (try clear hk); (try clear hi); (try clear ho0)) | ((with_reducible refine gate_callee (f := 9) rfl ?_); refine goesL_ (some 24) rfl rfl Tryd.func9 (by kernel_rfl) rfl #[] rfl (by (try simp only [List.map_toArray, List.map_cons, List.map_nil]); first | done | rfl | (simp only [List.length_drop, List.length_take]; rfl)) ?_; (with_reducible refine (star_Names.calls  t389 _ A8.out (tabz_ ht_ (by repeat (first | (with_reducible first | exact HB.out | apply below_alloc | apply pw_below_drewN | apply below_drew1 | apply below_drew | refine below_set ?_ (Aside0.out (by assumption))) | exact HB.out)))).mono ?_); rintro e w15 ⟨v390, rfl, ho0, hb⟩; refine ⟨_, rfl, ?_⟩; have n0_ := Aside0.mk (Kd.R_below (by (with_reducible repeat (first | apply Kd.R_alloc | apply Kd.R_drewN | apply Kd.R_drew)); exact HO387.out) hb); have n1_ := Aside0.mk (Kd.R_lower ho0 (below_size (by repeat (first | (with_reducible first | exact HB.out | apply below_alloc | apply pw_below_drewN | apply below_drew1 | refine below_set ?_ GE380.out) | exact HB.out)))); have n2_ := Aside0.mk (blk_below (g := gb380) (o := .cells #[.int .i64 t382, .int .i64 t383] 41 (0, 0)) (grz_ BK380.out) hb); have n3_ := Aside0.mk (below_step (by repeat (first | (with_reducible first | exact HB.out | apply below_alloc | apply pw_below_drewN | apply below_drew1 | refine below_set ?_ GE380.out) | exact HB.out)) hb); clear HO387; clear BK380; clear HB; have HO387 := n0_; have HO391 := n1_; have BK380 := n2_; have HB := n3_; clear n0_ n1_ n2_ n3_; (try clear hb); (try clear hb2); (try clear hk); (try clear hi); (try clear ho0); obtain ⟨Ao16, co16, eo16⟩ := Kd.R_slice HO391.out; subst eo16))
  go_loopg [7, 26] k (fun kq v7 v26 w' => ∃ (x7_1 : Int) (x26_1 : Int), v7 = .int .i64 x7_1 ∧ v26 = .int .i64 x26_1 ∧ Aside0 (ephemeriskeep2_StarmapAgrees.l0 kq t384 t385 t388 x7_1 t389 (t389.length : Int) x26_1 t382 t383 = some r) ∧ Aside0 (kq ≤ k) ∧ Aside0 (Kd.R k47 47 w' w.heap.size (fun _ => True) v386 t385) ∧ Aside0 (Kd.R Kd.string 9 w' w.heap.size (fun _ => True) (.slice Ao16 t389.length co16) t389) ∧ Aside0 (w'.heap[gb380]? = some (.cells #[.int .i64 t382, .int .i64 t383] 41 (0, 0))) ∧ Aside0 (Below w.heap.size w w'))
  case atStart => exact ⟨(0), (0), (by first | rfl | (simp; done) | (simp [*]; done)), (by first | rfl | (simp; done) | (simp [*]; done)), H', ⟨Nat.le_refl _⟩, ⟨by (with_reducible repeat (first | apply Kd.R_alloc | apply Kd.R_drewN | apply Kd.R_drew)); exact HO387.out⟩, ⟨by (with_reducible repeat (first | apply Kd.R_alloc | apply Kd.R_drewN | apply Kd.R_drew)); exact HO391.out⟩, ⟨(grz_ BK380.out)⟩, ⟨by repeat (first | (with_reducible first | exact HB.out | apply below_alloc | apply pw_below_drewN | apply below_drew1 | refine below_set ?_ GE380.out) | exact HB.out)⟩⟩
  case round =>
   clear H'
   try clear c1
   try clear c2
   try clear p2
   try clear c4
   try clear c7
   try clear c9
   try clear c11
   try clear hcz11_0
   try clear hcz11_1
   try clear hcz13_0
   try clear hcz13_1
   try clear hfz11_0
   try clear hfz11_1
   try clear hfz13_0
   try clear hfz13_1
   obtain ⟨x7_1, x26_1, rfl, rfl, HA, HK1, HO_5, HO_24, BK380, HB⟩ := hrel
   cases gk with
   | zero => exact absurd HA.out (by simp [ephemeriskeep2_StarmapAgrees.l0])
   | succ k1 =>
    have H := HA.out
    clear HA
    simp only [ephemeriskeep2_StarmapAgrees.l0] at H
    by_cases c17 : x26_1 < (t389.length : Int)
    ·
     rw [if_pos c17] at H
     have c17b0 : decide (x26_1 < (t389.length : Int)) = true := decide_eq_true c17
     clear c17
     by_cases c18 : 0 ≤ x26_1
     ·
      rw [if_pos c18] at H
      have c18b0 : decide (0 ≤ x26_1) = true := decide_eq_true c18
      clear c18
      by_cases c19 : x26_1 < (t389.length : Int)
      ·
       rw [if_pos c19] at H
       have c19b0 : decide (x26_1 < (t389.length : Int)) = true := decide_eq_true c19
       clear c19
       replace H := Option.bind_eq_some_iff.mp H
       obtain ⟨⟨t393, t394⟩, A200, H⟩ := H
       replace H : (if t393 = (-1) then (ephemeriskeep2_StarmapAgrees.j1 k1 t384 t385 t388 x7_1 (rdOf ByteArray.empty t389 x26_1) t393 t389 (t389.length : Int) x26_1 (t394 == 0) t382 t383) else (ephemeriskeep2_StarmapAgrees.j1 k1 t384 t385 t388 x7_1 (rdOf ByteArray.empty t389 x26_1) t393 t389 (t389.length : Int) x26_1 false t382 t383)) = some r := H
       have A20 := Aside0.mk A200
       clear A200
       have HC21 := Aside0.mk H
       clear H
       have p392 : 0 ≤ (x26_1 : Int) := of_decide_eq_true (by first | (with_reducible assumption) | assumption)
       have q392 : x26_1 < (t389.length : Int) := of_decide_eq_true (by first | (with_reducible assumption) | assumption)
       obtain ⟨ad392, e392, hx392_0⟩ := Kd.at_string (Kd.R_reads' HO_24.out).2.2 x26_1 p392 q392
       cases e392
       replace p392 := eq_true p392
       replace q392 := eq_true q392
       have hcz22_0 : wr.cell? ⟨gb380, 0, none⟩ = some (.int .i64 t382) := (blk_cell BK380.out 0).trans rfl
       have hcz22_1 : wr.cell? ⟨gb380, 1, none⟩ = some (.int .i64 t383) := (blk_cell BK380.out 1).trans rfl
       have hfz22_0 := blk_frozen BK380.out 0
       have hfz22_1 := blk_frozen BK380.out 1
       go_upto_region 10 with (first | ((with_reducible refine gate_callee (f := 22) rfl ?_); refine goesL_ (some 34) rfl rfl Tryd.func22 (by kernel_rfl) rfl #[.agg #[.int .i64 t382, .int .i64 t383], .string (rdOf ByteArray.empty t389 x26_1), .int .i64 t384] rfl (by (try simp only [List.map_toArray, List.map_cons, List.map_nil]); first | done | rfl | (simp only [List.length_drop, List.length_take]; rfl)) ?_; (with_reducible refine (starmap_Up.calls k1 t382 t383 (rdOf ByteArray.empty t389 x26_1) t384 t393 t394 _ A20.out (tabz_ ht_ (by repeat (first | (with_reducible first | exact HB.out | apply below_alloc | apply pw_below_drewN | apply below_drew1 | apply below_drew | refine below_set ?_ (Aside0.out (by assumption))) | exact HB.out)))).mono ?_); rintro e w23 ⟨rfl, hb⟩; refine ⟨_, rfl, ?_⟩; have n0_ := Aside0.mk (Kd.R_below (by (with_reducible repeat (first | apply Kd.R_alloc | apply Kd.R_drewN | apply Kd.R_drew)); exact HO_5.out) hb); have n1_ := Aside0.mk (Kd.R_below (by (with_reducible repeat (first | apply Kd.R_alloc | apply Kd.R_drewN | apply Kd.R_drew)); exact HO_24.out) hb); have n2_ := Aside0.mk (blk_below (g := gb380) (o := .cells #[.int .i64 t382, .int .i64 t383] 41 (0, 0)) (grz_ BK380.out) hb); have n3_ := Aside0.mk (below_step (by repeat (first | (with_reducible first | exact HB.out | apply below_alloc | apply pw_below_drewN | apply below_drew1 | refine below_set ?_ GE380.out) | exact HB.out)) hb); clear HO_5; clear HO_24; clear BK380; clear HB; have HO_5 := n0_; have HO_24 := n1_; have BK380 := n2_; have HB := n3_; clear n0_ n1_ n2_ n3_; (try clear hb); (try clear hb2); (try clear hk); (try clear hi)))
       (try simp only [Act.put, List.setIfInBounds_toArray, List.set_cons_zero, List.set_cons_succ])
       go_cut [42] (fun v42 wc => ∃ (kq : Nat) (x42_20 : Bool), v42 = .bool x42_20 ∧ Aside0 (ephemeriskeep2_StarmapAgrees.j1 kq t384 t385 t388 x7_1 (rdOf ByteArray.empty t389 x26_1) t393 t389 (t389.length : Int) x26_1 x42_20 t382 t383 = some r) ∧ Aside0 (kq ≤ k1) ∧ Aside0 (Kd.R k47 47 wc w.heap.size (fun _ => True) v386 t385) ∧ Aside0 (Kd.R Kd.string 9 wc w.heap.size (fun _ => True) (.slice (some ad392) t389.length co16) t389) ∧ Aside0 (wc.heap[gb380]? = some (.cells #[.int .i64 t382, .int .i64 t383] 41 (0, 0))) ∧ Aside0 (Below w.heap.size w wc))
       case first =>
        have H := HC21.out
        clear HC21
        by_cases c24 : t393 = (-1)
        ·
         rw [if_pos c24] at H
         have c24b0 : (t393 == (-1)) = true := beq_iff_eq.mpr c24
         have c24b1 : (t393 != (-1)) = false := bne_eq_false_iff_eq.mpr c24
         clear c24
         (first | rw [c24b0] | (simp only [i64_w, i32_w]; rw [c24b0]) | rw [c24b1] | skip)
         have H' := Aside0.mk H
         clear H
         go_wp2
         go_meet
         case rel => exact ⟨_, ((t394 == 0)), (by first | rfl | (simp; done) | (simp [*]; done)), H', ⟨by have := HK1.out; first | omega | exact Nat.le_refl _⟩, ⟨by (with_reducible repeat (first | apply Kd.R_alloc | apply Kd.R_drewN | apply Kd.R_drew)); exact HO_5.out⟩, ⟨by (with_reducible repeat (first | apply Kd.R_alloc | apply Kd.R_drewN | apply Kd.R_drew)); exact HO_24.out⟩, ⟨(grz_ BK380.out)⟩, ⟨by repeat (first | (with_reducible first | exact HB.out | apply below_alloc | apply pw_below_drewN | apply below_drew1 | refine below_set ?_ GE380.out) | exact HB.out)⟩⟩
        ·
         rw [if_neg c24] at H
         have c24b0 : (t393 == (-1)) = false := beq_eq_false_iff_ne.mpr c24
         have c24b1 : (t393 != (-1)) = true := bne_iff_ne.mpr c24
         (first | rw [c24b0] | (simp only [i64_w, i32_w]; rw [c24b0]) | rw [c24b1] | skip)
         have H' := Aside0.mk H
         clear H
         go_wp2
         go_meet
         case rel => exact ⟨_, (false), (by first | rfl | (simp; done) | (simp [*]; done)), H', ⟨by have := HK1.out; first | omega | exact Nat.le_refl _⟩, ⟨by (with_reducible repeat (first | apply Kd.R_alloc | apply Kd.R_drewN | apply Kd.R_drew)); exact HO_5.out⟩, ⟨by (with_reducible repeat (first | apply Kd.R_alloc | apply Kd.R_drewN | apply Kd.R_drew)); exact HO_24.out⟩, ⟨(grz_ BK380.out)⟩, ⟨by repeat (first | (with_reducible first | exact HB.out | apply below_alloc | apply pw_below_drewN | apply below_drew1 | refine below_set ?_ GE380.out) | exact HB.out)⟩⟩
       case rest =>
        clear HC21
        try clear c1
        try clear c2
        try clear p2
        try clear p3
        try clear q3
        try clear hx3
        try clear c4
        try clear c7
        try clear c9
        try clear c11
        try clear c17
        try clear c17b0
        try clear c18
        try clear c18b0
        try clear c19
        try clear c19b0
        try clear c20
        try clear c21
        try clear c22
        try clear c24
        try clear c24b0
        try clear c24b1
        try clear hcz11_0
        try clear hcz11_1
        try clear hcz13_0
        try clear hcz13_1
        try clear hcz22_0
        try clear hcz22_1
        try clear hfz11_0
        try clear hfz11_1
        try clear hfz13_0
        try clear hfz13_1
        try clear hfz22_0
        try clear hfz22_1
        try clear hx392_0
        try clear p2
        try clear p392
        try clear q392
        obtain ⟨kq, x42_20, rfl, HA, HJ20, HO_5, HO_24, BK380, HB⟩ := hcut
        cases kq with
        | zero => exact absurd HA.out (by simp [ephemeriskeep2_StarmapAgrees.j1])
        | succ kj20 =>
         have H := HA.out
         clear HA
         simp only [ephemeriskeep2_StarmapAgrees.j1] at H
         by_cases c25 : x42_20 = true
         ·
          subst c25
          have H1 : (ephemeriskeep2_StarmapAgrees.l0 kj20 t384 t385 t388 x7_1 t389 (t389.length : Int) (wrap64 (x26_1 + 1)) t382 t383) = some r := by rw [if_pos rfl] at H; exact H
          clear H
          have H := H1
          clear H1
          have H' := Aside0.mk H
          clear H
          go_wp2
          go_roundg kj20
          case measure => have := HK1.out; have := HJ20.out; omega
          case rel => exact ⟨(x7_1), (wrap64 (x26_1 + 1)), (by first | rfl | (simp; done) | (simp [*]; done)), (by first | rfl | (simp; done) | (simp [*]; done)), H', ⟨by have := HK1.out; have := HJ20.out; omega⟩, ⟨by (with_reducible repeat (first | apply Kd.R_alloc | apply Kd.R_drewN | apply Kd.R_drew)); exact HO_5.out⟩, ⟨by (with_reducible repeat (first | apply Kd.R_alloc | apply Kd.R_drewN | apply Kd.R_drew)); exact HO_24.out⟩, ⟨(grz_ BK380.out)⟩, ⟨by repeat (first | (with_reducible first | exact HB.out | apply below_alloc | apply pw_below_drewN | apply below_drew1 | refine below_set ?_ GE380.out) | exact HB.out)⟩⟩
         ·
          replace c25 := Bool.eq_false_iff.mpr c25
          subst c25
          have H1 : (if x7_1 ≥ (t385.length : Int) then (none) else (if 0 ≤ x7_1 then (if x7_1 < (t385.length : Int) then (if ((rd_T47 t385 x7_1).f0).toList = (rdOf ByteArray.empty t389 x26_1).toList then (if (((rd_T47 t385 x7_1).f3) != (t393 == 1)) = true then (none) else (ephemeriskeep2_StarmapAgrees.l0 kj20 t384 t385 t388 (wrap64 (x7_1 + 1)) t389 (t389.length : Int) (wrap64 (x26_1 + 1)) t382 t383)) else (none)) else (none)) else (none))) = some r := by rw [if_neg (show ¬ (false = true) by decide)] at H; exact H
          clear H
          have H := H1
          clear H1
          by_cases c26 : x7_1 ≥ (t385.length : Int)
          ·
           rw [if_pos c26] at H
           exact absurd H (by simp)
          ·
           rw [if_neg c26] at H
           have c26b0 : decide ((t385.length : Int) ≤ x7_1) = false := decide_eq_false c26
           clear c26
           by_cases c27 : 0 ≤ x7_1
           ·
            rw [if_pos c27] at H
            have c27b0 : decide (0 ≤ x7_1) = true := decide_eq_true c27
            clear c27
            by_cases c28 : x7_1 < (t385.length : Int)
            ·
             rw [if_pos c28] at H
             have c28b0 : decide (x7_1 < (t385.length : Int)) = true := decide_eq_true c28
             clear c28
             by_cases c29 : ((rd_T47 t385 x7_1).f0).toList = (rdOf ByteArray.empty t389 x26_1).toList
             ·
              rw [if_pos c29] at H
              have c29b0 : (((rd_T47 t385 x7_1).f0).toList == (rdOf ByteArray.empty t389 x26_1).toList) = true := beq_iff_eq.mpr c29
              have c29b1 : (((rd_T47 t385 x7_1).f0).toList != (rdOf ByteArray.empty t389 x26_1).toList) = false := bne_eq_false_iff_eq.mpr c29
              clear c29
              by_cases c30 : (((rd_T47 t385 x7_1).f3) != (t393 == 1)) = true
              ·
               rw [if_pos c30] at H
               exact absurd H (by simp)
              ·
               rw [if_neg c30] at H
               have c30b0 : (((rd_T47 t385 x7_1).f3) != (t393 == 1)) = false := by simpa using c30
               (try (have c30b1 : decide (((rd_T47 t385 x7_1).f3) = (t393 == 1)) = true := by simpa using c30))
               (try (have c30b2 : (((rd_T47 t385 x7_1).f3) == (t393 == 1)) = true := by simpa using c30))
               clear c30
               have H' := Aside0.mk H
               clear H
               obtain ⟨Ao31, co31, eo31⟩ := Kd.R_slice HO_5.out
               subst eo31
               have p395 : 0 ≤ (x7_1 : Int) := of_decide_eq_true (by first | (with_reducible assumption) | assumption)
               have q395 : x7_1 < (t385.length : Int) := of_decide_eq_true (by first | (with_reducible assumption) | assumption)
               obtain ⟨ad395, e395, hx395_0, hx395_1, hx395_2, hx395_3, hx395_4, hx395_5⟩ := at_T47 (Kd.R_reads' HO_5.out).2.2 x7_1 p395 q395
               cases e395
               replace p395 := eq_true p395
               replace q395 := eq_true q395
               have p396 : 0 ≤ (x7_1 : Int) := of_decide_eq_true (by first | (with_reducible assumption) | assumption)
               have q396 : x7_1 < (t385.length : Int) := of_decide_eq_true (by first | (with_reducible assumption) | assumption)
               obtain ⟨ad396, e396, hx396_0, hx396_1, hx396_2, hx396_3, hx396_4, hx396_5⟩ := at_T47 (Kd.R_reads' HO_5.out).2.2 x7_1 p396 q396
               obtain rfl : ad395 = ad396 := (by injection e396)
               replace p396 := eq_true p396
               replace q396 := eq_true q396
               go_wp2
               go_roundg kj20
               case measure => have := HK1.out; have := HJ20.out; omega
               case rel => exact ⟨(wrap64 (x7_1 + 1)), (wrap64 (x26_1 + 1)), (by first | rfl | (simp; done) | (simp [*]; done)), (by first | rfl | (simp; done) | (simp [*]; done)), H', ⟨by have := HK1.out; have := HJ20.out; omega⟩, ⟨by (with_reducible repeat (first | apply Kd.R_alloc | apply Kd.R_drewN | apply Kd.R_drew)); exact HO_5.out⟩, ⟨by (with_reducible repeat (first | apply Kd.R_alloc | apply Kd.R_drewN | apply Kd.R_drew)); exact HO_24.out⟩, ⟨(grz_ BK380.out)⟩, ⟨by repeat (first | (with_reducible first | exact HB.out | apply below_alloc | apply pw_below_drewN | apply below_drew1 | refine below_set ?_ GE380.out) | exact HB.out)⟩⟩
             ·
              rw [if_neg c29] at H
              exact absurd H (by simp)
            ·
             rw [if_neg c28] at H
             exact absurd H (by simp)
           ·
            rw [if_neg c27] at H
            exact absurd H (by simp)
      ·
       rw [if_neg c19] at H
       exact absurd H (by simp)
     ·
      rw [if_neg c18] at H
      exact absurd H (by simp)
    ·
     rw [if_neg c17] at H
     have c17b0 : decide (x26_1 < (t389.length : Int)) = false := decide_eq_false c17
     clear c17
     by_cases c32 : t388 = 0
     ·
      rw [if_pos c32] at H
      have c32b0 : (t388 == 0) = true := beq_iff_eq.mpr c32
      have c32b1 : (t388 != 0) = false := bne_eq_false_iff_eq.mpr c32
      clear c32
      obtain rfl := Option.some.inj H
      obtain ⟨Ao33, co33, eo33⟩ := Kd.R_slice HO_5.out
      subst eo33
      go_wp2
      go_ret
      exact ⟨by first | rfl | (simp [errW_none, errW_some] <;> rfl) | (simp [*, errW_none, errW_some] <;> rfl), by repeat (first | (with_reducible first | exact HB.out | apply below_alloc | apply pw_below_drewN | apply below_drew1 | refine below_set ?_ GE380.out) | exact HB.out)⟩
     ·
      rw [if_neg c32] at H
      exact absurd H (by simp)
 ·
  replace c4 := Bool.eq_false_iff.mpr c4
  subst c4
  have H1 : (none) = some r := by rw [if_neg (show ¬ (false = true) by decide)] at H; exact H
  clear H
  have H := H1
  clear H1
  exact absurd H (by simp)

end Go.Proofs.YtgmjgnojjbajdaaDoor.JM
