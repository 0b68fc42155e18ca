-- Made by a program of this session (wip/hp.py, over the kit's print) out of the translation. Not trusted: Lean checks it.
import Derived.Test.YtemkeciekgdkeaaJPx0
import Derived.Test.YtemkeciekgdkeaaJPx1
import Derived.Test.YtemkeciekgdkeaaJPx28
import Derived.Test.YtemkeciekgdkeaaJPx32
import Derived.Test.YtemkeciekgdkeaaJPx38
import Derived.Test.YtemkeciekgdkeaaJPx40
namespace Go.Proofs.Ytemkeciekgdkeaa.JP
open Go.RowKit Go.Proofs.YtemkeciekgdkeaaW.PrintWords Go.Proofs.YtemkeciekgdkeaaW.PrintLast Go.Proofs.YtemkeciekgdkeaaW.PrintMore
attribute [local go_sem] max2_int min2_int max_two min_two max_three min_three max_four min_four   -- for this text's walks alone
set_option linter.unusedVariables false
set_option linter.unusedSimpArgs false

/-! ### ephemeriskeep2_SharpenMeets: function 8 -/
set_option maxHeartbeats 8000000 in
set_option maxRecDepth 100000 in
theorem ephemeriskeep2_SharpenMeets.calls (k : Nat) (a0 : Int) (a1 : Int) (a2 : Int) (a3 : Int) (r : Bool) (w : World) (h : ephemeriskeep2_SharpenMeets.f k a0 a1 a2 a3 = some r) :
    Calls Try.prog 8 #[.int .i64 a0, .int .i64 a1, .int .i64 a2, .int .i64 a3] w fun e w' => e = .returned (.bool r) ∧ Below w.heap.size w w' := by
  have hu24 := Try.underlying24
  have HB := Aside0.mk (Below.refl w.heap.size w)
  have H : ((ephemeriskeep2_sharpenWorks.f k).bind fun t318 => (if t318 = true then ((ephemeriskeep2_at.f a0 4).bind fun t319 => ((ephemeriskeep2_at.f a1 18000).bind fun t320 => ((ephemeriskeep2_at.f a2 400000).bind fun t321 => ((ephemeriskeep2_at.f a3 400000).bind fun t322 => ((sharpen_Season.f k t319 (wrap64 (t320 - 9000)) (wrap64 (200000 + t321))).bind fun bt323 => ((sharpen_Season.f k t319 (wrap64 (t320 - 9000)) (wrap64 (200000 + t322))).bind fun bt327 => (if bt323.2.2 = 0 then (if bt327.2.2 = 0 then ((ephemeriskeep2_meets.f bt323.1 bt323.2.1 bt327.1 bt327.2.1).bind fun t331 => (if t331 = true then (if (wrap64 (bt323.2.1 - bt323.1)) ≤ (wrap64 (200000 + t321)) then (some (decide ((wrap64 (bt327.2.1 - bt327.1)) ≤ (wrap64 (200000 + t322))))) else (none)) else (none))) else (none)) else (none)))))))) else (none))) = some r := h
  clear h
  replace H := Option.bind_eq_some_iff.mp H
  obtain ⟨t318, A50, H⟩ := H
  replace H : (if t318 = true then ((ephemeriskeep2_at.f a0 4).bind fun t319 => ((ephemeriskeep2_at.f a1 18000).bind fun t320 => ((ephemeriskeep2_at.f a2 400000).bind fun t321 => ((ephemeriskeep2_at.f a3 400000).bind fun t322 => ((sharpen_Season.f k t319 (wrap64 (t320 - 9000)) (wrap64 (200000 + t321))).bind fun bt323 => ((sharpen_Season.f k t319 (wrap64 (t320 - 9000)) (wrap64 (200000 + t322))).bind fun bt327 => (if bt323.2.2 = 0 then (if bt327.2.2 = 0 then ((ephemeriskeep2_meets.f bt323.1 bt323.2.1 bt327.1 bt327.2.1).bind fun t331 => (if t331 = true then (if (wrap64 (bt323.2.1 - bt323.1)) ≤ (wrap64 (200000 + t321)) then (some (decide ((wrap64 (bt327.2.1 - bt327.1)) ≤ (wrap64 (200000 + t322))))) else (none)) else (none))) else (none)) else (none)))))))) else (none)) = some r := H
  have A5 := Aside0.mk A50
  clear A50
  by_cases c6 : t318 = true
  · subst c6
    have H1 : ((ephemeriskeep2_at.f a0 4).bind fun t319 => ((ephemeriskeep2_at.f a1 18000).bind fun t320 => ((ephemeriskeep2_at.f a2 400000).bind fun t321 => ((ephemeriskeep2_at.f a3 400000).bind fun t322 => ((sharpen_Season.f k t319 (wrap64 (t320 - 9000)) (wrap64 (200000 + t321))).bind fun bt323 => ((sharpen_Season.f k t319 (wrap64 (t320 - 9000)) (wrap64 (200000 + t322))).bind fun bt327 => (if bt323.2.2 = 0 then (if bt327.2.2 = 0 then ((ephemeriskeep2_meets.f bt323.1 bt323.2.1 bt327.1 bt327.2.1).bind fun t331 => (if t331 = true then (if (wrap64 (bt323.2.1 - bt323.1)) ≤ (wrap64 (200000 + t321)) then (some (decide ((wrap64 (bt327.2.1 - bt327.1)) ≤ (wrap64 (200000 + t322))))) else (none)) else (none))) else (none)) else (none)))))))) = some r := by rw [if_pos rfl] at H; exact H
    clear H
    have H := H1
    clear H1
    replace H := Option.bind_eq_some_iff.mp H
    obtain ⟨t319, A70, H⟩ := H
    replace H : ((ephemeriskeep2_at.f a1 18000).bind fun t320 => ((ephemeriskeep2_at.f a2 400000).bind fun t321 => ((ephemeriskeep2_at.f a3 400000).bind fun t322 => ((sharpen_Season.f k t319 (wrap64 (t320 - 9000)) (wrap64 (200000 + t321))).bind fun bt323 => ((sharpen_Season.f k t319 (wrap64 (t320 - 9000)) (wrap64 (200000 + t322))).bind fun bt327 => (if bt323.2.2 = 0 then (if bt327.2.2 = 0 then ((ephemeriskeep2_meets.f bt323.1 bt323.2.1 bt327.1 bt327.2.1).bind fun t331 => (if t331 = true then (if (wrap64 (bt323.2.1 - bt323.1)) ≤ (wrap64 (200000 + t321)) then (some (decide ((wrap64 (bt327.2.1 - bt327.1)) ≤ (wrap64 (200000 + t322))))) else (none)) else (none))) else (none)) else (none))))))) = some r := H
    have A7 := Aside0.mk A70
    clear A70
    replace H := Option.bind_eq_some_iff.mp H
    obtain ⟨t320, A80, H⟩ := H
    replace H : ((ephemeriskeep2_at.f a2 400000).bind fun t321 => ((ephemeriskeep2_at.f a3 400000).bind fun t322 => ((sharpen_Season.f k t319 (wrap64 (t320 - 9000)) (wrap64 (200000 + t321))).bind fun bt323 => ((sharpen_Season.f k t319 (wrap64 (t320 - 9000)) (wrap64 (200000 + t322))).bind fun bt327 => (if bt323.2.2 = 0 then (if bt327.2.2 = 0 then ((ephemeriskeep2_meets.f bt323.1 bt323.2.1 bt327.1 bt327.2.1).bind fun t331 => (if t331 = true then (if (wrap64 (bt323.2.1 - bt323.1)) ≤ (wrap64 (200000 + t321)) then (some (decide ((wrap64 (bt327.2.1 - bt327.1)) ≤ (wrap64 (200000 + t322))))) else (none)) else (none))) else (none)) else (none)))))) = some r := H
    have A8 := Aside0.mk A80
    clear A80
    replace H := Option.bind_eq_some_iff.mp H
    obtain ⟨t321, A90, H⟩ := H
    replace H : ((ephemeriskeep2_at.f a3 400000).bind fun t322 => ((sharpen_Season.f k t319 (wrap64 (t320 - 9000)) (wrap64 (200000 + t321))).bind fun bt323 => ((sharpen_Season.f k t319 (wrap64 (t320 - 9000)) (wrap64 (200000 + t322))).bind fun bt327 => (if bt323.2.2 = 0 then (if bt327.2.2 = 0 then ((ephemeriskeep2_meets.f bt323.1 bt323.2.1 bt327.1 bt327.2.1).bind fun t331 => (if t331 = true then (if (wrap64 (bt323.2.1 - bt323.1)) ≤ (wrap64 (200000 + t321)) then (some (decide ((wrap64 (bt327.2.1 - bt327.1)) ≤ (wrap64 (200000 + t322))))) else (none)) else (none))) else (none)) else (none))))) = some r := H
    have A9 := Aside0.mk A90
    clear A90
    replace H := Option.bind_eq_some_iff.mp H
    obtain ⟨t322, A100, H⟩ := H
    replace H : ((sharpen_Season.f k t319 (wrap64 (t320 - 9000)) (wrap64 (200000 + t321))).bind fun bt323 => ((sharpen_Season.f k t319 (wrap64 (t320 - 9000)) (wrap64 (200000 + t322))).bind fun bt327 => (if bt323.2.2 = 0 then (if bt327.2.2 = 0 then ((ephemeriskeep2_meets.f bt323.1 bt323.2.1 bt327.1 bt327.2.1).bind fun t331 => (if t331 = true then (if (wrap64 (bt323.2.1 - bt323.1)) ≤ (wrap64 (200000 + t321)) then (some (decide ((wrap64 (bt327.2.1 - bt327.1)) ≤ (wrap64 (200000 + t322))))) else (none)) else (none))) else (none)) else (none)))) = some r := H
    have A10 := Aside0.mk A100
    clear A100
    replace H := Option.bind_eq_some_iff.mp H
    obtain ⟨⟨t323, t324, t325⟩, A110, H⟩ := H
    replace H : ((sharpen_Season.f k t319 (wrap64 (t320 - 9000)) (wrap64 (200000 + t322))).bind fun bt327 => (if t325 = 0 then (if bt327.2.2 = 0 then ((ephemeriskeep2_meets.f t323 t324 bt327.1 bt327.2.1).bind fun t331 => (if t331 = true then (if (wrap64 (t324 - t323)) ≤ (wrap64 (200000 + t321)) then (some (decide ((wrap64 (bt327.2.1 - bt327.1)) ≤ (wrap64 (200000 + t322))))) else (none)) else (none))) else (none)) else (none))) = some r := H
    have A11 := Aside0.mk A110
    clear A110
    replace H := Option.bind_eq_some_iff.mp H
    obtain ⟨⟨t327, t328, t329⟩, A120, H⟩ := H
    replace H : (if t325 = 0 then (if t329 = 0 then ((ephemeriskeep2_meets.f t323 t324 t327 t328).bind fun t331 => (if t331 = true then (if (wrap64 (t324 - t323)) ≤ (wrap64 (200000 + t321)) then (some (decide ((wrap64 (t328 - t327)) ≤ (wrap64 (200000 + t322))))) else (none)) else (none))) else (none)) else (none)) = some r := H
    have A12 := Aside0.mk A120
    clear A120
    by_cases c13 : t325 = 0
    · rw [if_pos c13] at H
      have c13b0 : (t325 == 0) = true := beq_iff_eq.mpr c13
      have c13b1 : (t325 != 0) = false := bne_eq_false_iff_eq.mpr c13
      clear c13
      by_cases c14 : t329 = 0
      · rw [if_pos c14] at H
        have c14b0 : (t329 == 0) = true := beq_iff_eq.mpr c14
        have c14b1 : (t329 != 0) = false := bne_eq_false_iff_eq.mpr c14
        clear c14
        replace H := Option.bind_eq_some_iff.mp H
        obtain ⟨t331, A150, H⟩ := H
        replace H : (if t331 = true then (if (wrap64 (t324 - t323)) ≤ (wrap64 (200000 + t321)) then (some (decide ((wrap64 (t328 - t327)) ≤ (wrap64 (200000 + t322))))) else (none)) else (none)) = some r := H
        have A15 := Aside0.mk A150
        clear A150
        by_cases c16 : t331 = true
        · subst c16
          have H1 : (if (wrap64 (t324 - t323)) ≤ (wrap64 (200000 + t321)) then (some (decide ((wrap64 (t328 - t327)) ≤ (wrap64 (200000 + t322))))) else (none)) = some r := by rw [if_pos rfl] at H; exact H
          clear H
          have H := H1
          clear H1
          by_cases c17 : (wrap64 (t324 - t323)) ≤ (wrap64 (200000 + t321))
          · rw [if_pos c17] at H
            have c17b0 : decide ((wrap64 (t324 - t323)) ≤ (wrap64 (200000 + t321))) = true := decide_eq_true c17
            clear c17
            obtain rfl := Option.some.inj H
            go_enter Try.func8, Try.ntmps8
            go_wp2_with (first | ((with_reducible refine gate_callee (f := 20) rfl ?_); refine goesL_ (some 13) rfl rfl Try.func20 (by kernel_rfl) rfl #[] rfl (by (try simp only [List.map_toArray, List.map_cons, List.map_nil]); first | done | rfl | (simp only [List.length_drop, List.length_take]; rfl)) ?_; (with_reducible refine (ephemeriskeep2_sharpenWorks.calls k  true _ A5.out).mono ?_); rintro e w18 ⟨rfl, hb⟩; refine ⟨_, rfl, ?_⟩; have n0_ := Aside0.mk (below_step (by repeat (first | (with_reducible first | exact HB.out | apply below_alloc | apply pw_below_drewN | apply below_drew1) | exact HB.out)) hb); clear HB; have HB := n0_; clear n0_; (try clear hb); (try clear hb2); (try clear hk); (try clear hi)) | ((with_reducible refine gate_callee (f := 14) rfl ?_); refine goesL_ (some 16) rfl rfl Try.func14 (by kernel_rfl) rfl #[.int .i64 a0, .int .i64 4] rfl (by (try simp only [List.map_toArray, List.map_cons, List.map_nil]); first | done | rfl | (simp only [List.length_drop, List.length_take]; rfl)) ?_; (with_reducible refine (ephemeriskeep2_at.calls a0 4 t319 _ A7.out).mono ?_); rintro e w' ⟨rfl, ⟨nd, rfl⟩⟩; refine ⟨_, rfl, ?_⟩; (try (rw [drewN_self w18]; generalize hq_ : World.drewN w18 _ = w18; have n0_ : Aside0 (Below w.heap.size w w18) := ⟨by rw [← hq_]; exact (by repeat (first | (with_reducible first | exact HB.out | apply below_alloc | apply pw_below_drewN | apply below_drew1) | exact HB.out))⟩; clear HB hq_; have HB := n0_; clear n0_))) | ((with_reducible refine gate_callee (f := 14) rfl ?_); refine goesL_ (some 18) rfl rfl Try.func14 (by kernel_rfl) rfl #[.int .i64 a1, .int .i64 18000] rfl (by (try simp only [List.map_toArray, List.map_cons, List.map_nil]); first | done | rfl | (simp only [List.length_drop, List.length_take]; rfl)) ?_; (with_reducible refine (ephemeriskeep2_at.calls a1 18000 t320 _ A8.out).mono ?_); rintro e w' ⟨rfl, ⟨nd, rfl⟩⟩; refine ⟨_, rfl, ?_⟩; (try (rw [drewN_self w18]; generalize hq_ : World.drewN w18 _ = w18; have n0_ : Aside0 (Below w.heap.size w w18) := ⟨by rw [← hq_]; exact (by repeat (first | (with_reducible first | exact HB.out | apply below_alloc | apply pw_below_drewN | apply below_drew1) | exact HB.out))⟩; clear HB hq_; have HB := n0_; clear n0_))) | ((with_reducible refine gate_callee (f := 14) rfl ?_); refine goesL_ (some 21) rfl rfl Try.func14 (by kernel_rfl) rfl #[.int .i64 a2, .int .i64 400000] rfl (by (try simp only [List.map_toArray, List.map_cons, List.map_nil]); first | done | rfl | (simp only [List.length_drop, List.length_take]; rfl)) ?_; (with_reducible refine (ephemeriskeep2_at.calls a2 400000 t321 _ A9.out).mono ?_); rintro e w' ⟨rfl, ⟨nd, rfl⟩⟩; refine ⟨_, rfl, ?_⟩; (try (rw [drewN_self w18]; generalize hq_ : World.drewN w18 _ = w18; have n0_ : Aside0 (Below w.heap.size w w18) := ⟨by rw [← hq_]; exact (by repeat (first | (with_reducible first | exact HB.out | apply below_alloc | apply pw_below_drewN | apply below_drew1) | exact HB.out))⟩; clear HB hq_; have HB := n0_; clear n0_))) | ((with_reducible refine gate_callee (f := 14) rfl ?_); refine goesL_ (some 24) rfl rfl Try.func14 (by kernel_rfl) rfl #[.int .i64 a3, .int .i64 400000] rfl (by (try simp only [List.map_toArray, List.map_cons, List.map_nil]); first | done | rfl | (simp only [List.length_drop, List.length_take]; rfl)) ?_; (with_reducible refine (ephemeriskeep2_at.calls a3 400000 t322 _ A10.out).mono ?_); rintro e w' ⟨rfl, ⟨nd, rfl⟩⟩; refine ⟨_, rfl, ?_⟩; (try (rw [drewN_self w18]; generalize hq_ : World.drewN w18 _ = w18; have n0_ : Aside0 (Below w.heap.size w w18) := ⟨by rw [← hq_]; exact (by repeat (first | (with_reducible first | exact HB.out | apply below_alloc | apply pw_below_drewN | apply below_drew1) | exact HB.out))⟩; clear HB hq_; have HB := n0_; clear n0_))) | ((with_reducible refine gate_callee (f := 21) rfl ?_); refine goesL_ (some 30) rfl rfl Try.func21 (by kernel_rfl) rfl #[.int .i64 t319, .int .i64 (wrap64 (t320 - 9000)), .int .i64 (wrap64 (200000 + t321))] rfl (by (try simp only [List.map_toArray, List.map_cons, List.map_nil]); first | done | rfl | (simp only [List.length_drop, List.length_take]; rfl) | (rw [wrap_in_ (n := t320 - 9000) (by omega) (by omega)]; rw [wrap_in_ (n := 200000 + t321) (by omega) (by omega)]; rfl)) ?_; (with_reducible refine (sharpen_Season.calls k t319 (wrap64 (t320 - 9000)) (wrap64 (200000 + t321)) t323 t324 t325 _ A11.out).mono ?_); rintro e w19 ⟨rfl, hb⟩; refine ⟨_, rfl, ?_⟩; have n0_ := Aside0.mk (below_step (by repeat (first | (with_reducible first | exact HB.out | apply below_alloc | apply pw_below_drewN | apply below_drew1) | exact HB.out)) hb); clear HB; have HB := n0_; clear n0_; (try clear hb); (try clear hb2); (try clear hk); (try clear hi)) | ((with_reducible refine gate_dst (N := 9) rfl ?_); refine box_event ?hg (N := 9) ?hd (cs := #[.int .i64 0, .int .i64 0]) (t := 24) ?hr ?_; (case hd => rfl); (case hg => rfl); (case hr => first | (go_simp; done) | (go_simp; rfl)); intro gb326 hg w20 hbox hb; have n0_ := Aside0.mk (below_step (by repeat (first | (with_reducible first | exact HB.out | apply below_alloc | apply pw_below_drewN | apply below_drew1) | exact HB.out)) hb); have n1_ := Aside0.mk (hbox); have n2_ := Aside0.mk ((by rw [hg]; exact (below_size (by repeat (first | (with_reducible first | exact HB.out | apply below_alloc | apply pw_below_drewN | apply below_drew1) | exact HB.out))) : w.heap.size ≤ gb326)); have n3_ := Aside0.mk ((by rw [hg]; exact (below_size (by repeat (first | (with_reducible first | exact HB.out | apply below_alloc | apply pw_below_drewN | apply below_drew1) | exact HB.out))) : w.heap.size ≤ gb326)); clear HB; have HB := n0_; have BK326 := n1_; have GW326 := n2_; have GE326 := n3_; clear n0_ n1_ n2_ n3_; clear hb hbox hg; have hcz21_0 : w20.cell? ⟨gb326, 0, none⟩ = some (.int .i64 0) := (blk_cell BK326.out 0).trans rfl; have hcz21_1 : w20.cell? ⟨gb326, 1, none⟩ = some (.int .i64 0) := (blk_cell BK326.out 1).trans rfl; have hfz21_0 := blk_frozen BK326.out 0; have hfz21_1 := blk_frozen BK326.out 1) | ((with_reducible refine gate_callee (f := 21) rfl ?_); refine goesL_ (some 37) rfl rfl Try.func21 (by kernel_rfl) rfl #[.int .i64 t319, .int .i64 (wrap64 (t320 - 9000)), .int .i64 (wrap64 (200000 + t322))] rfl (by (try simp only [List.map_toArray, List.map_cons, List.map_nil]); first | done | rfl | (simp only [List.length_drop, List.length_take]; rfl) | (rw [wrap_in_ (n := t320 - 9000) (by omega) (by omega)]; rw [wrap_in_ (n := 200000 + t322) (by omega) (by omega)]; rfl)) ?_; (with_reducible refine (sharpen_Season.calls k t319 (wrap64 (t320 - 9000)) (wrap64 (200000 + t322)) t327 t328 t329 _ A12.out).mono ?_); rintro e w22 ⟨rfl, hb⟩; refine ⟨_, rfl, ?_⟩; have n0_ := Aside0.mk (blk_below (g := gb326) (o := .cells #[.int .i64 t323, .int .i64 t324] 24 (0, 0)) (by (with_reducible repeat (first | refine blk_drewN ?_ _ | refine blk_drew ?_ | refine blk_alloc ?_ _)); refine blk_put (cs := #[.int .i64 t323, .int .i64 0]) ?_ 1 _ rfl; (with_reducible repeat (first | refine blk_drewN ?_ _ | refine blk_drew ?_ | refine blk_alloc ?_ _)); refine blk_put (cs := #[.int .i64 0, .int .i64 0]) ?_ 0 _ rfl; (with_reducible repeat (first | refine blk_drewN ?_ _ | refine blk_drew ?_ | refine blk_alloc ?_ _)); exact BK326.out) hb); have n1_ := Aside0.mk (below_step (by repeat (first | (with_reducible first | exact HB.out | apply below_alloc | apply pw_below_drewN | apply below_drew1 | refine below_set ?_ GE326.out) | exact HB.out)) hb); clear BK326; clear HB; have BK326 := n0_; have HB := n1_; clear n0_ n1_; (try clear hb); (try clear hb2); (try clear hk); (try clear hi)) | ((with_reducible refine gate_dst (N := 11) rfl ?_); refine box_event ?hg (N := 11) ?hd (cs := #[.int .i64 0, .int .i64 0]) (t := 24) ?hr ?_; (case hd => rfl); (case hg => rfl); (case hr => first | (go_simp; done) | (go_simp; rfl)); intro gb330 hg w23 hbox hb; have n0_ := Aside0.mk (blk_below (g := gb326) (o := .cells #[.int .i64 t323, .int .i64 t324] 24 (0, 0)) (by (with_reducible repeat (first | refine blk_drewN ?_ _ | refine blk_drew ?_ | refine blk_alloc ?_ _)); exact BK326.out) hb); have n1_ := Aside0.mk (below_step (by repeat (first | (with_reducible first | exact HB.out | apply below_alloc | apply pw_below_drewN | apply below_drew1 | refine below_set ?_ GE326.out) | exact HB.out)) hb); have n2_ := Aside0.mk (hbox); have n3_ := Aside0.mk ((by rw [hg]; exact (below_size (by repeat (first | (with_reducible first | exact HB.out | apply below_alloc | apply pw_below_drewN | apply below_drew1 | refine below_set ?_ GE326.out) | exact HB.out))) : w.heap.size ≤ gb330)); have n4_ := Aside0.mk ((by rw [hg]; exact (below_size (by repeat (first | (with_reducible first | exact HB.out | apply below_alloc | apply pw_below_drewN | apply below_drew1 | refine below_set ?_ GE326.out) | exact HB.out))) : w.heap.size ≤ gb330)); have n5_ := Aside0.mk ((by rw [hg]; exact Nat.ne_of_lt (blk_lt (g := gb326) (o := .cells #[.int .i64 t323, .int .i64 t324] 24 (0, 0)) (by (with_reducible repeat (first | refine blk_drewN ?_ _ | refine blk_drew ?_ | refine blk_alloc ?_ _)); exact BK326.out)) : gb326 ≠ gb330)); have n6_ := Aside0.mk ((by rw [hg]; exact Nat.ne_of_gt (blk_lt (g := gb326) (o := .cells #[.int .i64 t323, .int .i64 t324] 24 (0, 0)) (by (with_reducible repeat (first | refine blk_drewN ?_ _ | refine blk_drew ?_ | refine blk_alloc ?_ _)); exact BK326.out)) : gb330 ≠ gb326)); clear BK326; clear HB; have BK326 := n0_; have HB := n1_; have BK330 := n2_; have GW330 := n3_; have GE330 := n4_; have NB326_330 := n5_; have NB330_326 := n6_; clear n0_ n1_ n2_ n3_ n4_ n5_ n6_; clear hb hbox hg; have hnb24 := NB330_326.out; have hnc24 := NB326_330.out; have hcz25_0 : w23.cell? ⟨gb330, 0, none⟩ = some (.int .i64 0) := (blk_cell BK330.out 0).trans rfl; have hcz25_1 : w23.cell? ⟨gb330, 1, none⟩ = some (.int .i64 0) := (blk_cell BK330.out 1).trans rfl; have hfz25_0 := blk_frozen BK330.out 0; have hfz25_1 := blk_frozen BK330.out 1; have hcz26_0 : w23.cell? ⟨gb326, 0, none⟩ = some (.int .i64 t323) := (blk_cell BK326.out 0).trans rfl; have hcz26_1 : w23.cell? ⟨gb326, 1, none⟩ = some (.int .i64 t324) := (blk_cell BK326.out 1).trans rfl; have hfz26_0 := blk_frozen BK326.out 0; have hfz26_1 := blk_frozen BK326.out 1) | (go_at_call 19; (with_reducible refine (ephemeriskeep2_meets.calls t323 t324 t327 t328 true _ A15.out).mono ?_); rintro e w27 ⟨rfl, hb⟩; have n0_ := Aside0.mk (blk_below (g := gb326) (o := .cells #[.int .i64 t323, .int .i64 t324] 24 (0, 0)) (by (with_reducible repeat (first | refine blk_drewN ?_ _ | refine blk_drew ?_ | refine blk_alloc ?_ _)); refine blk_far ?_ NB326_330.out _; (with_reducible repeat (first | refine blk_drewN ?_ _ | refine blk_drew ?_ | refine blk_alloc ?_ _)); refine blk_far ?_ NB326_330.out _; (with_reducible repeat (first | refine blk_drewN ?_ _ | refine blk_drew ?_ | refine blk_alloc ?_ _)); exact BK326.out) hb); have n1_ := Aside0.mk (blk_below (g := gb330) (o := .cells #[.int .i64 t327, .int .i64 t328] 24 (0, 0)) (by (with_reducible repeat (first | refine blk_drewN ?_ _ | refine blk_drew ?_ | refine blk_alloc ?_ _)); refine blk_put (cs := #[.int .i64 t327, .int .i64 0]) ?_ 1 _ rfl; (with_reducible repeat (first | refine blk_drewN ?_ _ | refine blk_drew ?_ | refine blk_alloc ?_ _)); refine blk_put (cs := #[.int .i64 0, .int .i64 0]) ?_ 0 _ rfl; (with_reducible repeat (first | refine blk_drewN ?_ _ | refine blk_drew ?_ | refine blk_alloc ?_ _)); exact BK330.out) hb); have n2_ := Aside0.mk (below_step (by repeat (first | (with_reducible first | exact HB.out | apply below_alloc | apply pw_below_drewN | apply below_drew1 | refine below_set ?_ GE326.out | refine below_set ?_ GE330.out) | exact HB.out)) hb); clear BK326; clear BK330; clear HB; have BK326 := n0_; have BK330 := n1_; have HB := n2_; clear n0_ n1_ n2_; (try clear hb); (try clear hb2); (try clear hk); (try clear hi); have hcz28_0 : w27.cell? ⟨gb326, 0, none⟩ = some (.int .i64 t323) := (blk_cell BK326.out 0).trans rfl; have hcz28_1 : w27.cell? ⟨gb326, 1, none⟩ = some (.int .i64 t324) := (blk_cell BK326.out 1).trans rfl; have hfz28_0 := blk_frozen BK326.out 0; have hfz28_1 := blk_frozen BK326.out 1; have hcz29_0 : w27.cell? ⟨gb330, 0, none⟩ = some (.int .i64 t327) := (blk_cell BK330.out 0).trans rfl; have hcz29_1 : w27.cell? ⟨gb330, 1, none⟩ = some (.int .i64 t328) := (blk_cell BK330.out 1).trans rfl; have hfz29_0 := blk_frozen BK330.out 0; have hfz29_1 := blk_frozen BK330.out 1))
            go_ret
            exact ⟨by first | rfl | (simp [errW_none, errW_some] <;> rfl) | (simp [*, errW_none, errW_some] <;> rfl), by repeat (first | (with_reducible first | exact HB.out | apply below_alloc | apply pw_below_drewN | apply below_drew1 | refine below_set ?_ GE326.out | refine below_set ?_ GE330.out) | exact HB.out)⟩
          · rw [if_neg c17] at H
            exact absurd H (by simp)
        · replace c16 := Bool.eq_false_iff.mpr c16
          subst c16
          have H1 : (none) = some r := by rw [if_neg (show ¬ (false = true) by decide)] at H; exact H
          clear H
          have H := H1
          clear H1
          exact absurd H (by simp)
      · rw [if_neg c14] at H
        exact absurd H (by simp)
    · rw [if_neg c13] at H
      exact absurd H (by simp)
  · replace c6 := Bool.eq_false_iff.mpr c6
    subst c6
    have H1 : (none) = some r := by rw [if_neg (show ¬ (false = true) by decide)] at H; exact H
    clear H
    have H := H1
    clear H1
    exact absurd H (by simp)

theorem ephemeriskeep2_SharpenMeets.walk (P : ephemeriskeep2_SharpenMeets.Pure) (a0 : Int) (a1 : Int) (a2 : Int) (a3 : Int) (w : World) (w0 : (Lit.int .i64 a0).wf = true) (w1 : (Lit.int .i64 a1).wf = true) (w2 : (Lit.int .i64 a2).wf = true) (w3 : (Lit.int .i64 a3).wf = true) :
    Calls Try.prog 8 #[.int .i64 a0, .int .i64 a1, .int .i64 a2, .int .i64 a3] w fun e w' => e = .returned (.bool true) ∧ Below w.heap.size w w' := by
  obtain ⟨k, h⟩ := P a0 a1 a2 a3 w0 w1 w2 w3
  refine (ephemeriskeep2_SharpenMeets.calls k a0 a1 a2 a3 true w h).mono ?_
  rintro e w' ⟨rfl, hd⟩
  exact ⟨rfl, hd⟩

end Go.Proofs.Ytemkeciekgdkeaa.JP
