-- Made by a program of this session (wip/hp.py, over the kit's print) out of the translation. Not trusted: Lean checks it.
import Derived.Test.YtigolfomfpmodaaJTx0
import Derived.Test.YtigolfomfpmodaaJTx1
import Derived.Test.YtigolfomfpmodaaJTx2
import Derived.Test.YtigolfomfpmodaaJTx3
import Derived.Test.YtigolfomfpmodaaJTx14
import Derived.Test.YtigolfomfpmodaaJTx19
namespace Go.Proofs.Ytigolfomfpmodaa.JT
open Go.RowKit Go.Proofs.YtigolfomfpmodaaW.PrintWords Go.Proofs.YtigolfomfpmodaaW.PrintLast Go.Proofs.YtigolfomfpmodaaW.PrintMore
attribute [local go_sem] max2_int min2_int max_two min_two max_three min_three max_four min_four   -- for this text's walks alone
set_option linter.unusedVariables false
set_option linter.unusedSimpArgs false

attribute [local go_sem high] eqA23
/-! ### ephemeriskeep2_TrigRootSquares: function 11 -/
set_option maxHeartbeats 8000000 in
set_option maxRecDepth 100000 in
theorem ephemeriskeep2_TrigRootSquares.calls (k : Nat) (a0 : Int) (a1 : Int) (r : Bool) (w : World) (h : ephemeriskeep2_TrigRootSquares.f k a0 a1 = some r) :
    Calls Try.prog 11 #[.int .i64 a0, .int .i64 a1] w fun e w' => e = .returned (.bool r) ∧ Below w.heap.size w w' := by
  have hu23 := Try.underlying23
  have HB := Aside0.mk (Below.refl w.heap.size w)
  have H : ((ephemeriskeep2_trigWorks.f k).bind fun t312 => (if t312 = true then ((ephemeriskeep2_at.f a0 1000000000).bind fun t313 => ((ephemeriskeep2_at.f a1 1000000000).bind fun t314 => ((trig_Root.f k (wrap64 ((mn t313 t314) * (mn t313 t314))) (wrap64 ((mx t313 t314) * (mx t313 t314)))).bind fun bt315 => (if bt315.2.2 = 0 then (some (bt315.1 == (mn t313 t314) && (bt315.2.1 == (mx t313 t314)))) else (none))))) else (none))) = some r := h
  clear h
  replace H := Option.bind_eq_some_iff.mp H
  obtain ⟨t312, A30, H⟩ := H
  replace H : (if t312 = true then ((ephemeriskeep2_at.f a0 1000000000).bind fun t313 => ((ephemeriskeep2_at.f a1 1000000000).bind fun t314 => ((trig_Root.f k (wrap64 ((mn t313 t314) * (mn t313 t314))) (wrap64 ((mx t313 t314) * (mx t313 t314)))).bind fun bt315 => (if bt315.2.2 = 0 then (some (bt315.1 == (mn t313 t314) && (bt315.2.1 == (mx t313 t314)))) else (none))))) else (none)) = some r := H
  have A3 := Aside0.mk A30
  clear A30
  by_cases c4 : t312 = true
  · subst c4
    have H1 : ((ephemeriskeep2_at.f a0 1000000000).bind fun t313 => ((ephemeriskeep2_at.f a1 1000000000).bind fun t314 => ((trig_Root.f k (wrap64 ((mn t313 t314) * (mn t313 t314))) (wrap64 ((mx t313 t314) * (mx t313 t314)))).bind fun bt315 => (if bt315.2.2 = 0 then (some (bt315.1 == (mn t313 t314) && (bt315.2.1 == (mx t313 t314)))) else (none))))) = some r := by rw [if_pos rfl] at H; exact H
    clear H
    have H := H1
    clear H1
    replace H := Option.bind_eq_some_iff.mp H
    obtain ⟨t313, A50, H⟩ := H
    replace H : ((ephemeriskeep2_at.f a1 1000000000).bind fun t314 => ((trig_Root.f k (wrap64 ((mn t313 t314) * (mn t313 t314))) (wrap64 ((mx t313 t314) * (mx t313 t314)))).bind fun bt315 => (if bt315.2.2 = 0 then (some (bt315.1 == (mn t313 t314) && (bt315.2.1 == (mx t313 t314)))) else (none)))) = some r := H
    have A5 := Aside0.mk A50
    clear A50
    replace H := Option.bind_eq_some_iff.mp H
    obtain ⟨t314, A60, H⟩ := H
    replace H : ((trig_Root.f k (wrap64 ((mn t313 t314) * (mn t313 t314))) (wrap64 ((mx t313 t314) * (mx t313 t314)))).bind fun bt315 => (if bt315.2.2 = 0 then (some (bt315.1 == (mn t313 t314) && (bt315.2.1 == (mx t313 t314)))) else (none))) = some r := H
    have A6 := Aside0.mk A60
    clear A60
    obtain ⟨ji7, hji7⟩ : ∃ j_ : Int, (mn t313 t314) = j_ := ⟨_, rfl⟩
    replace H : ((trig_Root.f k (wrap64 ((ji7) * (ji7))) (wrap64 ((mx t313 t314) * (mx t313 t314)))).bind fun bt315 => (if bt315.2.2 = 0 then (some (bt315.1 == (ji7) && (bt315.2.1 == (mx t313 t314)))) else (none))) = some r := by first | (rw [hji7] at H; exact H) | (simp only [hji7] at H ⊢; exact H)
    (try rw [hji7] at A3)
    (try rw [hji7] at A5)
    (try rw [hji7] at A6)
    have hji7_ : (if t314 < t313 then t314 else t313) = ji7 := hji7
    obtain ⟨ji8, hji8⟩ : ∃ j_ : Int, (mx t313 t314) = j_ := ⟨_, rfl⟩
    replace H : ((trig_Root.f k (wrap64 ((ji7) * (ji7))) (wrap64 ((ji8) * (ji8)))).bind fun bt315 => (if bt315.2.2 = 0 then (some (bt315.1 == (ji7) && (bt315.2.1 == (ji8)))) else (none))) = some r := by first | (rw [hji8] at H; exact H) | (simp only [hji8] at H ⊢; exact H)
    (try rw [hji8] at A3)
    (try rw [hji8] at A5)
    (try rw [hji8] at A6)
    have hji8_ : (if t313 < t314 then t314 else t313) = ji8 := hji8
    replace H := Option.bind_eq_some_iff.mp H
    obtain ⟨⟨t315, t316, t317⟩, A90, H⟩ := H
    replace H : (if t317 = 0 then (some (t315 == (ji7) && (t316 == (ji8)))) else (none)) = some r := H
    have A9 := Aside0.mk A90
    clear A90
    by_cases c10 : t317 = 0
    · rw [if_pos c10] at H
      have c10b0 : (t317 == 0) = true := beq_iff_eq.mpr c10
      have c10b1 : (t317 != 0) = false := bne_eq_false_iff_eq.mpr c10
      clear c10
      obtain rfl := Option.some.inj H
      go_enter Try.func11, Try.ntmps11
      go_wp2_with (first | ((with_reducible refine gate_callee (f := 33) rfl ?_); refine goesL_ (some 9) rfl rfl Try.func33 (by kernel_rfl) rfl #[] rfl (by (try simp only [List.map_toArray, List.map_cons, List.map_nil]); first | done | rfl | (simp only [List.length_drop, List.length_take]; rfl)) ?_; (with_reducible refine (ephemeriskeep2_trigWorks.calls k  true _ A3.out).mono ?_); rintro e w11 ⟨rfl, hb⟩; refine ⟨_, rfl, ?_⟩; have n0_ := Aside0.mk (below_step (by repeat (first | (with_reducible first | exact HB.out | apply below_alloc | apply pw_below_drewN | apply below_drew1) | exact HB.out)) hb); clear HB; have HB := n0_; clear n0_; (try clear hb); (try clear hb2); (try clear hk); (try clear hi)) | ((with_reducible refine gate_callee (f := 20) rfl ?_); refine goesL_ (some 12) rfl rfl Try.func20 (by kernel_rfl) rfl #[.int .i64 a0, .int .i64 1000000000] rfl (by (try simp only [List.map_toArray, List.map_cons, List.map_nil]); first | done | rfl | (simp only [List.length_drop, List.length_take]; rfl)) ?_; (with_reducible refine (ephemeriskeep2_at.calls a0 1000000000 t313 _ A5.out).mono ?_); rintro e w' ⟨rfl, ⟨nd, rfl⟩⟩; refine ⟨_, rfl, ?_⟩; (try (rw [drewN_self w11]; generalize hq_ : World.drewN w11 _ = w11; have n0_ : Aside0 (Below w.heap.size w w11) := ⟨by rw [← hq_]; exact (by repeat (first | (with_reducible first | exact HB.out | apply below_alloc | apply pw_below_drewN | apply below_drew1) | exact HB.out))⟩; clear HB hq_; have HB := n0_; clear n0_))) | ((with_reducible refine gate_callee (f := 20) rfl ?_); refine goesL_ (some 14) rfl rfl Try.func20 (by kernel_rfl) rfl #[.int .i64 a1, .int .i64 1000000000] rfl (by (try simp only [List.map_toArray, List.map_cons, List.map_nil]); first | done | rfl | (simp only [List.length_drop, List.length_take]; rfl)) ?_; (with_reducible refine (ephemeriskeep2_at.calls a1 1000000000 t314 _ A6.out).mono ?_); rintro e w' ⟨rfl, ⟨nd, rfl⟩⟩; refine ⟨_, rfl, ?_⟩; (try (rw [drewN_self w11]; generalize hq_ : World.drewN w11 _ = w11; have n0_ : Aside0 (Below w.heap.size w w11) := ⟨by rw [← hq_]; exact (by repeat (first | (with_reducible first | exact HB.out | apply below_alloc | apply pw_below_drewN | apply below_drew1) | exact HB.out))⟩; clear HB hq_; have HB := n0_; clear n0_))) | ((with_reducible refine gate_callee (f := 35) rfl ?_); refine goesL_ (some 29) rfl rfl Try.func35 (by kernel_rfl) rfl #[.agg #[.int .i64 (wrap64 ((ji7) * (ji7))), .int .i64 (wrap64 ((ji8) * (ji8)))]] rfl (by (try simp only [List.map_toArray, List.map_cons, List.map_nil]); first | done | (simp only [hji7, hji8]; rfl) | rfl | (simp only [List.length_drop, List.length_take]; rfl)) ?_; (with_reducible refine (trig_Root.calls k (wrap64 ((ji7) * (ji7))) (wrap64 ((ji8) * (ji8))) t315 t316 t317 _ A9.out).mono ?_); rintro e w12 ⟨rfl, hb⟩; refine ⟨_, rfl, ?_⟩; have n0_ := Aside0.mk (below_step (by repeat (first | (with_reducible first | exact HB.out | apply below_alloc | apply pw_below_drewN | apply below_drew1) | exact HB.out)) hb); clear HB; have HB := n0_; clear n0_; (try clear hb); (try clear hb2); (try clear hk); (try clear hi)) | ((with_reducible refine gate_dst (N := 7) rfl ?_); refine box_event ?hg (N := 7) ?hd (cs := #[.int .i64 0, .int .i64 0]) (t := 23) ?hr ?_; (case hd => rfl); (case hg => rfl); (case hr => first | (go_simp; done) | (go_simp; rfl)); intro gb318 hg w13 hbox hb; have n0_ := Aside0.mk (below_step (by repeat (first | (with_reducible first | exact HB.out | apply below_alloc | apply pw_below_drewN | apply below_drew1) | exact HB.out)) hb); have n1_ := Aside0.mk (hbox); have n2_ := Aside0.mk ((by rw [hg]; exact (below_size (by repeat (first | (with_reducible first | exact HB.out | apply below_alloc | apply pw_below_drewN | apply below_drew1) | exact HB.out))) : w.heap.size ≤ gb318)); have n3_ := Aside0.mk ((by rw [hg]; exact (below_size (by repeat (first | (with_reducible first | exact HB.out | apply below_alloc | apply pw_below_drewN | apply below_drew1) | exact HB.out))) : w.heap.size ≤ gb318)); clear HB; have HB := n0_; have BK318 := n1_; have GW318 := n2_; have GE318 := n3_; clear n0_ n1_ n2_ n3_; clear hb hbox hg; have hcz14_0 : w13.cell? ⟨gb318, 0, none⟩ = some (.int .i64 0) := (blk_cell BK318.out 0).trans rfl; have hcz14_1 : w13.cell? ⟨gb318, 1, none⟩ = some (.int .i64 0) := (blk_cell BK318.out 1).trans rfl; have hfz14_0 := blk_frozen BK318.out 0; have hfz14_1 := blk_frozen BK318.out 1))
      go_ret
      exact ⟨by first | rfl | (simp [errW_none, errW_some] <;> rfl) | (simp only [← hji7, ← hji8]; first | rfl | (simp [errW_none, errW_some] <;> rfl)) | (simp [*, errW_none, errW_some] <;> rfl), by repeat (first | (with_reducible first | exact HB.out | apply below_alloc | apply pw_below_drewN | apply below_drew1 | refine below_set ?_ GE318.out) | exact HB.out)⟩
    · rw [if_neg c10] at H
      exact absurd H (by simp)
  · replace c4 := Bool.eq_false_iff.mpr c4
    subst c4
    have H1 : (none) = some r := by rw [if_neg (show ¬ (false = true) by decide)] at H; exact H
    clear H
    have H := H1
    clear H1
    exact absurd H (by simp)

theorem ephemeriskeep2_TrigRootSquares.walk (P : ephemeriskeep2_TrigRootSquares.Pure) (a0 : Int) (a1 : Int) (w : World) (w0 : (Lit.int .i64 a0).wf = true) (w1 : (Lit.int .i64 a1).wf = true) :
    Calls Try.prog 11 #[.int .i64 a0, .int .i64 a1] w fun e w' => e = .returned (.bool true) ∧ Below w.heap.size w w' := by
  obtain ⟨k, h⟩ := P a0 a1 w0 w1
  refine (ephemeriskeep2_TrigRootSquares.calls k a0 a1 true w h).mono ?_
  rintro e w' ⟨rfl, hd⟩
  exact ⟨rfl, hd⟩

end Go.Proofs.Ytigolfomfpmodaa.JT
