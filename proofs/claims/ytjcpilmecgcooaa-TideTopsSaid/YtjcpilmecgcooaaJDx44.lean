-- Made by a program of this session (wip/hp.py, over the kit's print) out of the translation. Not trusted: Lean checks it.
import Derived.Test.YtjcpilmecgcooaaJDx0
import Derived.Test.YtjcpilmecgcooaaJDx2
import Derived.Test.YtjcpilmecgcooaaJDx24
import Derived.Test.YtjcpilmecgcooaaJDx41
import Derived.Test.YtjcpilmecgcooaaJDx43
namespace Go.Proofs.Ytjcpilmecgcooaa.JD
open Go.RowKit Go.Proofs.YtjcpilmecgcooaaW.PrintWords Go.Proofs.YtjcpilmecgcooaaW.PrintLast Go.Proofs.YtjcpilmecgcooaaW.PrintMore
attribute [local go_sem] max2_int min2_int max_two min_two max_three min_three max_four min_four   -- for this text's walks alone
set_option linter.unusedVariables false
set_option linter.unusedSimpArgs false

/-! ### ephemeriskeep2_tideWorks: function 27 -/
set_option maxHeartbeats 8000000 in
set_option maxRecDepth 100000 in
theorem ephemeriskeep2_tideWorks.calls (k : Nat)  (r : Bool) (w : World) (h : ephemeriskeep2_tideWorks.f k  = some r) :
    Calls Try.prog 27 #[] w fun e w' => e = .returned (.bool r) ∧ Below w.heap.size w w' := by
  have hu48 := Try.underlying48
  have hu29 := Try.underlying29
  have HB := Aside0.mk (Below.refl w.heap.size w)
  have H : ((some (([(⟨1000, 0, 2000000000000000⟩ : S48)] : List (S48)) : List (S48))).bind fun y462 => ((tide_Height.f k y462 0).bind fun bt465 => ((tide_High.f k y462 32400000 54000000).bind fun bt469 => (if bt465.2.2 = 0 then ((ephemeriskeep2_has.f bt465.1 bt465.2.1 1000 2).bind fun t473 => (if t473 = true then (if bt469.2 = 0 then (if (bt469.1.length : Int) = 1 then (if 0 < (bt469.1.length : Int) then ((ephemeriskeep2_has.f ((rd_T29 bt469.1 0).f0) ((rd_T29 bt469.1 0).f1) 43200000 7200000).bind fun t475 => (some t475)) else (none)) else (none)) else (none)) else (none))) else (none))))) = some r := h
  clear h
  obtain ⟨y462, hy462⟩ : ∃ y_ : List (S48), y_ = (([(⟨1000, 0, 2000000000000000⟩ : S48)] : List (S48))) := ⟨_, rfl⟩
  replace H : ((tide_Height.f k y462 0).bind fun bt465 => ((tide_High.f k y462 32400000 54000000).bind fun bt469 => (if bt465.2.2 = 0 then ((ephemeriskeep2_has.f bt465.1 bt465.2.1 1000 2).bind fun t473 => (if t473 = true then (if bt469.2 = 0 then (if (bt469.1.length : Int) = 1 then (if 0 < (bt469.1.length : Int) then ((ephemeriskeep2_has.f ((rd_T29 bt469.1 0).f0) ((rd_T29 bt469.1 0).f1) 43200000 7200000).bind fun t475 => (some t475)) else (none)) else (none)) else (none)) else (none))) else (none)))) = some r := by first | (rw [hy462]; with_reducible exact H) | (have H2_ := (Option.bind_some _ _).symm.trans H; rw [hy462]; with_reducible exact H2_) | (have H2_ := (Option.bind_some _ _).symm.trans H; with_reducible exact H2_) | with_reducible exact H | (rw [hy462]; exact H) | exact H
  have Ny462 := Aside0.mk hy462
  clear hy462
  replace H := Option.bind_eq_some_iff.mp H
  obtain ⟨⟨t465, t466, t467⟩, A10, H⟩ := H
  replace H : ((tide_High.f k y462 32400000 54000000).bind fun bt469 => (if t467 = 0 then ((ephemeriskeep2_has.f t465 t466 1000 2).bind fun t473 => (if t473 = true then (if bt469.2 = 0 then (if (bt469.1.length : Int) = 1 then (if 0 < (bt469.1.length : Int) then ((ephemeriskeep2_has.f ((rd_T29 bt469.1 0).f0) ((rd_T29 bt469.1 0).f1) 43200000 7200000).bind fun t475 => (some t475)) else (none)) else (none)) else (none)) else (none))) else (none))) = some r := H
  have A1 := Aside0.mk A10
  clear A10
  replace H := Option.bind_eq_some_iff.mp H
  obtain ⟨⟨t469, t470⟩, A20, H⟩ := H
  replace H : (if t467 = 0 then ((ephemeriskeep2_has.f t465 t466 1000 2).bind fun t473 => (if t473 = true then (if t470 = 0 then (if (t469.length : Int) = 1 then (if 0 < (t469.length : Int) then ((ephemeriskeep2_has.f ((rd_T29 t469 0).f0) ((rd_T29 t469 0).f1) 43200000 7200000).bind fun t475 => (some t475)) else (none)) else (none)) else (none)) else (none))) else (none)) = some r := H
  have A2 := Aside0.mk A20
  clear A20
  by_cases c3 : t467 = 0
  · rw [if_pos c3] at H
    have c3b0 : (t467 == 0) = true := beq_iff_eq.mpr c3
    have c3b1 : (t467 != 0) = false := bne_eq_false_iff_eq.mpr c3
    clear c3
    replace H := Option.bind_eq_some_iff.mp H
    obtain ⟨t473, A40, H⟩ := H
    replace H : (if t473 = true then (if t470 = 0 then (if (t469.length : Int) = 1 then (if 0 < (t469.length : Int) then ((ephemeriskeep2_has.f ((rd_T29 t469 0).f0) ((rd_T29 t469 0).f1) 43200000 7200000).bind fun t475 => (some t475)) else (none)) else (none)) else (none)) else (none)) = some r := H
    have A4 := Aside0.mk A40
    clear A40
    by_cases c5 : t473 = true
    · subst c5
      have H1 : (if t470 = 0 then (if (t469.length : Int) = 1 then (if 0 < (t469.length : Int) then ((ephemeriskeep2_has.f ((rd_T29 t469 0).f0) ((rd_T29 t469 0).f1) 43200000 7200000).bind fun t475 => (some t475)) else (none)) else (none)) else (none)) = some r := by rw [if_pos rfl] at H; exact H
      clear H
      have H := H1
      clear H1
      by_cases c6 : t470 = 0
      · rw [if_pos c6] at H
        have c6b0 : (t470 == 0) = true := beq_iff_eq.mpr c6
        have c6b1 : (t470 != 0) = false := bne_eq_false_iff_eq.mpr c6
        clear c6
        by_cases c7 : (t469.length : Int) = 1
        · rw [if_pos c7] at H
          have c7b0 : ((t469.length : Int) == 1) = true := beq_iff_eq.mpr c7
          have c7b1 : ((t469.length : Int) != 1) = false := bne_eq_false_iff_eq.mpr c7
          clear c7
          by_cases c8 : 0 < (t469.length : Int)
          · rw [if_pos c8] at H
            have c8b0 : decide (0 < (t469.length : Int)) = true := decide_eq_true c8
            have c8b1 : decide (0 < t469.length) = true := decide_eq_true (by omega)
            clear c8
            replace H := Option.bind_eq_some_iff.mp H
            obtain ⟨t475, A90, H⟩ := H
            replace H : (some t475) = some r := H
            have A9 := Aside0.mk A90
            clear A90
            obtain rfl := Option.some.inj H
            go_enter Try.func27, Try.ntmps27
            go_wp2_with (first | ((with_reducible refine gate_dst (N := 7) rfl ?_); (try (refine gate_guard (by rfl) ?_; dsimp only)); refine Kd.R_lit k48 _ 48 ?hg (N := 7) ?hd (xs := ([(⟨1000, 0, 2000000000000000⟩ : S48)] : List (S48))) (inner := [.int .i64 1000, .int .i64 0, .int .i64 2000000000000000]) (ok := fun _ => True) (okp := fun _ => True) ?hr ?hp (fun _ hk => hk) trivial (Below.refl _ _) (Nat.le_refl _) (by simp) ?_; (case hd => rfl); (case hg => rfl); (case hr => first | (go_simp; done) | (go_simp; rfl)); (case hp => exact (Reps.c3 (show Kd.M k48 _ _ _ (⟨1000, 0, 2000000000000000⟩ : S48) [.int .i64 1000, .int .i64 0, .int .i64 2000000000000000] from (k48_mkM _ _ _ (⟨1000, 0, 2000000000000000⟩ : S48) )) (Reps.none _ _))); intro v463 w10 ho11 hb hg_ hnew_; clear hg_ hnew_; (first | rw [← Ny462.out] at ho11 | (simp only [Int.reduceToNat] at ho11; rw [← Ny462.out] at ho11)); have n0_ := Aside0.mk (Kd.R_lower ho11 (below_size (by repeat (first | (with_reducible first | exact HB.out | apply below_alloc | apply pw_below_drewN | apply below_drew1) | exact HB.out)))); have n1_ := Aside0.mk (below_step (by repeat (first | (with_reducible first | exact HB.out | apply below_alloc | apply pw_below_drewN | apply below_drew1) | exact HB.out)) hb); clear HB; have HO464 := n0_; have HB := n1_; clear n0_ n1_; clear hb ho11; obtain ⟨Ao12, co12, eo12⟩ := Kd.R_slice HO464.out; subst eo12) | ((with_reducible refine gate_callee (f := 29) rfl ?_); refine goesL_ (some 10) rfl rfl Try.func29 (by kernel_rfl) rfl #[.slice Ao12 y462.length co12, .int .i64 0] rfl (by (try simp only [List.map_toArray, List.map_cons, List.map_nil]); first | done | rfl | (simp only [List.length_drop, List.length_take]; rfl)) ?_; (with_reducible refine (tide_Height.calls k _ _ y462 0 t465 t466 t467 _ ?side1 ?side2 A1.out).mono ?_); (case side1 => repeat (first | exact (Kd.R_reads' HO464.out).2.2 | (with_reducible refine Kd.C_alloc ?_ _) | (with_reducible refine Kd.C_drewN ?_ _) | (with_reducible refine Kd.C_drew ?_))); (case side2 => exact (Kd.R_reads' HO464.out).2.1); rintro e w13 ⟨rfl, hb⟩; refine ⟨_, rfl, ?_⟩; have n0_ := Aside0.mk (Kd.R_below (by (with_reducible repeat (first | apply Kd.R_alloc | apply Kd.R_drewN | apply Kd.R_drew)); exact HO464.out) hb); have n1_ := Aside0.mk (below_step (by repeat (first | (with_reducible first | exact HB.out | apply below_alloc | apply pw_below_drewN | apply below_drew1) | exact HB.out)) hb); clear HO464; clear HB; have HO464 := n0_; have HB := n1_; clear n0_ n1_; (try clear hb); (try clear hb2); (try clear hk); (try clear hi)) | ((with_reducible refine gate_dst (N := 2) rfl ?_); (try (refine gate_guard (by rfl) ?_; dsimp only)); refine box_event ?hg (N := 2) ?hd (cs := #[.int .i64 0, .int .i64 0]) (t := 29) ?hr ?_; (case hd => rfl); (case hg => rfl); (case hr => first | (go_simp; done) | (go_simp; rfl)); intro gb468 hg w14 hbox hb; have n0_ := Aside0.mk (Kd.R_below (by (with_reducible repeat (first | apply Kd.R_alloc | apply Kd.R_drewN | apply Kd.R_drew)); exact HO464.out) hb); have n1_ := Aside0.mk (below_step (by repeat (first | (with_reducible first | exact HB.out | apply below_alloc | apply pw_below_drewN | apply below_drew1) | exact HB.out)) hb); have n2_ := Aside0.mk (hbox); have n3_ := Aside0.mk ((by rw [hg]; exact (below_size (by repeat (first | (with_reducible first | exact HB.out | apply below_alloc | apply pw_below_drewN | apply below_drew1) | exact HB.out))) : w.heap.size ≤ gb468)); have n4_ := Aside0.mk ((by rw [hg]; exact (below_size (by repeat (first | (with_reducible first | exact HB.out | apply below_alloc | apply pw_below_drewN | apply below_drew1) | exact HB.out))) : w.heap.size ≤ gb468)); clear HO464; clear HB; have HO464 := n0_; have HB := n1_; have BK468 := n2_; have GW468 := n3_; have GE468 := n4_; clear n0_ n1_ n2_ n3_ n4_; clear hb hbox hg; have hcz15_0 : w14.cell? ⟨gb468, 0, none⟩ = some (.int .i64 0) := (blk_cell BK468.out 0).trans rfl; have hcz15_1 : w14.cell? ⟨gb468, 1, none⟩ = some (.int .i64 0) := (blk_cell BK468.out 1).trans rfl; have hfz15_0 := blk_frozen BK468.out 0; have hfz15_1 := blk_frozen BK468.out 1) | ((with_reducible refine gate_callee (f := 30) rfl ?_); refine goesL_ (some 15) rfl rfl Try.func30 (by kernel_rfl) rfl #[.slice Ao12 y462.length co12, .int .i64 32400000, .int .i64 54000000] rfl (by (try simp only [List.map_toArray, List.map_cons, List.map_nil]); first | done | rfl | (simp only [List.length_drop, List.length_take]; rfl)) ?_; (with_reducible refine (tide_High.calls k _ _ y462 32400000 54000000 t469 t470 _ ?side1 ?side2 A2.out).mono ?_); (case side1 => refine (Kd.R_reads' (e := 48) (base := w.heap.size) (ok := fun k_ => True) (n := y462.length) (c := co12) ?_).2.2; exact (by (with_reducible repeat (first | apply Kd.R_alloc | apply Kd.R_drewN | apply Kd.R_drew)); exact (Kd.R_mono (Kd.R_far (p := ⟨gb468, 1, none⟩) (Kd.R_far (p := ⟨gb468, 0, none⟩) (Kd.R_types HO464.out BK468.out (by decide)) (fun _ hk => hk.2) (.int .i64 t465)) (fun _ hk => hk.2) (.int .i64 t466)) (fun _ h_ => by first | exact h_.1 | (repeat' (first | exact h_ | exact h_.1 | exact h_.2 | exact h_.1.1 | exact h_.1.2 | exact h_.2.1 | exact h_.2.2 | exact h_.1.1.1 | exact h_.1.1.2 | exact h_.1.2.1 | exact h_.1.2.2 | exact True.intro | apply And.intro)))))); (case side2 => exact (Kd.R_reads' HO464.out).2.1); rintro e w16 ⟨v471, rfl, ho0, hb⟩; refine ⟨_, rfl, ?_⟩; have n0_ := Aside0.mk (Kd.R_below (by (with_reducible repeat (first | apply Kd.R_alloc | apply Kd.R_drewN | apply Kd.R_drew)); exact (Kd.R_mono (Kd.R_far (p := ⟨gb468, 1, none⟩) (Kd.R_far (p := ⟨gb468, 0, none⟩) (Kd.R_types HO464.out BK468.out (by decide)) (fun _ hk => hk.2) (.int .i64 t465)) (fun _ hk => hk.2) (.int .i64 t466)) (fun _ h_ => by first | exact h_.1 | (repeat' (first | exact h_ | exact h_.1 | exact h_.2 | exact h_.1.1 | exact h_.1.2 | exact h_.2.1 | exact h_.2.2 | exact h_.1.1.1 | exact h_.1.1.2 | exact h_.1.2.1 | exact h_.1.2.2 | exact True.intro | apply And.intro))))) hb); have n1_ := Aside0.mk (Kd.R_lower (Kd.R_newB ho0 (g := gb468) (o := .cells #[.int .i64 t465, .int .i64 t466] 29 (0, 0)) (by (with_reducible repeat (first | refine blk_drewN ?_ _ | refine blk_drew ?_ | refine blk_alloc ?_ _)); refine blk_put (cs := #[.int .i64 t465, .int .i64 0]) ?_ 1 _ rfl; (with_reducible repeat (first | refine blk_drewN ?_ _ | refine blk_drew ?_ | refine blk_alloc ?_ _)); refine blk_put (cs := #[.int .i64 0, .int .i64 0]) ?_ 0 _ rfl; (with_reducible repeat (first | refine blk_drewN ?_ _ | refine blk_drew ?_ | refine blk_alloc ?_ _)); exact BK468.out)) (below_size (by repeat (first | (with_reducible first | exact HB.out | apply below_alloc | apply pw_below_drewN | apply below_drew1 | refine below_set ?_ GE468.out) | exact HB.out)))); have n2_ := Aside0.mk (blk_below (g := gb468) (o := .cells #[.int .i64 t465, .int .i64 t466] 29 (0, 0)) (by (with_reducible repeat (first | refine blk_drewN ?_ _ | refine blk_drew ?_ | refine blk_alloc ?_ _)); refine blk_put (cs := #[.int .i64 t465, .int .i64 0]) ?_ 1 _ rfl; (with_reducible repeat (first | refine blk_drewN ?_ _ | refine blk_drew ?_ | refine blk_alloc ?_ _)); refine blk_put (cs := #[.int .i64 0, .int .i64 0]) ?_ 0 _ rfl; (with_reducible repeat (first | refine blk_drewN ?_ _ | refine blk_drew ?_ | refine blk_alloc ?_ _)); exact BK468.out) hb); have n3_ := Aside0.mk (below_step (by repeat (first | (with_reducible first | exact HB.out | apply below_alloc | apply pw_below_drewN | apply below_drew1 | refine below_set ?_ GE468.out) | exact HB.out)) hb); clear HO464; clear BK468; clear HB; have HO464 := n0_; have HO472 := n1_; have BK468 := n2_; have HB := n3_; clear n0_ n1_ n2_ n3_; (try clear hb); (try clear hb2); (try clear hk); (try clear hi); (try clear ho0); have hcz17_0 : w16.cell? ⟨gb468, 0, none⟩ = some (.int .i64 t465) := (blk_cell BK468.out 0).trans rfl; have hcz17_1 : w16.cell? ⟨gb468, 1, none⟩ = some (.int .i64 t466) := (blk_cell BK468.out 1).trans rfl; have hfz17_0 := blk_frozen BK468.out 0; have hfz17_1 := blk_frozen BK468.out 1) | (go_at_call 43; (with_reducible refine (ephemeriskeep2_has.calls t465 t466 1000 2 true _ A4.out).mono ?_); rintro e w18 ⟨rfl, hb⟩; have n0_ := Aside0.mk (Kd.R_below (by (with_reducible repeat (first | apply Kd.R_alloc | apply Kd.R_drewN | apply Kd.R_drew)); exact HO464.out) hb); have n1_ := Aside0.mk (Kd.R_below (by (with_reducible repeat (first | apply Kd.R_alloc | apply Kd.R_drewN | apply Kd.R_drew)); exact HO472.out) hb); have n2_ := Aside0.mk (blk_below (g := gb468) (o := .cells #[.int .i64 t465, .int .i64 t466] 29 (0, 0)) (by (with_reducible repeat (first | refine blk_drewN ?_ _ | refine blk_drew ?_ | refine blk_alloc ?_ _)); exact BK468.out) hb); have n3_ := Aside0.mk (below_step (by repeat (first | (with_reducible first | exact HB.out | apply below_alloc | apply pw_below_drewN | apply below_drew1 | refine below_set ?_ GE468.out) | exact HB.out)) hb); clear HO464; clear HO472; clear BK468; clear HB; have HO464 := n0_; have HO472 := n1_; have BK468 := n2_; have HB := n3_; clear n0_ n1_ n2_ n3_; (try clear hb); (try clear hb2); (try clear hk); (try clear hi); obtain ⟨Ao19, co19, eo19⟩ := Kd.R_slice HO472.out; subst eo19; have p474 : 0 ≤ (0 : Int) := (by omega); have q474 : 0 < (t469.length : Int) := of_decide_eq_true (by first | (with_reducible assumption) | assumption); obtain ⟨ad474, e474, hx474_0, hx474_1⟩ := at_T29 (Kd.R_reads' HO472.out).2.2 0 p474 q474; cases e474; have qi474 : (0 < t469.length) = True := eq_true (by omega); (try rw [show ((0 : Int)).toNat = 0 from rfl] at hx474_0); (try rw [show 0 * 2 = 0 from rfl] at hx474_0); (try rw [Addr.add_zero'] at hx474_0); (try rw [show ((0 : Int)).toNat = 0 from rfl] at hx474_1); (try rw [show 0 * 2 = 0 from rfl] at hx474_1); (try rw [Addr.add_zero'] at hx474_1); replace p474 := eq_true p474; replace q474 := eq_true q474) | (go_at_call 43; (with_reducible refine (ephemeriskeep2_has.calls ((rd_T29 t469 0).f0) ((rd_T29 t469 0).f1) 43200000 7200000 t475 _ A9.out).mono ?_); rintro e w20 ⟨rfl, hb⟩; have n0_ := Aside0.mk (Kd.R_below (by (with_reducible repeat (first | apply Kd.R_alloc | apply Kd.R_drewN | apply Kd.R_drew)); exact HO464.out) hb); have n1_ := Aside0.mk (Kd.R_below (by (with_reducible repeat (first | apply Kd.R_alloc | apply Kd.R_drewN | apply Kd.R_drew)); exact HO472.out) hb); have n2_ := Aside0.mk (blk_below (g := gb468) (o := .cells #[.int .i64 t465, .int .i64 t466] 29 (0, 0)) (by (with_reducible repeat (first | refine blk_drewN ?_ _ | refine blk_drew ?_ | refine blk_alloc ?_ _)); exact BK468.out) hb); have n3_ := Aside0.mk (below_step (by repeat (first | (with_reducible first | exact HB.out | apply below_alloc | apply pw_below_drewN | apply below_drew1 | refine below_set ?_ GE468.out) | exact HB.out)) hb); clear HO464; clear HO472; clear BK468; clear HB; have HO464 := n0_; have HO472 := n1_; have BK468 := n2_; have HB := n3_; clear n0_ n1_ n2_ n3_; (try clear hb); (try clear hb2); (try clear hk); (try clear hi)))
            go_ret
            exact ⟨by first | rfl | (simp [errW_none, errW_some] <;> rfl) | (simp [*, errW_none, errW_some] <;> rfl), by repeat (first | (with_reducible first | exact HB.out | apply below_alloc | apply pw_below_drewN | apply below_drew1 | refine below_set ?_ GE468.out) | exact HB.out)⟩
          · rw [if_neg c8] at H
            exact absurd H (by simp)
        · rw [if_neg c7] at H
          exact absurd H (by simp)
      · rw [if_neg c6] at H
        exact absurd H (by simp)
    · replace c5 := Bool.eq_false_iff.mpr c5
      subst c5
      have H1 : (none) = some r := by rw [if_neg (show ¬ (false = true) by decide)] at H; exact H
      clear H
      have H := H1
      clear H1
      exact absurd H (by simp)
  · rw [if_neg c3] at H
    exact absurd H (by simp)

end Go.Proofs.Ytjcpilmecgcooaa.JD
