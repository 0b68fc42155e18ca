-- Made by a program of this session (wip/hp.py, over the kit's print) out of the translation. Not trusted: Lean checks it.
import Derived.Test.YtgmjgnojjbajdaaDoorJRx0
import Derived.Test.YtgmjgnojjbajdaaDoorJRx1
import Derived.Test.YtgmjgnojjbajdaaDoorStar
namespace Go.Proofs.YtgmjgnojjbajdaaDoor.JR
open Go.RowKit Go.Proofs.YtgmjgnojjbajdaaDoorW.PrintWords Go.Proofs.YtgmjgnojjbajdaaDoorW.PrintLast Go.Proofs.YtgmjgnojjbajdaaDoorW.PrintMore
attribute [local go_sem] max2_int min2_int max_two min_two max_three min_three max_four min_four   -- for this text's walks alone
set_option linter.unusedVariables false
set_option linter.unusedSimpArgs false

/-! ### star_Names: function 9 -/
-- hand
-- body
-- IMPORT Derived.Test.YtgmjgnojjbajdaaDoorStar
-- LAID ephemeris/star.lights
theorem names_take : ∀ k : Nat, k < 8 → (lt_.map fun x => x.1).take (k + 1) = (lt_.map fun x => x.1).take k ++ [(lx_ k).1]
  | 0, _ => rfl
  | 1, _ => rfl
  | 2, _ => rfl
  | 3, _ => rfl
  | 4, _ => rfl
  | 5, _ => rfl
  | 6, _ => rfl
  | 7, _ => rfl
  | k + 8, h => by omega
set_option maxHeartbeats 8000000 in
set_option maxRecDepth 100000 in
theorem star_Names.calls (r : List ByteArray) (w : World) (h : star_Names.f = some r) (ht_ : Aside0 (Tab_ w)) :
    Calls Tryd.prog 9 #[] w fun e w' => ∃ v0_ : Value, e = .returned (v0_) ∧ Kd.R Kd.string 9 w' w.heap.size (fun _ => True) v0_ r ∧ Below w.heap.size w w' := by
  have hu52 := Tryd.underlying52
  obtain rfl := Option.some.inj h
  clear h
  have HB := Aside0.mk (Below.refl w.heap.size w)
  have HO := Aside0.mk (Kd.R_nil Kd.string 9 w w.heap.size (fun _ => True))
  go_enter Tryd.func9, Tryd.ntmps9
  go_wp2_with (first | ((with_reducible refine gate_dst (N := 4) rfl ?_); refine Kd.event_run rfl (ldx_ rfl rfl ht_.out) ?_))
  go_loopw [1, 5] (fun v1 v5 wr => ∃ k : Nat, k ≤ 8 ∧ v5 = .int .i64 (k : Int) ∧ Aside0 (Kd.R Kd.string 9 wr w.heap.size (fun _ => True) v1 ((lt_.map fun x => x.1).take k)) ∧ Aside0 (Below w.heap.size w wr)) (fun _ v5 _ => 8 - (intOf v5).toNat)
  case atStart =>
    exact ⟨0, by omega, rfl, HO, HB⟩
  case round =>
    clear HO HB
    obtain ⟨k, hk, rfl, HO, HB⟩ := hrel
    by_cases c : k < 8
    · have ix_ := ltix_ k c
      have c1 : (k : Int) < 8 := by omega
      have hn := names_take k c
      obtain ⟨xs_, hxs_⟩ : ∃ xs_, xs_ = (lt_.map fun x => x.1).take k := ⟨_, rfl⟩
      rw [← hxs_] at HO hn
      have lx : xs_.length ≤ 8 := by rw [hxs_, List.length_take]; omega
      generalize (lx_ k).1 = n_ at ix_ hn
      generalize (lx_ k).2.1 = r_ at ix_
      generalize (lx_ k).2.2 = d_ at ix_
      go_upto_region 5 with fail
      have n0_ := Aside0.mk (Kd.R_alloc HO.out (.cells #[.string n_, .int .i64 r_, .int .i64 d_] 52 (0, 0)))
      have n1_ := Aside0.mk (below_alloc HB.out (.cells #[.string n_, .int .i64 r_, .int .i64 d_] 52 (0, 0)))
      have n2_ := Aside0.mk (blk_new wr (.cells #[.string n_, .int .i64 r_, .int .i64 d_] 52 (0, 0)))
      clear HO HB ix_
      generalize wr.alloc (.cells #[.string n_, .int .i64 r_, .int .i64 d_] 52 (0, 0)) = w4_ at n0_ n1_ n2_ ⊢
      generalize wr.heap.size = gs_ at n2_ ⊢
      have HO := n0_
      have HB := n1_
      have hz_ : w4_.cell? ⟨gs_, 0, none⟩ = some (.string n_) := (blk_cell n2_.out 0).trans rfl
      go_wp2_with (first | ((with_reducible refine gate_builtin (b := .append) (xs := #[.tmp 8, .tmp 11]) rfl ?_); at_builtin; refine Kd.R_append Kd.string (w0 := w) w.heap.size rfl (.tmp 8) (.tmp 11) 23 9 (.string ByteArray.empty) 16 rfl Tryd.underlying23 (by kernel_rfl) rfl (by decide) (by omega) _ xs_ n_ [.string n_] (fun _ => True) (fun _ => False) rfl rfl ?aP (fun _ hk => hk.elim) ?aF ?aO ?aB ?aS ?aL ?_; (case aP => exact rfl); (case aB => exact (by repeat (first | (with_reducible first | exact HB.out | apply below_alloc | apply pw_below_drewN | apply below_drew1) | exact HB.out))); (case aF => exact (fun _ _ => trivial)); (case aO => exact (by (with_reducible repeat (first | apply Kd.R_alloc | apply Kd.R_drewN | apply Kd.R_drew)); exact HO.out)); (case aS => exact (below_size (by repeat (first | (with_reducible first | exact HB.out | apply below_alloc | apply pw_below_drewN | apply below_drew1) | exact HB.out)))); (case aL => omega); intro v_ w_ ho hb hg hat; rw [← hn] at ho))
      go_roundw
      case rel => exact ⟨k + 1, by omega, by first | rfl | (simp; done) | go_num, ⟨by (with_reducible repeat (first | apply Kd.R_alloc | apply Kd.R_drewN | apply Kd.R_drew)); exact ho⟩, ⟨by repeat (first | exact hb | apply below_alloc | apply pw_below_drewN | apply below_drew1)⟩⟩
      case measure => simp [intOf]; omega
    · have c1 : ¬ (k : Int) < 8 := by omega
      have e8 : k = 8 := by omega
      subst e8
      go_wp2
      go_ret
      exact ⟨_, by first | rfl | (simp; done), by (with_reducible repeat (first | apply Kd.R_alloc | apply Kd.R_drewN | apply Kd.R_drew)); exact HO.out, HB.out⟩

end Go.Proofs.YtgmjgnojjbajdaaDoor.JR
