-- Made by a program of this session (wip/hp.py, over the kit's print) out of the translation. Not trusted: Lean checks it.
import Derived.Test.YtgmjgnojjbajdaaDoorRows
import Derived.Test.YtgmjgnojjbajdaaDoorJRx24
import Derived.Test.YtgmjgnojjbajdaaDoorPureStarmapRound
import Derived.Test.YtgmjgnojjbajdaaDoorAopen
import Derived.Test.YtgmjgnojjbajdaaDoorWAllR
import Derived.WalkKit
import Derived.ProofKit
import Derived.OpenShut
import Derived.ShutString
import Derived.ChangeOld
import Derived.Below
import Derived.SizedLaws
import Derived.LaidMore
import Derived.LaidLaws
import Derived.MakeChecks
import Derived.Handed
import Derived.Stop.Joined
import Derived.Stop.LaidErr
import Derived.SevenTiedAt
import Derived.Test.YtgmjgnojjbajdaaDoorCards
import Derived.Test.YtgmjgnojjbajdaaDoorTie
namespace Go.Proofs.YtgmjgnojjbajdaaDoor.starmapRound
open Go.ChangeShapes Go.WideShapes Go.ChangeAt Go.RowKit Go.Proofs.YtgmjgnojjbajdaaDoorW.PrintWords Go.Proofs.YtgmjgnojjbajdaaDoor.JR
open Go.ChangeMaps (open_string shut_string)
set_option linter.unusedVariables false
theorem own : ownKnob Tryd.prog.godebug = none := by kernel_rfl
theorem laidOut : laidOutB Tryd.prog = true := by kernel_rfl
theorem ints_T41 {H : Type} {enc : TypeId × Value → H} {w : World} {base : Nat} {spare : Nat → Bool} {held : Bool} {fuel : Nat} {cs : List Value} {y : DataW H × List MemPlace}
    (h : DataW.trod enc Tryd.prog w base spare held fuel 41 cs = some y) : Open.Ints 2 cs := by
  have hc : Tryd.prog.cellsOf 41 = 2 := by kernel_rfl
  have h3 : Tryd.prog.cellsOf 3 = 1 := by kernel_rfl
  rw [← hc]
  refine Open.ints_struct Tryd.underlying41 (fun i hi => ?_) (fun j f hj => ?_) h
  · rw [hc] at hi
    match i, hi with
    | 0, _ => exact ⟨0, _, rfl, by decide, by simp [h3]⟩
    | 1, _ => exact ⟨1, _, rfl, by decide, by simp [h3]⟩
  · match j, hj with
    | 0, hj =>
      simp at hj
      subst hj
      intro fuel cs y hy
      rw [h3]
      exact Open.ints_int Tryd.underlying3 hy
    | 1, hj =>
      simp at hj
      subst hj
      intro fuel cs y hy
      rw [h3]
      exact Open.ints_int Tryd.underlying3 hy
    | j + 2, hj => simp at hj
theorem door_met (os : Os) (args : Array Value) : laidMetH Tryd.prog Rows.starmapRoundRow.laid ((World.doorLaid Tryd.prog 400 os).forCall (fun _ _ => 0) ⟨#[], args, []⟩).memory :=
  laidMetH_of_parts3 (fuel := 8) (laidMet_of_run' 8 (by kernel_rfl) (by kernel_rfl)) (by kernel_rfl) (by kernel_rfl)
theorem tab_of {W : World} (h : laidMetH Tryd.prog Rows.starmapRoundRow.laid W) : Tab_ W := by
  rw [MakeChecks.laidMetH_plain _ _ _ (by kernel_rfl)] at h
  exact tab_head_ h
set_option maxRecDepth 100000 in
theorem lifted (os : Os) (started : os.Started) (H : Type) (enc : TypeId × Value → H) :
    ReturnsInHanded {} Tryd.checked os 6 .any (fun w args => (Rows.starmapRoundSpec.pre enc Tryd.prog Tryd.f6 Rows.starmapRoundRow.domain false w args ∧ laidMetH Tryd.prog Rows.starmapRoundRow.laid w) ∧ sizedMet enc Tryd.prog Tryd.f6 (OpenSpec.ofChange Rows.starmapRoundSpec) false w args) (Rows.starmapRoundSpec.post enc Tryd.prog Tryd.f6 false true false false) := by
  refine returnsInHanded_of_change_and (C := Tryd.checked) (X := fun w _ => laidMetH Tryd.prog Rows.starmapRoundRow.laid w) (fun _ _ _ hh h => h.of_heap hh) own started (by kernel_rfl) Tryd.func6
    (ChangeSpec.witness_shaped (enc := enc) (C := Tryd.checked) (os := os) (X := fun w _ => laidMetH Tryd.prog Rows.starmapRoundRow.laid w) false (World.doorLaid Tryd.prog 400 os) #[.agg #[.int .i64 0, .int .i64 0], .int .i64 0] 8 rfl (World.shaped_of_RefB (by kernel_rfl) (by kernel_rfl)) (by kernel_rfl) (by kernel_rfl) (by kernel_rfl) (door_met os _)) ?_
  intro W base args ds gs before hval0 hW hcnd hsz0 hL _
  have ht_ : Aside0 (Tab_ W) := ⟨tab_of hL⟩
  have hsz : (DataW.weightsEach Tryd.prog (Tryd.f6.params.toList ++ Rows.starmapRoundSpec.plain.varTypes Tryd.prog) (ds ++ gs)).all (· ≤ reachBytes) = true := hsz0
  have hval : ∀ (j : Nat) t v, Tryd.f6.params[j]? = some t → args[j]? = some v → Value.okWide Tryd.prog W .any base t v := hval0
  have hW' := hW
  obtain ⟨p, q, hA0, hV, rfl, hfz, hnd⟩ := hW
  have hA : DataW.TrodAll enc Tryd.prog W 0 (fun _ => true) true Tryd.f6.params.toList args.toList ds p := hA0
  rw [Tryd.params6] at hA hval hsz
  obtain ⟨v0, vs0, d0, ds0, p0, q0, hargs, rfl, rfl, h0, r0⟩ := trodAll_cons hA
  obtain ⟨v1, vs1, d1, ds1, p1, q1, rfl, rfl, rfl, h1, r1⟩ := trodAll_cons r0
  obtain ⟨rfl, rfl, rfl⟩ := trodAll_nil r1
  obtain rfl : args = #[v0, v1] := by cases args; simp_all
  obtain ⟨rfl, rfl⟩ := trodVars_none hV
  have k0 := h0
  have lt0 : ∀ x ∈ p0, x.block < W.heap.size := by obtain ⟨m, hm⟩ := k0; exact DataW.trod_lt m _ _ _ hm
  obtain ⟨cs0, rfl, hs0⟩ := okWide_struct Tryd.underlying41 (hval 0 41 v0 rfl rfl)
  obtain ⟨fu0, hf0⟩ := h0
  obtain ⟨a0_0, a0_1, he0, wa0_0, wa0_1⟩ := Open.ints2 (ints_T41 hf0)
  obtain ⟨cl0⟩ := cs0
  simp only [Value.cells] at he0
  subst he0
  obtain ⟨a1, rfl, rfl, rfl, w1⟩ := open_int Tryd.underlying3 (hval 1 3 v1 rfl rfl) h1
  clear hA0 hval0 hsz0 hsz
  obtain ⟨kk, hh⟩ := Pure.StarmapRound a0_0 a0_1 a1 wa0_0 wa0_1 w1
  refine (ephemeriskeep2_StarmapRound.calls kk a0_0 a0_1 a1 true W  hh ht_).mono fun e W' h_ => ?_
  obtain ⟨he, bel0⟩ := h_
  have bel : Below W.heap.size W W' := bel0
  subst he
  exact ⟨_, rfl, _, _, _, [], _, [], hW', trodAll_mk1 (shut_bool Tryd.underlying4 _), (trodAll_cons_mk (Below.trod laidOut (by kernel_rfl) (of_decide_eq_true (by kernel_rfl)) k0 bel lt0) (trodAll_cons_mk (shut_int Tryd.underlying3 w1) trodAll_mk0)), rfl, bel.frame _, fun h => by cases h⟩
theorem over : Rows.starmapRoundRow.holds Tryd.pinned (OpenSpec.ofChange Rows.starmapRoundSpec) :=
  OpenClaim.holds_of_wide 6 Tryd.f6 rfl rfl rfl rfl rfl rfl rfl ⟨rfl, rfl, rfl, rfl, rfl⟩ rfl rfl rfl rfl rfl (by kernel_rfl) Tryd.func6 (by kernel_rfl)
    (of_decide_eq_true (by kernel_rfl)) (by unfold Func.isWrapper; first | (rw [if_pos (by decide +kernel)]; kernel_rfl) | (rw [if_neg (by decide +kernel)]; exact ⟨rfl, rfl⟩))
    (fun os started H enc _ => lifted os started H enc)
theorem proved : Rows.StarmapRoundSaid := over
theorem card : Rows.StarmapRoundCardSaid :=
  Claim7.holds_tied_plain_at .later [] [.data] true (true, "eb5a02885aa1b4484924ee34ea3f26b435c971641dcf2311b4272ff74f28acc6") false
    proved (fun _ h => by cases h) (by kernel_rfl) (fun _ h => by cases h) starmapRound_row_tie rfl ⟨rfl, rfl⟩ (by kernel_rfl) rfl
    (fun f fn hf hfn => by
      obtain rfl : f = 6 := Option.some.inj ((show Tryd.prog.funcNamed "ephemeris/ephemeriskeep2.StarmapRound" = some 6 by kernel_rfl).symm.trans hf) |>.symm
      obtain rfl : fn = Tryd.f6 := (Option.some.inj (Tryd.func6.symm.trans hfn)).symm
      refine ⟨by kernel_rfl, fun j t ht => ?_⟩
      rw [Tryd.params6] at ht
      have hall : (([41, 3] : List TypeId).all fun t => !Tryd.prog.wantsStandIn t) = true := by kernel_rfl
      have hm : t ∈ ([41, 3] : List TypeId) := List.mem_of_getElem? (i := j) (by simpa using ht)
      have hz := List.all_eq_true.1 hall t hm
      have hy : Tryd.prog.wantsStandIn t = false := by simpa using hz
      exact hy)
    (by kernel_rfl)
#print axioms card
end Go.Proofs.YtgmjgnojjbajdaaDoor.starmapRound
namespace Go.Proofs.YtgmjgnojjbajdaaDoor
/-- The tied card, under a short name, for the claim. -/
theorem starmapRound_holds : Rows.StarmapRoundCardSaid := starmapRound.card
end Go.Proofs.YtgmjgnojjbajdaaDoor
