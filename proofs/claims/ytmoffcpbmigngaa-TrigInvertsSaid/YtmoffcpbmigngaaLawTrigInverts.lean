-- Made by a program of this session (wip/hp.py, over the kit's print) out of the translation. Not trusted: Lean checks it.
import Derived.Test.YtmoffcpbmigngaaRows
import Derived.Test.YtmoffcpbmigngaaJDx24
import Derived.Test.YtmoffcpbmigngaaPureTrigInverts
import Derived.Test.YtmoffcpbmigngaaAopen
import Derived.Test.YtmoffcpbmigngaaWAllD
import Derived.WalkKit
import Derived.ProofKit
import Derived.OpenShut
import Derived.ShutString
import Derived.ChangeOld
import Derived.Below
import Derived.SizedLaws
namespace Go.Proofs.Ytmoffcpbmigngaa.trigInverts
open Go.ChangeShapes Go.WideShapes Go.ChangeAt Go.RowKit Go.Proofs.YtmoffcpbmigngaaW.PrintWords Go.Proofs.Ytmoffcpbmigngaa.JD
open Go.ChangeMaps (open_string shut_string)
set_option linter.unusedVariables false
theorem own : ownKnob Try.prog.godebug = none := by kernel_rfl
theorem laidOut : laidOutB Try.prog = true := by kernel_rfl
theorem ints_T23 {H : Type} {enc : TypeId × Value → H} {w : World} {base : Nat} {spare : Nat → Bool} {held : Bool} {fuel : Nat} {cs : List Value} {y : DataW H × List MemPlace}
    (h : DataW.trod enc Try.prog w base spare held fuel 23 cs = some y) : Open.Ints 2 cs := by
  have hc : Try.prog.cellsOf 23 = 2 := by kernel_rfl
  have h3 : Try.prog.cellsOf 3 = 1 := by kernel_rfl
  rw [← hc]
  refine Open.ints_struct Try.underlying23 (fun i hi => ?_) (fun j f hj => ?_) h
  · rw [hc] at hi
    match i, hi with
    | 0, _ => exact ⟨0, _, rfl, by decide, by simp [h3]⟩
    | 1, _ => exact ⟨1, _, rfl, by decide, by simp [h3]⟩
  · match j, hj with
    | 0, hj =>
      simp at hj
      subst hj
      intro fuel cs y hy
      rw [h3]
      exact Open.ints_int Try.underlying3 hy
    | 1, hj =>
      simp at hj
      subst hj
      intro fuel cs y hy
      rw [h3]
      exact Open.ints_int Try.underlying3 hy
    | j + 2, hj => simp at hj
set_option maxRecDepth 100000 in
theorem lifted (os : Os) (started : os.Started) (H : Type) (enc : TypeId × Value → H) :
    ReturnsInHanded {} Try.checked os 3 .any (Rows.trigInvertsSpec.pre6 enc Try.prog Try.f3 Rows.trigInvertsRow.domain false) (Rows.trigInvertsSpec.post enc Try.prog Try.f3 false true false false) := by
  refine returnsInHanded_of_change_sized (C := Try.checked) own started (by kernel_rfl) Try.func3
    (ChangeSpec.witness6 (enc := enc) (C := Try.checked) false ⟨#[], #[.agg #[.int .i64 0, .int .i64 0]], []⟩ 8 (by kernel_rfl) (by kernel_rfl) (by kernel_rfl) (by kernel_rfl)) ?_
  intro W base args ds gs before hval0 hW hcnd hsz0 _
  have hsz : (DataW.weightsEach Try.prog (Try.f3.params.toList ++ Rows.trigInvertsSpec.plain.varTypes Try.prog) (ds ++ gs)).all (· ≤ reachBytes) = true := hsz0
  have hval : ∀ (j : Nat) t v, Try.f3.params[j]? = some t → args[j]? = some v → Value.okWide Try.prog W .any base t v := hval0
  have hW' := hW
  obtain ⟨p, q, hA0, hV, rfl, hfz, hnd⟩ := hW
  have hA : DataW.TrodAll enc Try.prog W 0 (fun _ => true) true Try.f3.params.toList args.toList ds p := hA0
  rw [Try.params3] at hA hval hsz
  obtain ⟨v0, vs0, d0, ds0, p0, q0, hargs, rfl, rfl, h0, r0⟩ := trodAll_cons hA
  obtain ⟨rfl, rfl, rfl⟩ := trodAll_nil r0
  obtain rfl : args = #[v0] := by cases args; simp_all
  obtain ⟨rfl, rfl⟩ := trodVars_none hV
  have k0 := h0
  have lt0 : ∀ x ∈ p0, x.block < W.heap.size := by obtain ⟨m, hm⟩ := k0; exact DataW.trod_lt m _ _ _ hm
  obtain ⟨cs0, rfl, hs0⟩ := okWide_struct Try.underlying23 (hval 0 23 v0 rfl rfl)
  obtain ⟨fu0, hf0⟩ := h0
  obtain ⟨a0_0, a0_1, he0, wa0_0, wa0_1⟩ := Open.ints2 (ints_T23 hf0)
  obtain ⟨cl0⟩ := cs0
  simp only [Value.cells] at he0
  subst he0
  clear hA0 hval0 hsz0 hsz
  obtain ⟨kk, hh⟩ := Pure.TrigInverts a0_0 a0_1 wa0_0 wa0_1
  refine (ephemeriskeep2_TrigInverts.calls kk a0_0 a0_1 true W  hh).mono fun e W' h_ => ?_
  obtain ⟨he, bel0⟩ := h_
  have bel : Below W.heap.size W W' := bel0
  subst he
  exact ⟨_, rfl, _, _, _, [], _, [], hW', trodAll_mk1 (shut_bool Try.underlying4 _), (trodAll_cons_mk (Below.trod laidOut (by kernel_rfl) (of_decide_eq_true (by kernel_rfl)) k0 bel lt0) trodAll_mk0), rfl, bel.frame _, fun h => by cases h⟩
theorem over : Rows.trigInvertsRow.holds Try.pinned (OpenSpec.ofChange Rows.trigInvertsSpec) :=
  OpenClaim.holds_of_wide 3 Try.f3 rfl rfl rfl rfl rfl rfl rfl ⟨rfl, rfl, rfl, rfl, rfl⟩ rfl rfl rfl rfl rfl (by kernel_rfl) Try.func3 (by kernel_rfl)
    (of_decide_eq_true (by kernel_rfl)) (by unfold Func.isWrapper; first | (rw [if_pos (by decide +kernel)]; kernel_rfl) | (rw [if_neg (by decide +kernel)]; exact ⟨rfl, rfl⟩))
    (fun os started H enc _ => lifted os started H enc)
theorem proved : Rows.TrigInvertsSaid := over
#print axioms proved
end Go.Proofs.Ytmoffcpbmigngaa.trigInverts
namespace Go.Proofs.Ytmoffcpbmigngaa
/-- The row, under a short name, for the claim. -/
theorem trigInverts_holds : Rows.TrigInvertsSaid := trigInverts.proved
end Go.Proofs.Ytmoffcpbmigngaa
