-- Made by a program of this session (wip/hp.py, over the kit's print) out of the translation. Not trusted: Lean checks it.
import Derived.Test.YtoecglgbmhhdnaaRows
import Derived.Test.YtoecglgbmhhdnaaJDx16
import Derived.Test.YtoecglgbmhhdnaaPureDisciplineHonest
import Derived.Test.YtoecglgbmhhdnaaAopen
import Derived.Test.YtoecglgbmhhdnaaWAllD
import Derived.WalkKit
import Derived.ProofKit
import Derived.OpenShut
import Derived.ShutString
import Derived.ChangeOld
import Derived.Below
import Derived.SizedLaws
namespace Go.Proofs.Ytoecglgbmhhdnaa.disciplineHonest
open Go.ChangeShapes Go.WideShapes Go.ChangeAt Go.RowKit Go.Proofs.YtoecglgbmhhdnaaW.PrintWords Go.Proofs.Ytoecglgbmhhdnaa.JD
open Go.ChangeMaps (open_string shut_string)
set_option linter.unusedVariables false
theorem own : ownKnob Try.prog.godebug = none := by kernel_rfl
theorem laidOut : laidOutB Try.prog = true := by kernel_rfl
theorem ints_T34 {H : Type} {enc : TypeId × Value → H} {w : World} {base : Nat} {spare : Nat → Bool} {held : Bool} {fuel : Nat} {cs : List Value} {y : DataW H × List MemPlace}
    (h : DataW.trod enc Try.prog w base spare held fuel 34 cs = some y) : Open.Ints 2 cs := by
  have hc : Try.prog.cellsOf 34 = 2 := by kernel_rfl
  have h3 : Try.prog.cellsOf 3 = 1 := by kernel_rfl
  rw [← hc]
  refine Open.ints_struct Try.underlying34 (fun i hi => ?_) (fun j f hj => ?_) h
  · rw [hc] at hi
    match i, hi with
    | 0, _ => exact ⟨0, _, rfl, by decide, by simp [h3]⟩
    | 1, _ => exact ⟨1, _, rfl, by decide, by simp [h3]⟩
  · match j, hj with
    | 0, hj =>
      simp at hj
      subst hj
      intro fuel cs y hy
      rw [h3]
      exact Open.ints_int Try.underlying3 hy
    | 1, hj =>
      simp at hj
      subst hj
      intro fuel cs y hy
      rw [h3]
      exact Open.ints_int Try.underlying3 hy
    | j + 2, hj => simp at hj
set_option maxRecDepth 100000 in
theorem lifted (os : Os) (started : os.Started) (H : Type) (enc : TypeId × Value → H) :
    ReturnsInHanded {} Try.checked os 5 .any (Rows.disciplineHonestSpec.pre6 enc Try.prog Try.f5 Rows.disciplineHonestRow.domain false) (Rows.disciplineHonestSpec.post enc Try.prog Try.f5 false true false false) := by
  refine returnsInHanded_of_change_sized (C := Try.checked) own started (by kernel_rfl) Try.func5
    (ChangeSpec.witness6 (enc := enc) (C := Try.checked) false ⟨#[], #[.int .i64 0, .int .i64 0, .int .i64 0, .slice none 0 0], []⟩ 8 (by kernel_rfl) (by kernel_rfl) (by kernel_rfl) (by kernel_rfl)) ?_
  intro W base args ds gs before hval0 hW hcnd hsz0 _
  have hsz : (DataW.weightsEach Try.prog (Try.f5.params.toList ++ Rows.disciplineHonestSpec.plain.varTypes Try.prog) (ds ++ gs)).all (· ≤ reachBytes) = true := hsz0
  have hval : ∀ (j : Nat) t v, Try.f5.params[j]? = some t → args[j]? = some v → Value.okWide Try.prog W .any base t v := hval0
  have hW' := hW
  obtain ⟨p, q, hA0, hV, rfl, hfz, hnd⟩ := hW
  have hA : DataW.TrodAll enc Try.prog W 0 (fun _ => true) true Try.f5.params.toList args.toList ds p := hA0
  rw [Try.params5] at hA hval hsz
  obtain ⟨v0, vs0, d0, ds0, p0, q0, hargs, rfl, rfl, h0, r0⟩ := trodAll_cons hA
  obtain ⟨v1, vs1, d1, ds1, p1, q1, rfl, rfl, rfl, h1, r1⟩ := trodAll_cons r0
  obtain ⟨v2, vs2, d2, ds2, p2, q2, rfl, rfl, rfl, h2, r2⟩ := trodAll_cons r1
  obtain ⟨v3, vs3, d3, ds3, p3, q3, rfl, rfl, rfl, h3, r3⟩ := trodAll_cons r2
  obtain ⟨rfl, rfl, rfl⟩ := trodAll_nil r3
  obtain rfl : args = #[v0, v1, v2, v3] := by cases args; simp_all
  obtain ⟨rfl, rfl⟩ := trodVars_none hV
  obtain ⟨a0, rfl, rfl, rfl, w0⟩ := open_int Try.underlying3 (hval 0 3 v0 rfl rfl) h0
  obtain ⟨a1, rfl, rfl, rfl, w1⟩ := open_int Try.underlying3 (hval 1 3 v1 rfl rfl) h1
  obtain ⟨a2, rfl, rfl, rfl, w2⟩ := open_int Try.underlying3 (hval 2 3 v2 rfl rfl) h2
  obtain ⟨A3, len3, c3, rfl⟩ := okWide_slice Try.underlying32 (hval 3 32 v3 rfl rfl)
  have k3 := h3
  have lt3 : ∀ x ∈ p3, x.block < W.heap.size := by obtain ⟨m, hm⟩ := k3; exact DataW.trod_lt m _ _ _ hm
  obtain ⟨l3, hlen3, hr3, hc3, hm3, hw3⟩ := Open.open_row k34 (fun x => (Lit.int .i64 x.f0).wf = true ∧ (Lit.int .i64 x.f1).wf = true) Try.underlying32 (by kernel_rfl) (fun fuel cs y hy => by obtain ⟨a, b, rfl, ha, hb⟩ := Open.ints2 (ints_T34 hy); exact ⟨(⟨a, b⟩ : S34), k34_mk W (⟨a, b⟩ : S34), ha, hb⟩) h3
  subst hlen3
  clear hA0 hval0 hsz0 hsz
  have hh := Pure.DisciplineHonest a0 a1 a2 l3 w0 w1 w2 hm3 hw3
  refine (ephemeriskeep2_DisciplineHonest.calls a0 a1 a2 _ _ l3 true W hr3 hc3 hh).mono fun e W' h_ => ?_
  obtain ⟨he, bel0⟩ := h_
  have bel : Below W.heap.size W W' := bel0
  subst he
  exact ⟨_, rfl, _, _, _, [], _, [], hW', trodAll_mk1 (shut_bool Try.underlying4 _), (trodAll_cons_mk (shut_int Try.underlying3 w0) (trodAll_cons_mk (shut_int Try.underlying3 w1) (trodAll_cons_mk (shut_int Try.underlying3 w2) (trodAll_cons_mk (Below.trod laidOut (by kernel_rfl) (of_decide_eq_true (by kernel_rfl)) k3 bel lt3) trodAll_mk0)))), rfl, bel.frame _, fun h => by cases h⟩
theorem over : Rows.disciplineHonestRow.holds Try.pinned (OpenSpec.ofChange Rows.disciplineHonestSpec) :=
  OpenClaim.holds_of_wide 5 Try.f5 rfl rfl rfl rfl rfl rfl rfl ⟨rfl, rfl, rfl, rfl, rfl⟩ rfl rfl rfl rfl rfl (by kernel_rfl) Try.func5 (by kernel_rfl)
    (of_decide_eq_true (by kernel_rfl)) (by unfold Func.isWrapper; first | (rw [if_pos (by decide +kernel)]; kernel_rfl) | (rw [if_neg (by decide +kernel)]; exact ⟨rfl, rfl⟩))
    (fun os started H enc _ => lifted os started H enc)
theorem proved : Rows.DisciplineHonestSaid := over
#print axioms proved
end Go.Proofs.Ytoecglgbmhhdnaa.disciplineHonest
namespace Go.Proofs.Ytoecglgbmhhdnaa
/-- The row, under a short name, for the claim. -/
theorem disciplineHonest_holds : Rows.DisciplineHonestSaid := disciplineHonest.proved
end Go.Proofs.Ytoecglgbmhhdnaa
