-- Made by a program of this session (wip/hp.py, over the kit's print) out of the translation. Not trusted: Lean checks it.
import Derived.Test.YtemfkcdhkmmbeaaRows
import Derived.Test.YtemfkcdhkmmbeaaJDx27
import Derived.Test.YtemfkcdhkmmbeaaPureSeriesAdds
import Derived.Test.YtemfkcdhkmmbeaaAmix
import Derived.Test.YtemfkcdhkmmbeaaWAllD
import Derived.WalkKit
import Derived.ProofKit
import Derived.OpenShut
import Derived.ShutString
import Derived.ChangeOld
import Derived.Below
import Derived.SizedLaws
namespace Go.Proofs.Ytemfkcdhkmmbeaa.seriesAdds
open Go.ChangeShapes Go.WideShapes Go.ChangeAt Go.RowKit Go.Proofs.YtemfkcdhkmmbeaaW.PrintWords Go.Proofs.Ytemfkcdhkmmbeaa.JD
open Go.ChangeMaps (open_string shut_string)
set_option linter.unusedVariables false
theorem own : ownKnob Try.prog.godebug = none := by kernel_rfl
theorem laidOut : laidOutB Try.prog = true := by kernel_rfl
theorem ints_T48 {H : Type} {enc : TypeId × Value → H} {w : World} {base : Nat} {spare : Nat → Bool} {held : Bool} {fuel : Nat} {cs : List Value} {y : DataW H × List MemPlace}
    (h : DataW.trod enc Try.prog w base spare held fuel 48 cs = some y) : Open.Ints 3 cs := by
  have hc : Try.prog.cellsOf 48 = 3 := by kernel_rfl
  have h3 : Try.prog.cellsOf 3 = 1 := by kernel_rfl
  rw [← hc]
  refine Open.ints_struct Try.underlying48 (fun i hi => ?_) (fun j f hj => ?_) h
  · rw [hc] at hi
    match i, hi with
    | 0, _ => exact ⟨0, _, rfl, by decide, by simp [h3]⟩
    | 1, _ => exact ⟨1, _, rfl, by decide, by simp [h3]⟩
    | 2, _ => exact ⟨2, _, rfl, by decide, by simp [h3]⟩
  · match j, hj with
    | 0, hj =>
      simp at hj
      subst hj
      intro fuel cs y hy
      rw [h3]
      exact Open.ints_int Try.underlying3 hy
    | 1, hj =>
      simp at hj
      subst hj
      intro fuel cs y hy
      rw [h3]
      exact Open.ints_int Try.underlying3 hy
    | 2, hj =>
      simp at hj
      subst hj
      intro fuel cs y hy
      rw [h3]
      exact Open.ints_int Try.underlying3 hy
    | j + 3, hj => simp at hj
set_option maxRecDepth 100000 in
theorem lifted (os : Os) (started : os.Started) (H : Type) (enc : TypeId × Value → H) :
    ReturnsInHanded {} Try.checked os 3 .any (Rows.seriesAddsSpec.pre6 enc Try.prog Try.f3 Rows.seriesAddsRow.domain false) (Rows.seriesAddsSpec.post enc Try.prog Try.f3 false true false false) := by
  refine returnsInHanded_of_change_sized (C := Try.checked) own started (by kernel_rfl) Try.func3
    (ChangeSpec.witness6 (enc := enc) (C := Try.checked) false ⟨#[], #[.agg #[.int .i64 0, .int .i64 0, .slice none 0 0, .int .i64 0], .agg #[.int .i64 0, .int .i64 0, .slice none 0 0, .int .i64 0], .int .i64 0], []⟩ 8 (by kernel_rfl) (by kernel_rfl) (by kernel_rfl) (by kernel_rfl)) ?_
  intro W base args ds gs before hval0 hW hcnd hsz0 _
  have hsz : (DataW.weightsEach Try.prog (Try.f3.params.toList ++ Rows.seriesAddsSpec.plain.varTypes Try.prog) (ds ++ gs)).all (· ≤ reachBytes) = true := hsz0
  have hval : ∀ (j : Nat) t v, Try.f3.params[j]? = some t → args[j]? = some v → Value.okWide Try.prog W .any base t v := hval0
  have hW' := hW
  obtain ⟨p, q, hA0, hV, rfl, hfz, hnd⟩ := hW
  have hA : DataW.TrodAll enc Try.prog W 0 (fun _ => true) true Try.f3.params.toList args.toList ds p := hA0
  rw [Try.params3] at hA hval hsz
  obtain ⟨v0, vs0, d0, ds0, p0, q0, hargs, rfl, rfl, h0, r0⟩ := trodAll_cons hA
  obtain ⟨v1, vs1, d1, ds1, p1, q1, rfl, rfl, rfl, h1, r1⟩ := trodAll_cons r0
  obtain ⟨v2, vs2, d2, ds2, p2, q2, rfl, rfl, rfl, h2, r2⟩ := trodAll_cons r1
  obtain ⟨rfl, rfl, rfl⟩ := trodAll_nil r2
  obtain rfl : args = #[v0, v1, v2] := by cases args; simp_all
  obtain ⟨rfl, rfl⟩ := trodVars_none hV
  have k0 := h0
  have lt0 : ∀ x ∈ p0, x.block < W.heap.size := by obtain ⟨m, hm⟩ := k0; exact DataW.trod_lt m _ _ _ hm
  obtain ⟨cs0, rfl, hs0⟩ := okWide_struct Try.underlying24 (hval 0 24 v0 rfl rfl)
  obtain ⟨fu0, hf0⟩ := h0
  have ll0 := Open.len_struct Try.underlying24 hf0
  rw [show Try.prog.cellsOf 24 = 4 from by kernel_rfl] at ll0
  obtain ⟨v0_0, n0_0, y0_0, c0_0, t0_0⟩ := Open.field1 Try.underlying24 hf0 0 rfl rfl (by kernel_rfl) (of_decide_eq_true (by kernel_rfl))
  obtain ⟨v0_1, n0_1, y0_1, c0_1, t0_1⟩ := Open.field1 Try.underlying24 hf0 1 rfl rfl (by kernel_rfl) (of_decide_eq_true (by kernel_rfl))
  obtain ⟨v0_2, n0_2, y0_2, c0_2, t0_2⟩ := Open.field1 Try.underlying24 hf0 2 rfl rfl (by kernel_rfl) (of_decide_eq_true (by kernel_rfl))
  obtain ⟨v0_3, n0_3, y0_3, c0_3, t0_3⟩ := Open.field1 Try.underlying24 hf0 3 rfl rfl (by kernel_rfl) (of_decide_eq_true (by kernel_rfl))
  have he0 := Open.list4 ll0 c0_0 c0_1 c0_2 c0_3
  obtain ⟨cl0⟩ := cs0
  simp only [Value.cells] at he0
  subst he0
  obtain ⟨a0_0, rfl, w0_0⟩ := Open.int_form Try.underlying3 t0_0
  obtain ⟨a0_1, rfl, w0_1⟩ := Open.int_form Try.underlying3 t0_1
  obtain ⟨A0_2, len0_2, cc0_2, rfl, ht0_2⟩ := Open.slice_form Try.underlying22 t0_2
  obtain ⟨l0_2, hlen0_2, hr0_2, hc0_2, hm0_2, hw0_2⟩ := Open.open_row k48 (fun x => (Lit.int .i64 x.f0).wf = true ∧ (Lit.int .i64 x.f1).wf = true ∧ (Lit.int .i64 x.f2).wf = true) Try.underlying22 (by kernel_rfl) (fun fuel cs y hy => by obtain ⟨a, b, c, rfl, ha, hb, hc⟩ := Open.ints3 (ints_T48 hy); exact ⟨(⟨a, b, c⟩ : S48), k48_mk W (⟨a, b, c⟩ : S48), ha, hb, hc⟩) ht0_2
  subst hlen0_2
  obtain ⟨a0_3, rfl, w0_3⟩ := Open.int_form Try.underlying3 t0_3
  have k1 := h1
  have lt1 : ∀ x ∈ p1, x.block < W.heap.size := by obtain ⟨m, hm⟩ := k1; exact DataW.trod_lt m _ _ _ hm
  obtain ⟨cs1, rfl, hs1⟩ := okWide_struct Try.underlying24 (hval 1 24 v1 rfl rfl)
  obtain ⟨fu1, hf1⟩ := h1
  have ll1 := Open.len_struct Try.underlying24 hf1
  rw [show Try.prog.cellsOf 24 = 4 from by kernel_rfl] at ll1
  obtain ⟨v1_0, n1_0, y1_0, c1_0, t1_0⟩ := Open.field1 Try.underlying24 hf1 0 rfl rfl (by kernel_rfl) (of_decide_eq_true (by kernel_rfl))
  obtain ⟨v1_1, n1_1, y1_1, c1_1, t1_1⟩ := Open.field1 Try.underlying24 hf1 1 rfl rfl (by kernel_rfl) (of_decide_eq_true (by kernel_rfl))
  obtain ⟨v1_2, n1_2, y1_2, c1_2, t1_2⟩ := Open.field1 Try.underlying24 hf1 2 rfl rfl (by kernel_rfl) (of_decide_eq_true (by kernel_rfl))
  obtain ⟨v1_3, n1_3, y1_3, c1_3, t1_3⟩ := Open.field1 Try.underlying24 hf1 3 rfl rfl (by kernel_rfl) (of_decide_eq_true (by kernel_rfl))
  have he1 := Open.list4 ll1 c1_0 c1_1 c1_2 c1_3
  obtain ⟨cl1⟩ := cs1
  simp only [Value.cells] at he1
  subst he1
  obtain ⟨a1_0, rfl, w1_0⟩ := Open.int_form Try.underlying3 t1_0
  obtain ⟨a1_1, rfl, w1_1⟩ := Open.int_form Try.underlying3 t1_1
  obtain ⟨A1_2, len1_2, cc1_2, rfl, ht1_2⟩ := Open.slice_form Try.underlying22 t1_2
  obtain ⟨l1_2, hlen1_2, hr1_2, hc1_2, hm1_2, hw1_2⟩ := Open.open_row k48 (fun x => (Lit.int .i64 x.f0).wf = true ∧ (Lit.int .i64 x.f1).wf = true ∧ (Lit.int .i64 x.f2).wf = true) Try.underlying22 (by kernel_rfl) (fun fuel cs y hy => by obtain ⟨a, b, c, rfl, ha, hb, hc⟩ := Open.ints3 (ints_T48 hy); exact ⟨(⟨a, b, c⟩ : S48), k48_mk W (⟨a, b, c⟩ : S48), ha, hb, hc⟩) ht1_2
  subst hlen1_2
  obtain ⟨a1_3, rfl, w1_3⟩ := Open.int_form Try.underlying3 t1_3
  obtain ⟨a2, rfl, rfl, rfl, w2⟩ := open_int Try.underlying3 (hval 2 3 v2 rfl rfl) h2
  clear hA0 hval0 hsz0 hsz
  obtain ⟨kk, hh⟩ := Pure.SeriesAdds a0_0 a0_1 l0_2 a0_3 a1_0 a1_1 l1_2 a1_3 a2 w0_0 w0_1 hm0_2 hw0_2 w0_3 w1_0 w1_1 hm1_2 hw1_2 w1_3 w2
  refine (ephemeriskeep2_SeriesAdds.calls kk a0_0 a0_1 _ _ l0_2 a0_3 a1_0 a1_1 _ _ l1_2 a1_3 a2 true W hr0_2 hc0_2 hr1_2 hc1_2 hh).mono fun e W' h_ => ?_
  obtain ⟨he, bel0⟩ := h_
  have bel : Below W.heap.size W W' := bel0
  subst he
  exact ⟨_, rfl, _, _, _, [], _, [], hW', trodAll_mk1 (shut_bool Try.underlying4 _), (trodAll_cons_mk (Below.trod laidOut (by kernel_rfl) (of_decide_eq_true (by kernel_rfl)) k0 bel lt0) (trodAll_cons_mk (Below.trod laidOut (by kernel_rfl) (of_decide_eq_true (by kernel_rfl)) k1 bel lt1) (trodAll_cons_mk (shut_int Try.underlying3 w2) trodAll_mk0))), rfl, bel.frame _, fun h => by cases h⟩
theorem over : Rows.seriesAddsRow.holds Try.pinned (OpenSpec.ofChange Rows.seriesAddsSpec) :=
  OpenClaim.holds_of_wide 3 Try.f3 rfl rfl rfl rfl rfl rfl rfl ⟨rfl, rfl, rfl, rfl, rfl⟩ rfl rfl rfl rfl rfl (by kernel_rfl) Try.func3 (by kernel_rfl)
    (of_decide_eq_true (by kernel_rfl)) (by unfold Func.isWrapper; first | (rw [if_pos (by decide +kernel)]; kernel_rfl) | (rw [if_neg (by decide +kernel)]; exact ⟨rfl, rfl⟩))
    (fun os started H enc _ => lifted os started H enc)
theorem proved : Rows.SeriesAddsSaid := over
#print axioms proved
end Go.Proofs.Ytemfkcdhkmmbeaa.seriesAdds
namespace Go.Proofs.Ytemfkcdhkmmbeaa
/-- The row, under a short name, for the claim. -/
theorem seriesAdds_holds : Rows.SeriesAddsSaid := seriesAdds.proved
end Go.Proofs.Ytemfkcdhkmmbeaa
