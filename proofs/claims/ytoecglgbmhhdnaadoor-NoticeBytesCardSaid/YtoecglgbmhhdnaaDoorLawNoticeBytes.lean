-- Made by a program of this session (wip/hp.py, over the kit's print) out of the translation. Not trusted: Lean checks it.
import Derived.Test.YtoecglgbmhhdnaaDoorRows
import Derived.Test.YtoecglgbmhhdnaaDoorJBx10
import Derived.Test.YtoecglgbmhhdnaaDoorPureNoticeBytes
import Derived.Test.YtoecglgbmhhdnaaDoorAmix
import Derived.Test.YtoecglgbmhhdnaaDoorWAllB
import Derived.WalkKit
import Derived.ProofKit
import Derived.OpenShut
import Derived.ShutString
import Derived.ChangeOld
import Derived.Below
import Derived.SizedLaws
import Derived.LaidMore
import Derived.LaidLaws
import Derived.MakeChecks
import Derived.Handed
import Derived.Stop.Joined
import Derived.Stop.LaidErr
import Derived.SevenTiedAt
import Derived.Test.YtoecglgbmhhdnaaDoorCards
import Derived.Test.YtoecglgbmhhdnaaDoorTie
namespace Go.Proofs.YtoecglgbmhhdnaaDoor.noticeBytes
open Go.ChangeShapes Go.WideShapes Go.ChangeAt Go.RowKit Go.Proofs.YtoecglgbmhhdnaaDoorW.PrintWords Go.Proofs.YtoecglgbmhhdnaaDoor.JB
open Go.ChangeMaps (open_string shut_string)
set_option linter.unusedVariables false
theorem own : ownKnob Tryd.prog.godebug = none := by kernel_rfl
theorem laidOut : laidOutB Tryd.prog = true := by kernel_rfl
theorem door_met (os : Os) (args : Array Value) : laidMetH Tryd.prog Rows.noticeBytesRow.laid ((World.doorLaid Tryd.prog 400 os).forCall (fun _ _ => 0) ⟨#[], args, []⟩).memory :=
  laidMetH_of_parts3 (fuel := 8) (laidMet_of_run' 8 (by kernel_rfl) (by kernel_rfl)) (by kernel_rfl) (by kernel_rfl)
theorem tab_of {W : World} (h : laidMetH Tryd.prog Rows.noticeBytesRow.laid W) : Tab_ W := by
  rw [MakeChecks.laidMetH_plain _ _ _ (by kernel_rfl)] at h
  exact tab_head_ h.tail.tail
set_option maxRecDepth 100000 in
theorem lifted (os : Os) (started : os.Started) (H : Type) (enc : TypeId × Value → H) :
    ReturnsInHanded {} Tryd.checked os 4 .any (fun w args => (Rows.noticeBytesSpec.pre enc Tryd.prog Tryd.f4 Rows.noticeBytesRow.domain false w args ∧ laidMetH Tryd.prog Rows.noticeBytesRow.laid w) ∧ sizedMet enc Tryd.prog Tryd.f4 (OpenSpec.ofChange Rows.noticeBytesSpec) false w args) (Rows.noticeBytesSpec.post enc Tryd.prog Tryd.f4 false true false false) := by
  refine returnsInHanded_of_change_and (C := Tryd.checked) (X := fun w _ => laidMetH Tryd.prog Rows.noticeBytesRow.laid w) (fun _ _ _ hh h => h.of_heap hh) own started (by kernel_rfl) Tryd.func4
    (ChangeSpec.witness_shaped (enc := enc) (C := Tryd.checked) (os := os) (X := fun w _ => laidMetH Tryd.prog Rows.noticeBytesRow.laid w) false (World.doorLaid Tryd.prog 400 os) #[.int .i64 0, .agg #[.int .i64 0, .int .i64 0, .string ByteArray.empty, .int .i64 0], .int .i64 0, .int .u8 0] 8 rfl (World.shaped_of_RefB (by kernel_rfl) (by kernel_rfl)) (by kernel_rfl) (by kernel_rfl) (by kernel_rfl) (door_met os _)) ?_
  intro W base args ds gs before hval0 hW hcnd hsz0 hL _
  have ht_ : Aside0 (Tab_ W) := ⟨tab_of hL⟩
  have hsz : (DataW.weightsEach Tryd.prog (Tryd.f4.params.toList ++ Rows.noticeBytesSpec.plain.varTypes Tryd.prog) (ds ++ gs)).all (· ≤ reachBytes) = true := hsz0
  have hval : ∀ (j : Nat) t v, Tryd.f4.params[j]? = some t → args[j]? = some v → Value.okWide Tryd.prog W .any base t v := hval0
  have hW' := hW
  obtain ⟨p, q, hA0, hV, rfl, hfz, hnd⟩ := hW
  have hA : DataW.TrodAll enc Tryd.prog W 0 (fun _ => true) true Tryd.f4.params.toList args.toList ds p := hA0
  rw [Tryd.params4] at hA hval hsz
  obtain ⟨v0, vs0, d0, ds0, p0, q0, hargs, rfl, rfl, h0, r0⟩ := trodAll_cons hA
  obtain ⟨v1, vs1, d1, ds1, p1, q1, rfl, rfl, rfl, h1, r1⟩ := trodAll_cons r0
  obtain ⟨v2, vs2, d2, ds2, p2, q2, rfl, rfl, rfl, h2, r2⟩ := trodAll_cons r1
  obtain ⟨v3, vs3, d3, ds3, p3, q3, rfl, rfl, rfl, h3, r3⟩ := trodAll_cons r2
  obtain ⟨rfl, rfl, rfl⟩ := trodAll_nil r3
  obtain rfl : args = #[v0, v1, v2, v3] := by cases args; simp_all
  obtain ⟨rfl, rfl⟩ := trodVars_none hV
  obtain ⟨a0, rfl, rfl, rfl, w0⟩ := open_int Tryd.underlying3 (hval 0 3 v0 rfl rfl) h0
  have k1 := h1
  have lt1 : ∀ x ∈ p1, x.block < W.heap.size := by obtain ⟨m, hm⟩ := k1; exact DataW.trod_lt m _ _ _ hm
  obtain ⟨cs1, rfl, hs1⟩ := okWide_struct Tryd.underlying23 (hval 1 23 v1 rfl rfl)
  obtain ⟨fu1, hf1⟩ := h1
  have ll1 := Open.len_struct Tryd.underlying23 hf1
  rw [show Tryd.prog.cellsOf 23 = 4 from by kernel_rfl] at ll1
  obtain ⟨v1_0, n1_0, y1_0, c1_0, t1_0⟩ := Open.field1 Tryd.underlying23 hf1 0 rfl rfl (by kernel_rfl) (of_decide_eq_true (by kernel_rfl))
  obtain ⟨v1_1, n1_1, y1_1, c1_1, t1_1⟩ := Open.field1 Tryd.underlying23 hf1 1 rfl rfl (by kernel_rfl) (of_decide_eq_true (by kernel_rfl))
  obtain ⟨v1_2, n1_2, y1_2, c1_2, t1_2⟩ := Open.field1 Tryd.underlying23 hf1 2 rfl rfl (by kernel_rfl) (of_decide_eq_true (by kernel_rfl))
  obtain ⟨v1_3, n1_3, y1_3, c1_3, t1_3⟩ := Open.field1 Tryd.underlying23 hf1 3 rfl rfl (by kernel_rfl) (of_decide_eq_true (by kernel_rfl))
  have he1 := Open.list4 ll1 c1_0 c1_1 c1_2 c1_3
  obtain ⟨cl1⟩ := cs1
  simp only [Value.cells] at he1
  subst he1
  obtain ⟨a1_0, rfl, w1_0⟩ := Open.int_form Tryd.underlying3 t1_0
  obtain ⟨a1_1, rfl, w1_1⟩ := Open.int_form Tryd.underlying3 t1_1
  obtain ⟨a1_2, rfl, w1_2⟩ := Open.str_form Tryd.underlying9 t1_2
  obtain ⟨a1_3, rfl, w1_3⟩ := Open.int_form Tryd.underlying3 t1_3
  obtain ⟨a2, rfl, rfl, rfl, w2⟩ := open_int Tryd.underlying3 (hval 2 3 v2 rfl rfl) h2
  obtain ⟨a3, rfl, rfl, rfl, w3⟩ := open_int Tryd.underlying5 (hval 3 5 v3 rfl rfl) h3
  clear hA0 hval0 hsz0 hsz
  obtain ⟨kk, hh⟩ := Pure.NoticeBytes a0 a1_0 a1_1 a1_2 a1_3 a2 a3 w0 w1_0 w1_1 w1_2 w1_3 w2 w3
  refine (ephemeriskeep2_NoticeBytes.calls kk a0 a1_0 a1_1 a1_2 a1_3 a2 a3 true W  hh ht_).mono fun e W' h_ => ?_
  obtain ⟨he, bel0⟩ := h_
  have bel : Below W.heap.size W W' := bel0
  subst he
  exact ⟨_, rfl, _, _, _, [], _, [], hW', trodAll_mk1 (shut_bool Tryd.underlying4 _), (trodAll_cons_mk (shut_int Tryd.underlying3 w0) (trodAll_cons_mk (Below.trod laidOut (by kernel_rfl) (of_decide_eq_true (by kernel_rfl)) k1 bel lt1) (trodAll_cons_mk (shut_int Tryd.underlying3 w2) (trodAll_cons_mk (shut_int Tryd.underlying5 w3) trodAll_mk0)))), rfl, bel.frame _, fun h => by cases h⟩
theorem over : Rows.noticeBytesRow.holds Tryd.pinned (OpenSpec.ofChange Rows.noticeBytesSpec) :=
  OpenClaim.holds_of_wide 4 Tryd.f4 rfl rfl rfl rfl rfl rfl rfl ⟨rfl, rfl, rfl, rfl, rfl⟩ rfl rfl rfl rfl rfl (by kernel_rfl) Tryd.func4 (by kernel_rfl)
    (of_decide_eq_true (by kernel_rfl)) (by unfold Func.isWrapper; first | (rw [if_pos (by decide +kernel)]; kernel_rfl) | (rw [if_neg (by decide +kernel)]; exact ⟨rfl, rfl⟩))
    (fun os started H enc _ => lifted os started H enc)
theorem proved : Rows.NoticeBytesSaid := over
theorem card : Rows.NoticeBytesCardSaid :=
  Claim7.holds_tied_plain_at .later [] [.data, .data, .data] true (true, "0daee9626a74aff7c7fa1a7afc008d574e901a0f2eda3fc3eae5e4672fae09cf") false
    proved (fun _ h => by cases h) (by kernel_rfl) (fun _ h => by cases h) noticeBytes_row_tie rfl ⟨rfl, rfl⟩ (by kernel_rfl) rfl
    (fun f fn hf hfn => by
      obtain rfl : f = 4 := Option.some.inj ((show Tryd.prog.funcNamed "ephemeris/ephemeriskeep2.NoticeBytes" = some 4 by kernel_rfl).symm.trans hf) |>.symm
      obtain rfl : fn = Tryd.f4 := (Option.some.inj (Tryd.func4.symm.trans hfn)).symm
      refine ⟨by kernel_rfl, fun j t ht => ?_⟩
      rw [Tryd.params4] at ht
      have hall : (([3, 23, 3, 5] : List TypeId).all fun t => !Tryd.prog.wantsStandIn t) = true := by kernel_rfl
      have hm : t ∈ ([3, 23, 3, 5] : List TypeId) := List.mem_of_getElem? (i := j) (by simpa using ht)
      have hz := List.all_eq_true.1 hall t hm
      have hy : Tryd.prog.wantsStandIn t = false := by simpa using hz
      exact hy)
    (by kernel_rfl)
#print axioms card
end Go.Proofs.YtoecglgbmhhdnaaDoor.noticeBytes
namespace Go.Proofs.YtoecglgbmhhdnaaDoor
/-- The tied card, under a short name, for the claim. -/
theorem noticeBytes_holds : Rows.NoticeBytesCardSaid := noticeBytes.card
end Go.Proofs.YtoecglgbmhhdnaaDoor
