-- Made by a program of this session (wip/hp.py, over the kit's print) out of the translation. Not trusted: Lean checks it.
import Derived.Test.YtoecglgbmhhdnaaDoorJBx0
import Derived.Test.YtoecglgbmhhdnaaDoorJBx1
import Derived.Test.YtoecglgbmhhdnaaDoorJBx5
import Derived.Test.YtoecglgbmhhdnaaDoorJBx7
import Derived.Test.YtoecglgbmhhdnaaDoorJBx8
import Derived.Test.YtoecglgbmhhdnaaDoorJBx9
namespace Go.Proofs.YtoecglgbmhhdnaaDoor.JB
open Go.RowKit Go.Proofs.YtoecglgbmhhdnaaDoorW.PrintWords Go.Proofs.YtoecglgbmhhdnaaDoorW.PrintLast Go.Proofs.YtoecglgbmhhdnaaDoorW.PrintMore
attribute [local go_sem] max2_int min2_int max_two min_two max_three min_three max_four min_four   -- for this text's walks alone
set_option linter.unusedVariables false
set_option linter.unusedSimpArgs false

/-! ### ephemeriskeep2_NoticeBytes: function 4 -/
def ephemeriskeep2_NoticeBytes.T3 : Bool × List (List Nat × List Nat) := (true, [([], []), ([0], [0]), ([1], [1]), ([], []), ([3], [3]), ([4, 1], [4]), ([], []), ([6], [6]), ([7, 5], [7]), ([8], [8]), ([], []), ([10], [10]), ([11, 8], [11]), ([5, 9, 12], [5, 9, 12]), ([2, 12, 0, 1, 2], [0, 2]), ([13, 14, 0, 1, 2, 3, 4, 5, 6, 7, 8, 9, 10, 11, 12, 13, 14], [13])])
def ephemeriskeep2_NoticeBytes.B3 : List Nat := [0, 1, 3, 0, 8, 27, 0, 64, 251, 507, 0, 1024, 3579, 8187, 7679, 32767]
theorem ephemeriskeep2_NoticeBytes.tab3 : rtab .any (opsOf Tryd.f4 3) = ephemeriskeep2_NoticeBytes.T3 := by kernel_rfl
theorem ephemeriskeep2_NoticeBytes.bits3 : waitsOk ephemeriskeep2_NoticeBytes.T3.2 ephemeriskeep2_NoticeBytes.B3 = true := by kernel_rfl
set_option maxHeartbeats 8000000 in
set_option maxRecDepth 100000 in
theorem ephemeriskeep2_NoticeBytes.calls (k : Nat) (a0 : Int) (a1_0 : Int) (a1_1 : Int) (a1_2 : ByteArray) (a1_3 : Int) (a2 : Int) (a3 : Int) (r : Bool) (w : World) (h : ephemeriskeep2_NoticeBytes.f k a0 a1_0 a1_1 a1_2 a1_3 a2 a3 = some r) (ht_ : Aside0 (Tab_ w)) :
    Calls Tryd.prog 4 #[.int .i64 a0, .agg #[.int .i64 a1_0, .int .i64 a1_1, .string a1_2, .int .i64 a1_3], .int .i64 a2, .int .u8 a3] w fun e w' => e = .returned (.bool r) ∧ Below w.heap.size w w' := by
  have hu23 := Tryd.underlying23
  have HB := Aside0.mk (Below.refl w.heap.size w)
  have H : ((ephemeriskeep2_noticeWorks.f k).bind fun t126 => (if t126 = true then ((ephemeriskeep2_at.f a0 1000000000).bind fun t127 => ((ephemeriskeep2_at.f a1_0 8).bind fun t128 => ((ephemeriskeep2_at.f a1_1 2147483647).bind fun t129 => ((ephemeriskeep2_plain.f a1_2).bind fun t130 => ((notice_Sign.f k (wrap64 (1 + t127)) t128 (wrap64 (1 + t129)) t130 0).bind fun bt131 => ((notice_Right.f k (wrap64 (1 + t127)) bt131.1 bt131.2.1 bt131.2.2.1 bt131.2.2.2.1).bind fun bt137 => (if bt131.2.2.2.2 = 0 then (if bt137.2 = 0 then (ephemeriskeep2_NoticeBytes.j0 k (wrap64 (1 + t127)) a2 a3 (!bt137.1) bt131.1 bt131.2.1 bt131.2.2.1 bt131.2.2.2.1) else (ephemeriskeep2_NoticeBytes.j0 k (wrap64 (1 + t127)) a2 a3 true bt131.1 bt131.2.1 bt131.2.2.1 bt131.2.2.2.1)) else (ephemeriskeep2_NoticeBytes.j0 k (wrap64 (1 + t127)) a2 a3 true bt131.1 bt131.2.1 bt131.2.2.1 bt131.2.2.2.1)))))))) else (none))) = some r := h
  clear h
  replace H := Option.bind_eq_some_iff.mp H
  obtain ⟨t126, A50, H⟩ := H
  replace H : (if t126 = true then ((ephemeriskeep2_at.f a0 1000000000).bind fun t127 => ((ephemeriskeep2_at.f a1_0 8).bind fun t128 => ((ephemeriskeep2_at.f a1_1 2147483647).bind fun t129 => ((ephemeriskeep2_plain.f a1_2).bind fun t130 => ((notice_Sign.f k (wrap64 (1 + t127)) t128 (wrap64 (1 + t129)) t130 0).bind fun bt131 => ((notice_Right.f k (wrap64 (1 + t127)) bt131.1 bt131.2.1 bt131.2.2.1 bt131.2.2.2.1).bind fun bt137 => (if bt131.2.2.2.2 = 0 then (if bt137.2 = 0 then (ephemeriskeep2_NoticeBytes.j0 k (wrap64 (1 + t127)) a2 a3 (!bt137.1) bt131.1 bt131.2.1 bt131.2.2.1 bt131.2.2.2.1) else (ephemeriskeep2_NoticeBytes.j0 k (wrap64 (1 + t127)) a2 a3 true bt131.1 bt131.2.1 bt131.2.2.1 bt131.2.2.2.1)) else (ephemeriskeep2_NoticeBytes.j0 k (wrap64 (1 + t127)) a2 a3 true bt131.1 bt131.2.1 bt131.2.2.1 bt131.2.2.2.1)))))))) else (none)) = some r := H
  have A5 := Aside0.mk A50
  clear A50
  by_cases c6 : t126 = true
  · subst c6
    have H1 : ((ephemeriskeep2_at.f a0 1000000000).bind fun t127 => ((ephemeriskeep2_at.f a1_0 8).bind fun t128 => ((ephemeriskeep2_at.f a1_1 2147483647).bind fun t129 => ((ephemeriskeep2_plain.f a1_2).bind fun t130 => ((notice_Sign.f k (wrap64 (1 + t127)) t128 (wrap64 (1 + t129)) t130 0).bind fun bt131 => ((notice_Right.f k (wrap64 (1 + t127)) bt131.1 bt131.2.1 bt131.2.2.1 bt131.2.2.2.1).bind fun bt137 => (if bt131.2.2.2.2 = 0 then (if bt137.2 = 0 then (ephemeriskeep2_NoticeBytes.j0 k (wrap64 (1 + t127)) a2 a3 (!bt137.1) bt131.1 bt131.2.1 bt131.2.2.1 bt131.2.2.2.1) else (ephemeriskeep2_NoticeBytes.j0 k (wrap64 (1 + t127)) a2 a3 true bt131.1 bt131.2.1 bt131.2.2.1 bt131.2.2.2.1)) else (ephemeriskeep2_NoticeBytes.j0 k (wrap64 (1 + t127)) a2 a3 true bt131.1 bt131.2.1 bt131.2.2.1 bt131.2.2.2.1)))))))) = some r := by rw [if_pos rfl] at H; exact H
    clear H
    have H := H1
    clear H1
    replace H := Option.bind_eq_some_iff.mp H
    obtain ⟨t127, A70, H⟩ := H
    replace H : ((ephemeriskeep2_at.f a1_0 8).bind fun t128 => ((ephemeriskeep2_at.f a1_1 2147483647).bind fun t129 => ((ephemeriskeep2_plain.f a1_2).bind fun t130 => ((notice_Sign.f k (wrap64 (1 + t127)) t128 (wrap64 (1 + t129)) t130 0).bind fun bt131 => ((notice_Right.f k (wrap64 (1 + t127)) bt131.1 bt131.2.1 bt131.2.2.1 bt131.2.2.2.1).bind fun bt137 => (if bt131.2.2.2.2 = 0 then (if bt137.2 = 0 then (ephemeriskeep2_NoticeBytes.j0 k (wrap64 (1 + t127)) a2 a3 (!bt137.1) bt131.1 bt131.2.1 bt131.2.2.1 bt131.2.2.2.1) else (ephemeriskeep2_NoticeBytes.j0 k (wrap64 (1 + t127)) a2 a3 true bt131.1 bt131.2.1 bt131.2.2.1 bt131.2.2.2.1)) else (ephemeriskeep2_NoticeBytes.j0 k (wrap64 (1 + t127)) a2 a3 true bt131.1 bt131.2.1 bt131.2.2.1 bt131.2.2.2.1))))))) = some r := H
    have A7 := Aside0.mk A70
    clear A70
    replace H := Option.bind_eq_some_iff.mp H
    obtain ⟨t128, A80, H⟩ := H
    replace H : ((ephemeriskeep2_at.f a1_1 2147483647).bind fun t129 => ((ephemeriskeep2_plain.f a1_2).bind fun t130 => ((notice_Sign.f k (wrap64 (1 + t127)) t128 (wrap64 (1 + t129)) t130 0).bind fun bt131 => ((notice_Right.f k (wrap64 (1 + t127)) bt131.1 bt131.2.1 bt131.2.2.1 bt131.2.2.2.1).bind fun bt137 => (if bt131.2.2.2.2 = 0 then (if bt137.2 = 0 then (ephemeriskeep2_NoticeBytes.j0 k (wrap64 (1 + t127)) a2 a3 (!bt137.1) bt131.1 bt131.2.1 bt131.2.2.1 bt131.2.2.2.1) else (ephemeriskeep2_NoticeBytes.j0 k (wrap64 (1 + t127)) a2 a3 true bt131.1 bt131.2.1 bt131.2.2.1 bt131.2.2.2.1)) else (ephemeriskeep2_NoticeBytes.j0 k (wrap64 (1 + t127)) a2 a3 true bt131.1 bt131.2.1 bt131.2.2.1 bt131.2.2.2.1)))))) = some r := H
    have A8 := Aside0.mk A80
    clear A80
    replace H := Option.bind_eq_some_iff.mp H
    obtain ⟨t129, A90, H⟩ := H
    replace H : ((ephemeriskeep2_plain.f a1_2).bind fun t130 => ((notice_Sign.f k (wrap64 (1 + t127)) t128 (wrap64 (1 + t129)) t130 0).bind fun bt131 => ((notice_Right.f k (wrap64 (1 + t127)) bt131.1 bt131.2.1 bt131.2.2.1 bt131.2.2.2.1).bind fun bt137 => (if bt131.2.2.2.2 = 0 then (if bt137.2 = 0 then (ephemeriskeep2_NoticeBytes.j0 k (wrap64 (1 + t127)) a2 a3 (!bt137.1) bt131.1 bt131.2.1 bt131.2.2.1 bt131.2.2.2.1) else (ephemeriskeep2_NoticeBytes.j0 k (wrap64 (1 + t127)) a2 a3 true bt131.1 bt131.2.1 bt131.2.2.1 bt131.2.2.2.1)) else (ephemeriskeep2_NoticeBytes.j0 k (wrap64 (1 + t127)) a2 a3 true bt131.1 bt131.2.1 bt131.2.2.1 bt131.2.2.2.1))))) = some r := H
    have A9 := Aside0.mk A90
    clear A90
    replace H := Option.bind_eq_some_iff.mp H
    obtain ⟨t130, A100, H⟩ := H
    replace H : ((notice_Sign.f k (wrap64 (1 + t127)) t128 (wrap64 (1 + t129)) t130 0).bind fun bt131 => ((notice_Right.f k (wrap64 (1 + t127)) bt131.1 bt131.2.1 bt131.2.2.1 bt131.2.2.2.1).bind fun bt137 => (if bt131.2.2.2.2 = 0 then (if bt137.2 = 0 then (ephemeriskeep2_NoticeBytes.j0 k (wrap64 (1 + t127)) a2 a3 (!bt137.1) bt131.1 bt131.2.1 bt131.2.2.1 bt131.2.2.2.1) else (ephemeriskeep2_NoticeBytes.j0 k (wrap64 (1 + t127)) a2 a3 true bt131.1 bt131.2.1 bt131.2.2.1 bt131.2.2.2.1)) else (ephemeriskeep2_NoticeBytes.j0 k (wrap64 (1 + t127)) a2 a3 true bt131.1 bt131.2.1 bt131.2.2.1 bt131.2.2.2.1)))) = some r := H
    have A10 := Aside0.mk A100
    clear A100
    replace H := Option.bind_eq_some_iff.mp H
    obtain ⟨⟨t131, t132, t133, t134, t135⟩, A110, H⟩ := H
    replace H : ((notice_Right.f k (wrap64 (1 + t127)) t131 t132 t133 t134).bind fun bt137 => (if t135 = 0 then (if bt137.2 = 0 then (ephemeriskeep2_NoticeBytes.j0 k (wrap64 (1 + t127)) a2 a3 (!bt137.1) t131 t132 t133 t134) else (ephemeriskeep2_NoticeBytes.j0 k (wrap64 (1 + t127)) a2 a3 true t131 t132 t133 t134)) else (ephemeriskeep2_NoticeBytes.j0 k (wrap64 (1 + t127)) a2 a3 true t131 t132 t133 t134))) = some r := H
    have A11 := Aside0.mk A110
    clear A110
    replace H := Option.bind_eq_some_iff.mp H
    obtain ⟨⟨t137, t138⟩, A120, H⟩ := H
    replace H : (if t135 = 0 then (if t138 = 0 then (ephemeriskeep2_NoticeBytes.j0 k (wrap64 (1 + t127)) a2 a3 (!t137) t131 t132 t133 t134) else (ephemeriskeep2_NoticeBytes.j0 k (wrap64 (1 + t127)) a2 a3 true t131 t132 t133 t134)) else (ephemeriskeep2_NoticeBytes.j0 k (wrap64 (1 + t127)) a2 a3 true t131 t132 t133 t134)) = some r := H
    have A12 := Aside0.mk A120
    clear A120
    have HC13 := Aside0.mk H
    clear H
    go_enter Tryd.func4, Tryd.ntmps4
    try go_wp2_with (first | ((with_reducible refine gate_dst (N := 5) rfl ?_); refine box_event ?hg (N := 5) ?hd (cs := #[.int .i64 a1_0, .int .i64 a1_1, .string a1_2, .int .i64 a1_3]) (t := 23) ?hr ?_; (case hd => rfl); (case hg => rfl); (case hr => first | (go_simp; done) | (go_simp; rfl)); intro gb125 hg w14 hbox hb; have n0_ := Aside0.mk (below_step (by repeat (first | (with_reducible first | exact HB.out | apply below_alloc | apply pw_below_drewN | apply below_drew1) | exact HB.out)) hb); have n1_ := Aside0.mk (hbox); have n2_ := Aside0.mk ((by rw [hg]; exact (below_size (by repeat (first | (with_reducible first | exact HB.out | apply below_alloc | apply pw_below_drewN | apply below_drew1) | exact HB.out))) : w.heap.size ≤ gb125)); have n3_ := Aside0.mk ((by rw [hg]; exact (below_size (by repeat (first | (with_reducible first | exact HB.out | apply below_alloc | apply pw_below_drewN | apply below_drew1) | exact HB.out))) : w.heap.size ≤ gb125)); clear HB; have HB := n0_; have BK125 := n1_; have GW125 := n2_; have GE125 := n3_; clear n0_ n1_ n2_ n3_; clear hb hbox hg) | ((with_reducible refine gate_callee (f := 7) rfl ?_); refine goesL_ (some 14) rfl rfl Tryd.func7 (by kernel_rfl) rfl #[] rfl (by (try simp only [List.map_toArray, List.map_cons, List.map_nil]); first | done | rfl | (simp only [List.length_drop, List.length_take]; rfl)) ?_; (with_reducible refine (ephemeriskeep2_noticeWorks.calls k  true _ A5.out (tabz_ ht_ (by repeat (first | (with_reducible first | exact HB.out | apply below_alloc | apply pw_below_drewN | apply below_drew1 | apply below_drew | refine below_set ?_ (Aside0.out (by assumption))) | exact HB.out)))).mono ?_); rintro e w15 ⟨rfl, hb⟩; refine ⟨_, rfl, ?_⟩; have n0_ := Aside0.mk (blk_below (g := gb125) (o := .cells #[.int .i64 a1_0, .int .i64 a1_1, .string a1_2, .int .i64 a1_3] 23 (0, 0)) (by (with_reducible repeat (first | refine blk_drewN ?_ _ | refine blk_drew ?_ | refine blk_alloc ?_ _)); exact BK125.out) hb); have n1_ := Aside0.mk (below_step (by repeat (first | (with_reducible first | exact HB.out | apply below_alloc | apply pw_below_drewN | apply below_drew1 | refine below_set ?_ GE125.out) | exact HB.out)) hb); clear BK125; clear HB; have BK125 := n0_; have HB := n1_; clear n0_ n1_; (try clear hb); (try clear hb2); (try clear hk); (try clear hi)))
    have n0_ := Aside0.mk (blk_drew BK125.out)
    have n1_ := Aside0.mk (below_drew1 HB.out)
    clear BK125
    clear HB
    have BK125 := n0_
    have HB := n1_
    clear n0_ n1_
    refine start_ (n := 16) (S := fun w' => w'.cell? ⟨gb125, 0, none⟩ = some (.int .i64 a1_0) ∧ w'.cell? ⟨gb125, 1, none⟩ = some (.int .i64 a1_1) ∧ w'.cell? ⟨gb125, 2, none⟩ = some (.string a1_2) ∧ w'.cell? ⟨gb125, 3, none⟩ = some (.int .i64 a1_3)) (ds := [15]) #[false, false, false, false, false, false, false, false, false, false, false, false, false, false, false, false] (by kernel_rfl) rfl rfl ⟨(blk_cell BK125.out 0).trans rfl, (blk_cell BK125.out 1).trans rfl, (blk_cell BK125.out 2).trans rfl, (blk_cell BK125.out 3).trans rfl⟩ (fun hHeld => ?_); refine with_tabW ephemeriskeep2_NoticeBytes.tab3 ephemeriskeep2_NoticeBytes.bits3 (fun HT_ HW_ => ?_)
    generalize w15.drew = w16 at BK125 HB hHeld ⊢
    refine pure_ (i := 0) (N := some 16) (v := ?_) (a' := ?_) #[true, false, false, false, false, false, false, false, false, false, false, false, false, false, false, false] rfl rfl (any_of HT_.out (by kernel_rfl)) (fun _ _ _ h => h) (Or.inl ⟨by rfl, ?_⟩) ?_ ?_
    rotate_left
    · intro w'
      go_simp
      with_reducible rfl
    rotate_left
    · simp only [Act.put, List.setIfInBounds_toArray, List.set_cons_zero, List.set_cons_succ, i64_w, i32_w]
      rfl
    refine pure_ (i := 3) (N := some 19) (v := ?_) (a' := ?_) #[true, false, false, true, false, false, false, false, false, false, false, false, false, false, false, false] rfl rfl (any_of HT_.out (by kernel_rfl)) (fun _ _ _ h => h) (Or.inl ⟨by rfl, ?_⟩) ?_ ?_
    rotate_left
    · intro w'
      go_simp
      with_reducible rfl
    rotate_left
    · simp only [Act.put, List.setIfInBounds_toArray, List.set_cons_zero, List.set_cons_succ, i64_w, i32_w]
      rfl
    refine pure_ (i := 6) (N := some 22) (v := ?_) (a' := ?_) #[true, false, false, true, false, false, true, false, false, false, false, false, false, false, false, false] rfl rfl (any_of HT_.out (by kernel_rfl)) (fun _ _ _ h => h) (Or.inl ⟨by rfl, ?_⟩) ?_ ?_
    rotate_left
    · intro w'
      go_simp
      with_reducible rfl
    rotate_left
    · simp only [Act.put, List.setIfInBounds_toArray, List.set_cons_zero, List.set_cons_succ, i64_w, i32_w]
      rfl
    refine pure_ (i := 10) (N := some 26) (v := ?_) (a' := ?_) #[true, false, false, true, false, false, true, false, false, false, true, false, false, false, false, false] rfl rfl (any_of HT_.out (by kernel_rfl)) (fun _ _ _ h => h) (Or.inl ⟨by rfl, ?_⟩) ?_ ?_
    rotate_left
    · intro w'
      go_simp
      with_reducible rfl
    rotate_left
    · simp only [Act.put, List.setIfInBounds_toArray, List.set_cons_zero, List.set_cons_succ, i64_w, i32_w]
      rfl
    refine take_ (i := 4) (N := some 20) (v := ?_) (a' := ?_) #[true, false, false, true, true, false, true, false, false, false, true, false, false, false, false, false] rfl rfl (take_ofW HT_.out HW_.out (by kernel_rfl)) (fun _ _ _ h => h) (Or.inl ⟨by rfl, ?_⟩) hHeld ?_ ?_
    rotate_left
    · rintro w' ⟨s0, s1, s2, s3⟩
      go_simp
      with_reducible rfl
    rotate_left
    · simp only [Act.put, List.setIfInBounds_toArray, List.set_cons_zero, List.set_cons_succ, i64_w, i32_w]
      rfl
    refine take_ (i := 7) (N := some 23) (v := ?_) (a' := ?_) #[true, false, false, true, true, false, true, true, false, false, true, false, false, false, false, false] rfl rfl (take_ofW HT_.out HW_.out (by kernel_rfl)) (fun _ _ _ h => h) (Or.inl ⟨by rfl, ?_⟩) hHeld ?_ ?_
    rotate_left
    · rintro w' ⟨s0, s1, s2, s3⟩
      go_simp
      with_reducible rfl
    rotate_left
    · simp only [Act.put, List.setIfInBounds_toArray, List.set_cons_zero, List.set_cons_succ, i64_w, i32_w]
      rfl
    refine take_ (i := 11) (N := some 27) (v := ?_) (a' := ?_) #[true, false, false, true, true, false, true, true, false, false, true, true, false, false, false, false] rfl rfl (take_ofW HT_.out HW_.out (by kernel_rfl)) (fun _ _ _ h => h) (Or.inl ⟨by rfl, ?_⟩) hHeld ?_ ?_
    rotate_left
    · rintro w' ⟨s0, s1, s2, s3⟩
      go_simp
      with_reducible rfl
    rotate_left
    · simp only [Act.put, List.setIfInBounds_toArray, List.set_cons_zero, List.set_cons_succ, i64_w, i32_w]
      rfl
    refine one_ (i := 1) (N := some 17) #[true, true, false, true, true, false, true, true, false, false, true, true, false, false, false, false] rfl rfl (one_of HT_.out (by kernel_rfl)) (by decide) (fun K hK => ?_)
    refine goes_ Tryd.func8 (by kernel_rfl) rfl #[.int .i64 a0, .int .i64 1000000000] (by rfl) rfl rfl (by (try simp only [List.map_toArray, List.map_cons, List.map_nil]); first | done | rfl | (simp only [List.length_drop, List.length_take]; rfl)) ?_
    with_reducible refine (ephemeriskeep2_at.calls a0 1000000000 t127 _ A7.out).mono ?_
    rintro e w' ⟨rfl, ⟨nd, rfl⟩⟩
    refine ⟨_, rfl, ?_⟩
    refine hK.out _ _ ⟨(blk_cell BK125.out 0).trans rfl, (blk_cell BK125.out 1).trans rfl, (blk_cell BK125.out 2).trans rfl, (blk_cell BK125.out 3).trans rfl⟩ (fun hHeld => ?_)
    clear hK K
    refine norm_ (a' := ?_) ?_ ?_
    rotate_left
    · show Act.put _ (some 17) _ = _
      simp only [Act.put, List.setIfInBounds_toArray, List.set_cons_zero, List.set_cons_succ, i64_w, i32_w]
      rfl
    refine pure_ (i := 2) (N := some 18) (v := ?_) (a' := ?_) #[true, true, true, true, true, false, true, true, false, false, true, true, false, false, false, false] rfl rfl (any_of HT_.out (by kernel_rfl)) (fun _ _ _ h => h) (Or.inl ⟨by rfl, ?_⟩) ?_ ?_
    rotate_left
    · intro w'
      go_simp
      with_reducible rfl
    rotate_left
    · simp only [Act.put, List.setIfInBounds_toArray, List.set_cons_zero, List.set_cons_succ, i64_w, i32_w]
      rfl
    refine one_ (i := 5) (N := some 21) #[true, true, true, true, true, true, true, true, false, false, true, true, false, false, false, false] rfl rfl (one_of HT_.out (by kernel_rfl)) (by decide) (fun K hK => ?_)
    refine goes_ Tryd.func8 (by kernel_rfl) rfl #[.int .i64 a1_0, .int .i64 8] (by rfl) rfl rfl (by (try simp only [List.map_toArray, List.map_cons, List.map_nil]); first | done | rfl | (simp only [List.length_drop, List.length_take]; rfl)) ?_
    with_reducible refine (ephemeriskeep2_at.calls a1_0 8 t128 _ A8.out).mono ?_
    rintro e w' ⟨rfl, ⟨nd, rfl⟩⟩
    refine ⟨_, rfl, ?_⟩
    refine hK.out _ _ ⟨(blk_cell BK125.out 0).trans rfl, (blk_cell BK125.out 1).trans rfl, (blk_cell BK125.out 2).trans rfl, (blk_cell BK125.out 3).trans rfl⟩ (fun hHeld => ?_)
    clear hK K
    refine norm_ (a' := ?_) ?_ ?_
    rotate_left
    · show Act.put _ (some 21) _ = _
      simp only [Act.put, List.setIfInBounds_toArray, List.set_cons_zero, List.set_cons_succ, i64_w, i32_w]
      rfl
    refine one_ (i := 8) (N := some 24) #[true, true, true, true, true, true, true, true, true, false, true, true, false, false, false, false] rfl rfl (one_of HT_.out (by kernel_rfl)) (by decide) (fun K hK => ?_)
    refine goes_ Tryd.func8 (by kernel_rfl) rfl #[.int .i64 a1_1, .int .i64 2147483647] (by rfl) rfl rfl (by (try simp only [List.map_toArray, List.map_cons, List.map_nil]); first | done | rfl | (simp only [List.length_drop, List.length_take]; rfl)) ?_
    with_reducible refine (ephemeriskeep2_at.calls a1_1 2147483647 t129 _ A9.out).mono ?_
    rintro e w' ⟨rfl, ⟨nd, rfl⟩⟩
    refine ⟨_, rfl, ?_⟩
    refine hK.out _ _ ⟨(blk_cell BK125.out 0).trans rfl, (blk_cell BK125.out 1).trans rfl, (blk_cell BK125.out 2).trans rfl, (blk_cell BK125.out 3).trans rfl⟩ (fun hHeld => ?_)
    clear hK K
    refine norm_ (a' := ?_) ?_ ?_
    rotate_left
    · show Act.put _ (some 24) _ = _
      simp only [Act.put, List.setIfInBounds_toArray, List.set_cons_zero, List.set_cons_succ, i64_w, i32_w]
      rfl
    refine pure_ (i := 9) (N := some 25) (v := ?_) (a' := ?_) #[true, true, true, true, true, true, true, true, true, true, true, true, false, false, false, false] rfl rfl (any_of HT_.out (by kernel_rfl)) (fun _ _ _ h => h) (Or.inl ⟨by rfl, ?_⟩) ?_ ?_
    rotate_left
    · intro w'
      go_simp
      with_reducible rfl
    rotate_left
    · simp only [Act.put, List.setIfInBounds_toArray, List.set_cons_zero, List.set_cons_succ, i64_w, i32_w]
      rfl
    refine one_ (i := 12) (N := some 28) #[true, true, true, true, true, true, true, true, true, true, true, true, true, false, false, false] rfl rfl (one_of HT_.out (by kernel_rfl)) (by decide) (fun K hK => ?_)
    refine goes_ Tryd.func9 (by kernel_rfl) rfl #[.string a1_2] (by rfl) rfl rfl (by (try simp only [List.map_toArray, List.map_cons, List.map_nil]); first | done | rfl | (simp only [List.length_drop, List.length_take]; rfl)) ?_
    with_reducible refine (ephemeriskeep2_plain.calls a1_2 t130 _ A10.out).mono ?_
    rintro e w17 ⟨rfl, hb⟩
    refine ⟨_, rfl, ?_⟩
    have n0_ := Aside0.mk (blk_below (g := gb125) (o := .cells #[.int .i64 a1_0, .int .i64 a1_1, .string a1_2, .int .i64 a1_3] 23 (0, 0)) (by (with_reducible repeat (first | refine blk_drewN ?_ _ | refine blk_drew ?_ | refine blk_alloc ?_ _)); exact BK125.out) hb)
    have n1_ := Aside0.mk (below_step (by repeat (first | (with_reducible first | exact HB.out | apply below_alloc | apply pw_below_drewN | apply below_drew1 | refine below_set ?_ GE125.out) | exact HB.out)) hb)
    clear BK125
    clear HB
    have BK125 := n0_
    have HB := n1_
    clear n0_ n1_
    (try clear hb)
    (try clear hb2)
    (try clear hk)
    (try clear hi)
    refine hK.out _ _ ⟨(blk_cell BK125.out 0).trans rfl, (blk_cell BK125.out 1).trans rfl, (blk_cell BK125.out 2).trans rfl, (blk_cell BK125.out 3).trans rfl⟩ (fun hHeld => ?_)
    clear hK K
    refine norm_ (a' := ?_) ?_ ?_
    rotate_left
    · show Act.put _ (some 28) _ = _
      simp only [Act.put, List.setIfInBounds_toArray, List.set_cons_zero, List.set_cons_succ, i64_w, i32_w]
      rfl
    refine pure_ (i := 13) (N := some 29) (v := ?_) (a' := ?_) #[true, true, true, true, true, true, true, true, true, true, true, true, true, true, false, false] rfl rfl (any_of HT_.out (by kernel_rfl)) (fun _ _ _ h => h) (Or.inl ⟨by rfl, ?_⟩) ?_ ?_
    rotate_left
    · intro w'
      go_simp
      with_reducible rfl
    rotate_left
    · simp only [Act.put, List.setIfInBounds_toArray, List.set_cons_zero, List.set_cons_succ, i64_w, i32_w]
      rfl
    refine pure_ (i := 14) (N := some 0) (v := ?_) (a' := ?_) #[true, true, true, true, true, true, true, true, true, true, true, true, true, true, true, false] rfl rfl (any_of HT_.out (by kernel_rfl)) (fun _ _ _ h => h) (Or.inl ⟨by rfl, ?_⟩) ?_ ?_
    rotate_left
    · intro w'
      go_simp
      with_reducible rfl
    rotate_left
    · simp only [Act.put, List.setIfInBounds_toArray, List.set_cons_zero, List.set_cons_succ, i64_w, i32_w]
      rfl
    refine last_ (i := 15) (N := none) #[true, true, true, true, true, true, true, true, true, true, true, true, true, true, true, true] rfl rfl (one_of HT_.out (by kernel_rfl)) (by decide) (fun K hK => ?_)
    have hs18 : w17.cell? ⟨gb125, 0, none⟩ = some (.int .i64 a1_0) := (blk_cell BK125.out 0).trans rfl
    have hfs18 := blk_frozen BK125.out 0
    have hs19 : w17.cell? ⟨gb125, 1, none⟩ = some (.int .i64 a1_1) := (blk_cell BK125.out 1).trans rfl
    have hfs19 := blk_frozen BK125.out 1
    have hs20 : w17.cell? ⟨gb125, 2, none⟩ = some (.string a1_2) := (blk_cell BK125.out 2).trans rfl
    have hfs20 := blk_frozen BK125.out 2
    have hs21 : w17.cell? ⟨gb125, 3, none⟩ = some (.int .i64 a1_3) := (blk_cell BK125.out 3).trans rfl
    have hfs21 := blk_frozen BK125.out 3
    refine skip_ (w1 := ?_) (by rfl) rfl ?_ ?_
    rotate_left
    · go_simp
      rfl
    refine hK.out _ _ ?_
    clear hK K
    refine done_ (done_of HT_.out (by kernel_rfl)) ?_
    have hcz22_0 : w17.cell? ⟨gb125, 0, none⟩ = some (.int .i64 a1_0) := (blk_cell BK125.out 0).trans rfl
    have hcz22_1 : w17.cell? ⟨gb125, 1, none⟩ = some (.int .i64 a1_1) := (blk_cell BK125.out 1).trans rfl
    have hcz22_2 : w17.cell? ⟨gb125, 2, none⟩ = some (.string a1_2) := (blk_cell BK125.out 2).trans rfl
    have hcz22_3 : w17.cell? ⟨gb125, 3, none⟩ = some (.int .i64 a1_3) := (blk_cell BK125.out 3).trans rfl
    have hfz22_0 := blk_frozen BK125.out 0
    have hfz22_1 := blk_frozen BK125.out 1
    have hfz22_2 := blk_frozen BK125.out 2
    have hfz22_3 := blk_frozen BK125.out 3
    go_upto_region 6 with (first | ((with_reducible refine gate_callee (f := 10) rfl ?_); refine goesL_ (some 33) rfl rfl Tryd.func10 (by kernel_rfl) rfl #[.int .i64 (wrap64 (1 + t127)), .agg #[.int .i64 t128, .int .i64 (wrap64 (1 + t129)), .string t130, .int .i64 0]] rfl (by (try simp only [List.map_toArray, List.map_cons, List.map_nil]); first | done | rfl | (simp only [List.length_drop, List.length_take]; rfl) | (rw [wrap_in_ (n := 1 + t129) (by omega) (by omega)]; rfl)) ?_; (with_reducible refine (notice_Sign.calls k (wrap64 (1 + t127)) t128 (wrap64 (1 + t129)) t130 0 t131 t132 t133 t134 t135 _ A11.out (tabz_ ht_ (by repeat (first | (with_reducible first | exact HB.out | apply below_alloc | apply pw_below_drewN | apply below_drew1 | apply below_drew | refine below_set ?_ (Aside0.out (by assumption))) | exact HB.out)))).mono ?_); rintro e w23 ⟨rfl, hb⟩; refine ⟨_, rfl, ?_⟩; have n0_ := Aside0.mk (blk_below (g := gb125) (o := .cells #[.int .i64 t128, .int .i64 (wrap64 (1 + t129)), .string t130, .int .i64 0] 23 (0, 0)) (by (with_reducible repeat (first | refine blk_drewN ?_ _ | refine blk_drew ?_ | refine blk_alloc ?_ _)); refine blk_put (cs := #[.int .i64 t128, .int .i64 (wrap64 (1 + t129)), .string t130, .int .i64 a1_3]) ?_ 3 _ rfl; (with_reducible repeat (first | refine blk_drewN ?_ _ | refine blk_drew ?_ | refine blk_alloc ?_ _)); refine blk_put (cs := #[.int .i64 t128, .int .i64 (wrap64 (1 + t129)), .string a1_2, .int .i64 a1_3]) ?_ 2 _ rfl; (with_reducible repeat (first | refine blk_drewN ?_ _ | refine blk_drew ?_ | refine blk_alloc ?_ _)); refine blk_put (cs := #[.int .i64 t128, .int .i64 a1_1, .string a1_2, .int .i64 a1_3]) ?_ 1 _ rfl; (with_reducible repeat (first | refine blk_drewN ?_ _ | refine blk_drew ?_ | refine blk_alloc ?_ _)); refine blk_put (cs := #[.int .i64 a1_0, .int .i64 a1_1, .string a1_2, .int .i64 a1_3]) ?_ 0 _ rfl; (with_reducible repeat (first | refine blk_drewN ?_ _ | refine blk_drew ?_ | refine blk_alloc ?_ _)); exact BK125.out) hb); have n1_ := Aside0.mk (below_step (by repeat (first | (with_reducible first | exact HB.out | apply below_alloc | apply pw_below_drewN | apply below_drew1 | refine below_set ?_ GE125.out) | exact HB.out)) hb); clear BK125; clear HB; have BK125 := n0_; have HB := n1_; clear n0_ n1_; (try clear hb); (try clear hb2); (try clear hk); (try clear hi)) | ((with_reducible refine gate_dst (N := 9) rfl ?_); refine box_event ?hg (N := 9) ?hd (cs := #[.int .i64 0, .int .i64 0, .string (⟨#[]⟩ : ByteArray), .int .i64 0]) (t := 23) ?hr ?_; (case hd => rfl); (case hg => rfl); (case hr => first | (go_simp; done) | (go_simp; rfl)); intro gb136 hg w24 hbox hb; have n0_ := Aside0.mk (blk_below (g := gb125) (o := .cells #[.int .i64 t128, .int .i64 (wrap64 (1 + t129)), .string t130, .int .i64 0] 23 (0, 0)) (by (with_reducible repeat (first | refine blk_drewN ?_ _ | refine blk_drew ?_ | refine blk_alloc ?_ _)); exact BK125.out) hb); have n1_ := Aside0.mk (below_step (by repeat (first | (with_reducible first | exact HB.out | apply below_alloc | apply pw_below_drewN | apply below_drew1 | refine below_set ?_ GE125.out) | exact HB.out)) hb); have n2_ := Aside0.mk (hbox); have n3_ := Aside0.mk ((by rw [hg]; exact (below_size (by repeat (first | (with_reducible first | exact HB.out | apply below_alloc | apply pw_below_drewN | apply below_drew1 | refine below_set ?_ GE125.out) | exact HB.out))) : w.heap.size ≤ gb136)); have n4_ := Aside0.mk ((by rw [hg]; exact (below_size (by repeat (first | (with_reducible first | exact HB.out | apply below_alloc | apply pw_below_drewN | apply below_drew1 | refine below_set ?_ GE125.out) | exact HB.out))) : w.heap.size ≤ gb136)); have n5_ := Aside0.mk ((by rw [hg]; exact Nat.ne_of_lt (blk_lt (g := gb125) (o := .cells #[.int .i64 t128, .int .i64 (wrap64 (1 + t129)), .string t130, .int .i64 0] 23 (0, 0)) (by (with_reducible repeat (first | refine blk_drewN ?_ _ | refine blk_drew ?_ | refine blk_alloc ?_ _)); exact BK125.out)) : gb125 ≠ gb136)); have n6_ := Aside0.mk ((by rw [hg]; exact Nat.ne_of_gt (blk_lt (g := gb125) (o := .cells #[.int .i64 t128, .int .i64 (wrap64 (1 + t129)), .string t130, .int .i64 0] 23 (0, 0)) (by (with_reducible repeat (first | refine blk_drewN ?_ _ | refine blk_drew ?_ | refine blk_alloc ?_ _)); exact BK125.out)) : gb136 ≠ gb125)); clear BK125; clear HB; have BK125 := n0_; have HB := n1_; have BK136 := n2_; have GW136 := n3_; have GE136 := n4_; have NB125_136 := n5_; have NB136_125 := n6_; clear n0_ n1_ n2_ n3_ n4_ n5_ n6_; clear hb hbox hg; have hnb25 := NB136_125.out; have hnc25 := NB125_136.out; have hcz26_0 : w24.cell? ⟨gb136, 0, none⟩ = some (.int .i64 0) := (blk_cell BK136.out 0).trans rfl; have hcz26_1 : w24.cell? ⟨gb136, 1, none⟩ = some (.int .i64 0) := (blk_cell BK136.out 1).trans rfl; have hcz26_2 : w24.cell? ⟨gb136, 2, none⟩ = some (.string (⟨#[]⟩ : ByteArray)) := (blk_cell BK136.out 2).trans rfl; have hcz26_3 : w24.cell? ⟨gb136, 3, none⟩ = some (.int .i64 0) := (blk_cell BK136.out 3).trans rfl; have hfz26_0 := blk_frozen BK136.out 0; have hfz26_1 := blk_frozen BK136.out 1; have hfz26_2 := blk_frozen BK136.out 2; have hfz26_3 := blk_frozen BK136.out 3) | ((with_reducible refine gate_callee (f := 11) rfl ?_); refine goesL_ (some 39) rfl rfl Tryd.func11 (by kernel_rfl) rfl #[.int .i64 (wrap64 (1 + t127)), .agg #[.int .i64 t131, .int .i64 t132, .string t133, .int .i64 t134]] rfl (by (try simp only [List.map_toArray, List.map_cons, List.map_nil]); first | done | rfl | (simp only [List.length_drop, List.length_take]; rfl)) ?_; (with_reducible refine (notice_Right.calls k (wrap64 (1 + t127)) t131 t132 t133 t134 t137 t138 _ A12.out (tabz_ ht_ (by repeat (first | (with_reducible first | exact HB.out | apply below_alloc | apply pw_below_drewN | apply below_drew1 | apply below_drew | refine below_set ?_ (Aside0.out (by assumption))) | exact HB.out)))).mono ?_); rintro e w27 ⟨rfl, hb⟩; refine ⟨_, rfl, ?_⟩; have n0_ := Aside0.mk (blk_below (g := gb125) (o := .cells #[.int .i64 t128, .int .i64 (wrap64 (1 + t129)), .string t130, .int .i64 0] 23 (0, 0)) (by (with_reducible repeat (first | refine blk_drewN ?_ _ | refine blk_drew ?_ | refine blk_alloc ?_ _)); refine blk_far ?_ NB125_136.out _; (with_reducible repeat (first | refine blk_drewN ?_ _ | refine blk_drew ?_ | refine blk_alloc ?_ _)); refine blk_far ?_ NB125_136.out _; (with_reducible repeat (first | refine blk_drewN ?_ _ | refine blk_drew ?_ | refine blk_alloc ?_ _)); refine blk_far ?_ NB125_136.out _; (with_reducible repeat (first | refine blk_drewN ?_ _ | refine blk_drew ?_ | refine blk_alloc ?_ _)); refine blk_far ?_ NB125_136.out _; (with_reducible repeat (first | refine blk_drewN ?_ _ | refine blk_drew ?_ | refine blk_alloc ?_ _)); exact BK125.out) hb); have n1_ := Aside0.mk (blk_below (g := gb136) (o := .cells #[.int .i64 t131, .int .i64 t132, .string t133, .int .i64 t134] 23 (0, 0)) (by (with_reducible repeat (first | refine blk_drewN ?_ _ | refine blk_drew ?_ | refine blk_alloc ?_ _)); refine blk_put (cs := #[.int .i64 t131, .int .i64 t132, .string t133, .int .i64 0]) ?_ 3 _ rfl; (with_reducible repeat (first | refine blk_drewN ?_ _ | refine blk_drew ?_ | refine blk_alloc ?_ _)); refine blk_put (cs := #[.int .i64 t131, .int .i64 t132, .string (⟨#[]⟩ : ByteArray), .int .i64 0]) ?_ 2 _ rfl; (with_reducible repeat (first | refine blk_drewN ?_ _ | refine blk_drew ?_ | refine blk_alloc ?_ _)); refine blk_put (cs := #[.int .i64 t131, .int .i64 0, .string (⟨#[]⟩ : ByteArray), .int .i64 0]) ?_ 1 _ rfl; (with_reducible repeat (first | refine blk_drewN ?_ _ | refine blk_drew ?_ | refine blk_alloc ?_ _)); refine blk_put (cs := #[.int .i64 0, .int .i64 0, .string (⟨#[]⟩ : ByteArray), .int .i64 0]) ?_ 0 _ rfl; (with_reducible repeat (first | refine blk_drewN ?_ _ | refine blk_drew ?_ | refine blk_alloc ?_ _)); exact BK136.out) hb); have n2_ := Aside0.mk (below_step (by repeat (first | (with_reducible first | exact HB.out | apply below_alloc | apply pw_below_drewN | apply below_drew1 | refine below_set ?_ GE125.out | refine below_set ?_ GE136.out) | exact HB.out)) hb); clear BK125; clear BK136; clear HB; have BK125 := n0_; have BK136 := n1_; have HB := n2_; clear n0_ n1_ n2_; (try clear hb); (try clear hb2); (try clear hk); (try clear hi)))
    (try simp only [Act.put, List.setIfInBounds_toArray, List.set_cons_zero, List.set_cons_succ])
    go_cut [51] (fun v51 wc => ∃ (kq : Nat) (x51_12 : Bool), v51 = .bool x51_12 ∧ Aside0 (ephemeriskeep2_NoticeBytes.j0 kq (wrap64 (1 + t127)) a2 a3 x51_12 t131 t132 t133 t134 = some r) ∧ Aside0 (kq ≤ k) ∧ Aside0 (wc.heap[gb125]? = some (.cells #[.int .i64 t128, .int .i64 (wrap64 (1 + t129)), .string t130, .int .i64 0] 23 (0, 0))) ∧ Aside0 (wc.heap[gb136]? = some (.cells #[.int .i64 t131, .int .i64 t132, .string t133, .int .i64 t134] 23 (0, 0))) ∧ Aside0 (Below w.heap.size w wc))
    case first =>
      have H := HC13.out
      clear HC13
      by_cases c28 : t135 = 0
      · rw [if_pos c28] at H
        have c28b0 : (t135 == 0) = true := beq_iff_eq.mpr c28
        have c28b1 : (t135 != 0) = false := bne_eq_false_iff_eq.mpr c28
        clear c28
        (first | rw [c28b0] | (simp only [i64_w, i32_w]; rw [c28b0]) | rw [c28b1] | skip)
        by_cases c29 : t138 = 0
        · rw [if_pos c29] at H
          have c29b0 : (t138 == 0) = true := beq_iff_eq.mpr c29
          have c29b1 : (t138 != 0) = false := bne_eq_false_iff_eq.mpr c29
          clear c29
          have H' := Aside0.mk H
          clear H
          go_wp2
          go_meet
          case rel => exact ⟨_, (!t137), (by first | rfl | (simp; done) | (simp [*]; done)), H', ⟨by first | omega | exact Nat.le_refl _⟩, ⟨by (with_reducible repeat (first | refine blk_drewN ?_ _ | refine blk_drew ?_ | refine blk_alloc ?_ _)); exact BK125.out⟩, ⟨by (with_reducible repeat (first | refine blk_drewN ?_ _ | refine blk_drew ?_ | refine blk_alloc ?_ _)); exact BK136.out⟩, ⟨by repeat (first | (with_reducible first | exact HB.out | apply below_alloc | apply pw_below_drewN | apply below_drew1 | refine below_set ?_ GE125.out | refine below_set ?_ GE136.out) | exact HB.out)⟩⟩
        · rw [if_neg c29] at H
          have c29b0 : (t138 == 0) = false := beq_eq_false_iff_ne.mpr c29
          have c29b1 : (t138 != 0) = true := bne_iff_ne.mpr c29
          have H' := Aside0.mk H
          clear H
          go_wp2
          go_meet
          case rel => exact ⟨_, (true), (by first | rfl | (simp; done) | (simp [*]; done)), H', ⟨by first | omega | exact Nat.le_refl _⟩, ⟨by (with_reducible repeat (first | refine blk_drewN ?_ _ | refine blk_drew ?_ | refine blk_alloc ?_ _)); exact BK125.out⟩, ⟨by (with_reducible repeat (first | refine blk_drewN ?_ _ | refine blk_drew ?_ | refine blk_alloc ?_ _)); exact BK136.out⟩, ⟨by repeat (first | (with_reducible first | exact HB.out | apply below_alloc | apply pw_below_drewN | apply below_drew1 | refine below_set ?_ GE125.out | refine below_set ?_ GE136.out) | exact HB.out)⟩⟩
      · rw [if_neg c28] at H
        have c28b0 : (t135 == 0) = false := beq_eq_false_iff_ne.mpr c28
        have c28b1 : (t135 != 0) = true := bne_iff_ne.mpr c28
        (first | rw [c28b0] | (simp only [i64_w, i32_w]; rw [c28b0]) | rw [c28b1] | skip)
        have H' := Aside0.mk H
        clear H
        go_wp2
        go_meet
        case rel => exact ⟨_, (true), (by first | rfl | (simp; done) | (simp [*]; done)), H', ⟨by first | omega | exact Nat.le_refl _⟩, ⟨by (with_reducible repeat (first | refine blk_drewN ?_ _ | refine blk_drew ?_ | refine blk_alloc ?_ _)); exact BK125.out⟩, ⟨by (with_reducible repeat (first | refine blk_drewN ?_ _ | refine blk_drew ?_ | refine blk_alloc ?_ _)); exact BK136.out⟩, ⟨by repeat (first | (with_reducible first | exact HB.out | apply below_alloc | apply pw_below_drewN | apply below_drew1 | refine below_set ?_ GE125.out | refine below_set ?_ GE136.out) | exact HB.out)⟩⟩
    case rest =>
      clear HC13
      try clear c1
      try clear c2
      try clear p2
      try clear c4
      try clear c6
      try clear p6
      try clear c7
      try clear c8
      try clear c9
      try clear c10
      try clear c11
      try clear c25
      try clear c28
      try clear c28b0
      try clear c28b1
      try clear c29
      try clear c29b0
      try clear c29b1
      try clear hcz22_0
      try clear hcz22_1
      try clear hcz22_2
      try clear hcz22_3
      try clear hcz26_0
      try clear hcz26_1
      try clear hcz26_2
      try clear hcz26_3
      try clear hfz22_0
      try clear hfz22_1
      try clear hfz22_2
      try clear hfz22_3
      try clear hfz26_0
      try clear hfz26_1
      try clear hfz26_2
      try clear hfz26_3
      obtain ⟨kq, x51_12, rfl, HA, HJ12, BK125, BK136, HB⟩ := hcut
      cases kq with
      | zero => exact absurd HA.out (by simp [ephemeriskeep2_NoticeBytes.j0])
      | succ kj12 =>
        have H := HA.out
        clear HA
        simp only [ephemeriskeep2_NoticeBytes.j0] at H
        by_cases c30 : x51_12 = true
        · subst c30
          have H1 : (none) = some r := by rw [if_pos rfl] at H; exact H
          clear H
          have H := H1
          clear H1
          exact absurd H (by simp)
        · replace c30 := Bool.eq_false_iff.mpr c30
          subst c30
          have H1 : (if (t133.size : Int) = 0 then (some true) else ((ephemeriskeep2_at.f a2 (t133.size : Int)).bind fun t139 => (if 0 ≤ t139 then (if t139 < (t133.size : Int) then (if (bt t133 t139) = ((32 + (Int.tmod a3 95)) % 256) then (some true) else ((setb_ t133 t139 ((32 + (Int.tmod a3 95)) % 256)).bind fun t140 => ((notice_Right.f kj12 (wrap64 (1 + t127)) t131 t132 t140 t134).bind fun bt141 => (if bt141.2 = 0 then (some (!bt141.1)) else (none))))) else (none)) else (none)))) = some r := by rw [if_neg (show ¬ (false = true) by decide)] at H; exact H
          clear H
          have H := H1
          clear H1
          by_cases c31 : (t133.size : Int) = 0
          · rw [if_pos c31] at H
            have c31b0 : ((t133.size : Int) == 0) = true := beq_iff_eq.mpr c31
            have c31b1 : ((t133.size : Int) != 0) = false := bne_eq_false_iff_eq.mpr c31
            clear c31
            obtain rfl := Option.some.inj H
            have hnb32 := NB136_125.out
            have hnc32 := NB125_136.out
            have hcz33_0 : wc.cell? ⟨gb136, 0, none⟩ = some (.int .i64 t131) := (blk_cell BK136.out 0).trans rfl
            have hcz33_1 : wc.cell? ⟨gb136, 1, none⟩ = some (.int .i64 t132) := (blk_cell BK136.out 1).trans rfl
            have hcz33_2 : wc.cell? ⟨gb136, 2, none⟩ = some (.string t133) := (blk_cell BK136.out 2).trans rfl
            have hcz33_3 : wc.cell? ⟨gb136, 3, none⟩ = some (.int .i64 t134) := (blk_cell BK136.out 3).trans rfl
            have hfz33_0 := blk_frozen BK136.out 0
            have hfz33_1 := blk_frozen BK136.out 1
            have hfz33_2 := blk_frozen BK136.out 2
            have hfz33_3 := blk_frozen BK136.out 3
            go_wp2
            go_ret
            exact ⟨by first | rfl | (simp [errW_none, errW_some] <;> rfl) | (simp [*, errW_none, errW_some] <;> rfl), by repeat (first | (with_reducible first | exact HB.out | apply below_alloc | apply pw_below_drewN | apply below_drew1 | refine below_set ?_ GE125.out | refine below_set ?_ GE136.out) | exact HB.out)⟩
          · rw [if_neg c31] at H
            have c31b0 : ((t133.size : Int) == 0) = false := beq_eq_false_iff_ne.mpr c31
            have c31b1 : ((t133.size : Int) != 0) = true := bne_iff_ne.mpr c31
            replace H := Option.bind_eq_some_iff.mp H
            obtain ⟨tz_, A34_, H⟩ := H
            by_cases c35_ : 0 ≤ tz_
            rotate_left
            · rw [if_neg c35_] at H
              exact absurd H (by simp)
            rw [if_pos c35_] at H
            by_cases c36_ : tz_ < (t133.size : Int)
            rotate_left
            · rw [if_neg c36_] at H
              exact absurd H (by simp)
            rw [if_pos c36_] at H
            obtain ⟨i_, rfl⟩ : ∃ i : Nat, tz_ = (i : Int) := ⟨tz_.toNat, by omega⟩
            have hi_ : i_ < t133.size := by omega
            replace A34_ := Aside0.mk A34_
            have d0_ : decide ((0 : Int) ≤ (i_ : Int)) = true := decide_eq_true c35_
            have d1_ : decide ((i_ : Int) < (t133.size : Int)) = true := decide_eq_true c36_
            replace c35_ := eq_true c35_
            replace c36_ := eq_true c36_
            have cv_ := Lib.run_convert_string_bytes (P := Tryd.prog) wc 9 33 5 t133 Tryd.underlying9 Tryd.underlying33 Tryd.underlying5
            have hz0_ : wc.cell? ⟨gb136, 0, none⟩ = some (.int .i64 t131) := (blk_cell BK136.out 0).trans rfl
            have hz1_ : wc.cell? ⟨gb136, 1, none⟩ = some (.int .i64 t132) := (blk_cell BK136.out 1).trans rfl
            have hz2_ : wc.cell? ⟨gb136, 2, none⟩ = some (.string t133) := (blk_cell BK136.out 2).trans rfl
            have hz3_ : wc.cell? ⟨gb136, 3, none⟩ = some (.int .i64 t134) := (blk_cell BK136.out 3).trans rfl
            have hy0_ := blk_frozen BK136.out 0
            have hy1_ := blk_frozen BK136.out 1
            have hy2_ := blk_frozen BK136.out 2
            have hy3_ := blk_frozen BK136.out 3
            go_upto_region 11 with fail
            clear hz0_ hz1_ hz2_ hz3_ hy0_ hy1_ hy2_ hy3_ cv_
            have RW_ := Aside0.mk (rb_start wc t133)
            have HC_ := Lib.bytesWorld_below wc 5 t133
            have BO_ := Aside0.mk (blk_below BK125.out HC_)
            have BS_ := Aside0.mk (blk_below BK136.out HC_)
            have HB9_ := Aside0.mk (below_step HB.out HC_)
            have NG_ : gb136 < wc.heap.size := blk_lt BK136.out
            have HG_ : w.heap.size ≤ wc.heap.size := HB.out.size
            generalize grownCap wc t133.size 0 5 = cp_
            generalize Lib.bytesWorld wc 5 t133 = w9_ at RW_ BO_ BS_ HB9_ ⊢
            clear HC_ BK125 BK136 HB
            generalize wc.heap.size = g9_ at RW_ NG_ HG_ ⊢
            by_cases c38_ : (bt t133 (i_ : Int)) = ((32 + (Int.tmod a3 95)) % 256)
            · rw [if_pos c38_] at H
              have c38b0_ : ((bt t133 (i_ : Int)) == ((32 + (Int.tmod a3 95)) % 256)) = true := beq_iff_eq.mpr c38_
              clear c38_
              obtain rfl := Option.some.inj H
              go_wp2_with (first | ((with_reducible refine gate_callee (f := 8) rfl ?_); refine goesL_ (some 62) rfl rfl Tryd.func8 (by kernel_rfl) rfl #[.int .i64 a2, .int .i64 (t133.size : Int)] rfl (by (try simp only [List.map_toArray, List.map_cons, List.map_nil]); first | done | rfl | (simp only [List.length_drop, List.length_take]; rfl)) ?_; (with_reducible refine (ephemeriskeep2_at.calls a2 (t133.size : Int) (i_ : Int) _ A34_.out).mono ?_); rintro e w' ⟨rfl, ⟨nd, rfl⟩⟩; refine ⟨_, rfl, ?_⟩; have n0_ := Aside0.mk (rb_drewN RW_.out nd); have n1_ := Aside0.mk (blk_drewN BO_.out nd); have n2_ := Aside0.mk (blk_drewN BS_.out nd); have n3_ := Aside0.mk (pw_below_drewN HB9_.out nd); generalize World.drewN w9_ nd = w10_ at n0_ n1_ n2_ n3_ ⊢; have hx_ := rb_cell n0_.out hi_; have hf_ := rb_frozen n0_.out hi_))
              go_ret
              exact ⟨by first | rfl | (simp; done), n3_.out⟩
            rw [if_neg c38_] at H
            have c38b0_ : ((bt t133 (i_ : Int)) == ((32 + (Int.tmod a3 95)) % 256)) = false := beq_eq_false_iff_ne.mpr c38_
            clear c38_
            have v0_ : 0 ≤ ((32 + (Int.tmod a3 95)) % 256) ∧ ((32 + (Int.tmod a3 95)) % 256) < 256 := by omega
            replace H := Option.bind_eq_some_iff.mp H
            obtain ⟨ty_, A41_, H⟩ := H
            unfold setb_ at A41_
            rw [if_pos ⟨of_eq_true c35_, of_eq_true c36_, v0_.1, v0_.2⟩, Int.toNat_natCast] at A41_
            obtain rfl := Option.some.inj A41_
            clear A41_
            replace H := Option.bind_eq_some_iff.mp H
            obtain ⟨⟨tr_, te_⟩, A42_, H⟩ := H
            replace H : (if te_ = 0 then (some (!tr_)) else (none)) = some r := H
            replace A42_ := Aside0.mk A42_
            by_cases c43_ : te_ = 0
            rotate_left
            · rw [if_neg c43_] at H
              exact absurd H (by simp)
            rw [if_pos c43_] at H
            subst c43_
            obtain rfl := Option.some.inj H
            clear H
            go_upto_region 16 with (first | ((with_reducible refine gate_callee (f := 8) rfl ?_); refine goesL_ (some 62) rfl rfl Tryd.func8 (by kernel_rfl) rfl #[.int .i64 a2, .int .i64 (t133.size : Int)] rfl (by (try simp only [List.map_toArray, List.map_cons, List.map_nil]); first | done | rfl | (simp only [List.length_drop, List.length_take]; rfl)) ?_; (with_reducible refine (ephemeriskeep2_at.calls a2 (t133.size : Int) (i_ : Int) _ A34_.out).mono ?_); rintro e w' ⟨rfl, ⟨nd, rfl⟩⟩; refine ⟨_, rfl, ?_⟩; have n0_ := Aside0.mk (rb_drewN RW_.out nd); have n1_ := Aside0.mk (blk_drewN BO_.out nd); have n2_ := Aside0.mk (blk_drewN BS_.out nd); have n3_ := Aside0.mk (pw_below_drewN HB9_.out nd); generalize World.drewN w9_ nd = w10_ at n0_ n1_ n2_ n3_ ⊢; have hx_ := rb_cell n0_.out hi_; have hf_ := rb_frozen n0_.out hi_))
            have RX_ := Aside0.mk (rb_set n0_.out hi_ v0_.1 v0_.2)
            have NE_ : gb136 ≠ g9_ := by omega
            have BX_ := Aside0.mk (blk_far (p := ⟨g9_, i_, none⟩) n2_.out NE_ (.int .u8 ((32 + (Int.tmod a3 95)) % 256)))
            have HB := Aside0.mk (below_setg n3_.out HG_ (j := i_) (v := .int .u8 ((32 + (Int.tmod a3 95)) % 256)))
            generalize World.setCell w10_ ⟨g9_, i_, none⟩ (.int .u8 ((32 + (Int.tmod a3 95)) % 256)) = w11_ at RX_ BX_ HB ⊢
            have sz_ : (⟨t133.data.setIfInBounds i_ (UInt8.ofNat (((32 + (Int.tmod a3 95)) % 256) : Int).toNat)⟩ : ByteArray).size = t133.size := by
              show (t133.data.setIfInBounds i_ (UInt8.ofNat (((32 + (Int.tmod a3 95)) % 256) : Int).toNat)).size = t133.size
              rw [Array.size_setIfInBounds]; rfl
            have cw_ := Lib.run_convert_whole (P := Tryd.prog) w11_ 33 5 9 Tryd.underlying33 Tryd.underlying5 Tryd.underlying9 g9_ 0 _ (rb_bytes RX_.out) cp_
            rw [sz_] at cw_
            have GEX_ := GE136.out
            clear hx_ hf_ n0_ n2_ n3_ sz_
            have hz0_ : w11_.cell? ⟨gb136, 0, none⟩ = some (.int .i64 t131) := (blk_cell BX_.out 0).trans rfl
            have hz1_ : w11_.cell? ⟨gb136, 1, none⟩ = some (.int .i64 t132) := (blk_cell BX_.out 1).trans rfl
            have hz2_ : w11_.cell? ⟨gb136, 2, none⟩ = some (.string t133) := (blk_cell BX_.out 2).trans rfl
            have hz3_ : w11_.cell? ⟨gb136, 3, none⟩ = some (.int .i64 t134) := (blk_cell BX_.out 3).trans rfl
            have hy0_ := blk_frozen BX_.out 0
            have hy1_ := blk_frozen BX_.out 1
            have hy2_ := blk_frozen BX_.out 2
            have hy3_ := blk_frozen BX_.out 3
            generalize (⟨t133.data.setIfInBounds i_ (UInt8.ofNat (((32 + (Int.tmod a3 95)) % 256) : Int).toNat)⟩ : ByteArray) = ty_ at A42_ cw_ ⊢
            go_wp2_with (first | ((with_reducible refine gate_callee (f := 11) rfl ?_); refine goesL_ (some 82) rfl rfl Tryd.func11 (by kernel_rfl) rfl #[.int .i64 (wrap64 (1 + t127)), .agg #[.int .i64 t131, .int .i64 t132, .string ty_, .int .i64 t134]] rfl (by (try simp only [List.map_toArray, List.map_cons, List.map_nil]); first | done | rfl | (simp only [List.length_drop, List.length_take]; rfl)) ?_; (with_reducible refine (notice_Right.calls kj12 (wrap64 (1 + t127)) t131 t132 ty_ t134 tr_ 0 _ A42_.out (tabz_ ht_ (by repeat (first | (with_reducible first | exact HB.out | apply below_alloc | apply pw_below_drewN | apply below_drew1 | apply below_drew | refine below_set ?_ (Aside0.out (by assumption))) | exact HB.out)))).mono ?_); rintro e w12_ ⟨rfl, hb⟩; refine ⟨_, rfl, ?_⟩; have HZ_ := Aside0.mk (below_step (by repeat (first | (with_reducible exact HB.out) | apply below_alloc | apply pw_below_drewN | apply below_drew1 | apply below_drew | refine below_set ?_ GEX_)) hb)))
            go_ret
            exact ⟨by first | rfl | (simp; done) | (simp [*]; done), HZ_.out⟩
  · replace c6 := Bool.eq_false_iff.mpr c6
    subst c6
    have H1 : (none) = some r := by rw [if_neg (show ¬ (false = true) by decide)] at H; exact H
    clear H
    have H := H1
    clear H1
    exact absurd H (by simp)

end Go.Proofs.YtoecglgbmhhdnaaDoor.JB
