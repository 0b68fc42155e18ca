-- Made by a program of this session (wip/hp.py, over the kit's print) out of the translation. Not trusted: Lean checks it.
import Derived.Test.YtglpfgkbecgaaaaJMx0
import Derived.Test.YtglpfgkbecgaaaaJMx1
import Derived.Lib.SliceRun
import Derived.StillTailTactics
namespace Go.Proofs.Ytglpfgkbecgaaaa.JM
open Go.RowKit Go.Proofs.YtglpfgkbecgaaaaW.PrintWords Go.Proofs.YtglpfgkbecgaaaaW.PrintLast Go.Proofs.YtglpfgkbecgaaaaW.PrintMore
attribute [local go_sem] max2_int min2_int max_two min_two max_three min_three max_four min_four   -- for this text's walks alone
set_option linter.unusedVariables false
set_option linter.unusedSimpArgs false

/-! ### api_ChronBound_37: function 37 -/
-- hand
-- body
-- IMPORT Derived.Lib.SliceRun
set_option maxHeartbeats 8000000 in
set_option maxRecDepth 100000 in
theorem api_ChronBound_37.calls (A0 : Option Addr) (c0 : Nat) (l0 : List (S51)) (r : List (S51)) (w : World) (hr0 : Kd.C k51 w A0 l0.length l0) (hc0 : l0.length ≤ c0) (h : api_ChronBound_37.f l0 = some r) :
    Calls Try.prog 37 #[.slice A0 l0.length c0] w fun e w' => ∃ v0_ : Value, e = .returned (v0_) ∧ Kd.R k51 51 w' w.heap.size (fun _ => True) v0_ r ∧ Below w.heap.size w w' := by
  have HR0 := Aside0.mk hr0
  have HC0 := Aside0.mk hc0
  clear hr0 hc0
  have HB := Aside0.mk (Below.refl w.heap.size w)
  have H : ((some (([] : List (S51)) : List (S51))).bind fun y163 => (if y163.length + l0.length < 4398046511104 then (some (y163 ++ l0)) else (none))) = some r := h
  clear h
  cases A0 with
  | none =>
    have e0 : l0.length = 0 := by
      rcases Nat.eq_zero_or_pos l0.length with h0 | h0
      · exact h0
      · obtain ⟨ad, e, _⟩ := at_T51 HR0.out 0 (by omega) (by omega)
        cases e
    have e1 : l0 = [] := List.length_eq_zero_iff.1 e0
    subst e1
    have e2 : r = [] := by
      have h1 := H
      simp at h1
      exact h1
    subst e2
    clear H
    have hq : ∀ w : World, (binOp BinOp.eql 44 (.slice none 0 c0) (.slice none 0 0)).run Try.prog w = .ok (.bool true) w := fun w => by have h_ := Lib.run_eql_slice_nil (P := Try.prog) w 44 51 none 0 c0 0 0 Try.underlying44; exact h_
    go_enter Try.func37, Try.ntmps37
    go_wp2
    go_ret
    exact ⟨_, by first | rfl | (simp; done), Kd.R_nil _ _ _ _ _, Below.refl _ _⟩
  | some ad0 =>
    have hq : ∀ w : World, (binOp BinOp.eql 44 (.slice (some ad0) l0.length c0) (.slice none 0 0)).run Try.prog w = .ok (.bool false) w := fun w => by have h_ := Lib.run_eql_slice_nil (P := Try.prog) w 44 51 (some ad0) l0.length c0 0 0 Try.underlying44; exact h_
    obtain ⟨y163, hy163⟩ : ∃ y_ : List (S51), y_ = (([] : List (S51))) := ⟨_, rfl⟩
    replace H : (if y163.length + l0.length < 4398046511104 then (some (y163 ++ l0)) else (none)) = some r := by first | (rw [hy163]; with_reducible exact H) | (have H2_ := (Option.bind_some _ _).symm.trans H; rw [hy163]; with_reducible exact H2_) | (have H2_ := (Option.bind_some _ _).symm.trans H; with_reducible exact H2_) | with_reducible exact H | (rw [hy163]; exact H) | exact H
    have Ny163 := Aside0.mk hy163
    clear hy163
    by_cases c2 : y163.length + l0.length < 4398046511104
    · rw [if_pos c2] at H
      have LMc2 := Aside0.mk c2
      clear c2
      obtain ⟨y166, hy166⟩ : ∃ y_ : List (S51), y_ = (y163 ++ l0) := ⟨_, rfl⟩
      replace H : (some y166) = some r := by first | (rw [hy166]; with_reducible exact H) | (have H2_ := (Option.bind_some _ _).symm.trans H; rw [hy166]; with_reducible exact H2_) | (have H2_ := (Option.bind_some _ _).symm.trans H; with_reducible exact H2_) | with_reducible exact H | (rw [hy166]; exact H) | exact H
      have Ny166 := Aside0.mk hy166
      clear hy166
      obtain rfl := Option.some.inj H
      go_enter Try.func37, Try.ntmps37
      go_wp2_with (first | ((with_reducible refine gate_dst (N := 5) rfl ?_); refine Kd.R_lit k51 _ 51 ?hg (N := 5) ?hd (xs := ([] : List (S51))) (inner := []) (ok := fun _ => True) (okp := fun _ => True) ?hr ?hp (fun _ hk => hk) trivial (Below.refl _ _) (Nat.le_refl _) (by simp) ?_; (case hd => rfl); (case hg => rfl); (case hr => first | (go_simp; done) | (go_simp; rfl)); (case hp => exact (Reps.none _ _)); intro v164 w3 ho4 hb hg_ hnew_; clear hg_ hnew_; (first | rw [← Ny163.out] at ho4 | (simp only [Int.reduceToNat] at ho4; rw [← Ny163.out] at ho4)); have n0_ := Aside0.mk (Kd.R_lower ho4 (below_size (by repeat (first | (with_reducible first | exact HB.out | apply below_alloc | apply pw_below_drewN | apply below_drew1) | exact HB.out)))); have n1_ := Aside0.mk (below_step (by repeat (first | (with_reducible first | exact HB.out | apply below_alloc | apply pw_below_drewN | apply below_drew1) | exact HB.out)) hb); clear HB; have HO165 := n0_; have HB := n1_; clear n0_ n1_; clear hb ho4) | ((with_reducible refine gate_builtin (b := .append) (xs := #[.tmp 5, .tmp 6]) rfl ?_); at_builtin; refine Kd.R_append_rows k51 (w0 := w) w.heap.size rfl (.tmp 5) (.tmp 6) 44 51 (.agg #[(.int .i64 0), (.int .i64 0), (.int .i64 0), (.int .i64 0)]) 32 rfl Try.underlying44 info51 rfl (by decide) (by omega) v164 y163 l0 _ _ _ (fun _ => True) (fun _ => False) rfl rfl ?aO ?aR (fun _ _ h => h) (fun _ h => h.elim) ?aF ?aB ?aS ?aL ?_; (case aR => repeat (first | exact (Kd.C_below HR0.out HB.out) | (with_reducible refine Kd.C_alloc ?_ _) | (with_reducible refine Kd.C_drewN ?_ _) | (with_reducible refine Kd.C_drew ?_))); (case aB => exact (by repeat (first | (with_reducible first | exact HB.out | apply below_alloc | apply pw_below_drewN | apply below_drew1) | exact HB.out))); (case aF => exact (fun _ _ => trivial)); (case aO => exact (by (with_reducible repeat (first | apply Kd.R_alloc | apply Kd.R_drewN | apply Kd.R_drew)); exact HO165.out)); (case aS => exact (below_size (by repeat (first | (with_reducible first | exact HB.out | apply below_alloc | apply pw_below_drewN | apply below_drew1) | exact HB.out)))); (case aL => have := LMc2.out; omega); intro v167 w5 ho hb hg hat; rw [← Ny166.out] at ho; have n0_ := Aside0.mk (hb); have n1_ := Aside0.mk (ho); clear HB; clear HO165; have HB := n0_; have HO168 := n1_; clear n0_ n1_; clear ho hb hg hat))
      go_ret
      exact ⟨_, by first | rfl | (simp [errW_none, errW_some] <;> rfl) | (simp [*, errW_none, errW_some] <;> rfl), by (with_reducible repeat (first | apply Kd.R_alloc | apply Kd.R_drewN | apply Kd.R_drew)); exact HO168.out, by repeat (first | (with_reducible first | exact HB.out | apply below_alloc | apply pw_below_drewN | apply below_drew1) | exact HB.out)⟩
    · rw [if_neg c2] at H
      exact absurd H (by simp)

/-! ### contradict_without: function 38 -/
-- hand
-- body
-- IMPORT Derived.StillTailTactics
theorem wipe_ {α : Type} (d : Kd α) {W : World} {base : Nat} {e : TypeId} {g n c off : Nat} {xs : List α} {ok : Nat → Prop} (HO : Kd.R d e W base ok (.slice (some ⟨g, 0, none⟩) n c) xs) (vs : List Value) (h1 : n * d.sz ≤ off) (h2 : off + vs.length ≤ c * d.sz) :
    Kd.R d e (W.setCells g off vs) base ok (.slice (some ⟨g, 0, none⟩) n c) xs ∧ W.grownBy (W.setCells g off vs) (some g) := by
  obtain ⟨hn, hnc, _⟩ := Kd.R_reads' HO
  obtain ⟨hok, inner, hown, hr⟩ := HO
  rcases hown.2 with ⟨hv, _⟩ | ⟨g', cap', cur, hv, hb, hh, h5, hcm, hcs, htake⟩
  · cases hv
  injection hv with ha _ hc
  injection ha with ha
  injection ha with hg
  subst hg; subst hc
  obtain ⟨cur', h3, h4, h6⟩ := setCells_row vs off W cur hh (by omega)
  obtain ⟨s1, s2, s3, s4⟩ := setCells_same g vs off W
  have hfar : ∀ k', k' ≠ g → (W.setCells g off vs).heap[k']? = W.heap[k']? := fun k' hk' => setCells_far vs _ k' hk'
  have hgo : some g = (Value.slice (some ⟨g, 0, none⟩) n c).ownBlock := by simp [Value.ownBlock]
  refine ⟨⟨hok, inner, ⟨hown.1, .inr ⟨g, c, cur', by rw [hn], hb, h3, h5, hcm, by rw [h4, hcs], ?_⟩⟩, ?_⟩, ⟨s1, s2, s3, by rw [s4]; exact Nat.le_refl _, fun k' _ hk' => hfar k' (fun he => hk' (by rw [he]))⟩⟩
  · have hle : xs.length * d.sz ≤ off := by rw [← hn]; exact h1
    rw [h6, ← htake, List.append_assoc, List.take_append_of_le_length (by rw [List.length_take]; have := Array.length_toList (xs := cur); omega), List.take_take, Nat.min_eq_left hle]
  · exact hr.imp_ fun p q hp => d.M_move (fun k' hk' => hfar k' (fun he => hk'.2 (by rw [← hgo, he]))) hp
theorem clear_run_ {w : World} {g m c2 : Nat} {cur : Array Value} {e : TypeId} (hh : w.heap[g]? = some (.cells cur e (0, 0))) (hl : m * 4 + 4 ≤ cur.size) :
    (Builtin.clear_ #[44] 0 #[.slice (some ⟨g, m * 4, none⟩) 1 c2]).run Try.prog w = .ok (.tuple #[]) (w.setCells g (m * 4) [.int .i64 0, .int .i64 0, .int .i64 0, .int .i64 0]) := by
  have hu := Try.underlying44
  have hz : ∀ w : World, (zeroValue 51).run Try.prog w = .ok (.agg #[.int .i64 0, .int .i64 0, .int .i64 0, .int .i64 0]) w := fun w => by kernel_rfl
  have hy : (Builtin.zeroCells #[.int .i64 0, .int .i64 0, .int .i64 0, .int .i64 0] 1).toList = [.int .i64 0, .int .i64 0, .int .i64 0, .int .i64 0] := by kernel_rfl
  have hst := run_storeCells_cells (P := Try.prog) g (m * 4) [.int .i64 0, .int .i64 0, .int .i64 0, .int .i64 0] 0 w (fun j hj => by rw [cell_of_row w g _ cur e (0, 0) hh]; simp at hj ⊢; omega) (fun j _ => blk_frozen hh _) (by simp [Value.oneCell'])
  rw [Nat.add_zero] at hst
  simp [Builtin.clear_, hz, run_underlying hu, Value.cells, hy, hst]
theorem row_of_ {w : World} {base g n c : Nat} {xs : List S51} {ok : Nat → Prop} (h : Kd.R k51 51 w base ok (.slice (some ⟨g, 0, none⟩) n c) xs) : ∃ cur : Array Value, base ≤ g ∧ w.heap[g]? = some (.cells cur 51 (0, 0)) ∧ cur.size = c * 4 := by
  obtain ⟨hok, inner, hown, hr⟩ := h
  rcases hown.2 with ⟨hv, _⟩ | ⟨g', cap', cur, hv, hb, hh, h5, hcm, hcs, htake⟩
  · cases hv
  injection hv with ha _ hc
  injection ha with ha
  injection ha with hg
  subst hg; subst hc
  exact ⟨cur, hb, hh, hcs⟩
set_option maxHeartbeats 8000000 in
set_option maxRecDepth 100000 in
theorem del_calls_ (g c k m : Nat) (xs : List S51) (base : Nat) (w0 w : World) (hm : xs.length = m + 1) (HO : Kd.R k51 51 w base (fun _ => True) (.slice (some ⟨g, 0, none⟩) xs.length c) xs) (hk : k < xs.length) (HB : Below base w0 w) (hbase : base ≤ w.heap.size) :
    Calls Try.prog 48 #[.slice (some ⟨g, 0, none⟩) xs.length c, .int .i64 k, .int .i64 ((k : Int) + 1)] w fun e w' => e = .returned (.slice (some ⟨g, 0, none⟩) m c) ∧ Kd.R k51 51 w' base (fun _ => True) (.slice (some ⟨g, 0, none⟩) m c) (xs.eraseIdx k) ∧ Below base w0 w' := by
  obtain ⟨_, hnc, _⟩ := Kd.R_reads' HO
  have q1 : (0 ≤ (k : Int)) = True := eq_true (by omega)
  have q2 : ((k : Int) ≤ (k : Int) + 1) = True := eq_true (by omega)
  have q3 : ((k : Int) + 1 ≤ (xs.length : Int)) = True := eq_true (by omega)
  have q4 : ((xs.length : Int) ≤ (c : Int)) = True := eq_true (by omega)
  have q5 : ((k : Int) == (k : Int) + 1) = false := by simp; omega
  have q6 : ((k : Int) ≤ (c : Int)) = True := eq_true (by omega)
  have q7 : (k ≤ c) = True := eq_true (by omega)
  have q8 : (k + 1 ≤ xs.length) = True := eq_true (by omega)
  have q9 : (0 ≤ (k : Int) + 1) = True := eq_true (by omega)
  have q10 : (xs.length ≤ c) = True := eq_true (by omega)
  have q11 : (0 ≤ (m : Int)) = True := eq_true (by omega)
  have q12 : ((m : Int) ≤ (xs.length : Int)) = True := eq_true (by omega)
  have q12' : (m ≤ xs.length) = True := eq_true (by omega)
  have q13 : (c = m) = False := eq_false (by omega)
  have q14 : (m ≤ c) = True := eq_true (by omega)
  have q15 : ((m : Int) ≤ (c : Int)) = True := eq_true (by omega)
  have q16 : xs.length - m = 1 := by omega
  have e1 : xs.length - 1 = m := by omega
  have hmc : m < c := by omega
  have HO' := Aside0.mk HO
  have HB' := Aside0.mk HB
  have HE := Aside0.mk e1
  have HX := Aside0.mk hmc
  clear HO HB hm e1 hmc
  by_cases hck : c = k + 1
  · have q17 : (c = k + 1) = True := eq_true hck
    have HCK := Aside0.mk hck
    clear hck
    go_enter Try.func48, Try.ntmps48
    go_wp2_with fail
    go_still_tail 6, (by kernel_rfl)
    change wpList _ _ _ _ _ w.drew
    have HO2 := Aside0.mk (Kd.R_drew HO'.out)
    have HB2 := Aside0.mk (below_drew HB'.out)
    have hb2 : base ≤ w.drew.heap.size := hbase
    clear HO' HB'
    generalize w.drew = w1 at HO2 HB2 hb2 ⊢
    refine Kd.R_delete k51 (w0 := w0) base rfl (.tmp 22) (.tmp 25) 44 51 rfl Try.underlying44 (by kernel_rfl) (g := g) (n := xs.length) (c := c) (k := k) rfl rfl ?hA ?hm HO2.out hk HB2.out hb2 ?_
    case hA => rw [if_pos HCK.out]
    case hm => rfl
    intro w2 h1 h2 h3
    rw [HE.out] at h1 ⊢
    have hg3 : base ≤ w2.heap.size := Nat.le_trans hb2 h3.size
    clear HO2 HB2 h3 hb2
    obtain ⟨cur, hb_, hh_, hs_⟩ := row_of_ h1
    have hq := clear_run_ (m := m) (c2 := c - m) hh_ (by have := HX.out; omega)
    have HW := Aside0.mk (wipe_ k51 h1 [.int .i64 0, .int .i64 0, .int .i64 0, .int .i64 0] (off := m * 4) (Nat.le_refl _) (by have := HX.out; show m * 4 + 4 ≤ c * 4; omega))
    have HB3 := Aside0.mk (h2.grown HW.out.2 hg3 (fun k_ hk_ => by injection hk_ with hk_; subst hk_; exact hb_))
    clear h1 h2 hh_ hs_ hb_
    generalize w2.setCells g (m * 4) [.int .i64 0, .int .i64 0, .int .i64 0, .int .i64 0] = w3 at hq HW HB3 ⊢
    go_wp2
    go_ret
    exact ⟨rfl, HW.out.1, HB3.out⟩
  · have q17 : (c = k + 1) = False := eq_false hck
    have HCK := Aside0.mk hck
    clear hck
    go_enter Try.func48, Try.ntmps48
    go_wp2_with fail
    go_still_tail 6, (by kernel_rfl)
    change wpList _ _ _ _ _ w.drew
    have HO2 := Aside0.mk (Kd.R_drew HO'.out)
    have HB2 := Aside0.mk (below_drew HB'.out)
    have hb2 : base ≤ w.drew.heap.size := hbase
    clear HO' HB'
    generalize w.drew = w1 at HO2 HB2 hb2 ⊢
    refine Kd.R_delete k51 (w0 := w0) base rfl (.tmp 22) (.tmp 25) 44 51 rfl Try.underlying44 (by kernel_rfl) (g := g) (n := xs.length) (c := c) (k := k) rfl rfl ?hA2 ?hm2 HO2.out hk HB2.out hb2 ?_
    case hA2 => (rw [if_neg HCK.out]; show some (⟨g, (k + 1) * 4, none⟩ : Addr) = some ⟨g, 0 + (k + 1) * 4, none⟩; rw [Nat.zero_add])
    case hm2 => rfl
    intro w2 h1 h2 h3
    rw [HE.out] at h1 ⊢
    have hg3 : base ≤ w2.heap.size := Nat.le_trans hb2 h3.size
    clear HO2 HB2 h3 hb2
    obtain ⟨cur, hb_, hh_, hs_⟩ := row_of_ h1
    have hq := clear_run_ (m := m) (c2 := c - m) hh_ (by have := HX.out; omega)
    have HW := Aside0.mk (wipe_ k51 h1 [.int .i64 0, .int .i64 0, .int .i64 0, .int .i64 0] (off := m * 4) (Nat.le_refl _) (by have := HX.out; show m * 4 + 4 ≤ c * 4; omega))
    have HB3 := Aside0.mk (h2.grown HW.out.2 hg3 (fun k_ hk_ => by injection hk_ with hk_; subst hk_; exact hb_))
    clear h1 h2 hh_ hs_ hb_
    generalize w2.setCells g (m * 4) [.int .i64 0, .int .i64 0, .int .i64 0, .int .i64 0] = w3 at hq HW HB3 ⊢
    go_wp2
    go_ret
    exact ⟨rfl, HW.out.1, HB3.out⟩
set_option maxHeartbeats 8000000 in
set_option maxRecDepth 100000 in
theorem contradict_without.calls (A0 : Option Addr) (c0 : Nat) (l0 : List (S51)) (a1 : Int) (r : List (S51)) (w : World) (hr0 : Kd.C k51 w A0 l0.length l0) (hc0 : l0.length ≤ c0) (h : contradict_without.f l0 a1 = some r) :
    Calls Try.prog 38 #[.slice A0 l0.length c0, .int .i64 a1] w fun e w' => ∃ v0_ : Value, e = .returned (v0_) ∧ Kd.R k51 51 w' w.heap.size (fun _ => True) v0_ r ∧ Below w.heap.size w w' := by
  have HR0 := Aside0.mk hr0
  have HC0 := Aside0.mk hc0
  clear hr0 hc0
  unfold contradict_without.f at h
  by_cases c : 0 ≤ a1 ∧ a1 < l0.length ∧ l0.length < 1000000000
  rotate_left
  · rw [if_neg c] at h; simp at h
  rw [if_pos c] at h
  obtain rfl := Option.some.inj h
  obtain ⟨c1, c2, c3⟩ := c
  obtain ⟨k, rfl⟩ : ∃ k : Nat, a1 = k := ⟨a1.toNat, by omega⟩
  obtain ⟨m, hm⟩ : ∃ m, l0.length = m + 1 := ⟨l0.length - 1, by omega⟩
  have hw : IntKind.i64.wrap ((k : Int) + 1) = (k : Int) + 1 := IntWalk.i64_in _ (by omega)
  have hw2 : wrap64 ((k : Int) + 1) = (k : Int) + 1 := wrap_in_ (by omega) (by omega)
  have HM := Aside0.mk hm
  have HK := Aside0.mk (show k < l0.length by omega)
  have hcl : api_ChronBound_37.f l0 = some l0 := by
    unfold api_ChronBound_37.f
    simp only [Option.bind_some, List.length_nil, List.nil_append]
    rw [if_pos (by omega)]
  have HCL := Aside0.mk hcl
  clear h hcl hm c1 c2 c3
  rw [Int.toNat_natCast]
  go_enter Try.func38, Try.ntmps38
  go_wp2_with fail
  refine (api_ChronBound_37.calls A0 c0 l0 l0 _ HR0.out HC0.out HCL.out).mono ?_
  rintro e w1 ⟨v, rfl, ho, hb⟩
  obtain ⟨g, cc, rfl, hg1, hg2, hg3, hg4⟩ := Kd.R_form ho (by have := HK.out; omega)
  have HO := Aside0.mk ho
  have HB := Aside0.mk hb
  clear ho hb hg1 hg2 hg3 hg4
  go_wp2_with fail
  refine (del_calls_ g cc k m l0 _ _ _ HM.out HO.out HK.out HB.out HB.out.size).mono ?_
  rintro e w2 ⟨rfl, ho, hb⟩
  have HO2 := Aside0.mk ho
  have HB2 := Aside0.mk hb
  clear ho hb
  go_wp2
  go_ret
  exact ⟨_, rfl, HO2.out, HB2.out⟩

end Go.Proofs.Ytglpfgkbecgaaaa.JM
