-- Made by a program of this session (wip/hp.py, over the kit's print) out of the translation. Not trusted: Lean checks it.
import Derived.Test.YtgmjgnojjbajdaaDoorJGx0
import Derived.Test.YtgmjgnojjbajdaaDoorOrb
namespace Go.Proofs.YtgmjgnojjbajdaaDoor.JG
open Go.RowKit Go.Proofs.YtgmjgnojjbajdaaDoorW.PrintWords Go.Proofs.YtgmjgnojjbajdaaDoorW.PrintLast Go.Proofs.YtgmjgnojjbajdaaDoorW.PrintMore
attribute [local go_sem] max2_int min2_int max_two min_two max_three min_three max_four min_four   -- for this text's walks alone
set_option linter.unusedVariables false
set_option linter.unusedSimpArgs false

/-! ### planet_Names: function 15 -/
-- hand
-- raw
-- IMPORT Derived.Test.YtgmjgnojjbajdaaDoorOrb
theorem names_take : ∀ k : Nat, k < 5 → (lt_.map fun x => x.1).take (k + 1) = (lt_.map fun x => x.1).take k ++ [(lx_ k).1]
  | 0, _ => rfl
  | 1, _ => rfl
  | 2, _ => rfl
  | 3, _ => rfl
  | 4, _ => rfl
  | k + 5, h => by omega
set_option maxHeartbeats 8000000 in
set_option maxRecDepth 100000 in
theorem names_ok (w : World) (ht_ : Aside0 (Tab_ w)) :
    Calls Tryd.prog 15 #[] w fun e w' => ∃ v0_ : Value, e = .returned (v0_) ∧ Kd.R Kd.string 9 w' w.heap.size (fun _ => True) v0_ (lt_.map fun x => x.1) ∧ Below w.heap.size w w' := by
  have hu59 := Tryd.underlying59
  have HB := Aside0.mk (Below.refl w.heap.size w)
  have HO := Aside0.mk (Kd.R_nil Kd.string 9 w w.heap.size (fun _ => True))
  go_enter Tryd.func15, Tryd.ntmps15
  go_wp2_with (first | ((with_reducible refine gate_dst (N := 4) rfl ?_); refine Kd.event_run rfl (ldx_ rfl rfl ht_.out) ?_))
  go_loopg [1, 5] 5 (fun kq v1 v5 wr => ∃ k : Nat, Aside0 (kq + k = 5) ∧ v5 = .int .i64 (k : Int) ∧ Aside0 (Kd.R Kd.string 9 wr w.heap.size (fun _ => True) v1 ((lt_.map fun x => x.1).take k)) ∧ Aside0 (Below w.heap.size w wr))
  case atStart =>
    exact ⟨0, ⟨rfl⟩, rfl, HO, HB⟩
  case round =>
    clear HO HB
    obtain ⟨k, hk, rfl, HO, HB⟩ := hrel
    by_cases c : k < 5
    · have ix_ := ltix_ k c
      have c1 := d5_ c
      have x5 := w5_ c
      have hn := names_take k c
      obtain ⟨xs_, hxs_⟩ : ∃ xs_, xs_ = (lt_.map fun x => x.1).take k := ⟨_, rfl⟩
      rw [← hxs_] at HO hn
      have lx := Aside0.mk (show xs_.length ≤ 5 by rw [hxs_, List.length_take]; exact Nat.min_le_right _ _)
      have JL := Aside0.mk c
      clear c
      generalize (lx_ k).1 = n_ at ix_ hn
      generalize (lx_ k).2.1 = r_ at ix_
      generalize (lx_ k).2.2.1 = d_ at ix_
      generalize (lx_ k).2.2.2 = e_ at ix_
      go_upto_region 5 with fail
      have n0_ := Aside0.mk (Kd.R_alloc HO.out (.cells #[.string n_, .int .i64 r_, .int .i64 d_, .int .i64 e_] 59 (0, 0)))
      have n1_ := Aside0.mk (below_alloc HB.out (.cells #[.string n_, .int .i64 r_, .int .i64 d_, .int .i64 e_] 59 (0, 0)))
      have n2_ := Aside0.mk (blk_new wr (.cells #[.string n_, .int .i64 r_, .int .i64 d_, .int .i64 e_] 59 (0, 0)))
      clear HO HB ix_
      generalize wr.alloc (.cells #[.string n_, .int .i64 r_, .int .i64 d_, .int .i64 e_] 59 (0, 0)) = w4_ at n0_ n1_ n2_ ⊢
      generalize wr.heap.size = gs_ at n2_ ⊢
      have HO := n0_
      have HB := n1_
      have hz_ : w4_.cell? ⟨gs_, 0, none⟩ = some (.string n_) := (blk_cell n2_.out 0).trans rfl
      have lxx := lx.out
      go_wp2_with (first | ((with_reducible refine gate_builtin (b := .append) (xs := #[.tmp 8, .tmp 11]) rfl ?_); at_builtin; refine Kd.R_append Kd.string (w0 := w) w.heap.size rfl (.tmp 8) (.tmp 11) 23 9 (.string ByteArray.empty) 16 rfl Tryd.underlying23 (by kernel_rfl) rfl (by decide) (by omega) _ xs_ n_ [.string n_] (fun _ => True) (fun _ => False) rfl rfl ?aP (fun _ hk => hk.elim) ?aF ?aO ?aB ?aS ?aL ?_; (case aP => exact rfl); (case aB => exact (by repeat (first | (with_reducible first | exact HB.out | apply below_alloc | apply pw_below_drewN | apply below_drew1) | exact HB.out))); (case aF => exact (fun _ _ => trivial)); (case aO => exact (by (with_reducible repeat (first | apply Kd.R_alloc | apply Kd.R_drewN | apply Kd.R_drew)); exact HO.out)); (case aS => exact (below_size (by repeat (first | (with_reducible first | exact HB.out | apply below_alloc | apply pw_below_drewN | apply below_drew1) | exact HB.out)))); (case aL => omega); intro v_ w_ ho hb hg hat; rw [← hn] at ho))
      go_roundg (gk - 1)
      case measure => exact m1_ JL.out hk.out
      case rel => exact ⟨k + 1, ⟨m2_ JL.out hk.out⟩, (by first | rfl | (rw [x5]; rfl)), ⟨ho⟩, ⟨hb⟩⟩
    · have e8 : k = 5 := m3_ c hk.out
      subst e8
      clear c
      go_wp2
      go_ret
      exact ⟨_, rfl, HO.out, HB.out⟩

/-! ### planet_find: function 26 -/
-- hand
-- raw
-- IMPORT Derived.Test.YtgmjgnojjbajdaaDoorOrb
def pz_ : Array Value := #[.string ⟨#[]⟩, .int .i64 0, .int .i64 0, .int .i64 0]
def pv_ (i : Nat) : Array Value := #[.string (lx_ i).1, .int .i64 (lx_ i).2.1, .int .i64 (lx_ i).2.2.1, .int .i64 (lx_ i).2.2.2]
set_option maxHeartbeats 8000000 in
set_option maxRecDepth 100000 in
theorem find_ok (i : Nat) (hi : i < 5) (w : World) (ht_ : Aside0 (Tab_ w)) :
    Calls Tryd.prog 26 #[.string (lx_ i).1] w fun e w' => e = .returned (.tuple #[.agg (pv_ i), .int .i64 0]) ∧ Below w.heap.size w w' := by
  have hu59 := Tryd.underlying59
  have hd : ∀ j, j < i → (lx_ j).1 ≠ (lx_ i).1 := by
    intro j hj
    match i, hi, j, hj with
    | 1, _, 0, _ => decide
    | 2, _, 0, _ => decide
    | 2, _, 1, _ => decide
    | 3, _, 0, _ => decide
    | 3, _, 1, _ => decide
    | 3, _, 2, _ => decide
    | 4, _, 0, _ => decide
    | 4, _, 1, _ => decide
    | 4, _, 2, _ => decide
    | 4, _, 3, _ => decide
  obtain ⟨s, hs⟩ : ∃ s, s = (lx_ i).1 := ⟨_, rfl⟩
  obtain ⟨r, hr⟩ : ∃ r, r = (lx_ i).2.1 := ⟨_, rfl⟩
  obtain ⟨d, hd2⟩ : ∃ r, r = (lx_ i).2.2.1 := ⟨_, rfl⟩
  obtain ⟨p, hp⟩ : ∃ r, r = (lx_ i).2.2.2 := ⟨_, rfl⟩
  have hpv : pv_ i = #[.string s, .int .i64 r, .int .i64 d, .int .i64 p] := by unfold pv_; rw [← hs, ← hr, ← hd2, ← hp]
  rw [← hs, hpv]
  have HS := Aside0.mk hs
  have HR := Aside0.mk hr
  have HD2 := Aside0.mk hd2
  have HP := Aside0.mk hp
  clear hpv hr hd2 hp
  have HD := Aside0.mk hd
  clear hd hs
  go_enter Tryd.func26, Tryd.ntmps26
  go_upto_region 1 with (fail)
  have HX := Aside0.mk (blk_new w (.cells pz_ 59))
  have HB := Aside0.mk (below_alloc (Below.refl w.heap.size w) (.cells pz_ 59))
  change Code.wp _ _ _ _ (w.alloc (.cells pz_ 59))
  generalize w.alloc (.cells pz_ 59) = w1 at *
  have TB_ := tabz_ ht_ HB.out
  go_wp2_with (first | ((with_reducible refine gate_dst (N := 6) rfl ?_); refine Kd.event_run rfl (ldx_ rfl rfl TB_.out) ?_))
  clear TB_
  go_loopg [7] 5 (fun kq v7 wr => ∃ j : Nat, Aside0 (kq + j = 5) ∧ v7 = .int .i64 (j : Int) ∧ Aside0 (j ≤ i) ∧ Aside0 (wr.heap[w.heap.size]? = some (.cells pz_ 59 (0, 0))) ∧ Aside0 (Below w.heap.size w wr))
  case atStart => exact ⟨0, ⟨rfl⟩, rfl, ⟨Nat.zero_le _⟩, HX, HB⟩
  case round =>
    clear HX HB
    obtain ⟨j, hj, rfl, hji, HX, HB⟩ := hrel
    have jl : j < 5 := Nat.lt_of_le_of_lt hji.out hi
    have c1 := d5_ jl
    have ix_ := ltix_ j jl
    have JL := Aside0.mk jl
    have x5 := w5_ jl
    clear jl
    by_cases c : j = i
    · subst c
      rw [← HS.out, ← HR.out, ← HD2.out, ← HP.out] at ix_
      have X1 := HX.out
      unfold pz_ at X1
      have lg := blk_lt X1
      have z0 : wr.cell? ⟨w.heap.size, 0, none⟩ = some (.string ⟨#[]⟩) := (blk_cell X1 0).trans rfl
      have z1 : wr.cell? ⟨w.heap.size, 1, none⟩ = some (.int .i64 0) := (blk_cell X1 1).trans rfl
      have z2 : wr.cell? ⟨w.heap.size, 2, none⟩ = some (.int .i64 0) := (blk_cell X1 2).trans rfl
      have z3 : wr.cell? ⟨w.heap.size, 3, none⟩ = some (.int .i64 0) := (blk_cell X1 3).trans rfl
      have f0 := blk_frozen X1 0
      have f1 := blk_frozen X1 1
      have f2 := blk_frozen X1 2
      have f3 := blk_frozen X1 3
      have X2 := Aside0.mk X1
      clear X1 HX
      go_wp2_with fail
      refine bodyPost_ret (results_ct rfl _ _ w.heap.size 59 #[.string s, .int .i64 r, .int .i64 d, .int .i64 p] (0, 0) _ rfl (by
        refine blk_alloc ?_ _; refine blk_put (cs := #[.string s, .int .i64 r, .int .i64 d, .int .i64 0]) ?_ 3 _ rfl; refine blk_put (cs := #[.string s, .int .i64 r, .int .i64 0, .int .i64 0]) ?_ 2 _ rfl; refine blk_put (cs := #[.string s, .int .i64 0, .int .i64 0, .int .i64 0]) ?_ 1 _ rfl; refine blk_put (cs := #[.string ⟨#[]⟩, .int .i64 0, .int .i64 0, .int .i64 0]) ?_ 0 _ rfl; exact X2.out) Tryd.underlying59 rfl (by kernel_rfl)) rfl ⟨rfl, ?_⟩
      repeat (first | exact HB.out | apply below_drew | apply pw_below_drewN | apply below_alloc | refine below_set ?_ (Nat.le_refl _))
    · have hl : j < i := Nat.lt_of_le_of_ne hji.out c
      have nb_ : ((lx_ j).1.toList == s.toList) = false := ne_list_ (by rw [HS.out]; exact HD.out j hl)
      generalize (lx_ j).1 = nj_ at ix_ nb_
      generalize (lx_ j).2.1 = rj_ at ix_
      generalize (lx_ j).2.2.1 = dj_ at ix_
      generalize (lx_ j).2.2.2 = ej_ at ix_
      have HL := Aside0.mk hl
      clear hl c
      go_wp2_with fail
      go_roundg (gk - 1)
      case measure => exact m1_ JL.out hj.out
      case rel => exact ⟨j + 1, ⟨m2_ JL.out hj.out⟩, (by rw [x5]; rfl), ⟨HL.out⟩, ⟨blk_alloc HX.out _⟩, ⟨below_alloc HB.out _⟩⟩
set_option maxHeartbeats 8000000 in
set_option maxRecDepth 100000 in
theorem find_no (s : ByteArray) (hs : ∀ j, j < 5 → (lx_ j).1 ≠ s) (w : World) (ht_ : Aside0 (Tab_ w)) :
    Calls Tryd.prog 26 #[.string s] w fun e w' => e = .returned (.tuple #[.agg #[.string ⟨#[]⟩, .int .i64 0, .int .i64 0, .int .i64 0], .int .i64 5]) ∧ Below w.heap.size w w' := by
  have hu59 := Tryd.underlying59
  have HS := Aside0.mk hs
  clear hs
  go_enter Tryd.func26, Tryd.ntmps26
  go_upto_region 1 with (fail)
  have HX := Aside0.mk (blk_new w (.cells pz_ 59))
  have HB := Aside0.mk (below_alloc (Below.refl w.heap.size w) (.cells pz_ 59))
  change Code.wp _ _ _ _ (w.alloc (.cells pz_ 59))
  generalize w.alloc (.cells pz_ 59) = w1 at *
  have TB_ := tabz_ ht_ HB.out
  go_wp2_with (first | ((with_reducible refine gate_dst (N := 6) rfl ?_); refine Kd.event_run rfl (ldx_ rfl rfl TB_.out) ?_))
  clear TB_
  go_loopg [7] 5 (fun kq v7 wr => ∃ j : Nat, Aside0 (kq + j = 5) ∧ v7 = .int .i64 (j : Int) ∧ Aside0 (wr.heap[w.heap.size]? = some (.cells pz_ 59 (0, 0))) ∧ Aside0 (Below w.heap.size w wr))
  case atStart => exact ⟨0, ⟨rfl⟩, rfl, HX, HB⟩
  case round =>
    clear HX HB
    obtain ⟨j, hj, rfl, HX, HB⟩ := hrel
    by_cases jl : j < 5
    · have c1 := d5_ jl
      have ix_ := ltix_ j jl
      have x5 := w5_ jl
      have nb_ : ((lx_ j).1.toList == s.toList) = false := ne_list_ (HS.out j jl)
      have JL := Aside0.mk jl
      clear jl
      generalize (lx_ j).1 = nj_ at ix_ nb_
      generalize (lx_ j).2.1 = rj_ at ix_
      generalize (lx_ j).2.2.1 = dj_ at ix_
      generalize (lx_ j).2.2.2 = ej_ at ix_
      go_wp2_with fail
      go_roundg (gk - 1)
      case measure => exact m1_ JL.out hj.out
      case rel => exact ⟨j + 1, ⟨m2_ JL.out hj.out⟩, (by rw [x5]; rfl), ⟨blk_alloc HX.out _⟩, ⟨below_alloc HB.out _⟩⟩
    · have jl5 : j = 5 := m3_ jl hj.out
      subst jl5
      clear jl
      have X1 := HX.out
      unfold pz_ at X1
      have lg := blk_lt X1
      have z0 : wr.cell? ⟨w.heap.size, 0, none⟩ = some (.string ⟨#[]⟩) := (blk_cell X1 0).trans rfl
      have z1 : wr.cell? ⟨w.heap.size, 1, none⟩ = some (.int .i64 0) := (blk_cell X1 1).trans rfl
      have z2 : wr.cell? ⟨w.heap.size, 2, none⟩ = some (.int .i64 0) := (blk_cell X1 2).trans rfl
      have z3 : wr.cell? ⟨w.heap.size, 3, none⟩ = some (.int .i64 0) := (blk_cell X1 3).trans rfl
      have f0 := blk_frozen X1 0
      have f1 := blk_frozen X1 1
      have f2 := blk_frozen X1 2
      have f3 := blk_frozen X1 3
      have X2 := Aside0.mk X1
      clear X1 HX
      go_wp2_with fail
      refine bodyPost_ret (results_ct rfl _ _ w.heap.size 59 #[.string ⟨#[]⟩, .int .i64 0, .int .i64 0, .int .i64 0] (0, 0) _ rfl (by
        refine blk_put (cs := #[.string ⟨#[]⟩, .int .i64 0, .int .i64 0, .int .i64 0]) ?_ 3 _ rfl; refine blk_put (cs := #[.string ⟨#[]⟩, .int .i64 0, .int .i64 0, .int .i64 0]) ?_ 2 _ rfl; refine blk_put (cs := #[.string ⟨#[]⟩, .int .i64 0, .int .i64 0, .int .i64 0]) ?_ 1 _ rfl; refine blk_put (cs := #[.string ⟨#[]⟩, .int .i64 0, .int .i64 0, .int .i64 0]) ?_ 0 _ rfl; exact X2.out) Tryd.underlying59 rfl (by kernel_rfl)) rfl ⟨rfl, ?_⟩
      repeat (first | exact HB.out | apply below_drew | apply pw_below_drewN | apply below_alloc | refine below_set ?_ (Nat.le_refl _))

/-! ### planet_Radius: function 16 -/
-- hand
-- raw
-- IMPORT Derived.Test.YtgmjgnojjbajdaaDoorOrb
set_option maxHeartbeats 8000000 in
set_option maxRecDepth 100000 in
theorem radius_ok (i : Nat) (hi : i < 5) (w : World) (ht_ : Aside0 (Tab_ w)) :
    Calls Tryd.prog 16 #[.string (lx_ i).1] w fun e w' => e = .returned (.tuple #[.int .i64 (lx_ i).2.1, .int .i64 0]) ∧ Below w.heap.size w w' := by
  have hu59 := Tryd.underlying59
  have HF := find_ok i hi w ht_
  unfold pv_ at HF
  generalize (lx_ i).1 = n_ at HF ⊢
  generalize (lx_ i).2.1 = r_ at HF ⊢
  generalize (lx_ i).2.2.1 = d_ at HF ⊢
  generalize (lx_ i).2.2.2 = e_ at HF ⊢
  go_enter Tryd.func16, Tryd.ntmps16
  go_wp2_with fail
  refine HF.mono ?_
  rintro e w1 ⟨rfl, hb⟩
  have HB := Aside0.mk hb
  clear hb
  go_wp2
  go_ret2
  refine ⟨rfl, ?_⟩
  repeat (first | exact HB.out | apply below_drew | apply pw_below_drewN | apply below_alloc)
set_option maxHeartbeats 8000000 in
set_option maxRecDepth 100000 in
theorem radius_no (s : ByteArray) (hs : ∀ j, j < 5 → (lx_ j).1 ≠ s) (w : World) (ht_ : Aside0 (Tab_ w)) :
    Calls Tryd.prog 16 #[.string s] w fun e w' => e = .returned (.tuple #[.int .i64 0, .int .i64 5]) ∧ Below w.heap.size w w' := by
  have hu59 := Tryd.underlying59
  have HF := find_no s hs w ht_
  clear hs
  go_enter Tryd.func16, Tryd.ntmps16
  go_wp2_with fail
  refine HF.mono ?_
  rintro e w1 ⟨rfl, hb⟩
  have HB := Aside0.mk hb
  clear hb
  go_wp2
  go_ret2
  refine ⟨rfl, ?_⟩
  repeat (first | exact HB.out | apply below_drew | apply pw_below_drewN | apply below_alloc)

end Go.Proofs.YtgmjgnojjbajdaaDoor.JG
