-- Made by a program of this session (wip/hp.py, over the kit's print) out of the translation. Not trusted: Lean checks it.
import Derived.Test.YtigolfomfpmodaaJTx0
import Derived.Test.YtigolfomfpmodaaJTx2
import Derived.Test.YtigolfomfpmodaaJTx4
import Derived.Test.YtigolfomfpmodaaJTx14
namespace Go.Proofs.Ytigolfomfpmodaa.JT
open Go.RowKit Go.Proofs.YtigolfomfpmodaaW.PrintWords Go.Proofs.YtigolfomfpmodaaW.PrintLast Go.Proofs.YtigolfomfpmodaaW.PrintMore
attribute [local go_sem] max2_int min2_int max_two min_two max_three min_three max_four min_four   -- for this text's walks alone
set_option linter.unusedVariables false
set_option linter.unusedSimpArgs false

/-! ### interval_Div: function 22 -/
-- hand
set_option maxHeartbeats 4000000 in
set_option maxRecDepth 100000 in
theorem interval_Div.calls (a b c d : Int) (r1 : Int) (r2 : Int) (r3 : Int) (w : World) (h : interval_Div.f a b c d = some (r1, r2, r3)) :
    Calls Try.prog 22 #[.agg #[.int .i64 a, .int .i64 b], .agg #[.int .i64 c, .int .i64 d]] w fun e w' => e = .returned (.tuple #[.agg #[.int .i64 r1, .int .i64 r2], .int .i64 r3]) ∧ Below w.heap.size w w' := by
  have hu := Try.underlying23
  have hu48 := Try.underlying48
  have hu49 := Try.underlying54
  unfold interval_Div.f at h
  by_cases hp : DivOk a b c d
  · rw [if_pos hp] at h
    have hb := (fun (hp : DivOk a b c d) => both_f2_ hp.1 hp.2.1 hp.2.2.1 hp.2.2.2.1 hp.2.2.2.2.1 hp.2.2.2.2.2) hp
    have HBo := Aside0.mk hb
    have HP := Aside0.mk hp
    clear hb hp
    have start : ∀ Q : Ending → World → Prop, (∀ w1 : World, w1.heap[w.heap.size]? = some (.cells #[.int .i64 a, .int .i64 b] 23 (0, 0)) → True) → True := fun _ _ => trivial
    clear start
    by_cases hz : c ≤ 0 ∧ 0 ≤ d
    · rw [if_pos hz] at h
      simp only [Option.some.injEq, Prod.mk.injEq] at h
      obtain ⟨rfl, rfl, rfl⟩ := h
      obtain ⟨z1, z2⟩ := hz
      go_enter Try.func22, Try.ntmps22
      go_wp2_with fail
      refine (interval_both.calls 1 a b c d 0 _ HBo.out).mono ?_
      rintro e w1 ⟨rfl, hb⟩
      have BB := Aside0.mk (blk_below (g := w.heap.size + 1) (o := .cells #[.int .i64 c, .int .i64 d] 23 (0, 0)) (blk_alloc (by have h_ := blk_new (w.alloc (.cells #[.int .i64 a, .int .i64 b] 23 (0, 0))) (.cells #[.int .i64 c, .int .i64 d] 23 (0, 0)); simpa using h_) _) hb)
      have BR := Aside0.mk (blk_below (g := w.heap.size + 1 + 1) (o := .cells #[.int .i64 0, .int .i64 0] 23 (0, 0)) (by have h_ := blk_new ((w.alloc (.cells #[.int .i64 a, .int .i64 b] 23 (0, 0))).alloc (.cells #[.int .i64 c, .int .i64 d] 23 (0, 0))) (.cells #[.int .i64 0, .int .i64 0] 23 (0, 0)); simpa using h_) hb)
      have HB := Aside0.mk (below_step (w := w) (by repeat (first | exact Below.refl _ _ | apply below_alloc | apply pw_below_drewN | apply below_drew | refine below_set ?_ (by first | omega | (simp; done) | (simp; omega)))) hb)
      clear hb
      have b0 : w1.cell? ⟨w.heap.size + 1, 0, none⟩ = some (.int .i64 c) := (blk_cell BB.out 0).trans rfl
      have b1 : w1.cell? ⟨w.heap.size + 1, 1, none⟩ = some (.int .i64 d) := (blk_cell BB.out 1).trans rfl
      have r0 : w1.cell? ⟨w.heap.size + 1 + 1, 0, none⟩ = some (.int .i64 0) := (blk_cell BR.out 0).trans rfl
      have r1 : w1.cell? ⟨w.heap.size + 1 + 1, 1, none⟩ = some (.int .i64 0) := (blk_cell BR.out 1).trans rfl
      have rf0 := blk_frozen BR.out 0
      have rf1 := blk_frozen BR.out 1
      go_wp2
      refine bodyPost_ret (results_ct rfl _ _ (w.heap.size + 1 + 1) 23 #[.int .i64 0, .int .i64 0] (0, 0) _ rfl (by
        (with_reducible repeat (first | refine blk_drewN ?_ _ | refine blk_drew ?_ | refine blk_alloc ?_ _)); refine blk_put (cs := #[.int .i64 0, .int .i64 0]) ?_ 1 _ rfl; (with_reducible repeat (first | refine blk_drewN ?_ _ | refine blk_drew ?_ | refine blk_alloc ?_ _)); refine blk_put (cs := #[.int .i64 0, .int .i64 0]) ?_ 0 _ rfl; (with_reducible repeat (first | refine blk_drewN ?_ _ | refine blk_drew ?_ | refine blk_alloc ?_ _)); exact BR.out) Try.underlying23 rfl (by kernel_rfl)) rfl ⟨rfl, ?_⟩
      repeat (first | exact HB.out | apply below_alloc | apply pw_below_drewN | apply below_drew | refine below_set ?_ (by first | omega | (simp; done) | (simp; omega)))
    · rw [if_neg hz] at h
      simp only [Option.some.injEq, Prod.mk.injEq] at h
      obtain ⟨rfl, rfl, rfl⟩ := h
      have hz1 : decide (c ≤ 0) = true → decide (0 ≤ d) = false := fun h => decide_eq_false (fun g => hz ⟨of_decide_eq_true h, g⟩)
      have c0 : c ≠ 0 := by rintro rfl; have := HP.out.2.2.2.2.1; exact hz ⟨by omega, by omega⟩
      have d0 : d ≠ 0 := by rintro rfl; have := HP.out.2.2.2.2.1; exact hz ⟨by omega, by omega⟩
      have fl : ∀ x y : Int, (x = a ∨ x = b) → (y = c ∨ y = d) → interval_Floor.f x y = some (flr x y) ∧ interval_Ceil.f x y = some (clg x y) := by
        intro x y hx hy
        obtain ⟨p1, _, p3, p4, _, p6⟩ := HP.out
        have g1 : InR x := by rcases hx with rfl | rfl <;> assumption
        have g2 : InR y := by rcases hy with rfl | rfl <;> assumption
        have g3 : y ≠ 0 := by rcases hy with rfl | rfl <;> assumption
        exact ⟨(floor_any_ g3 (by have := g2.1; omega) (by have := g2.2; omega) (by have := g1.1; omega) (by have := g1.2; omega)).1, ceil_any_ g3 (by have := g2.1; omega) (by have := g2.2; omega) (by have := g1.1; omega) (by have := g1.2; omega)⟩
      have FL := Aside0.mk fl
      clear fl c0 d0
      go_enter Try.func22, Try.ntmps22
      go_wp2_with fail
      refine (interval_both.calls 1 a b c d 0 _ HBo.out).mono ?_
      rintro e w1 ⟨rfl, hb⟩
      have BA := Aside0.mk (blk_below (g := w.heap.size) (o := .cells #[.int .i64 a, .int .i64 b] 23 (0, 0)) (blk_alloc (blk_alloc (blk_new w _) _) _) hb)
      have BB := Aside0.mk (blk_below (g := w.heap.size + 1) (o := .cells #[.int .i64 c, .int .i64 d] 23 (0, 0)) (blk_alloc (by have h_ := blk_new (w.alloc (.cells #[.int .i64 a, .int .i64 b] 23 (0, 0))) (.cells #[.int .i64 c, .int .i64 d] 23 (0, 0)); simpa using h_) _) hb)
      have BR := Aside0.mk (blk_below (g := w.heap.size + 1 + 1) (o := .cells #[.int .i64 0, .int .i64 0] 23 (0, 0)) (by have h_ := blk_new ((w.alloc (.cells #[.int .i64 a, .int .i64 b] 23 (0, 0))).alloc (.cells #[.int .i64 c, .int .i64 d] 23 (0, 0))) (.cells #[.int .i64 0, .int .i64 0] 23 (0, 0)); simpa using h_) hb)
      have HB := Aside0.mk (below_step (w := w) (by repeat (first | exact Below.refl _ _ | apply below_alloc | apply pw_below_drewN | apply below_drew | refine below_set ?_ (by first | omega | (simp; done) | (simp; omega)))) hb)
      have n1 : w.heap.size + 1 + 1 < w1.heap.size := blk_lt BR.out
      clear hb
      have a0 : w1.cell? ⟨w.heap.size, 0, none⟩ = some (.int .i64 a) := (blk_cell BA.out 0).trans rfl
      have a1 : w1.cell? ⟨w.heap.size, 1, none⟩ = some (.int .i64 b) := (blk_cell BA.out 1).trans rfl
      have b0 : w1.cell? ⟨w.heap.size + 1, 0, none⟩ = some (.int .i64 c) := (blk_cell BB.out 0).trans rfl
      have b1 : w1.cell? ⟨w.heap.size + 1, 1, none⟩ = some (.int .i64 d) := (blk_cell BB.out 1).trans rfl
      have hq : (decide (c ≤ 0) && decide (0 ≤ d)) = false := by
        by_cases g : c ≤ 0
        · rw [hz1 (decide_eq_true g), Bool.and_false]
        · rw [decide_eq_false g, Bool.false_and]
      have nA : ¬ w1.heap.size = w.heap.size := by omega
      have nB : ¬ w1.heap.size = w.heap.size + 1 := by omega
      have nA' : ¬ w.heap.size = w1.heap.size := by omega
      have nB' : ¬ w.heap.size + 1 = w1.heap.size := by omega
      have lA : w.heap.size < w1.heap.size := by omega
      have lB : w.heap.size + 1 < w1.heap.size := by omega
      by_cases gc : c ≤ 0
      case' pos =>
        have gd := hz1 (decide_eq_true gc)
        have gc' := decide_eq_true gc
      case' neg =>
        have gc' := decide_eq_false gc
      all_goals clear hz1 hq hz
      all_goals go_wp2_with fail
      all_goals go_region_held3 (fun w' => w'.cell? ⟨w.heap.size, 0, none⟩ = some (.int .i64 a) ∧ w'.cell? ⟨w.heap.size + 1, 0, none⟩ = some (.int .i64 c)) (go_keep) (first | (go_at_call 48; refine (interval_Floor.same a c _ _ (FL.out a c (.inl rfl) (.inl rfl)).1).mono ?_; rintro e w' ⟨rfl, rfl⟩) | (go_at_call 49; refine (interval_Ceil.same a c _ _ (FL.out a c (.inl rfl) (.inl rfl)).2).mono ?_; rintro e w' ⟨rfl, rfl⟩))
      all_goals
        have SA := Aside0.mk (blk_drew (blk_alloc BA.out (.cells #[.int .i64 (flr a c), .int .i64 (clg a c)] 23 (0, 0))))
        have SB := Aside0.mk (blk_drew (blk_alloc BB.out (.cells #[.int .i64 (flr a c), .int .i64 (clg a c)] 23 (0, 0))))
        have SO := Aside0.mk (blk_drew (blk_alloc BR.out (.cells #[.int .i64 (flr a c), .int .i64 (clg a c)] 23 (0, 0))))
        have SR := Aside0.mk (blk_drew (blk_new w1 (.cells #[.int .i64 (flr a c), .int .i64 (clg a c)] 23 (0, 0))))
        have SH := Aside0.mk (below_drew (below_alloc HB.out (.cells #[.int .i64 (flr a c), .int .i64 (clg a c)] 23 (0, 0))))
        have wsz : (w1.alloc (.cells #[.int .i64 (flr a c), .int .i64 (clg a c)] 23 (0, 0))).drew.heap.size = w1.heap.size + 1 := by simp
        generalize (w1.alloc (.cells #[.int .i64 (flr a c), .int .i64 (clg a c)] 23 (0, 0))).drew = wS at *
        have A0 : wS.cell? ⟨w.heap.size, 0, none⟩ = some (.int .i64 a) := (blk_cell SA.out 0).trans rfl
        have A1 : wS.cell? ⟨w.heap.size, 1, none⟩ = some (.int .i64 b) := (blk_cell SA.out 1).trans rfl
        have B0 : wS.cell? ⟨w.heap.size + 1, 0, none⟩ = some (.int .i64 c) := (blk_cell SB.out 0).trans rfl
        have B1 : wS.cell? ⟨w.heap.size + 1, 1, none⟩ = some (.int .i64 d) := (blk_cell SB.out 1).trans rfl
        clear BA BB BR HB a0 a1 b0 b1
      all_goals go_wp2
      all_goals
        go_loopw [53] (fun v wr => ∃ (k : Nat) (z : Int), k ≤ 3 ∧ z = k ∧ v = .int .i64 z ∧ Aside0 (wr.heap[w1.heap.size]? = some (.cells #[.int .i64 (interval_Div.L a b c d k), .int .i64 (interval_Div.H a b c d k)] 23 (0, 0))) ∧ Aside0 (wr.heap[w.heap.size + 1 + 1]? = some (.cells #[.int .i64 0, .int .i64 0] 23 (0, 0))) ∧ Aside0 (Below w.heap.size w wr)) (fun v _ => 3 - (intOf v).toNat)
        case atStart =>
          exact ⟨0, 0, by omega, rfl, rfl, ⟨SR.out⟩, ⟨SO.out⟩, ⟨SH.out⟩⟩
        case round =>
          obtain ⟨k, z, hk, hz, rfl, KR, KO, KB⟩ := hrel
          have nr1 : w1.heap.size < wr.heap.size := blk_lt KR.out
          have nr2 : ¬ wr.heap.size = w1.heap.size := by omega
          have nr3 : ¬ w1.heap.size = wr.heap.size := by omega
          have hc0 : wr.cell? ⟨w1.heap.size, 0, none⟩ = some (.int .i64 (interval_Div.L a b c d k)) := (blk_cell KR.out 0).trans rfl
          have hc1 : wr.cell? ⟨w1.heap.size, 1, none⟩ = some (.int .i64 (interval_Div.H a b c d k)) := (blk_cell KR.out 1).trans rfl
          have hf0 := blk_frozen KR.out 0
          have hf1 := blk_frozen KR.out 1
          clear SA SB SO SR SH A0 A1 B0 B1
          match k, hk with
          | 0, _ =>
            obtain rfl : z = 0 := hz
            have ix : ∀ w : World, (Instr.index 54 (.agg #[.int .i64 a, .int .i64 d, .int .i64 b, .int .i64 c, .int .i64 b, .int .i64 d]) (.int .i64 0)).run Try.prog w = .ok (.agg #[.int .i64 a, .int .i64 d]) w := fun _ => by kernel_rfl
            have eL : (if flr a d < interval_Div.L a b c d 0 then flr a d else interval_Div.L a b c d 0) = interval_Div.L a b c d 1 := rfl
            have eH : (if interval_Div.H a b c d 0 < clg a d then clg a d else interval_Div.H a b c d 0) = interval_Div.H a b c d 1 := rfl
            have ff := (FL.out a d (.inl rfl) (.inr rfl)).1
            have fc := (FL.out a d (.inl rfl) (.inr rfl)).2
            generalize flr a d = fx at *
            generalize clg a d = cx at *
            generalize interval_Div.L a b c d 0 = L0 at *
            generalize interval_Div.H a b c d 0 = H0 at *
            go_wp2_with fail
            refine wp_region_anyL (n := 17) (B := fun w' => w'.cell? ⟨wr.heap.size, 0, none⟩ = some (.int .i64 a) ∧ w'.cell? ⟨wr.heap.size, 1, none⟩ = some (.int .i64 d)) (C := fun w' => w'.cell? ⟨w1.heap.size, 0, none⟩ = some (.int .i64 L0) ∧ w'.cell? ⟨w1.heap.size, 1, none⟩ = some (.int .i64 H0)) (by kernel_rfl) ?hB ?hC (fun hs => ?_)
            case hB => exact ⟨by simp, by simp⟩
            case hC => exact ⟨(blk_cell (blk_drew (blk_alloc KR.out _)) 0).trans rfl, (blk_cell (blk_drew (blk_alloc KR.out _)) 1).trans rfl⟩
            refine wpAnyL_takeB (i := 0) (v := ?_) (by simp only [List.getElem?_toArray, List.getElem?_cons_succ, List.getElem?_cons_zero]; rfl) (by kernel_rfl) (by kernel_rfl) (by kernel_rfl) (by rfl) (by exact fun _ _ _ h => h) (Or.inl ⟨by rfl, ?_⟩) (by assumption) (fun hs => ?_)
            rotate_left 1
            · (intro w hSw; (try dsimp only at hSw); go_simp; (try with_reducible rfl))
            simp only [Act.put, List.setIfInBounds_toArray, List.set_cons_zero, List.set_cons_succ]
            refine wpAnyL_takeC (i := 1) (v := ?_) (by simp only [List.getElem?_toArray, List.getElem?_cons_succ, List.getElem?_cons_zero]; rfl) (by kernel_rfl) (by kernel_rfl) (by kernel_rfl) (by rfl) (by kernel_rfl) (by rfl) (by exact fun _ _ _ h => h) (Or.inl ⟨by rfl, ?_⟩) (by assumption) (fun hs => ?_)
            rotate_left 1
            · (intro w hSw; (try dsimp only at hSw); go_simp; (try with_reducible rfl))
            simp only [Act.put, List.setIfInBounds_toArray, List.set_cons_zero, List.set_cons_succ]
            refine wpAnyL_takeB (i := 2) (v := ?_) (by simp only [List.getElem?_toArray, List.getElem?_cons_succ, List.getElem?_cons_zero]; rfl) (by kernel_rfl) (by kernel_rfl) (by kernel_rfl) (by rfl) (by exact fun _ _ _ h => h) (Or.inl ⟨by rfl, ?_⟩) (by assumption) (fun hs => ?_)
            rotate_left 1
            · (intro w hSw; (try dsimp only at hSw); go_simp; (try with_reducible rfl))
            simp only [Act.put, List.setIfInBounds_toArray, List.set_cons_zero, List.set_cons_succ]
            refine wpAnyL_takeB (i := 3) (v := ?_) (by simp only [List.getElem?_toArray, List.getElem?_cons_succ, List.getElem?_cons_zero]; rfl) (by kernel_rfl) (by kernel_rfl) (by kernel_rfl) (by rfl) (by exact fun _ _ _ h => h) (Or.inl ⟨by rfl, ?_⟩) (by assumption) (fun hs => ?_)
            rotate_left 1
            · (intro w hSw; (try dsimp only at hSw); go_simp; (try with_reducible rfl))
            simp only [Act.put, List.setIfInBounds_toArray, List.set_cons_zero, List.set_cons_succ]
            refine wpAnyL_takeB (i := 4) (v := ?_) (by simp only [List.getElem?_toArray, List.getElem?_cons_succ, List.getElem?_cons_zero]; rfl) (by kernel_rfl) (by kernel_rfl) (by kernel_rfl) (by rfl) (by exact fun _ _ _ h => h) (Or.inl ⟨by rfl, ?_⟩) (by assumption) (fun hs => ?_)
            rotate_left 1
            · (intro w hSw; (try dsimp only at hSw); go_simp; (try with_reducible rfl))
            simp only [Act.put, List.setIfInBounds_toArray, List.set_cons_zero, List.set_cons_succ]
            refine wpAnyL_takeB (i := 5) (v := ?_) (by simp only [List.getElem?_toArray, List.getElem?_cons_succ, List.getElem?_cons_zero]; rfl) (by kernel_rfl) (by kernel_rfl) (by kernel_rfl) (by rfl) (by exact fun _ _ _ h => h) (Or.inl ⟨by rfl, ?_⟩) (by assumption) (fun hs => ?_)
            rotate_left 1
            · (intro w hSw; (try dsimp only at hSw); go_simp; (try with_reducible rfl))
            simp only [Act.put, List.setIfInBounds_toArray, List.set_cons_zero, List.set_cons_succ]
            refine wpAnyL_takeB (i := 8) (v := ?_) (by simp only [List.getElem?_toArray, List.getElem?_cons_succ, List.getElem?_cons_zero]; rfl) (by kernel_rfl) (by kernel_rfl) (by kernel_rfl) (by rfl) (by exact fun _ _ _ h => h) (Or.inl ⟨by rfl, ?_⟩) (by assumption) (fun hs => ?_)
            rotate_left 1
            · (intro w hSw; (try dsimp only at hSw); go_simp; (try with_reducible rfl))
            simp only [Act.put, List.setIfInBounds_toArray, List.set_cons_zero, List.set_cons_succ]
            refine wpAnyL_takeC (i := 9) (v := ?_) (by simp only [List.getElem?_toArray, List.getElem?_cons_succ, List.getElem?_cons_zero]; rfl) (by kernel_rfl) (by kernel_rfl) (by kernel_rfl) (by rfl) (by kernel_rfl) (by rfl) (by exact fun _ _ _ h => h) (Or.inl ⟨by rfl, ?_⟩) (by assumption) (fun hs => ?_)
            rotate_left 1
            · (intro w hSw; (try dsimp only at hSw); go_simp; (try with_reducible rfl))
            simp only [Act.put, List.setIfInBounds_toArray, List.set_cons_zero, List.set_cons_succ]
            refine wpAnyL_takeB (i := 10) (v := ?_) (by simp only [List.getElem?_toArray, List.getElem?_cons_succ, List.getElem?_cons_zero]; rfl) (by kernel_rfl) (by kernel_rfl) (by kernel_rfl) (by rfl) (by exact fun _ _ _ h => h) (Or.inl ⟨by rfl, ?_⟩) (by assumption) (fun hs => ?_)
            rotate_left 1
            · (intro w hSw; (try dsimp only at hSw); go_simp; (try with_reducible rfl))
            simp only [Act.put, List.setIfInBounds_toArray, List.set_cons_zero, List.set_cons_succ]
            refine wpAnyL_takeB (i := 11) (v := ?_) (by simp only [List.getElem?_toArray, List.getElem?_cons_succ, List.getElem?_cons_zero]; rfl) (by kernel_rfl) (by kernel_rfl) (by kernel_rfl) (by rfl) (by exact fun _ _ _ h => h) (Or.inl ⟨by rfl, ?_⟩) (by assumption) (fun hs => ?_)
            rotate_left 1
            · (intro w hSw; (try dsimp only at hSw); go_simp; (try with_reducible rfl))
            simp only [Act.put, List.setIfInBounds_toArray, List.set_cons_zero, List.set_cons_succ]
            refine wpAnyL_takeB (i := 12) (v := ?_) (by simp only [List.getElem?_toArray, List.getElem?_cons_succ, List.getElem?_cons_zero]; rfl) (by kernel_rfl) (by kernel_rfl) (by kernel_rfl) (by rfl) (by exact fun _ _ _ h => h) (Or.inl ⟨by rfl, ?_⟩) (by assumption) (fun hs => ?_)
            rotate_left 1
            · (intro w hSw; (try dsimp only at hSw); go_simp; (try with_reducible rfl))
            simp only [Act.put, List.setIfInBounds_toArray, List.set_cons_zero, List.set_cons_succ]
            refine wpAnyL_takeB (i := 13) (v := ?_) (by simp only [List.getElem?_toArray, List.getElem?_cons_succ, List.getElem?_cons_zero]; rfl) (by kernel_rfl) (by kernel_rfl) (by kernel_rfl) (by rfl) (by exact fun _ _ _ h => h) (Or.inl ⟨by rfl, ?_⟩) (by assumption) (fun hs => ?_)
            rotate_left 1
            · (intro w hSw; (try dsimp only at hSw); go_simp; (try with_reducible rfl))
            simp only [Act.put, List.setIfInBounds_toArray, List.set_cons_zero, List.set_cons_succ]
            refine wpAnyL_only (i := 6) (by simp only [List.getElem?_toArray, List.getElem?_cons_succ, List.getElem?_cons_zero]; rfl) (by kernel_rfl) (fun K hK => ?_)
            go_simp; go_at_call 48; refine (interval_Floor.same a d _ _ ff).mono ?_; rintro e w' ⟨rfl, rfl⟩
            refine hK.out _ _ ?_ (fun hs => ?_)
            · (exact ⟨hs.1, fun _ => hs.2 rfl⟩)
            clear hK K
            try simp only [Act.put, List.setIfInBounds_toArray, List.set_cons_zero, List.set_cons_succ]
            refine wpAnyL_takeB (i := 7) (v := ?_) (by simp only [List.getElem?_toArray, List.getElem?_cons_succ, List.getElem?_cons_zero]; rfl) (by kernel_rfl) (by kernel_rfl) (by kernel_rfl) (by rfl) (by exact fun _ _ _ h => h) (Or.inl ⟨by rfl, ?_⟩) (by assumption) (fun hs => ?_)
            rotate_left 1
            · (intro w hSw; (try dsimp only at hSw); go_simp; (try with_reducible rfl))
            simp only [Act.put, List.setIfInBounds_toArray, List.set_cons_zero, List.set_cons_succ]
            refine wpAnyL_takeB (i := 16) (v := ?_) (by simp only [List.getElem?_toArray, List.getElem?_cons_succ, List.getElem?_cons_zero]; rfl) (by kernel_rfl) (by kernel_rfl) (by kernel_rfl) (by rfl) (by exact fun _ _ _ h => h) (Or.inl ⟨by rfl, ?_⟩) (by assumption) (fun hs => ?_)
            rotate_left 1
            · (intro w hSw; (try dsimp only at hSw); go_simp; (try with_reducible rfl))
            simp only [Act.put, List.setIfInBounds_toArray, List.set_cons_zero, List.set_cons_succ]
            refine wpAnyL_only (i := 14) (by simp only [List.getElem?_toArray, List.getElem?_cons_succ, List.getElem?_cons_zero]; rfl) (by kernel_rfl) (fun K hK => ?_)
            go_simp; go_at_call 49; refine (interval_Ceil.same a d _ _ fc).mono ?_; rintro e w' ⟨rfl, rfl⟩
            refine hK.out _ _ ?_ (fun hs => ?_)
            · (exact ⟨hs.1, fun _ => hs.2 rfl⟩)
            clear hK K
            try simp only [Act.put, List.setIfInBounds_toArray, List.set_cons_zero, List.set_cons_succ]
            refine wpAnyL_takeB (i := 15) (v := ?_) (by simp only [List.getElem?_toArray, List.getElem?_cons_succ, List.getElem?_cons_zero]; rfl) (by kernel_rfl) (by kernel_rfl) (by kernel_rfl) (by rfl) (by exact fun _ _ _ h => h) (Or.inl ⟨by rfl, ?_⟩) (by assumption) (fun hs => ?_)
            rotate_left 1
            · (intro w hSw; (try dsimp only at hSw); go_simp; (try with_reducible rfl))
            simp only [Act.put, List.setIfInBounds_toArray, List.set_cons_zero, List.set_cons_succ]
            refine wpAnyL_only (i := 17) (by simp only [List.getElem?_toArray, List.getElem?_cons_succ, List.getElem?_cons_zero]; rfl) (by kernel_rfl) (fun K hK => ?_)
            go_simp
            refine hK.out _ _ ?_ (fun hs => ?_)
            · exact ⟨⟨(blk_cell (blk_drew (blk_new_at (by simp))) 0).trans rfl, (blk_cell (blk_drew (blk_new_at (by simp))) 1).trans rfl⟩, fun h => nomatch (show (true : Bool) = false from h)⟩
            clear hK K
            try simp only [Act.put, List.setIfInBounds_toArray, List.set_cons_zero, List.set_cons_succ]
            refine wpAnyL_takeB (i := 18) (v := ?_) (by simp only [List.getElem?_toArray, List.getElem?_cons_succ, List.getElem?_cons_zero]; rfl) (by kernel_rfl) (by kernel_rfl) (by kernel_rfl) (by rfl) (by exact fun _ _ _ h => h) (Or.inl ⟨by rfl, ?_⟩) (by assumption) (fun hs => ?_)
            rotate_left 1
            · (intro w hSw; (try dsimp only at hSw); go_simp; (try with_reducible rfl))
            simp only [Act.put, List.setIfInBounds_toArray, List.set_cons_zero, List.set_cons_succ]
            refine wpAnyL_only (i := 19) (by simp only [List.getElem?_toArray, List.getElem?_cons_succ, List.getElem?_cons_zero]; rfl) (by kernel_rfl) (fun K hK => ?_)
            go_simp
            refine hK.out _ _ ?_ (fun hs => ?_)
            · exact ⟨⟨(blk_cell (blk_drew (blk_new_at (by simp))) 0).trans rfl, (blk_cell (blk_drew (blk_new_at (by simp))) 1).trans rfl⟩, fun h => nomatch (show (true : Bool) = false from h)⟩
            clear hK K
            try simp only [Act.put, List.setIfInBounds_toArray, List.set_cons_zero, List.set_cons_succ]
            refine wpAnyL_done (by kernel_rfl) ?_ _
            go_wp2
            go_roundw
            case rel =>
              refine ⟨1, 1, by omega, rfl, by first | rfl | go_num, ⟨?_⟩, ⟨?_⟩, ⟨?_⟩⟩
              · (with_reducible repeat (first | refine blk_drewN ?_ _ | refine blk_drew ?_ | refine blk_alloc ?_ _))
                refine blk_put (cs := #[.int .i64 (interval_Div.L a b c d 1), .int .i64 H0]) ?_ 1 _ rfl
                refine blk_put (cs := #[.int .i64 L0, .int .i64 H0]) ?_ 0 _ rfl
                exact KR.out
              · repeat (first | exact KO.out | (with_reducible refine blk_drewN ?_ _) | (with_reducible refine blk_drew ?_) | (with_reducible refine blk_alloc ?_ _) | refine blk_far ?_ (by first | (simp; done) | (simp; omega)) _)
              · repeat (first | exact KB.out | apply below_alloc | apply pw_below_drewN | apply below_drew | refine below_set ?_ (by first | omega | (simp; done) | (simp; omega)))
            case measure => simp [intOf]
          | 1, _ =>
            obtain rfl : z = 1 := hz
            have ix : ∀ w : World, (Instr.index 54 (.agg #[.int .i64 a, .int .i64 d, .int .i64 b, .int .i64 c, .int .i64 b, .int .i64 d]) (.int .i64 1)).run Try.prog w = .ok (.agg #[.int .i64 b, .int .i64 c]) w := fun _ => by kernel_rfl
            have eL : (if flr b c < interval_Div.L a b c d 1 then flr b c else interval_Div.L a b c d 1) = interval_Div.L a b c d 2 := rfl
            have eH : (if interval_Div.H a b c d 1 < clg b c then clg b c else interval_Div.H a b c d 1) = interval_Div.H a b c d 2 := rfl
            have ff := (FL.out b c (.inr rfl) (.inl rfl)).1
            have fc := (FL.out b c (.inr rfl) (.inl rfl)).2
            generalize flr b c = fx at *
            generalize clg b c = cx at *
            generalize interval_Div.L a b c d 1 = L0 at *
            generalize interval_Div.H a b c d 1 = H0 at *
            go_wp2_with fail
            refine wp_region_anyL (n := 17) (B := fun w' => w'.cell? ⟨wr.heap.size, 0, none⟩ = some (.int .i64 b) ∧ w'.cell? ⟨wr.heap.size, 1, none⟩ = some (.int .i64 c)) (C := fun w' => w'.cell? ⟨w1.heap.size, 0, none⟩ = some (.int .i64 L0) ∧ w'.cell? ⟨w1.heap.size, 1, none⟩ = some (.int .i64 H0)) (by kernel_rfl) ?hB ?hC (fun hs => ?_)
            case hB => exact ⟨by simp, by simp⟩
            case hC => exact ⟨(blk_cell (blk_drew (blk_alloc KR.out _)) 0).trans rfl, (blk_cell (blk_drew (blk_alloc KR.out _)) 1).trans rfl⟩
            refine wpAnyL_takeB (i := 0) (v := ?_) (by simp only [List.getElem?_toArray, List.getElem?_cons_succ, List.getElem?_cons_zero]; rfl) (by kernel_rfl) (by kernel_rfl) (by kernel_rfl) (by rfl) (by exact fun _ _ _ h => h) (Or.inl ⟨by rfl, ?_⟩) (by assumption) (fun hs => ?_)
            rotate_left 1
            · (intro w hSw; (try dsimp only at hSw); go_simp; (try with_reducible rfl))
            simp only [Act.put, List.setIfInBounds_toArray, List.set_cons_zero, List.set_cons_succ]
            refine wpAnyL_takeC (i := 1) (v := ?_) (by simp only [List.getElem?_toArray, List.getElem?_cons_succ, List.getElem?_cons_zero]; rfl) (by kernel_rfl) (by kernel_rfl) (by kernel_rfl) (by rfl) (by kernel_rfl) (by rfl) (by exact fun _ _ _ h => h) (Or.inl ⟨by rfl, ?_⟩) (by assumption) (fun hs => ?_)
            rotate_left 1
            · (intro w hSw; (try dsimp only at hSw); go_simp; (try with_reducible rfl))
            simp only [Act.put, List.setIfInBounds_toArray, List.set_cons_zero, List.set_cons_succ]
            refine wpAnyL_takeB (i := 2) (v := ?_) (by simp only [List.getElem?_toArray, List.getElem?_cons_succ, List.getElem?_cons_zero]; rfl) (by kernel_rfl) (by kernel_rfl) (by kernel_rfl) (by rfl) (by exact fun _ _ _ h => h) (Or.inl ⟨by rfl, ?_⟩) (by assumption) (fun hs => ?_)
            rotate_left 1
            · (intro w hSw; (try dsimp only at hSw); go_simp; (try with_reducible rfl))
            simp only [Act.put, List.setIfInBounds_toArray, List.set_cons_zero, List.set_cons_succ]
            refine wpAnyL_takeB (i := 3) (v := ?_) (by simp only [List.getElem?_toArray, List.getElem?_cons_succ, List.getElem?_cons_zero]; rfl) (by kernel_rfl) (by kernel_rfl) (by kernel_rfl) (by rfl) (by exact fun _ _ _ h => h) (Or.inl ⟨by rfl, ?_⟩) (by assumption) (fun hs => ?_)
            rotate_left 1
            · (intro w hSw; (try dsimp only at hSw); go_simp; (try with_reducible rfl))
            simp only [Act.put, List.setIfInBounds_toArray, List.set_cons_zero, List.set_cons_succ]
            refine wpAnyL_takeB (i := 4) (v := ?_) (by simp only [List.getElem?_toArray, List.getElem?_cons_succ, List.getElem?_cons_zero]; rfl) (by kernel_rfl) (by kernel_rfl) (by kernel_rfl) (by rfl) (by exact fun _ _ _ h => h) (Or.inl ⟨by rfl, ?_⟩) (by assumption) (fun hs => ?_)
            rotate_left 1
            · (intro w hSw; (try dsimp only at hSw); go_simp; (try with_reducible rfl))
            simp only [Act.put, List.setIfInBounds_toArray, List.set_cons_zero, List.set_cons_succ]
            refine wpAnyL_takeB (i := 5) (v := ?_) (by simp only [List.getElem?_toArray, List.getElem?_cons_succ, List.getElem?_cons_zero]; rfl) (by kernel_rfl) (by kernel_rfl) (by kernel_rfl) (by rfl) (by exact fun _ _ _ h => h) (Or.inl ⟨by rfl, ?_⟩) (by assumption) (fun hs => ?_)
            rotate_left 1
            · (intro w hSw; (try dsimp only at hSw); go_simp; (try with_reducible rfl))
            simp only [Act.put, List.setIfInBounds_toArray, List.set_cons_zero, List.set_cons_succ]
            refine wpAnyL_takeB (i := 8) (v := ?_) (by simp only [List.getElem?_toArray, List.getElem?_cons_succ, List.getElem?_cons_zero]; rfl) (by kernel_rfl) (by kernel_rfl) (by kernel_rfl) (by rfl) (by exact fun _ _ _ h => h) (Or.inl ⟨by rfl, ?_⟩) (by assumption) (fun hs => ?_)
            rotate_left 1
            · (intro w hSw; (try dsimp only at hSw); go_simp; (try with_reducible rfl))
            simp only [Act.put, List.setIfInBounds_toArray, List.set_cons_zero, List.set_cons_succ]
            refine wpAnyL_takeC (i := 9) (v := ?_) (by simp only [List.getElem?_toArray, List.getElem?_cons_succ, List.getElem?_cons_zero]; rfl) (by kernel_rfl) (by kernel_rfl) (by kernel_rfl) (by rfl) (by kernel_rfl) (by rfl) (by exact fun _ _ _ h => h) (Or.inl ⟨by rfl, ?_⟩) (by assumption) (fun hs => ?_)
            rotate_left 1
            · (intro w hSw; (try dsimp only at hSw); go_simp; (try with_reducible rfl))
            simp only [Act.put, List.setIfInBounds_toArray, List.set_cons_zero, List.set_cons_succ]
            refine wpAnyL_takeB (i := 10) (v := ?_) (by simp only [List.getElem?_toArray, List.getElem?_cons_succ, List.getElem?_cons_zero]; rfl) (by kernel_rfl) (by kernel_rfl) (by kernel_rfl) (by rfl) (by exact fun _ _ _ h => h) (Or.inl ⟨by rfl, ?_⟩) (by assumption) (fun hs => ?_)
            rotate_left 1
            · (intro w hSw; (try dsimp only at hSw); go_simp; (try with_reducible rfl))
            simp only [Act.put, List.setIfInBounds_toArray, List.set_cons_zero, List.set_cons_succ]
            refine wpAnyL_takeB (i := 11) (v := ?_) (by simp only [List.getElem?_toArray, List.getElem?_cons_succ, List.getElem?_cons_zero]; rfl) (by kernel_rfl) (by kernel_rfl) (by kernel_rfl) (by rfl) (by exact fun _ _ _ h => h) (Or.inl ⟨by rfl, ?_⟩) (by assumption) (fun hs => ?_)
            rotate_left 1
            · (intro w hSw; (try dsimp only at hSw); go_simp; (try with_reducible rfl))
            simp only [Act.put, List.setIfInBounds_toArray, List.set_cons_zero, List.set_cons_succ]
            refine wpAnyL_takeB (i := 12) (v := ?_) (by simp only [List.getElem?_toArray, List.getElem?_cons_succ, List.getElem?_cons_zero]; rfl) (by kernel_rfl) (by kernel_rfl) (by kernel_rfl) (by rfl) (by exact fun _ _ _ h => h) (Or.inl ⟨by rfl, ?_⟩) (by assumption) (fun hs => ?_)
            rotate_left 1
            · (intro w hSw; (try dsimp only at hSw); go_simp; (try with_reducible rfl))
            simp only [Act.put, List.setIfInBounds_toArray, List.set_cons_zero, List.set_cons_succ]
            refine wpAnyL_takeB (i := 13) (v := ?_) (by simp only [List.getElem?_toArray, List.getElem?_cons_succ, List.getElem?_cons_zero]; rfl) (by kernel_rfl) (by kernel_rfl) (by kernel_rfl) (by rfl) (by exact fun _ _ _ h => h) (Or.inl ⟨by rfl, ?_⟩) (by assumption) (fun hs => ?_)
            rotate_left 1
            · (intro w hSw; (try dsimp only at hSw); go_simp; (try with_reducible rfl))
            simp only [Act.put, List.setIfInBounds_toArray, List.set_cons_zero, List.set_cons_succ]
            refine wpAnyL_only (i := 6) (by simp only [List.getElem?_toArray, List.getElem?_cons_succ, List.getElem?_cons_zero]; rfl) (by kernel_rfl) (fun K hK => ?_)
            go_simp; go_at_call 48; refine (interval_Floor.same b c _ _ ff).mono ?_; rintro e w' ⟨rfl, rfl⟩
            refine hK.out _ _ ?_ (fun hs => ?_)
            · (exact ⟨hs.1, fun _ => hs.2 rfl⟩)
            clear hK K
            try simp only [Act.put, List.setIfInBounds_toArray, List.set_cons_zero, List.set_cons_succ]
            refine wpAnyL_takeB (i := 7) (v := ?_) (by simp only [List.getElem?_toArray, List.getElem?_cons_succ, List.getElem?_cons_zero]; rfl) (by kernel_rfl) (by kernel_rfl) (by kernel_rfl) (by rfl) (by exact fun _ _ _ h => h) (Or.inl ⟨by rfl, ?_⟩) (by assumption) (fun hs => ?_)
            rotate_left 1
            · (intro w hSw; (try dsimp only at hSw); go_simp; (try with_reducible rfl))
            simp only [Act.put, List.setIfInBounds_toArray, List.set_cons_zero, List.set_cons_succ]
            refine wpAnyL_takeB (i := 16) (v := ?_) (by simp only [List.getElem?_toArray, List.getElem?_cons_succ, List.getElem?_cons_zero]; rfl) (by kernel_rfl) (by kernel_rfl) (by kernel_rfl) (by rfl) (by exact fun _ _ _ h => h) (Or.inl ⟨by rfl, ?_⟩) (by assumption) (fun hs => ?_)
            rotate_left 1
            · (intro w hSw; (try dsimp only at hSw); go_simp; (try with_reducible rfl))
            simp only [Act.put, List.setIfInBounds_toArray, List.set_cons_zero, List.set_cons_succ]
            refine wpAnyL_only (i := 14) (by simp only [List.getElem?_toArray, List.getElem?_cons_succ, List.getElem?_cons_zero]; rfl) (by kernel_rfl) (fun K hK => ?_)
            go_simp; go_at_call 49; refine (interval_Ceil.same b c _ _ fc).mono ?_; rintro e w' ⟨rfl, rfl⟩
            refine hK.out _ _ ?_ (fun hs => ?_)
            · (exact ⟨hs.1, fun _ => hs.2 rfl⟩)
            clear hK K
            try simp only [Act.put, List.setIfInBounds_toArray, List.set_cons_zero, List.set_cons_succ]
            refine wpAnyL_takeB (i := 15) (v := ?_) (by simp only [List.getElem?_toArray, List.getElem?_cons_succ, List.getElem?_cons_zero]; rfl) (by kernel_rfl) (by kernel_rfl) (by kernel_rfl) (by rfl) (by exact fun _ _ _ h => h) (Or.inl ⟨by rfl, ?_⟩) (by assumption) (fun hs => ?_)
            rotate_left 1
            · (intro w hSw; (try dsimp only at hSw); go_simp; (try with_reducible rfl))
            simp only [Act.put, List.setIfInBounds_toArray, List.set_cons_zero, List.set_cons_succ]
            refine wpAnyL_only (i := 17) (by simp only [List.getElem?_toArray, List.getElem?_cons_succ, List.getElem?_cons_zero]; rfl) (by kernel_rfl) (fun K hK => ?_)
            go_simp
            refine hK.out _ _ ?_ (fun hs => ?_)
            · exact ⟨⟨(blk_cell (blk_drew (blk_new_at (by simp))) 0).trans rfl, (blk_cell (blk_drew (blk_new_at (by simp))) 1).trans rfl⟩, fun h => nomatch (show (true : Bool) = false from h)⟩
            clear hK K
            try simp only [Act.put, List.setIfInBounds_toArray, List.set_cons_zero, List.set_cons_succ]
            refine wpAnyL_takeB (i := 18) (v := ?_) (by simp only [List.getElem?_toArray, List.getElem?_cons_succ, List.getElem?_cons_zero]; rfl) (by kernel_rfl) (by kernel_rfl) (by kernel_rfl) (by rfl) (by exact fun _ _ _ h => h) (Or.inl ⟨by rfl, ?_⟩) (by assumption) (fun hs => ?_)
            rotate_left 1
            · (intro w hSw; (try dsimp only at hSw); go_simp; (try with_reducible rfl))
            simp only [Act.put, List.setIfInBounds_toArray, List.set_cons_zero, List.set_cons_succ]
            refine wpAnyL_only (i := 19) (by simp only [List.getElem?_toArray, List.getElem?_cons_succ, List.getElem?_cons_zero]; rfl) (by kernel_rfl) (fun K hK => ?_)
            go_simp
            refine hK.out _ _ ?_ (fun hs => ?_)
            · exact ⟨⟨(blk_cell (blk_drew (blk_new_at (by simp))) 0).trans rfl, (blk_cell (blk_drew (blk_new_at (by simp))) 1).trans rfl⟩, fun h => nomatch (show (true : Bool) = false from h)⟩
            clear hK K
            try simp only [Act.put, List.setIfInBounds_toArray, List.set_cons_zero, List.set_cons_succ]
            refine wpAnyL_done (by kernel_rfl) ?_ _
            go_wp2
            go_roundw
            case rel =>
              refine ⟨2, 2, by omega, rfl, by first | rfl | go_num, ⟨?_⟩, ⟨?_⟩, ⟨?_⟩⟩
              · (with_reducible repeat (first | refine blk_drewN ?_ _ | refine blk_drew ?_ | refine blk_alloc ?_ _))
                refine blk_put (cs := #[.int .i64 (interval_Div.L a b c d 2), .int .i64 H0]) ?_ 1 _ rfl
                refine blk_put (cs := #[.int .i64 L0, .int .i64 H0]) ?_ 0 _ rfl
                exact KR.out
              · repeat (first | exact KO.out | (with_reducible refine blk_drewN ?_ _) | (with_reducible refine blk_drew ?_) | (with_reducible refine blk_alloc ?_ _) | refine blk_far ?_ (by first | (simp; done) | (simp; omega)) _)
              · repeat (first | exact KB.out | apply below_alloc | apply pw_below_drewN | apply below_drew | refine below_set ?_ (by first | omega | (simp; done) | (simp; omega)))
            case measure => simp [intOf]
          | 2, _ =>
            obtain rfl : z = 2 := hz
            have ix : ∀ w : World, (Instr.index 54 (.agg #[.int .i64 a, .int .i64 d, .int .i64 b, .int .i64 c, .int .i64 b, .int .i64 d]) (.int .i64 2)).run Try.prog w = .ok (.agg #[.int .i64 b, .int .i64 d]) w := fun _ => by kernel_rfl
            have eL : (if flr b d < interval_Div.L a b c d 2 then flr b d else interval_Div.L a b c d 2) = interval_Div.L a b c d 3 := rfl
            have eH : (if interval_Div.H a b c d 2 < clg b d then clg b d else interval_Div.H a b c d 2) = interval_Div.H a b c d 3 := rfl
            have ff := (FL.out b d (.inr rfl) (.inr rfl)).1
            have fc := (FL.out b d (.inr rfl) (.inr rfl)).2
            generalize flr b d = fx at *
            generalize clg b d = cx at *
            generalize interval_Div.L a b c d 2 = L0 at *
            generalize interval_Div.H a b c d 2 = H0 at *
            go_wp2_with fail
            refine wp_region_anyL (n := 17) (B := fun w' => w'.cell? ⟨wr.heap.size, 0, none⟩ = some (.int .i64 b) ∧ w'.cell? ⟨wr.heap.size, 1, none⟩ = some (.int .i64 d)) (C := fun w' => w'.cell? ⟨w1.heap.size, 0, none⟩ = some (.int .i64 L0) ∧ w'.cell? ⟨w1.heap.size, 1, none⟩ = some (.int .i64 H0)) (by kernel_rfl) ?hB ?hC (fun hs => ?_)
            case hB => exact ⟨by simp, by simp⟩
            case hC => exact ⟨(blk_cell (blk_drew (blk_alloc KR.out _)) 0).trans rfl, (blk_cell (blk_drew (blk_alloc KR.out _)) 1).trans rfl⟩
            refine wpAnyL_takeB (i := 0) (v := ?_) (by simp only [List.getElem?_toArray, List.getElem?_cons_succ, List.getElem?_cons_zero]; rfl) (by kernel_rfl) (by kernel_rfl) (by kernel_rfl) (by rfl) (by exact fun _ _ _ h => h) (Or.inl ⟨by rfl, ?_⟩) (by assumption) (fun hs => ?_)
            rotate_left 1
            · (intro w hSw; (try dsimp only at hSw); go_simp; (try with_reducible rfl))
            simp only [Act.put, List.setIfInBounds_toArray, List.set_cons_zero, List.set_cons_succ]
            refine wpAnyL_takeC (i := 1) (v := ?_) (by simp only [List.getElem?_toArray, List.getElem?_cons_succ, List.getElem?_cons_zero]; rfl) (by kernel_rfl) (by kernel_rfl) (by kernel_rfl) (by rfl) (by kernel_rfl) (by rfl) (by exact fun _ _ _ h => h) (Or.inl ⟨by rfl, ?_⟩) (by assumption) (fun hs => ?_)
            rotate_left 1
            · (intro w hSw; (try dsimp only at hSw); go_simp; (try with_reducible rfl))
            simp only [Act.put, List.setIfInBounds_toArray, List.set_cons_zero, List.set_cons_succ]
            refine wpAnyL_takeB (i := 2) (v := ?_) (by simp only [List.getElem?_toArray, List.getElem?_cons_succ, List.getElem?_cons_zero]; rfl) (by kernel_rfl) (by kernel_rfl) (by kernel_rfl) (by rfl) (by exact fun _ _ _ h => h) (Or.inl ⟨by rfl, ?_⟩) (by assumption) (fun hs => ?_)
            rotate_left 1
            · (intro w hSw; (try dsimp only at hSw); go_simp; (try with_reducible rfl))
            simp only [Act.put, List.setIfInBounds_toArray, List.set_cons_zero, List.set_cons_succ]
            refine wpAnyL_takeB (i := 3) (v := ?_) (by simp only [List.getElem?_toArray, List.getElem?_cons_succ, List.getElem?_cons_zero]; rfl) (by kernel_rfl) (by kernel_rfl) (by kernel_rfl) (by rfl) (by exact fun _ _ _ h => h) (Or.inl ⟨by rfl, ?_⟩) (by assumption) (fun hs => ?_)
            rotate_left 1
            · (intro w hSw; (try dsimp only at hSw); go_simp; (try with_reducible rfl))
            simp only [Act.put, List.setIfInBounds_toArray, List.set_cons_zero, List.set_cons_succ]
            refine wpAnyL_takeB (i := 4) (v := ?_) (by simp only [List.getElem?_toArray, List.getElem?_cons_succ, List.getElem?_cons_zero]; rfl) (by kernel_rfl) (by kernel_rfl) (by kernel_rfl) (by rfl) (by exact fun _ _ _ h => h) (Or.inl ⟨by rfl, ?_⟩) (by assumption) (fun hs => ?_)
            rotate_left 1
            · (intro w hSw; (try dsimp only at hSw); go_simp; (try with_reducible rfl))
            simp only [Act.put, List.setIfInBounds_toArray, List.set_cons_zero, List.set_cons_succ]
            refine wpAnyL_takeB (i := 5) (v := ?_) (by simp only [List.getElem?_toArray, List.getElem?_cons_succ, List.getElem?_cons_zero]; rfl) (by kernel_rfl) (by kernel_rfl) (by kernel_rfl) (by rfl) (by exact fun _ _ _ h => h) (Or.inl ⟨by rfl, ?_⟩) (by assumption) (fun hs => ?_)
            rotate_left 1
            · (intro w hSw; (try dsimp only at hSw); go_simp; (try with_reducible rfl))
            simp only [Act.put, List.setIfInBounds_toArray, List.set_cons_zero, List.set_cons_succ]
            refine wpAnyL_takeB (i := 8) (v := ?_) (by simp only [List.getElem?_toArray, List.getElem?_cons_succ, List.getElem?_cons_zero]; rfl) (by kernel_rfl) (by kernel_rfl) (by kernel_rfl) (by rfl) (by exact fun _ _ _ h => h) (Or.inl ⟨by rfl, ?_⟩) (by assumption) (fun hs => ?_)
            rotate_left 1
            · (intro w hSw; (try dsimp only at hSw); go_simp; (try with_reducible rfl))
            simp only [Act.put, List.setIfInBounds_toArray, List.set_cons_zero, List.set_cons_succ]
            refine wpAnyL_takeC (i := 9) (v := ?_) (by simp only [List.getElem?_toArray, List.getElem?_cons_succ, List.getElem?_cons_zero]; rfl) (by kernel_rfl) (by kernel_rfl) (by kernel_rfl) (by rfl) (by kernel_rfl) (by rfl) (by exact fun _ _ _ h => h) (Or.inl ⟨by rfl, ?_⟩) (by assumption) (fun hs => ?_)
            rotate_left 1
            · (intro w hSw; (try dsimp only at hSw); go_simp; (try with_reducible rfl))
            simp only [Act.put, List.setIfInBounds_toArray, List.set_cons_zero, List.set_cons_succ]
            refine wpAnyL_takeB (i := 10) (v := ?_) (by simp only [List.getElem?_toArray, List.getElem?_cons_succ, List.getElem?_cons_zero]; rfl) (by kernel_rfl) (by kernel_rfl) (by kernel_rfl) (by rfl) (by exact fun _ _ _ h => h) (Or.inl ⟨by rfl, ?_⟩) (by assumption) (fun hs => ?_)
            rotate_left 1
            · (intro w hSw; (try dsimp only at hSw); go_simp; (try with_reducible rfl))
            simp only [Act.put, List.setIfInBounds_toArray, List.set_cons_zero, List.set_cons_succ]
            refine wpAnyL_takeB (i := 11) (v := ?_) (by simp only [List.getElem?_toArray, List.getElem?_cons_succ, List.getElem?_cons_zero]; rfl) (by kernel_rfl) (by kernel_rfl) (by kernel_rfl) (by rfl) (by exact fun _ _ _ h => h) (Or.inl ⟨by rfl, ?_⟩) (by assumption) (fun hs => ?_)
            rotate_left 1
            · (intro w hSw; (try dsimp only at hSw); go_simp; (try with_reducible rfl))
            simp only [Act.put, List.setIfInBounds_toArray, List.set_cons_zero, List.set_cons_succ]
            refine wpAnyL_takeB (i := 12) (v := ?_) (by simp only [List.getElem?_toArray, List.getElem?_cons_succ, List.getElem?_cons_zero]; rfl) (by kernel_rfl) (by kernel_rfl) (by kernel_rfl) (by rfl) (by exact fun _ _ _ h => h) (Or.inl ⟨by rfl, ?_⟩) (by assumption) (fun hs => ?_)
            rotate_left 1
            · (intro w hSw; (try dsimp only at hSw); go_simp; (try with_reducible rfl))
            simp only [Act.put, List.setIfInBounds_toArray, List.set_cons_zero, List.set_cons_succ]
            refine wpAnyL_takeB (i := 13) (v := ?_) (by simp only [List.getElem?_toArray, List.getElem?_cons_succ, List.getElem?_cons_zero]; rfl) (by kernel_rfl) (by kernel_rfl) (by kernel_rfl) (by rfl) (by exact fun _ _ _ h => h) (Or.inl ⟨by rfl, ?_⟩) (by assumption) (fun hs => ?_)
            rotate_left 1
            · (intro w hSw; (try dsimp only at hSw); go_simp; (try with_reducible rfl))
            simp only [Act.put, List.setIfInBounds_toArray, List.set_cons_zero, List.set_cons_succ]
            refine wpAnyL_only (i := 6) (by simp only [List.getElem?_toArray, List.getElem?_cons_succ, List.getElem?_cons_zero]; rfl) (by kernel_rfl) (fun K hK => ?_)
            go_simp; go_at_call 48; refine (interval_Floor.same b d _ _ ff).mono ?_; rintro e w' ⟨rfl, rfl⟩
            refine hK.out _ _ ?_ (fun hs => ?_)
            · (exact ⟨hs.1, fun _ => hs.2 rfl⟩)
            clear hK K
            try simp only [Act.put, List.setIfInBounds_toArray, List.set_cons_zero, List.set_cons_succ]
            refine wpAnyL_takeB (i := 7) (v := ?_) (by simp only [List.getElem?_toArray, List.getElem?_cons_succ, List.getElem?_cons_zero]; rfl) (by kernel_rfl) (by kernel_rfl) (by kernel_rfl) (by rfl) (by exact fun _ _ _ h => h) (Or.inl ⟨by rfl, ?_⟩) (by assumption) (fun hs => ?_)
            rotate_left 1
            · (intro w hSw; (try dsimp only at hSw); go_simp; (try with_reducible rfl))
            simp only [Act.put, List.setIfInBounds_toArray, List.set_cons_zero, List.set_cons_succ]
            refine wpAnyL_takeB (i := 16) (v := ?_) (by simp only [List.getElem?_toArray, List.getElem?_cons_succ, List.getElem?_cons_zero]; rfl) (by kernel_rfl) (by kernel_rfl) (by kernel_rfl) (by rfl) (by exact fun _ _ _ h => h) (Or.inl ⟨by rfl, ?_⟩) (by assumption) (fun hs => ?_)
            rotate_left 1
            · (intro w hSw; (try dsimp only at hSw); go_simp; (try with_reducible rfl))
            simp only [Act.put, List.setIfInBounds_toArray, List.set_cons_zero, List.set_cons_succ]
            refine wpAnyL_only (i := 14) (by simp only [List.getElem?_toArray, List.getElem?_cons_succ, List.getElem?_cons_zero]; rfl) (by kernel_rfl) (fun K hK => ?_)
            go_simp; go_at_call 49; refine (interval_Ceil.same b d _ _ fc).mono ?_; rintro e w' ⟨rfl, rfl⟩
            refine hK.out _ _ ?_ (fun hs => ?_)
            · (exact ⟨hs.1, fun _ => hs.2 rfl⟩)
            clear hK K
            try simp only [Act.put, List.setIfInBounds_toArray, List.set_cons_zero, List.set_cons_succ]
            refine wpAnyL_takeB (i := 15) (v := ?_) (by simp only [List.getElem?_toArray, List.getElem?_cons_succ, List.getElem?_cons_zero]; rfl) (by kernel_rfl) (by kernel_rfl) (by kernel_rfl) (by rfl) (by exact fun _ _ _ h => h) (Or.inl ⟨by rfl, ?_⟩) (by assumption) (fun hs => ?_)
            rotate_left 1
            · (intro w hSw; (try dsimp only at hSw); go_simp; (try with_reducible rfl))
            simp only [Act.put, List.setIfInBounds_toArray, List.set_cons_zero, List.set_cons_succ]
            refine wpAnyL_only (i := 17) (by simp only [List.getElem?_toArray, List.getElem?_cons_succ, List.getElem?_cons_zero]; rfl) (by kernel_rfl) (fun K hK => ?_)
            go_simp
            refine hK.out _ _ ?_ (fun hs => ?_)
            · exact ⟨⟨(blk_cell (blk_drew (blk_new_at (by simp))) 0).trans rfl, (blk_cell (blk_drew (blk_new_at (by simp))) 1).trans rfl⟩, fun h => nomatch (show (true : Bool) = false from h)⟩
            clear hK K
            try simp only [Act.put, List.setIfInBounds_toArray, List.set_cons_zero, List.set_cons_succ]
            refine wpAnyL_takeB (i := 18) (v := ?_) (by simp only [List.getElem?_toArray, List.getElem?_cons_succ, List.getElem?_cons_zero]; rfl) (by kernel_rfl) (by kernel_rfl) (by kernel_rfl) (by rfl) (by exact fun _ _ _ h => h) (Or.inl ⟨by rfl, ?_⟩) (by assumption) (fun hs => ?_)
            rotate_left 1
            · (intro w hSw; (try dsimp only at hSw); go_simp; (try with_reducible rfl))
            simp only [Act.put, List.setIfInBounds_toArray, List.set_cons_zero, List.set_cons_succ]
            refine wpAnyL_only (i := 19) (by simp only [List.getElem?_toArray, List.getElem?_cons_succ, List.getElem?_cons_zero]; rfl) (by kernel_rfl) (fun K hK => ?_)
            go_simp
            refine hK.out _ _ ?_ (fun hs => ?_)
            · exact ⟨⟨(blk_cell (blk_drew (blk_new_at (by simp))) 0).trans rfl, (blk_cell (blk_drew (blk_new_at (by simp))) 1).trans rfl⟩, fun h => nomatch (show (true : Bool) = false from h)⟩
            clear hK K
            try simp only [Act.put, List.setIfInBounds_toArray, List.set_cons_zero, List.set_cons_succ]
            refine wpAnyL_done (by kernel_rfl) ?_ _
            go_wp2
            go_roundw
            case rel =>
              refine ⟨3, 3, by omega, rfl, by first | rfl | go_num, ⟨?_⟩, ⟨?_⟩, ⟨?_⟩⟩
              · (with_reducible repeat (first | refine blk_drewN ?_ _ | refine blk_drew ?_ | refine blk_alloc ?_ _))
                refine blk_put (cs := #[.int .i64 (interval_Div.L a b c d 3), .int .i64 H0]) ?_ 1 _ rfl
                refine blk_put (cs := #[.int .i64 L0, .int .i64 H0]) ?_ 0 _ rfl
                exact KR.out
              · repeat (first | exact KO.out | (with_reducible refine blk_drewN ?_ _) | (with_reducible refine blk_drew ?_) | (with_reducible refine blk_alloc ?_ _) | refine blk_far ?_ (by first | (simp; done) | (simp; omega)) _)
              · repeat (first | exact KB.out | apply below_alloc | apply pw_below_drewN | apply below_drew | refine below_set ?_ (by first | omega | (simp; done) | (simp; omega)))
            case measure => simp [intOf]
          | 3, _ =>
            obtain rfl : z = 3 := hz
            have ho0 : wr.cell? ⟨w.heap.size + 1 + 1, 0, none⟩ = some (.int .i64 0) := (blk_cell KO.out 0).trans rfl
            have ho1 : wr.cell? ⟨w.heap.size + 1 + 1, 1, none⟩ = some (.int .i64 0) := (blk_cell KO.out 1).trans rfl
            have hof0 := blk_frozen KO.out 0
            have hof1 := blk_frozen KO.out 1
            go_wp2
            refine bodyPost_ret (results_ct rfl _ _ (w.heap.size + 1 + 1) 23 #[.int .i64 (interval_Div.L a b c d 3), .int .i64 (interval_Div.H a b c d 3)] (0, 0) _ rfl (by
              (with_reducible repeat (first | refine blk_drewN ?_ _ | refine blk_drew ?_ | refine blk_alloc ?_ _)); refine blk_put (cs := #[.int .i64 (interval_Div.L a b c d 3), .int .i64 (0)]) ?_ 1 _ rfl; (with_reducible repeat (first | refine blk_drewN ?_ _ | refine blk_drew ?_ | refine blk_alloc ?_ _)); refine blk_put (cs := #[.int .i64 0, .int .i64 0]) ?_ 0 _ rfl; (with_reducible repeat (first | refine blk_drewN ?_ _ | refine blk_drew ?_ | refine blk_alloc ?_ _)); exact KO.out) Try.underlying23 rfl (by kernel_rfl)) rfl ⟨rfl, ?_⟩
            repeat (first | exact KB.out | apply below_alloc | apply pw_below_drewN | apply below_drew | refine below_set ?_ (by first | omega | (simp; done) | (simp; omega)))
  · rw [if_neg hp] at h; cases h

end Go.Proofs.Ytigolfomfpmodaa.JT
