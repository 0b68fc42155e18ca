-- Made by a program of this session (wip/hp.py, over the kit's print) out of the translation. Not trusted: Lean checks it.
import Derived.Test.YtgmjgnojjbajdaaDoorJGx0
import Derived.Test.YtgmjgnojjbajdaaDoorJGx1
import Derived.Test.YtgmjgnojjbajdaaDoorJGx4
import Derived.Test.YtgmjgnojjbajdaaDoorJGx6
import Derived.Test.YtgmjgnojjbajdaaDoorJGx18
namespace Go.Proofs.YtgmjgnojjbajdaaDoor.JG
open Go.RowKit Go.Proofs.YtgmjgnojjbajdaaDoorW.PrintWords Go.Proofs.YtgmjgnojjbajdaaDoorW.PrintLast Go.Proofs.YtgmjgnojjbajdaaDoorW.PrintMore
attribute [local go_sem] max2_int min2_int max_two min_two max_three min_three max_four min_four   -- for this text's walks alone
set_option linter.unusedVariables false
set_option linter.unusedSimpArgs false

/-! ### trig_Arc: function 32 -/
-- hand
-- body
/-- the state behind k corners -/
def trig_Arc.S (d s1 s2 s3 : Int × Int) : Nat → Int × Int
  | 0 => d
  | 1 => s1
  | 2 => s2
  | _ => s3
def trig_Arc.Y (y0 y1 : Int) : Nat → Int
  | 0 => y0
  | _ => y1
def trig_Arc.X (x0 x1 : Int) : Nat → Int
  | 1 => x0
  | _ => x1
theorem stp_some_ {k : Nat} {y x f0 : Int} {s t : Int × Int} (h : trig_Arc.stp k y x f0 s = some t) : ∃ e0 e1 q, trig_direction.f k y x = some (e0, e1) ∧ interval_Floor.f (wrap64 ((wrap64 (e0 - f0)) + 500000000)) 1000000000 = some q ∧ t = (mn s.1 (wrap64 (e0 - wrap64 (q * 1000000000))), mx s.2 (wrap64 (e1 - wrap64 (q * 1000000000)))) := by
  unfold trig_Arc.stp at h
  obtain ⟨⟨e0, e1⟩, h1, h⟩ := Option.bind_eq_some_iff.mp h
  obtain ⟨q, h2, h⟩ := Option.bind_eq_some_iff.mp h
  exact ⟨e0, e1, q, h1, h2, (Option.some.inj h).symm⟩
set_option maxHeartbeats 8000000 in
set_option maxRecDepth 100000 in
theorem trig_Arc.walk1 (k : Nat) (y0 y1 x0 x1 f0 f1 s10 s11 s20 s21 s30 s31 q r1 r2 r3 : Int) (hw : Bool) (w : World) (CY : Aside0 (interval_Check.f 1 y0 y1 = some 0)) (CX : Aside0 (interval_Check.f 1 x0 x1 = some 0)) (HD : Aside0 (trig_direction.f k y0 x0 = some (f0, f1))) (HQ : Aside0 (hw = false → interval_Floor.f s30 1000000000 = some q)) (hr : Aside0 ((if hw = true then (0, 0, 11) else (wrap64 (s30 - wrap64 (q * 1000000000)), wrap64 (s31 - wrap64 (q * 1000000000)), 0)) = (r1, r2, r3)))
    (hwf : Aside0 (decide (400000000 < wrap64 (s31 - s30)) = hw)) (RS : Aside0 (∀ k' : Nat, k' < 3 → ∃ e0 e1 q, trig_direction.f k (trig_Arc.Y y0 y1 k') (trig_Arc.X x0 x1 k') = some (e0, e1) ∧ interval_Floor.f (wrap64 ((wrap64 (e0 - f0)) + 500000000)) 1000000000 = some q ∧ trig_Arc.S (f0, f1) (s10, s11) (s20, s21) (s30, s31) (k' + 1) = (mn (trig_Arc.S (f0, f1) (s10, s11) (s20, s21) (s30, s31) k').1 (wrap64 (e0 - wrap64 (q * 1000000000))), mx (trig_Arc.S (f0, f1) (s10, s11) (s20, s21) (s30, s31) k').2 (wrap64 (e1 - wrap64 (q * 1000000000)))))) (b1 : decide (y0 ≤ 0) = false) :
    Calls Tryd.prog 32 #[.agg #[.int .i64 y0, .int .i64 y1], .agg #[.int .i64 x0, .int .i64 x1]] w fun e w' => e = .returned (.tuple #[.agg #[.int .i64 r1, .int .i64 r2], .int .i64 r3]) ∧ Below w.heap.size w w' := by
  have hu := Tryd.underlying28
  have hu48 := Tryd.underlying81
  have hu54 := Tryd.underlying82
  go_enter Tryd.func32, Tryd.ntmps32
  go_wp2_with fail
  refine (interval_Check.calls 1 y0 y1 0 _ CY.out).mono ?_
  rintro e w1 ⟨rfl, hb⟩
  have BA := Aside0.mk (blk_below (g := w.heap.size) (o := .cells #[.int .i64 y0, .int .i64 y1] 28 (0, 0)) (blk_alloc (blk_alloc (blk_new w _) _) _) hb)
  have BB := Aside0.mk (blk_below (g := w.heap.size + 1) (o := .cells #[.int .i64 x0, .int .i64 x1] 28 (0, 0)) (blk_alloc (by have h_ := blk_new (w.alloc (.cells #[.int .i64 y0, .int .i64 y1] 28 (0, 0))) (.cells #[.int .i64 x0, .int .i64 x1] 28 (0, 0)); simpa using h_) _) hb)
  have BO := Aside0.mk (blk_below (g := w.heap.size + 1 + 1) (o := .cells #[.int .i64 0, .int .i64 0] 28 (0, 0)) (by have h_ := blk_new ((w.alloc (.cells #[.int .i64 y0, .int .i64 y1] 28 (0, 0))).alloc (.cells #[.int .i64 x0, .int .i64 x1] 28 (0, 0))) (.cells #[.int .i64 0, .int .i64 0] 28 (0, 0)); simpa using h_) hb)
  have HB := Aside0.mk (below_step (w := w) (by repeat (first | exact Below.refl _ _ | apply below_alloc | apply pw_below_drewN | apply below_drew | refine below_set ?_ (by first | omega | (simp; done) | (simp; omega)))) hb)
  clear hb
  have xb0 : w1.cell? ⟨w.heap.size + 1, 0, none⟩ = some (.int .i64 x0) := (blk_cell BB.out 0).trans rfl
  have xb1 : w1.cell? ⟨w.heap.size + 1, 1, none⟩ = some (.int .i64 x1) := (blk_cell BB.out 1).trans rfl
  go_wp2_with fail
  refine (interval_Check.calls 1 x0 x1 0 _ CX.out).mono ?_
  rintro e w2 ⟨rfl, hb⟩
  have BA2 := Aside0.mk (blk_below BA.out hb)
  have BB2 := Aside0.mk (blk_below BB.out hb)
  have BO2 := Aside0.mk (blk_below BO.out hb)
  have HB2 := Aside0.mk (below_step HB.out hb)
  clear hb BA BB BO HB xb0 xb1
  have ya0 : w2.cell? ⟨w.heap.size, 0, none⟩ = some (.int .i64 y0) := (blk_cell BA2.out 0).trans rfl
  have ya1 : w2.cell? ⟨w.heap.size, 1, none⟩ = some (.int .i64 y1) := (blk_cell BA2.out 1).trans rfl
  have xb0 : w2.cell? ⟨w.heap.size + 1, 0, none⟩ = some (.int .i64 x0) := (blk_cell BB2.out 0).trans rfl
  have xb1 : w2.cell? ⟨w.heap.size + 1, 1, none⟩ = some (.int .i64 x1) := (blk_cell BB2.out 1).trans rfl
  go_wp2_with fail
  refine (trig_direction.calls k y0 x0 f0 f1 _ HD.out).mono ?_
  rintro e w3 ⟨rfl, hb⟩
  have BA := Aside0.mk (blk_below BA2.out hb)
  have BB := Aside0.mk (blk_below BB2.out hb)
  have BO := Aside0.mk (blk_below BO2.out hb)
  have HB := Aside0.mk (below_step HB2.out hb)
  clear hb BA2 BB2 BO2 HB2 ya0 ya1 xb0 xb1
  have ya0 : w3.cell? ⟨w.heap.size, 0, none⟩ = some (.int .i64 y0) := (blk_cell BA.out 0).trans rfl
  have ya1 : w3.cell? ⟨w.heap.size, 1, none⟩ = some (.int .i64 y1) := (blk_cell BA.out 1).trans rfl
  have xb0 : w3.cell? ⟨w.heap.size + 1, 0, none⟩ = some (.int .i64 x0) := (blk_cell BB.out 0).trans rfl
  have xb1 : w3.cell? ⟨w.heap.size + 1, 1, none⟩ = some (.int .i64 x1) := (blk_cell BB.out 1).trans rfl
  have lO : w.heap.size + 1 + 1 < w3.heap.size := blk_lt BO.out
  have nA : ¬ w3.heap.size = w.heap.size := by omega
  have nB : ¬ w3.heap.size = w.heap.size + 1 := by omega
  have nA' : ¬ w.heap.size = w3.heap.size := by omega
  have nB' : ¬ w.heap.size + 1 = w3.heap.size := by omega
  have nA1 : ¬ w3.heap.size + 1 = w.heap.size := by omega
  have nB1 : ¬ w3.heap.size + 1 = w.heap.size + 1 := by omega
  have nA1' : ¬ w.heap.size = w3.heap.size + 1 := by omega
  have nB1' : ¬ w.heap.size + 1 = w3.heap.size + 1 := by omega
  have lA : w.heap.size < w3.heap.size := by omega
  have lB : w.heap.size + 1 < w3.heap.size := by omega
  go_wp2
  have SF := Aside0.mk (blk_alloc (blk_new w3 (.cells #[.int .i64 f0, .int .i64 f1] 28 (0, 0))) (.cells #[.int .i64 f0, .int .i64 f1] 28 (0, 0)))
  have SS := Aside0.mk (show ((w3.alloc (.cells #[.int .i64 f0, .int .i64 f1] 28 (0, 0))).alloc (.cells #[.int .i64 f0, .int .i64 f1] 28 (0, 0))).heap[w3.heap.size + 1]? = some (.cells #[.int .i64 f0, .int .i64 f1] 28 (0, 0)) from by have h_ := blk_new (w3.alloc (.cells #[.int .i64 f0, .int .i64 f1] 28 (0, 0))) (.cells #[.int .i64 f0, .int .i64 f1] 28 (0, 0)); simpa using h_)
  have SO := Aside0.mk (blk_alloc (blk_alloc BO.out (.cells #[.int .i64 f0, .int .i64 f1] 28 (0, 0))) (.cells #[.int .i64 f0, .int .i64 f1] 28 (0, 0)))
  have SB := Aside0.mk (below_alloc (below_alloc HB.out (.cells #[.int .i64 f0, .int .i64 f1] 28 (0, 0))) (.cells #[.int .i64 f0, .int .i64 f1] 28 (0, 0)))
  clear BA BB BO HB ya0 ya1 xb0 xb1
  go_loopw [68] (fun v wr => ∃ (j : Nat) (z : Int), j ≤ 3 ∧ z = j ∧ v = .int .i64 z ∧ Aside0 (wr.heap[w3.heap.size + 1]? = some (.cells #[.int .i64 (trig_Arc.S (f0, f1) (s10, s11) (s20, s21) (s30, s31) j).1, .int .i64 (trig_Arc.S (f0, f1) (s10, s11) (s20, s21) (s30, s31) j).2] 28 (0, 0))) ∧ Aside0 (wr.heap[w3.heap.size]? = some (.cells #[.int .i64 f0, .int .i64 f1] 28 (0, 0))) ∧ Aside0 (wr.heap[w.heap.size + 1 + 1]? = some (.cells #[.int .i64 0, .int .i64 0] 28 (0, 0))) ∧ Aside0 (Below w.heap.size w wr)) (fun v _ => 3 - (intOf v).toNat)
  case atStart =>
    exact ⟨0, 0, by omega, rfl, rfl, ⟨SS.out⟩, ⟨SF.out⟩, ⟨SO.out⟩, ⟨SB.out⟩⟩
  case round =>
    obtain ⟨j, z, hj, hz, rfl, KS, KF, KO, KB⟩ := hrel
    clear SF SS SO SB
    have nr1 : w3.heap.size + 1 < wr.heap.size := blk_lt KS.out
    match j, hj with
    | 0, _ =>
      obtain rfl : z = 0 := hz
      replace KS : Aside0 (wr.heap[w3.heap.size + 1]? = some (.cells #[.int .i64 f0, .int .i64 f1] 28 (0, 0))) := ⟨KS.out⟩
      have ix : ∀ w : World, (Instr.index 82 (.agg #[.int .i64 y0, .int .i64 x1, .int .i64 y1, .int .i64 x0, .int .i64 y1, .int .i64 x1]) (.int .i64 0)).run Tryd.prog w = .ok (.agg #[.int .i64 y0, .int .i64 x1]) w := fun _ => by kernel_rfl
      obtain ⟨e0, e1, q', hd, hq', hs⟩ := RS.out 0 (by omega)
      have hsL : (if wrap64 (e0 - wrap64 (q' * 1000000000)) < f0 then wrap64 (e0 - wrap64 (q' * 1000000000)) else f0) = s10 := (congrArg Prod.fst hs).symm
      have hsH : (if f1 < wrap64 (e1 - wrap64 (q' * 1000000000)) then wrap64 (e1 - wrap64 (q' * 1000000000)) else f1) = s11 := (congrArg Prod.snd hs).symm
      have HD' := Aside0.mk (show trig_direction.f k y0 x1 = some (e0, e1) from hd)
      have HQ' := Aside0.mk hq'
      clear hd hq' hs
      go_wp2_with fail
      refine (trig_direction.calls k y0 x1 e0 e1 _ HD'.out).mono ?_
      rintro e w4 ⟨rfl, hb⟩
      have PS := Aside0.mk (blk_below (blk_alloc KS.out _) hb)
      have PF := Aside0.mk (blk_below (blk_alloc KF.out _) hb)
      have PO := Aside0.mk (blk_below (blk_alloc KO.out _) hb)
      have PB := Aside0.mk (below_step (below_alloc KB.out _) hb)
      have lw : wr.heap.size + 1 ≤ w4.heap.size := by have h_ := hb.size; simpa using h_
      clear hb KS KF KO KB
      have kf0 : w4.cell? ⟨w3.heap.size, 0, none⟩ = some (.int .i64 f0) := (blk_cell PF.out 0).trans rfl
      have ks0 : w4.cell? ⟨w3.heap.size + 1, 0, none⟩ = some (.int .i64 f0) := (blk_cell PS.out 0).trans rfl
      have ks1 : w4.cell? ⟨w3.heap.size + 1, 1, none⟩ = some (.int .i64 f1) := (blk_cell PS.out 1).trans rfl
      have fs0 := blk_frozen PS.out 0
      have fs1 := blk_frozen PS.out 1
      have m1 : ¬ w4.heap.size = w3.heap.size := by omega
      have m2 : ¬ w4.heap.size = w3.heap.size + 1 := by omega
      have m3 : ¬ w3.heap.size = w4.heap.size := by omega
      have m4 : ¬ w3.heap.size + 1 = w4.heap.size := by omega
      have m5 : w3.heap.size < w4.heap.size := by omega
      have m6 : w3.heap.size + 1 < w4.heap.size := by omega
      go_wp2_with fail
      refine (interval_Floor.same _ _ q' _ HQ'.out).mono ?_
      rintro e w5 ⟨rfl, rfl⟩
      go_wp2_with fail
      go_region
      go_wp2
      go_roundw
      case rel =>
        refine ⟨1, 1, by omega, rfl, by first | rfl | go_num, ⟨?_⟩, ⟨?_⟩, ⟨?_⟩, ⟨?_⟩⟩
        · show _ = some (Obj.cells #[.int .i64 s10, .int .i64 s11] 28 (0, 0))
          (with_reducible repeat (first | refine blk_drewN ?_ _ | refine blk_drew ?_ | refine blk_alloc ?_ _))
          refine blk_put (cs := #[.int .i64 s10, .int .i64 f1]) ?_ 1 _ rfl
          refine blk_put (cs := #[.int .i64 f0, .int .i64 f1]) ?_ 0 _ rfl
          (with_reducible repeat (first | refine blk_drewN ?_ _ | refine blk_drew ?_ | refine blk_alloc ?_ _))
          exact PS.out
        · repeat (first | exact PF.out | (with_reducible refine blk_drewN ?_ _) | (with_reducible refine blk_drew ?_) | (with_reducible refine blk_alloc ?_ _) | refine blk_far ?_ (by first | (simp; done) | (simp; omega)) _)
        · repeat (first | exact PO.out | (with_reducible refine blk_drewN ?_ _) | (with_reducible refine blk_drew ?_) | (with_reducible refine blk_alloc ?_ _) | refine blk_far ?_ (by first | (simp; done) | (simp; omega)) _)
        · repeat (first | exact PB.out | apply below_alloc | apply pw_below_drewN | apply below_drew | refine below_set ?_ (by first | omega | (simp; done) | (simp; omega)))
      case measure => simp [intOf]
    | 1, _ =>
      obtain rfl : z = 1 := hz
      replace KS : Aside0 (wr.heap[w3.heap.size + 1]? = some (.cells #[.int .i64 s10, .int .i64 s11] 28 (0, 0))) := ⟨KS.out⟩
      have ix : ∀ w : World, (Instr.index 82 (.agg #[.int .i64 y0, .int .i64 x1, .int .i64 y1, .int .i64 x0, .int .i64 y1, .int .i64 x1]) (.int .i64 1)).run Tryd.prog w = .ok (.agg #[.int .i64 y1, .int .i64 x0]) w := fun _ => by kernel_rfl
      obtain ⟨e0, e1, q', hd, hq', hs⟩ := RS.out 1 (by omega)
      have hsL : (if wrap64 (e0 - wrap64 (q' * 1000000000)) < s10 then wrap64 (e0 - wrap64 (q' * 1000000000)) else s10) = s20 := (congrArg Prod.fst hs).symm
      have hsH : (if s11 < wrap64 (e1 - wrap64 (q' * 1000000000)) then wrap64 (e1 - wrap64 (q' * 1000000000)) else s11) = s21 := (congrArg Prod.snd hs).symm
      have HD' := Aside0.mk (show trig_direction.f k y1 x0 = some (e0, e1) from hd)
      have HQ' := Aside0.mk hq'
      clear hd hq' hs
      go_wp2_with fail
      refine (trig_direction.calls k y1 x0 e0 e1 _ HD'.out).mono ?_
      rintro e w4 ⟨rfl, hb⟩
      have PS := Aside0.mk (blk_below (blk_alloc KS.out _) hb)
      have PF := Aside0.mk (blk_below (blk_alloc KF.out _) hb)
      have PO := Aside0.mk (blk_below (blk_alloc KO.out _) hb)
      have PB := Aside0.mk (below_step (below_alloc KB.out _) hb)
      have lw : wr.heap.size + 1 ≤ w4.heap.size := by have h_ := hb.size; simpa using h_
      clear hb KS KF KO KB
      have kf0 : w4.cell? ⟨w3.heap.size, 0, none⟩ = some (.int .i64 f0) := (blk_cell PF.out 0).trans rfl
      have ks0 : w4.cell? ⟨w3.heap.size + 1, 0, none⟩ = some (.int .i64 s10) := (blk_cell PS.out 0).trans rfl
      have ks1 : w4.cell? ⟨w3.heap.size + 1, 1, none⟩ = some (.int .i64 s11) := (blk_cell PS.out 1).trans rfl
      have fs0 := blk_frozen PS.out 0
      have fs1 := blk_frozen PS.out 1
      have m1 : ¬ w4.heap.size = w3.heap.size := by omega
      have m2 : ¬ w4.heap.size = w3.heap.size + 1 := by omega
      have m3 : ¬ w3.heap.size = w4.heap.size := by omega
      have m4 : ¬ w3.heap.size + 1 = w4.heap.size := by omega
      have m5 : w3.heap.size < w4.heap.size := by omega
      have m6 : w3.heap.size + 1 < w4.heap.size := by omega
      go_wp2_with fail
      refine (interval_Floor.same _ _ q' _ HQ'.out).mono ?_
      rintro e w5 ⟨rfl, rfl⟩
      go_wp2_with fail
      go_region
      go_wp2
      go_roundw
      case rel =>
        refine ⟨2, 2, by omega, rfl, by first | rfl | go_num, ⟨?_⟩, ⟨?_⟩, ⟨?_⟩, ⟨?_⟩⟩
        · show _ = some (Obj.cells #[.int .i64 s20, .int .i64 s21] 28 (0, 0))
          (with_reducible repeat (first | refine blk_drewN ?_ _ | refine blk_drew ?_ | refine blk_alloc ?_ _))
          refine blk_put (cs := #[.int .i64 s20, .int .i64 s11]) ?_ 1 _ rfl
          refine blk_put (cs := #[.int .i64 s10, .int .i64 s11]) ?_ 0 _ rfl
          (with_reducible repeat (first | refine blk_drewN ?_ _ | refine blk_drew ?_ | refine blk_alloc ?_ _))
          exact PS.out
        · repeat (first | exact PF.out | (with_reducible refine blk_drewN ?_ _) | (with_reducible refine blk_drew ?_) | (with_reducible refine blk_alloc ?_ _) | refine blk_far ?_ (by first | (simp; done) | (simp; omega)) _)
        · repeat (first | exact PO.out | (with_reducible refine blk_drewN ?_ _) | (with_reducible refine blk_drew ?_) | (with_reducible refine blk_alloc ?_ _) | refine blk_far ?_ (by first | (simp; done) | (simp; omega)) _)
        · repeat (first | exact PB.out | apply below_alloc | apply pw_below_drewN | apply below_drew | refine below_set ?_ (by first | omega | (simp; done) | (simp; omega)))
      case measure => simp [intOf]
    | 2, _ =>
      obtain rfl : z = 2 := hz
      replace KS : Aside0 (wr.heap[w3.heap.size + 1]? = some (.cells #[.int .i64 s20, .int .i64 s21] 28 (0, 0))) := ⟨KS.out⟩
      have ix : ∀ w : World, (Instr.index 82 (.agg #[.int .i64 y0, .int .i64 x1, .int .i64 y1, .int .i64 x0, .int .i64 y1, .int .i64 x1]) (.int .i64 2)).run Tryd.prog w = .ok (.agg #[.int .i64 y1, .int .i64 x1]) w := fun _ => by kernel_rfl
      obtain ⟨e0, e1, q', hd, hq', hs⟩ := RS.out 2 (by omega)
      have hsL : (if wrap64 (e0 - wrap64 (q' * 1000000000)) < s20 then wrap64 (e0 - wrap64 (q' * 1000000000)) else s20) = s30 := (congrArg Prod.fst hs).symm
      have hsH : (if s21 < wrap64 (e1 - wrap64 (q' * 1000000000)) then wrap64 (e1 - wrap64 (q' * 1000000000)) else s21) = s31 := (congrArg Prod.snd hs).symm
      have HD' := Aside0.mk (show trig_direction.f k y1 x1 = some (e0, e1) from hd)
      have HQ' := Aside0.mk hq'
      clear hd hq' hs
      go_wp2_with fail
      refine (trig_direction.calls k y1 x1 e0 e1 _ HD'.out).mono ?_
      rintro e w4 ⟨rfl, hb⟩
      have PS := Aside0.mk (blk_below (blk_alloc KS.out _) hb)
      have PF := Aside0.mk (blk_below (blk_alloc KF.out _) hb)
      have PO := Aside0.mk (blk_below (blk_alloc KO.out _) hb)
      have PB := Aside0.mk (below_step (below_alloc KB.out _) hb)
      have lw : wr.heap.size + 1 ≤ w4.heap.size := by have h_ := hb.size; simpa using h_
      clear hb KS KF KO KB
      have kf0 : w4.cell? ⟨w3.heap.size, 0, none⟩ = some (.int .i64 f0) := (blk_cell PF.out 0).trans rfl
      have ks0 : w4.cell? ⟨w3.heap.size + 1, 0, none⟩ = some (.int .i64 s20) := (blk_cell PS.out 0).trans rfl
      have ks1 : w4.cell? ⟨w3.heap.size + 1, 1, none⟩ = some (.int .i64 s21) := (blk_cell PS.out 1).trans rfl
      have fs0 := blk_frozen PS.out 0
      have fs1 := blk_frozen PS.out 1
      have m1 : ¬ w4.heap.size = w3.heap.size := by omega
      have m2 : ¬ w4.heap.size = w3.heap.size + 1 := by omega
      have m3 : ¬ w3.heap.size = w4.heap.size := by omega
      have m4 : ¬ w3.heap.size + 1 = w4.heap.size := by omega
      have m5 : w3.heap.size < w4.heap.size := by omega
      have m6 : w3.heap.size + 1 < w4.heap.size := by omega
      go_wp2_with fail
      refine (interval_Floor.same _ _ q' _ HQ'.out).mono ?_
      rintro e w5 ⟨rfl, rfl⟩
      go_wp2_with fail
      go_region
      go_wp2
      go_roundw
      case rel =>
        refine ⟨3, 3, by omega, rfl, by first | rfl | go_num, ⟨?_⟩, ⟨?_⟩, ⟨?_⟩, ⟨?_⟩⟩
        · show _ = some (Obj.cells #[.int .i64 s30, .int .i64 s31] 28 (0, 0))
          (with_reducible repeat (first | refine blk_drewN ?_ _ | refine blk_drew ?_ | refine blk_alloc ?_ _))
          refine blk_put (cs := #[.int .i64 s30, .int .i64 s21]) ?_ 1 _ rfl
          refine blk_put (cs := #[.int .i64 s20, .int .i64 s21]) ?_ 0 _ rfl
          (with_reducible repeat (first | refine blk_drewN ?_ _ | refine blk_drew ?_ | refine blk_alloc ?_ _))
          exact PS.out
        · repeat (first | exact PF.out | (with_reducible refine blk_drewN ?_ _) | (with_reducible refine blk_drew ?_) | (with_reducible refine blk_alloc ?_ _) | refine blk_far ?_ (by first | (simp; done) | (simp; omega)) _)
        · repeat (first | exact PO.out | (with_reducible refine blk_drewN ?_ _) | (with_reducible refine blk_drew ?_) | (with_reducible refine blk_alloc ?_ _) | refine blk_far ?_ (by first | (simp; done) | (simp; omega)) _)
        · repeat (first | exact PB.out | apply below_alloc | apply pw_below_drewN | apply below_drew | refine below_set ?_ (by first | omega | (simp; done) | (simp; omega)))
      case measure => simp [intOf]
    | 3, _ =>
      obtain rfl : z = 3 := hz
      replace KS : Aside0 (wr.heap[w3.heap.size + 1]? = some (.cells #[.int .i64 s30, .int .i64 s31] 28 (0, 0))) := ⟨KS.out⟩
      have ks0 : wr.cell? ⟨w3.heap.size + 1, 0, none⟩ = some (.int .i64 s30) := (blk_cell KS.out 0).trans rfl
      have ks1 : wr.cell? ⟨w3.heap.size + 1, 1, none⟩ = some (.int .i64 s31) := (blk_cell KS.out 1).trans rfl
      have ho0 : wr.cell? ⟨w.heap.size + 1 + 1, 0, none⟩ = some (.int .i64 0) := (blk_cell KO.out 0).trans rfl
      have ho1 : wr.cell? ⟨w.heap.size + 1 + 1, 1, none⟩ = some (.int .i64 0) := (blk_cell KO.out 1).trans rfl
      have hof0 := blk_frozen KO.out 0
      have hof1 := blk_frozen KO.out 1
      cases hw
      case true =>
        replace hwf := hwf.out
        replace hr := hr.out
        simp only [if_true, Prod.mk.injEq] at hr
        obtain ⟨rfl, rfl, rfl⟩ := hr
        go_wp2
        refine bodyPost_ret (results_ct rfl _ _ (w.heap.size + 1 + 1) 28 #[.int .i64 0, .int .i64 0] (0, 0) _ rfl (by
          repeat (first | exact KO.out | (with_reducible refine blk_drewN ?_ _) | (with_reducible refine blk_drew ?_) | (with_reducible refine blk_alloc ?_ _) | (refine blk_put (cs := #[.int .i64 0, .int .i64 0]) ?_ 1 _ rfl) | (refine blk_put (cs := #[.int .i64 0, .int .i64 0]) ?_ 0 _ rfl))) Tryd.underlying28 rfl (by kernel_rfl)) rfl ⟨rfl, ?_⟩
        repeat (first | exact KB.out | apply below_alloc | apply pw_below_drewN | apply below_drew | refine below_set ?_ (by first | omega | (simp; done) | (simp; omega)))
      case false =>
      replace hwf := hwf.out
      replace HQ := Aside0.mk (HQ.out rfl)
      replace hr := hr.out
      simp only [Bool.false_eq_true, if_false, Prod.mk.injEq] at hr
      obtain ⟨rfl, rfl, rfl⟩ := hr
      go_wp2_with fail
      refine (interval_Floor.same _ _ q _ HQ.out).mono ?_
      rintro e w5 ⟨rfl, rfl⟩
      go_wp2
      refine bodyPost_ret (results_ct rfl _ _ (w.heap.size + 1 + 1) 28 #[.int .i64 (wrap64 (s30 - wrap64 (q * 1000000000))), .int .i64 (wrap64 (s31 - wrap64 (q * 1000000000)))] (0, 0) _ rfl (by
        (with_reducible repeat (first | refine blk_drewN ?_ _ | refine blk_drew ?_ | refine blk_alloc ?_ _)); refine blk_put (cs := #[.int .i64 (wrap64 (s30 - wrap64 (q * 1000000000))), .int .i64 0]) ?_ 1 _ rfl; (with_reducible repeat (first | refine blk_drewN ?_ _ | refine blk_drew ?_ | refine blk_alloc ?_ _)); refine blk_put (cs := #[.int .i64 0, .int .i64 0]) ?_ 0 _ rfl; (with_reducible repeat (first | refine blk_drewN ?_ _ | refine blk_drew ?_ | refine blk_alloc ?_ _)); exact KO.out) Tryd.underlying28 rfl (by kernel_rfl)) rfl ⟨rfl, ?_⟩
      repeat (first | exact KB.out | apply below_alloc | apply pw_below_drewN | apply below_drew | refine below_set ?_ (by first | omega | (simp; done) | (simp; omega)))
set_option maxHeartbeats 8000000 in
set_option maxRecDepth 100000 in
theorem trig_Arc.walk2 (k : Nat) (y0 y1 x0 x1 f0 f1 s10 s11 s20 s21 s30 s31 q r1 r2 r3 : Int) (hw : Bool) (w : World) (CY : Aside0 (interval_Check.f 1 y0 y1 = some 0)) (CX : Aside0 (interval_Check.f 1 x0 x1 = some 0)) (HD : Aside0 (trig_direction.f k y0 x0 = some (f0, f1))) (HQ : Aside0 (hw = false → interval_Floor.f s30 1000000000 = some q)) (hr : Aside0 ((if hw = true then (0, 0, 11) else (wrap64 (s30 - wrap64 (q * 1000000000)), wrap64 (s31 - wrap64 (q * 1000000000)), 0)) = (r1, r2, r3)))
    (hwf : Aside0 (decide (400000000 < wrap64 (s31 - s30)) = hw)) (RS : Aside0 (∀ k' : Nat, k' < 3 → ∃ e0 e1 q, trig_direction.f k (trig_Arc.Y y0 y1 k') (trig_Arc.X x0 x1 k') = some (e0, e1) ∧ interval_Floor.f (wrap64 ((wrap64 (e0 - f0)) + 500000000)) 1000000000 = some q ∧ trig_Arc.S (f0, f1) (s10, s11) (s20, s21) (s30, s31) (k' + 1) = (mn (trig_Arc.S (f0, f1) (s10, s11) (s20, s21) (s30, s31) k').1 (wrap64 (e0 - wrap64 (q * 1000000000))), mx (trig_Arc.S (f0, f1) (s10, s11) (s20, s21) (s30, s31) k').2 (wrap64 (e1 - wrap64 (q * 1000000000)))))) (b1 : decide (y0 ≤ 0) = true) (b2 : decide (0 ≤ y1) = false) :
    Calls Tryd.prog 32 #[.agg #[.int .i64 y0, .int .i64 y1], .agg #[.int .i64 x0, .int .i64 x1]] w fun e w' => e = .returned (.tuple #[.agg #[.int .i64 r1, .int .i64 r2], .int .i64 r3]) ∧ Below w.heap.size w w' := by
  have hu := Tryd.underlying28
  have hu48 := Tryd.underlying81
  have hu54 := Tryd.underlying82
  go_enter Tryd.func32, Tryd.ntmps32
  go_wp2_with fail
  refine (interval_Check.calls 1 y0 y1 0 _ CY.out).mono ?_
  rintro e w1 ⟨rfl, hb⟩
  have BA := Aside0.mk (blk_below (g := w.heap.size) (o := .cells #[.int .i64 y0, .int .i64 y1] 28 (0, 0)) (blk_alloc (blk_alloc (blk_new w _) _) _) hb)
  have BB := Aside0.mk (blk_below (g := w.heap.size + 1) (o := .cells #[.int .i64 x0, .int .i64 x1] 28 (0, 0)) (blk_alloc (by have h_ := blk_new (w.alloc (.cells #[.int .i64 y0, .int .i64 y1] 28 (0, 0))) (.cells #[.int .i64 x0, .int .i64 x1] 28 (0, 0)); simpa using h_) _) hb)
  have BO := Aside0.mk (blk_below (g := w.heap.size + 1 + 1) (o := .cells #[.int .i64 0, .int .i64 0] 28 (0, 0)) (by have h_ := blk_new ((w.alloc (.cells #[.int .i64 y0, .int .i64 y1] 28 (0, 0))).alloc (.cells #[.int .i64 x0, .int .i64 x1] 28 (0, 0))) (.cells #[.int .i64 0, .int .i64 0] 28 (0, 0)); simpa using h_) hb)
  have HB := Aside0.mk (below_step (w := w) (by repeat (first | exact Below.refl _ _ | apply below_alloc | apply pw_below_drewN | apply below_drew | refine below_set ?_ (by first | omega | (simp; done) | (simp; omega)))) hb)
  clear hb
  have xb0 : w1.cell? ⟨w.heap.size + 1, 0, none⟩ = some (.int .i64 x0) := (blk_cell BB.out 0).trans rfl
  have xb1 : w1.cell? ⟨w.heap.size + 1, 1, none⟩ = some (.int .i64 x1) := (blk_cell BB.out 1).trans rfl
  go_wp2_with fail
  refine (interval_Check.calls 1 x0 x1 0 _ CX.out).mono ?_
  rintro e w2 ⟨rfl, hb⟩
  have BA2 := Aside0.mk (blk_below BA.out hb)
  have BB2 := Aside0.mk (blk_below BB.out hb)
  have BO2 := Aside0.mk (blk_below BO.out hb)
  have HB2 := Aside0.mk (below_step HB.out hb)
  clear hb BA BB BO HB xb0 xb1
  have ya0 : w2.cell? ⟨w.heap.size, 0, none⟩ = some (.int .i64 y0) := (blk_cell BA2.out 0).trans rfl
  have ya1 : w2.cell? ⟨w.heap.size, 1, none⟩ = some (.int .i64 y1) := (blk_cell BA2.out 1).trans rfl
  have xb0 : w2.cell? ⟨w.heap.size + 1, 0, none⟩ = some (.int .i64 x0) := (blk_cell BB2.out 0).trans rfl
  have xb1 : w2.cell? ⟨w.heap.size + 1, 1, none⟩ = some (.int .i64 x1) := (blk_cell BB2.out 1).trans rfl
  go_wp2_with fail
  refine (trig_direction.calls k y0 x0 f0 f1 _ HD.out).mono ?_
  rintro e w3 ⟨rfl, hb⟩
  have BA := Aside0.mk (blk_below BA2.out hb)
  have BB := Aside0.mk (blk_below BB2.out hb)
  have BO := Aside0.mk (blk_below BO2.out hb)
  have HB := Aside0.mk (below_step HB2.out hb)
  clear hb BA2 BB2 BO2 HB2 ya0 ya1 xb0 xb1
  have ya0 : w3.cell? ⟨w.heap.size, 0, none⟩ = some (.int .i64 y0) := (blk_cell BA.out 0).trans rfl
  have ya1 : w3.cell? ⟨w.heap.size, 1, none⟩ = some (.int .i64 y1) := (blk_cell BA.out 1).trans rfl
  have xb0 : w3.cell? ⟨w.heap.size + 1, 0, none⟩ = some (.int .i64 x0) := (blk_cell BB.out 0).trans rfl
  have xb1 : w3.cell? ⟨w.heap.size + 1, 1, none⟩ = some (.int .i64 x1) := (blk_cell BB.out 1).trans rfl
  have lO : w.heap.size + 1 + 1 < w3.heap.size := blk_lt BO.out
  have nA : ¬ w3.heap.size = w.heap.size := by omega
  have nB : ¬ w3.heap.size = w.heap.size + 1 := by omega
  have nA' : ¬ w.heap.size = w3.heap.size := by omega
  have nB' : ¬ w.heap.size + 1 = w3.heap.size := by omega
  have nA1 : ¬ w3.heap.size + 1 = w.heap.size := by omega
  have nB1 : ¬ w3.heap.size + 1 = w.heap.size + 1 := by omega
  have nA1' : ¬ w.heap.size = w3.heap.size + 1 := by omega
  have nB1' : ¬ w.heap.size + 1 = w3.heap.size + 1 := by omega
  have lA : w.heap.size < w3.heap.size := by omega
  have lB : w.heap.size + 1 < w3.heap.size := by omega
  go_wp2
  have SF := Aside0.mk (blk_alloc (blk_new w3 (.cells #[.int .i64 f0, .int .i64 f1] 28 (0, 0))) (.cells #[.int .i64 f0, .int .i64 f1] 28 (0, 0)))
  have SS := Aside0.mk (show ((w3.alloc (.cells #[.int .i64 f0, .int .i64 f1] 28 (0, 0))).alloc (.cells #[.int .i64 f0, .int .i64 f1] 28 (0, 0))).heap[w3.heap.size + 1]? = some (.cells #[.int .i64 f0, .int .i64 f1] 28 (0, 0)) from by have h_ := blk_new (w3.alloc (.cells #[.int .i64 f0, .int .i64 f1] 28 (0, 0))) (.cells #[.int .i64 f0, .int .i64 f1] 28 (0, 0)); simpa using h_)
  have SO := Aside0.mk (blk_alloc (blk_alloc BO.out (.cells #[.int .i64 f0, .int .i64 f1] 28 (0, 0))) (.cells #[.int .i64 f0, .int .i64 f1] 28 (0, 0)))
  have SB := Aside0.mk (below_alloc (below_alloc HB.out (.cells #[.int .i64 f0, .int .i64 f1] 28 (0, 0))) (.cells #[.int .i64 f0, .int .i64 f1] 28 (0, 0)))
  clear BA BB BO HB ya0 ya1 xb0 xb1
  go_loopw [68] (fun v wr => ∃ (j : Nat) (z : Int), j ≤ 3 ∧ z = j ∧ v = .int .i64 z ∧ Aside0 (wr.heap[w3.heap.size + 1]? = some (.cells #[.int .i64 (trig_Arc.S (f0, f1) (s10, s11) (s20, s21) (s30, s31) j).1, .int .i64 (trig_Arc.S (f0, f1) (s10, s11) (s20, s21) (s30, s31) j).2] 28 (0, 0))) ∧ Aside0 (wr.heap[w3.heap.size]? = some (.cells #[.int .i64 f0, .int .i64 f1] 28 (0, 0))) ∧ Aside0 (wr.heap[w.heap.size + 1 + 1]? = some (.cells #[.int .i64 0, .int .i64 0] 28 (0, 0))) ∧ Aside0 (Below w.heap.size w wr)) (fun v _ => 3 - (intOf v).toNat)
  case atStart =>
    exact ⟨0, 0, by omega, rfl, rfl, ⟨SS.out⟩, ⟨SF.out⟩, ⟨SO.out⟩, ⟨SB.out⟩⟩
  case round =>
    obtain ⟨j, z, hj, hz, rfl, KS, KF, KO, KB⟩ := hrel
    clear SF SS SO SB
    have nr1 : w3.heap.size + 1 < wr.heap.size := blk_lt KS.out
    match j, hj with
    | 0, _ =>
      obtain rfl : z = 0 := hz
      replace KS : Aside0 (wr.heap[w3.heap.size + 1]? = some (.cells #[.int .i64 f0, .int .i64 f1] 28 (0, 0))) := ⟨KS.out⟩
      have ix : ∀ w : World, (Instr.index 82 (.agg #[.int .i64 y0, .int .i64 x1, .int .i64 y1, .int .i64 x0, .int .i64 y1, .int .i64 x1]) (.int .i64 0)).run Tryd.prog w = .ok (.agg #[.int .i64 y0, .int .i64 x1]) w := fun _ => by kernel_rfl
      obtain ⟨e0, e1, q', hd, hq', hs⟩ := RS.out 0 (by omega)
      have hsL : (if wrap64 (e0 - wrap64 (q' * 1000000000)) < f0 then wrap64 (e0 - wrap64 (q' * 1000000000)) else f0) = s10 := (congrArg Prod.fst hs).symm
      have hsH : (if f1 < wrap64 (e1 - wrap64 (q' * 1000000000)) then wrap64 (e1 - wrap64 (q' * 1000000000)) else f1) = s11 := (congrArg Prod.snd hs).symm
      have HD' := Aside0.mk (show trig_direction.f k y0 x1 = some (e0, e1) from hd)
      have HQ' := Aside0.mk hq'
      clear hd hq' hs
      go_wp2_with fail
      refine (trig_direction.calls k y0 x1 e0 e1 _ HD'.out).mono ?_
      rintro e w4 ⟨rfl, hb⟩
      have PS := Aside0.mk (blk_below (blk_alloc KS.out _) hb)
      have PF := Aside0.mk (blk_below (blk_alloc KF.out _) hb)
      have PO := Aside0.mk (blk_below (blk_alloc KO.out _) hb)
      have PB := Aside0.mk (below_step (below_alloc KB.out _) hb)
      have lw : wr.heap.size + 1 ≤ w4.heap.size := by have h_ := hb.size; simpa using h_
      clear hb KS KF KO KB
      have kf0 : w4.cell? ⟨w3.heap.size, 0, none⟩ = some (.int .i64 f0) := (blk_cell PF.out 0).trans rfl
      have ks0 : w4.cell? ⟨w3.heap.size + 1, 0, none⟩ = some (.int .i64 f0) := (blk_cell PS.out 0).trans rfl
      have ks1 : w4.cell? ⟨w3.heap.size + 1, 1, none⟩ = some (.int .i64 f1) := (blk_cell PS.out 1).trans rfl
      have fs0 := blk_frozen PS.out 0
      have fs1 := blk_frozen PS.out 1
      have m1 : ¬ w4.heap.size = w3.heap.size := by omega
      have m2 : ¬ w4.heap.size = w3.heap.size + 1 := by omega
      have m3 : ¬ w3.heap.size = w4.heap.size := by omega
      have m4 : ¬ w3.heap.size + 1 = w4.heap.size := by omega
      have m5 : w3.heap.size < w4.heap.size := by omega
      have m6 : w3.heap.size + 1 < w4.heap.size := by omega
      go_wp2_with fail
      refine (interval_Floor.same _ _ q' _ HQ'.out).mono ?_
      rintro e w5 ⟨rfl, rfl⟩
      go_wp2_with fail
      go_region
      go_wp2
      go_roundw
      case rel =>
        refine ⟨1, 1, by omega, rfl, by first | rfl | go_num, ⟨?_⟩, ⟨?_⟩, ⟨?_⟩, ⟨?_⟩⟩
        · show _ = some (Obj.cells #[.int .i64 s10, .int .i64 s11] 28 (0, 0))
          (with_reducible repeat (first | refine blk_drewN ?_ _ | refine blk_drew ?_ | refine blk_alloc ?_ _))
          refine blk_put (cs := #[.int .i64 s10, .int .i64 f1]) ?_ 1 _ rfl
          refine blk_put (cs := #[.int .i64 f0, .int .i64 f1]) ?_ 0 _ rfl
          (with_reducible repeat (first | refine blk_drewN ?_ _ | refine blk_drew ?_ | refine blk_alloc ?_ _))
          exact PS.out
        · repeat (first | exact PF.out | (with_reducible refine blk_drewN ?_ _) | (with_reducible refine blk_drew ?_) | (with_reducible refine blk_alloc ?_ _) | refine blk_far ?_ (by first | (simp; done) | (simp; omega)) _)
        · repeat (first | exact PO.out | (with_reducible refine blk_drewN ?_ _) | (with_reducible refine blk_drew ?_) | (with_reducible refine blk_alloc ?_ _) | refine blk_far ?_ (by first | (simp; done) | (simp; omega)) _)
        · repeat (first | exact PB.out | apply below_alloc | apply pw_below_drewN | apply below_drew | refine below_set ?_ (by first | omega | (simp; done) | (simp; omega)))
      case measure => simp [intOf]
    | 1, _ =>
      obtain rfl : z = 1 := hz
      replace KS : Aside0 (wr.heap[w3.heap.size + 1]? = some (.cells #[.int .i64 s10, .int .i64 s11] 28 (0, 0))) := ⟨KS.out⟩
      have ix : ∀ w : World, (Instr.index 82 (.agg #[.int .i64 y0, .int .i64 x1, .int .i64 y1, .int .i64 x0, .int .i64 y1, .int .i64 x1]) (.int .i64 1)).run Tryd.prog w = .ok (.agg #[.int .i64 y1, .int .i64 x0]) w := fun _ => by kernel_rfl
      obtain ⟨e0, e1, q', hd, hq', hs⟩ := RS.out 1 (by omega)
      have hsL : (if wrap64 (e0 - wrap64 (q' * 1000000000)) < s10 then wrap64 (e0 - wrap64 (q' * 1000000000)) else s10) = s20 := (congrArg Prod.fst hs).symm
      have hsH : (if s11 < wrap64 (e1 - wrap64 (q' * 1000000000)) then wrap64 (e1 - wrap64 (q' * 1000000000)) else s11) = s21 := (congrArg Prod.snd hs).symm
      have HD' := Aside0.mk (show trig_direction.f k y1 x0 = some (e0, e1) from hd)
      have HQ' := Aside0.mk hq'
      clear hd hq' hs
      go_wp2_with fail
      refine (trig_direction.calls k y1 x0 e0 e1 _ HD'.out).mono ?_
      rintro e w4 ⟨rfl, hb⟩
      have PS := Aside0.mk (blk_below (blk_alloc KS.out _) hb)
      have PF := Aside0.mk (blk_below (blk_alloc KF.out _) hb)
      have PO := Aside0.mk (blk_below (blk_alloc KO.out _) hb)
      have PB := Aside0.mk (below_step (below_alloc KB.out _) hb)
      have lw : wr.heap.size + 1 ≤ w4.heap.size := by have h_ := hb.size; simpa using h_
      clear hb KS KF KO KB
      have kf0 : w4.cell? ⟨w3.heap.size, 0, none⟩ = some (.int .i64 f0) := (blk_cell PF.out 0).trans rfl
      have ks0 : w4.cell? ⟨w3.heap.size + 1, 0, none⟩ = some (.int .i64 s10) := (blk_cell PS.out 0).trans rfl
      have ks1 : w4.cell? ⟨w3.heap.size + 1, 1, none⟩ = some (.int .i64 s11) := (blk_cell PS.out 1).trans rfl
      have fs0 := blk_frozen PS.out 0
      have fs1 := blk_frozen PS.out 1
      have m1 : ¬ w4.heap.size = w3.heap.size := by omega
      have m2 : ¬ w4.heap.size = w3.heap.size + 1 := by omega
      have m3 : ¬ w3.heap.size = w4.heap.size := by omega
      have m4 : ¬ w3.heap.size + 1 = w4.heap.size := by omega
      have m5 : w3.heap.size < w4.heap.size := by omega
      have m6 : w3.heap.size + 1 < w4.heap.size := by omega
      go_wp2_with fail
      refine (interval_Floor.same _ _ q' _ HQ'.out).mono ?_
      rintro e w5 ⟨rfl, rfl⟩
      go_wp2_with fail
      go_region
      go_wp2
      go_roundw
      case rel =>
        refine ⟨2, 2, by omega, rfl, by first | rfl | go_num, ⟨?_⟩, ⟨?_⟩, ⟨?_⟩, ⟨?_⟩⟩
        · show _ = some (Obj.cells #[.int .i64 s20, .int .i64 s21] 28 (0, 0))
          (with_reducible repeat (first | refine blk_drewN ?_ _ | refine blk_drew ?_ | refine blk_alloc ?_ _))
          refine blk_put (cs := #[.int .i64 s20, .int .i64 s11]) ?_ 1 _ rfl
          refine blk_put (cs := #[.int .i64 s10, .int .i64 s11]) ?_ 0 _ rfl
          (with_reducible repeat (first | refine blk_drewN ?_ _ | refine blk_drew ?_ | refine blk_alloc ?_ _))
          exact PS.out
        · repeat (first | exact PF.out | (with_reducible refine blk_drewN ?_ _) | (with_reducible refine blk_drew ?_) | (with_reducible refine blk_alloc ?_ _) | refine blk_far ?_ (by first | (simp; done) | (simp; omega)) _)
        · repeat (first | exact PO.out | (with_reducible refine blk_drewN ?_ _) | (with_reducible refine blk_drew ?_) | (with_reducible refine blk_alloc ?_ _) | refine blk_far ?_ (by first | (simp; done) | (simp; omega)) _)
        · repeat (first | exact PB.out | apply below_alloc | apply pw_below_drewN | apply below_drew | refine below_set ?_ (by first | omega | (simp; done) | (simp; omega)))
      case measure => simp [intOf]
    | 2, _ =>
      obtain rfl : z = 2 := hz
      replace KS : Aside0 (wr.heap[w3.heap.size + 1]? = some (.cells #[.int .i64 s20, .int .i64 s21] 28 (0, 0))) := ⟨KS.out⟩
      have ix : ∀ w : World, (Instr.index 82 (.agg #[.int .i64 y0, .int .i64 x1, .int .i64 y1, .int .i64 x0, .int .i64 y1, .int .i64 x1]) (.int .i64 2)).run Tryd.prog w = .ok (.agg #[.int .i64 y1, .int .i64 x1]) w := fun _ => by kernel_rfl
      obtain ⟨e0, e1, q', hd, hq', hs⟩ := RS.out 2 (by omega)
      have hsL : (if wrap64 (e0 - wrap64 (q' * 1000000000)) < s20 then wrap64 (e0 - wrap64 (q' * 1000000000)) else s20) = s30 := (congrArg Prod.fst hs).symm
      have hsH : (if s21 < wrap64 (e1 - wrap64 (q' * 1000000000)) then wrap64 (e1 - wrap64 (q' * 1000000000)) else s21) = s31 := (congrArg Prod.snd hs).symm
      have HD' := Aside0.mk (show trig_direction.f k y1 x1 = some (e0, e1) from hd)
      have HQ' := Aside0.mk hq'
      clear hd hq' hs
      go_wp2_with fail
      refine (trig_direction.calls k y1 x1 e0 e1 _ HD'.out).mono ?_
      rintro e w4 ⟨rfl, hb⟩
      have PS := Aside0.mk (blk_below (blk_alloc KS.out _) hb)
      have PF := Aside0.mk (blk_below (blk_alloc KF.out _) hb)
      have PO := Aside0.mk (blk_below (blk_alloc KO.out _) hb)
      have PB := Aside0.mk (below_step (below_alloc KB.out _) hb)
      have lw : wr.heap.size + 1 ≤ w4.heap.size := by have h_ := hb.size; simpa using h_
      clear hb KS KF KO KB
      have kf0 : w4.cell? ⟨w3.heap.size, 0, none⟩ = some (.int .i64 f0) := (blk_cell PF.out 0).trans rfl
      have ks0 : w4.cell? ⟨w3.heap.size + 1, 0, none⟩ = some (.int .i64 s20) := (blk_cell PS.out 0).trans rfl
      have ks1 : w4.cell? ⟨w3.heap.size + 1, 1, none⟩ = some (.int .i64 s21) := (blk_cell PS.out 1).trans rfl
      have fs0 := blk_frozen PS.out 0
      have fs1 := blk_frozen PS.out 1
      have m1 : ¬ w4.heap.size = w3.heap.size := by omega
      have m2 : ¬ w4.heap.size = w3.heap.size + 1 := by omega
      have m3 : ¬ w3.heap.size = w4.heap.size := by omega
      have m4 : ¬ w3.heap.size + 1 = w4.heap.size := by omega
      have m5 : w3.heap.size < w4.heap.size := by omega
      have m6 : w3.heap.size + 1 < w4.heap.size := by omega
      go_wp2_with fail
      refine (interval_Floor.same _ _ q' _ HQ'.out).mono ?_
      rintro e w5 ⟨rfl, rfl⟩
      go_wp2_with fail
      go_region
      go_wp2
      go_roundw
      case rel =>
        refine ⟨3, 3, by omega, rfl, by first | rfl | go_num, ⟨?_⟩, ⟨?_⟩, ⟨?_⟩, ⟨?_⟩⟩
        · show _ = some (Obj.cells #[.int .i64 s30, .int .i64 s31] 28 (0, 0))
          (with_reducible repeat (first | refine blk_drewN ?_ _ | refine blk_drew ?_ | refine blk_alloc ?_ _))
          refine blk_put (cs := #[.int .i64 s30, .int .i64 s21]) ?_ 1 _ rfl
          refine blk_put (cs := #[.int .i64 s20, .int .i64 s21]) ?_ 0 _ rfl
          (with_reducible repeat (first | refine blk_drewN ?_ _ | refine blk_drew ?_ | refine blk_alloc ?_ _))
          exact PS.out
        · repeat (first | exact PF.out | (with_reducible refine blk_drewN ?_ _) | (with_reducible refine blk_drew ?_) | (with_reducible refine blk_alloc ?_ _) | refine blk_far ?_ (by first | (simp; done) | (simp; omega)) _)
        · repeat (first | exact PO.out | (with_reducible refine blk_drewN ?_ _) | (with_reducible refine blk_drew ?_) | (with_reducible refine blk_alloc ?_ _) | refine blk_far ?_ (by first | (simp; done) | (simp; omega)) _)
        · repeat (first | exact PB.out | apply below_alloc | apply pw_below_drewN | apply below_drew | refine below_set ?_ (by first | omega | (simp; done) | (simp; omega)))
      case measure => simp [intOf]
    | 3, _ =>
      obtain rfl : z = 3 := hz
      replace KS : Aside0 (wr.heap[w3.heap.size + 1]? = some (.cells #[.int .i64 s30, .int .i64 s31] 28 (0, 0))) := ⟨KS.out⟩
      have ks0 : wr.cell? ⟨w3.heap.size + 1, 0, none⟩ = some (.int .i64 s30) := (blk_cell KS.out 0).trans rfl
      have ks1 : wr.cell? ⟨w3.heap.size + 1, 1, none⟩ = some (.int .i64 s31) := (blk_cell KS.out 1).trans rfl
      have ho0 : wr.cell? ⟨w.heap.size + 1 + 1, 0, none⟩ = some (.int .i64 0) := (blk_cell KO.out 0).trans rfl
      have ho1 : wr.cell? ⟨w.heap.size + 1 + 1, 1, none⟩ = some (.int .i64 0) := (blk_cell KO.out 1).trans rfl
      have hof0 := blk_frozen KO.out 0
      have hof1 := blk_frozen KO.out 1
      cases hw
      case true =>
        replace hwf := hwf.out
        replace hr := hr.out
        simp only [if_true, Prod.mk.injEq] at hr
        obtain ⟨rfl, rfl, rfl⟩ := hr
        go_wp2
        refine bodyPost_ret (results_ct rfl _ _ (w.heap.size + 1 + 1) 28 #[.int .i64 0, .int .i64 0] (0, 0) _ rfl (by
          repeat (first | exact KO.out | (with_reducible refine blk_drewN ?_ _) | (with_reducible refine blk_drew ?_) | (with_reducible refine blk_alloc ?_ _) | (refine blk_put (cs := #[.int .i64 0, .int .i64 0]) ?_ 1 _ rfl) | (refine blk_put (cs := #[.int .i64 0, .int .i64 0]) ?_ 0 _ rfl))) Tryd.underlying28 rfl (by kernel_rfl)) rfl ⟨rfl, ?_⟩
        repeat (first | exact KB.out | apply below_alloc | apply pw_below_drewN | apply below_drew | refine below_set ?_ (by first | omega | (simp; done) | (simp; omega)))
      case false =>
      replace hwf := hwf.out
      replace HQ := Aside0.mk (HQ.out rfl)
      replace hr := hr.out
      simp only [Bool.false_eq_true, if_false, Prod.mk.injEq] at hr
      obtain ⟨rfl, rfl, rfl⟩ := hr
      go_wp2_with fail
      refine (interval_Floor.same _ _ q _ HQ.out).mono ?_
      rintro e w5 ⟨rfl, rfl⟩
      go_wp2
      refine bodyPost_ret (results_ct rfl _ _ (w.heap.size + 1 + 1) 28 #[.int .i64 (wrap64 (s30 - wrap64 (q * 1000000000))), .int .i64 (wrap64 (s31 - wrap64 (q * 1000000000)))] (0, 0) _ rfl (by
        (with_reducible repeat (first | refine blk_drewN ?_ _ | refine blk_drew ?_ | refine blk_alloc ?_ _)); refine blk_put (cs := #[.int .i64 (wrap64 (s30 - wrap64 (q * 1000000000))), .int .i64 0]) ?_ 1 _ rfl; (with_reducible repeat (first | refine blk_drewN ?_ _ | refine blk_drew ?_ | refine blk_alloc ?_ _)); refine blk_put (cs := #[.int .i64 0, .int .i64 0]) ?_ 0 _ rfl; (with_reducible repeat (first | refine blk_drewN ?_ _ | refine blk_drew ?_ | refine blk_alloc ?_ _)); exact KO.out) Tryd.underlying28 rfl (by kernel_rfl)) rfl ⟨rfl, ?_⟩
      repeat (first | exact KB.out | apply below_alloc | apply pw_below_drewN | apply below_drew | refine below_set ?_ (by first | omega | (simp; done) | (simp; omega)))
set_option maxHeartbeats 8000000 in
set_option maxRecDepth 100000 in
theorem trig_Arc.walk3 (k : Nat) (y0 y1 x0 x1 f0 f1 s10 s11 s20 s21 s30 s31 q r1 r2 r3 : Int) (hw : Bool) (w : World) (CY : Aside0 (interval_Check.f 1 y0 y1 = some 0)) (CX : Aside0 (interval_Check.f 1 x0 x1 = some 0)) (HD : Aside0 (trig_direction.f k y0 x0 = some (f0, f1))) (HQ : Aside0 (hw = false → interval_Floor.f s30 1000000000 = some q)) (hr : Aside0 ((if hw = true then (0, 0, 11) else (wrap64 (s30 - wrap64 (q * 1000000000)), wrap64 (s31 - wrap64 (q * 1000000000)), 0)) = (r1, r2, r3)))
    (hwf : Aside0 (decide (400000000 < wrap64 (s31 - s30)) = hw)) (RS : Aside0 (∀ k' : Nat, k' < 3 → ∃ e0 e1 q, trig_direction.f k (trig_Arc.Y y0 y1 k') (trig_Arc.X x0 x1 k') = some (e0, e1) ∧ interval_Floor.f (wrap64 ((wrap64 (e0 - f0)) + 500000000)) 1000000000 = some q ∧ trig_Arc.S (f0, f1) (s10, s11) (s20, s21) (s30, s31) (k' + 1) = (mn (trig_Arc.S (f0, f1) (s10, s11) (s20, s21) (s30, s31) k').1 (wrap64 (e0 - wrap64 (q * 1000000000))), mx (trig_Arc.S (f0, f1) (s10, s11) (s20, s21) (s30, s31) k').2 (wrap64 (e1 - wrap64 (q * 1000000000)))))) (b1 : decide (y0 ≤ 0) = true) (b2 : decide (0 ≤ y1) = true) (b3 : decide (x0 ≤ 0) = false) :
    Calls Tryd.prog 32 #[.agg #[.int .i64 y0, .int .i64 y1], .agg #[.int .i64 x0, .int .i64 x1]] w fun e w' => e = .returned (.tuple #[.agg #[.int .i64 r1, .int .i64 r2], .int .i64 r3]) ∧ Below w.heap.size w w' := by
  have hu := Tryd.underlying28
  have hu48 := Tryd.underlying81
  have hu54 := Tryd.underlying82
  go_enter Tryd.func32, Tryd.ntmps32
  go_wp2_with fail
  refine (interval_Check.calls 1 y0 y1 0 _ CY.out).mono ?_
  rintro e w1 ⟨rfl, hb⟩
  have BA := Aside0.mk (blk_below (g := w.heap.size) (o := .cells #[.int .i64 y0, .int .i64 y1] 28 (0, 0)) (blk_alloc (blk_alloc (blk_new w _) _) _) hb)
  have BB := Aside0.mk (blk_below (g := w.heap.size + 1) (o := .cells #[.int .i64 x0, .int .i64 x1] 28 (0, 0)) (blk_alloc (by have h_ := blk_new (w.alloc (.cells #[.int .i64 y0, .int .i64 y1] 28 (0, 0))) (.cells #[.int .i64 x0, .int .i64 x1] 28 (0, 0)); simpa using h_) _) hb)
  have BO := Aside0.mk (blk_below (g := w.heap.size + 1 + 1) (o := .cells #[.int .i64 0, .int .i64 0] 28 (0, 0)) (by have h_ := blk_new ((w.alloc (.cells #[.int .i64 y0, .int .i64 y1] 28 (0, 0))).alloc (.cells #[.int .i64 x0, .int .i64 x1] 28 (0, 0))) (.cells #[.int .i64 0, .int .i64 0] 28 (0, 0)); simpa using h_) hb)
  have HB := Aside0.mk (below_step (w := w) (by repeat (first | exact Below.refl _ _ | apply below_alloc | apply pw_below_drewN | apply below_drew | refine below_set ?_ (by first | omega | (simp; done) | (simp; omega)))) hb)
  clear hb
  have xb0 : w1.cell? ⟨w.heap.size + 1, 0, none⟩ = some (.int .i64 x0) := (blk_cell BB.out 0).trans rfl
  have xb1 : w1.cell? ⟨w.heap.size + 1, 1, none⟩ = some (.int .i64 x1) := (blk_cell BB.out 1).trans rfl
  go_wp2_with fail
  refine (interval_Check.calls 1 x0 x1 0 _ CX.out).mono ?_
  rintro e w2 ⟨rfl, hb⟩
  have BA2 := Aside0.mk (blk_below BA.out hb)
  have BB2 := Aside0.mk (blk_below BB.out hb)
  have BO2 := Aside0.mk (blk_below BO.out hb)
  have HB2 := Aside0.mk (below_step HB.out hb)
  clear hb BA BB BO HB xb0 xb1
  have ya0 : w2.cell? ⟨w.heap.size, 0, none⟩ = some (.int .i64 y0) := (blk_cell BA2.out 0).trans rfl
  have ya1 : w2.cell? ⟨w.heap.size, 1, none⟩ = some (.int .i64 y1) := (blk_cell BA2.out 1).trans rfl
  have xb0 : w2.cell? ⟨w.heap.size + 1, 0, none⟩ = some (.int .i64 x0) := (blk_cell BB2.out 0).trans rfl
  have xb1 : w2.cell? ⟨w.heap.size + 1, 1, none⟩ = some (.int .i64 x1) := (blk_cell BB2.out 1).trans rfl
  go_wp2_with fail
  refine (trig_direction.calls k y0 x0 f0 f1 _ HD.out).mono ?_
  rintro e w3 ⟨rfl, hb⟩
  have BA := Aside0.mk (blk_below BA2.out hb)
  have BB := Aside0.mk (blk_below BB2.out hb)
  have BO := Aside0.mk (blk_below BO2.out hb)
  have HB := Aside0.mk (below_step HB2.out hb)
  clear hb BA2 BB2 BO2 HB2 ya0 ya1 xb0 xb1
  have ya0 : w3.cell? ⟨w.heap.size, 0, none⟩ = some (.int .i64 y0) := (blk_cell BA.out 0).trans rfl
  have ya1 : w3.cell? ⟨w.heap.size, 1, none⟩ = some (.int .i64 y1) := (blk_cell BA.out 1).trans rfl
  have xb0 : w3.cell? ⟨w.heap.size + 1, 0, none⟩ = some (.int .i64 x0) := (blk_cell BB.out 0).trans rfl
  have xb1 : w3.cell? ⟨w.heap.size + 1, 1, none⟩ = some (.int .i64 x1) := (blk_cell BB.out 1).trans rfl
  have lO : w.heap.size + 1 + 1 < w3.heap.size := blk_lt BO.out
  have nA : ¬ w3.heap.size = w.heap.size := by omega
  have nB : ¬ w3.heap.size = w.heap.size + 1 := by omega
  have nA' : ¬ w.heap.size = w3.heap.size := by omega
  have nB' : ¬ w.heap.size + 1 = w3.heap.size := by omega
  have nA1 : ¬ w3.heap.size + 1 = w.heap.size := by omega
  have nB1 : ¬ w3.heap.size + 1 = w.heap.size + 1 := by omega
  have nA1' : ¬ w.heap.size = w3.heap.size + 1 := by omega
  have nB1' : ¬ w.heap.size + 1 = w3.heap.size + 1 := by omega
  have lA : w.heap.size < w3.heap.size := by omega
  have lB : w.heap.size + 1 < w3.heap.size := by omega
  go_wp2
  have SF := Aside0.mk (blk_alloc (blk_new w3 (.cells #[.int .i64 f0, .int .i64 f1] 28 (0, 0))) (.cells #[.int .i64 f0, .int .i64 f1] 28 (0, 0)))
  have SS := Aside0.mk (show ((w3.alloc (.cells #[.int .i64 f0, .int .i64 f1] 28 (0, 0))).alloc (.cells #[.int .i64 f0, .int .i64 f1] 28 (0, 0))).heap[w3.heap.size + 1]? = some (.cells #[.int .i64 f0, .int .i64 f1] 28 (0, 0)) from by have h_ := blk_new (w3.alloc (.cells #[.int .i64 f0, .int .i64 f1] 28 (0, 0))) (.cells #[.int .i64 f0, .int .i64 f1] 28 (0, 0)); simpa using h_)
  have SO := Aside0.mk (blk_alloc (blk_alloc BO.out (.cells #[.int .i64 f0, .int .i64 f1] 28 (0, 0))) (.cells #[.int .i64 f0, .int .i64 f1] 28 (0, 0)))
  have SB := Aside0.mk (below_alloc (below_alloc HB.out (.cells #[.int .i64 f0, .int .i64 f1] 28 (0, 0))) (.cells #[.int .i64 f0, .int .i64 f1] 28 (0, 0)))
  clear BA BB BO HB ya0 ya1 xb0 xb1
  go_loopw [68] (fun v wr => ∃ (j : Nat) (z : Int), j ≤ 3 ∧ z = j ∧ v = .int .i64 z ∧ Aside0 (wr.heap[w3.heap.size + 1]? = some (.cells #[.int .i64 (trig_Arc.S (f0, f1) (s10, s11) (s20, s21) (s30, s31) j).1, .int .i64 (trig_Arc.S (f0, f1) (s10, s11) (s20, s21) (s30, s31) j).2] 28 (0, 0))) ∧ Aside0 (wr.heap[w3.heap.size]? = some (.cells #[.int .i64 f0, .int .i64 f1] 28 (0, 0))) ∧ Aside0 (wr.heap[w.heap.size + 1 + 1]? = some (.cells #[.int .i64 0, .int .i64 0] 28 (0, 0))) ∧ Aside0 (Below w.heap.size w wr)) (fun v _ => 3 - (intOf v).toNat)
  case atStart =>
    exact ⟨0, 0, by omega, rfl, rfl, ⟨SS.out⟩, ⟨SF.out⟩, ⟨SO.out⟩, ⟨SB.out⟩⟩
  case round =>
    obtain ⟨j, z, hj, hz, rfl, KS, KF, KO, KB⟩ := hrel
    clear SF SS SO SB
    have nr1 : w3.heap.size + 1 < wr.heap.size := blk_lt KS.out
    match j, hj with
    | 0, _ =>
      obtain rfl : z = 0 := hz
      replace KS : Aside0 (wr.heap[w3.heap.size + 1]? = some (.cells #[.int .i64 f0, .int .i64 f1] 28 (0, 0))) := ⟨KS.out⟩
      have ix : ∀ w : World, (Instr.index 82 (.agg #[.int .i64 y0, .int .i64 x1, .int .i64 y1, .int .i64 x0, .int .i64 y1, .int .i64 x1]) (.int .i64 0)).run Tryd.prog w = .ok (.agg #[.int .i64 y0, .int .i64 x1]) w := fun _ => by kernel_rfl
      obtain ⟨e0, e1, q', hd, hq', hs⟩ := RS.out 0 (by omega)
      have hsL : (if wrap64 (e0 - wrap64 (q' * 1000000000)) < f0 then wrap64 (e0 - wrap64 (q' * 1000000000)) else f0) = s10 := (congrArg Prod.fst hs).symm
      have hsH : (if f1 < wrap64 (e1 - wrap64 (q' * 1000000000)) then wrap64 (e1 - wrap64 (q' * 1000000000)) else f1) = s11 := (congrArg Prod.snd hs).symm
      have HD' := Aside0.mk (show trig_direction.f k y0 x1 = some (e0, e1) from hd)
      have HQ' := Aside0.mk hq'
      clear hd hq' hs
      go_wp2_with fail
      refine (trig_direction.calls k y0 x1 e0 e1 _ HD'.out).mono ?_
      rintro e w4 ⟨rfl, hb⟩
      have PS := Aside0.mk (blk_below (blk_alloc KS.out _) hb)
      have PF := Aside0.mk (blk_below (blk_alloc KF.out _) hb)
      have PO := Aside0.mk (blk_below (blk_alloc KO.out _) hb)
      have PB := Aside0.mk (below_step (below_alloc KB.out _) hb)
      have lw : wr.heap.size + 1 ≤ w4.heap.size := by have h_ := hb.size; simpa using h_
      clear hb KS KF KO KB
      have kf0 : w4.cell? ⟨w3.heap.size, 0, none⟩ = some (.int .i64 f0) := (blk_cell PF.out 0).trans rfl
      have ks0 : w4.cell? ⟨w3.heap.size + 1, 0, none⟩ = some (.int .i64 f0) := (blk_cell PS.out 0).trans rfl
      have ks1 : w4.cell? ⟨w3.heap.size + 1, 1, none⟩ = some (.int .i64 f1) := (blk_cell PS.out 1).trans rfl
      have fs0 := blk_frozen PS.out 0
      have fs1 := blk_frozen PS.out 1
      have m1 : ¬ w4.heap.size = w3.heap.size := by omega
      have m2 : ¬ w4.heap.size = w3.heap.size + 1 := by omega
      have m3 : ¬ w3.heap.size = w4.heap.size := by omega
      have m4 : ¬ w3.heap.size + 1 = w4.heap.size := by omega
      have m5 : w3.heap.size < w4.heap.size := by omega
      have m6 : w3.heap.size + 1 < w4.heap.size := by omega
      go_wp2_with fail
      refine (interval_Floor.same _ _ q' _ HQ'.out).mono ?_
      rintro e w5 ⟨rfl, rfl⟩
      go_wp2_with fail
      go_region
      go_wp2
      go_roundw
      case rel =>
        refine ⟨1, 1, by omega, rfl, by first | rfl | go_num, ⟨?_⟩, ⟨?_⟩, ⟨?_⟩, ⟨?_⟩⟩
        · show _ = some (Obj.cells #[.int .i64 s10, .int .i64 s11] 28 (0, 0))
          (with_reducible repeat (first | refine blk_drewN ?_ _ | refine blk_drew ?_ | refine blk_alloc ?_ _))
          refine blk_put (cs := #[.int .i64 s10, .int .i64 f1]) ?_ 1 _ rfl
          refine blk_put (cs := #[.int .i64 f0, .int .i64 f1]) ?_ 0 _ rfl
          (with_reducible repeat (first | refine blk_drewN ?_ _ | refine blk_drew ?_ | refine blk_alloc ?_ _))
          exact PS.out
        · repeat (first | exact PF.out | (with_reducible refine blk_drewN ?_ _) | (with_reducible refine blk_drew ?_) | (with_reducible refine blk_alloc ?_ _) | refine blk_far ?_ (by first | (simp; done) | (simp; omega)) _)
        · repeat (first | exact PO.out | (with_reducible refine blk_drewN ?_ _) | (with_reducible refine blk_drew ?_) | (with_reducible refine blk_alloc ?_ _) | refine blk_far ?_ (by first | (simp; done) | (simp; omega)) _)
        · repeat (first | exact PB.out | apply below_alloc | apply pw_below_drewN | apply below_drew | refine below_set ?_ (by first | omega | (simp; done) | (simp; omega)))
      case measure => simp [intOf]
    | 1, _ =>
      obtain rfl : z = 1 := hz
      replace KS : Aside0 (wr.heap[w3.heap.size + 1]? = some (.cells #[.int .i64 s10, .int .i64 s11] 28 (0, 0))) := ⟨KS.out⟩
      have ix : ∀ w : World, (Instr.index 82 (.agg #[.int .i64 y0, .int .i64 x1, .int .i64 y1, .int .i64 x0, .int .i64 y1, .int .i64 x1]) (.int .i64 1)).run Tryd.prog w = .ok (.agg #[.int .i64 y1, .int .i64 x0]) w := fun _ => by kernel_rfl
      obtain ⟨e0, e1, q', hd, hq', hs⟩ := RS.out 1 (by omega)
      have hsL : (if wrap64 (e0 - wrap64 (q' * 1000000000)) < s10 then wrap64 (e0 - wrap64 (q' * 1000000000)) else s10) = s20 := (congrArg Prod.fst hs).symm
      have hsH : (if s11 < wrap64 (e1 - wrap64 (q' * 1000000000)) then wrap64 (e1 - wrap64 (q' * 1000000000)) else s11) = s21 := (congrArg Prod.snd hs).symm
      have HD' := Aside0.mk (show trig_direction.f k y1 x0 = some (e0, e1) from hd)
      have HQ' := Aside0.mk hq'
      clear hd hq' hs
      go_wp2_with fail
      refine (trig_direction.calls k y1 x0 e0 e1 _ HD'.out).mono ?_
      rintro e w4 ⟨rfl, hb⟩
      have PS := Aside0.mk (blk_below (blk_alloc KS.out _) hb)
      have PF := Aside0.mk (blk_below (blk_alloc KF.out _) hb)
      have PO := Aside0.mk (blk_below (blk_alloc KO.out _) hb)
      have PB := Aside0.mk (below_step (below_alloc KB.out _) hb)
      have lw : wr.heap.size + 1 ≤ w4.heap.size := by have h_ := hb.size; simpa using h_
      clear hb KS KF KO KB
      have kf0 : w4.cell? ⟨w3.heap.size, 0, none⟩ = some (.int .i64 f0) := (blk_cell PF.out 0).trans rfl
      have ks0 : w4.cell? ⟨w3.heap.size + 1, 0, none⟩ = some (.int .i64 s10) := (blk_cell PS.out 0).trans rfl
      have ks1 : w4.cell? ⟨w3.heap.size + 1, 1, none⟩ = some (.int .i64 s11) := (blk_cell PS.out 1).trans rfl
      have fs0 := blk_frozen PS.out 0
      have fs1 := blk_frozen PS.out 1
      have m1 : ¬ w4.heap.size = w3.heap.size := by omega
      have m2 : ¬ w4.heap.size = w3.heap.size + 1 := by omega
      have m3 : ¬ w3.heap.size = w4.heap.size := by omega
      have m4 : ¬ w3.heap.size + 1 = w4.heap.size := by omega
      have m5 : w3.heap.size < w4.heap.size := by omega
      have m6 : w3.heap.size + 1 < w4.heap.size := by omega
      go_wp2_with fail
      refine (interval_Floor.same _ _ q' _ HQ'.out).mono ?_
      rintro e w5 ⟨rfl, rfl⟩
      go_wp2_with fail
      go_region
      go_wp2
      go_roundw
      case rel =>
        refine ⟨2, 2, by omega, rfl, by first | rfl | go_num, ⟨?_⟩, ⟨?_⟩, ⟨?_⟩, ⟨?_⟩⟩
        · show _ = some (Obj.cells #[.int .i64 s20, .int .i64 s21] 28 (0, 0))
          (with_reducible repeat (first | refine blk_drewN ?_ _ | refine blk_drew ?_ | refine blk_alloc ?_ _))
          refine blk_put (cs := #[.int .i64 s20, .int .i64 s11]) ?_ 1 _ rfl
          refine blk_put (cs := #[.int .i64 s10, .int .i64 s11]) ?_ 0 _ rfl
          (with_reducible repeat (first | refine blk_drewN ?_ _ | refine blk_drew ?_ | refine blk_alloc ?_ _))
          exact PS.out
        · repeat (first | exact PF.out | (with_reducible refine blk_drewN ?_ _) | (with_reducible refine blk_drew ?_) | (with_reducible refine blk_alloc ?_ _) | refine blk_far ?_ (by first | (simp; done) | (simp; omega)) _)
        · repeat (first | exact PO.out | (with_reducible refine blk_drewN ?_ _) | (with_reducible refine blk_drew ?_) | (with_reducible refine blk_alloc ?_ _) | refine blk_far ?_ (by first | (simp; done) | (simp; omega)) _)
        · repeat (first | exact PB.out | apply below_alloc | apply pw_below_drewN | apply below_drew | refine below_set ?_ (by first | omega | (simp; done) | (simp; omega)))
      case measure => simp [intOf]
    | 2, _ =>
      obtain rfl : z = 2 := hz
      replace KS : Aside0 (wr.heap[w3.heap.size + 1]? = some (.cells #[.int .i64 s20, .int .i64 s21] 28 (0, 0))) := ⟨KS.out⟩
      have ix : ∀ w : World, (Instr.index 82 (.agg #[.int .i64 y0, .int .i64 x1, .int .i64 y1, .int .i64 x0, .int .i64 y1, .int .i64 x1]) (.int .i64 2)).run Tryd.prog w = .ok (.agg #[.int .i64 y1, .int .i64 x1]) w := fun _ => by kernel_rfl
      obtain ⟨e0, e1, q', hd, hq', hs⟩ := RS.out 2 (by omega)
      have hsL : (if wrap64 (e0 - wrap64 (q' * 1000000000)) < s20 then wrap64 (e0 - wrap64 (q' * 1000000000)) else s20) = s30 := (congrArg Prod.fst hs).symm
      have hsH : (if s21 < wrap64 (e1 - wrap64 (q' * 1000000000)) then wrap64 (e1 - wrap64 (q' * 1000000000)) else s21) = s31 := (congrArg Prod.snd hs).symm
      have HD' := Aside0.mk (show trig_direction.f k y1 x1 = some (e0, e1) from hd)
      have HQ' := Aside0.mk hq'
      clear hd hq' hs
      go_wp2_with fail
      refine (trig_direction.calls k y1 x1 e0 e1 _ HD'.out).mono ?_
      rintro e w4 ⟨rfl, hb⟩
      have PS := Aside0.mk (blk_below (blk_alloc KS.out _) hb)
      have PF := Aside0.mk (blk_below (blk_alloc KF.out _) hb)
      have PO := Aside0.mk (blk_below (blk_alloc KO.out _) hb)
      have PB := Aside0.mk (below_step (below_alloc KB.out _) hb)
      have lw : wr.heap.size + 1 ≤ w4.heap.size := by have h_ := hb.size; simpa using h_
      clear hb KS KF KO KB
      have kf0 : w4.cell? ⟨w3.heap.size, 0, none⟩ = some (.int .i64 f0) := (blk_cell PF.out 0).trans rfl
      have ks0 : w4.cell? ⟨w3.heap.size + 1, 0, none⟩ = some (.int .i64 s20) := (blk_cell PS.out 0).trans rfl
      have ks1 : w4.cell? ⟨w3.heap.size + 1, 1, none⟩ = some (.int .i64 s21) := (blk_cell PS.out 1).trans rfl
      have fs0 := blk_frozen PS.out 0
      have fs1 := blk_frozen PS.out 1
      have m1 : ¬ w4.heap.size = w3.heap.size := by omega
      have m2 : ¬ w4.heap.size = w3.heap.size + 1 := by omega
      have m3 : ¬ w3.heap.size = w4.heap.size := by omega
      have m4 : ¬ w3.heap.size + 1 = w4.heap.size := by omega
      have m5 : w3.heap.size < w4.heap.size := by omega
      have m6 : w3.heap.size + 1 < w4.heap.size := by omega
      go_wp2_with fail
      refine (interval_Floor.same _ _ q' _ HQ'.out).mono ?_
      rintro e w5 ⟨rfl, rfl⟩
      go_wp2_with fail
      go_region
      go_wp2
      go_roundw
      case rel =>
        refine ⟨3, 3, by omega, rfl, by first | rfl | go_num, ⟨?_⟩, ⟨?_⟩, ⟨?_⟩, ⟨?_⟩⟩
        · show _ = some (Obj.cells #[.int .i64 s30, .int .i64 s31] 28 (0, 0))
          (with_reducible repeat (first | refine blk_drewN ?_ _ | refine blk_drew ?_ | refine blk_alloc ?_ _))
          refine blk_put (cs := #[.int .i64 s30, .int .i64 s21]) ?_ 1 _ rfl
          refine blk_put (cs := #[.int .i64 s20, .int .i64 s21]) ?_ 0 _ rfl
          (with_reducible repeat (first | refine blk_drewN ?_ _ | refine blk_drew ?_ | refine blk_alloc ?_ _))
          exact PS.out
        · repeat (first | exact PF.out | (with_reducible refine blk_drewN ?_ _) | (with_reducible refine blk_drew ?_) | (with_reducible refine blk_alloc ?_ _) | refine blk_far ?_ (by first | (simp; done) | (simp; omega)) _)
        · repeat (first | exact PO.out | (with_reducible refine blk_drewN ?_ _) | (with_reducible refine blk_drew ?_) | (with_reducible refine blk_alloc ?_ _) | refine blk_far ?_ (by first | (simp; done) | (simp; omega)) _)
        · repeat (first | exact PB.out | apply below_alloc | apply pw_below_drewN | apply below_drew | refine below_set ?_ (by first | omega | (simp; done) | (simp; omega)))
      case measure => simp [intOf]
    | 3, _ =>
      obtain rfl : z = 3 := hz
      replace KS : Aside0 (wr.heap[w3.heap.size + 1]? = some (.cells #[.int .i64 s30, .int .i64 s31] 28 (0, 0))) := ⟨KS.out⟩
      have ks0 : wr.cell? ⟨w3.heap.size + 1, 0, none⟩ = some (.int .i64 s30) := (blk_cell KS.out 0).trans rfl
      have ks1 : wr.cell? ⟨w3.heap.size + 1, 1, none⟩ = some (.int .i64 s31) := (blk_cell KS.out 1).trans rfl
      have ho0 : wr.cell? ⟨w.heap.size + 1 + 1, 0, none⟩ = some (.int .i64 0) := (blk_cell KO.out 0).trans rfl
      have ho1 : wr.cell? ⟨w.heap.size + 1 + 1, 1, none⟩ = some (.int .i64 0) := (blk_cell KO.out 1).trans rfl
      have hof0 := blk_frozen KO.out 0
      have hof1 := blk_frozen KO.out 1
      cases hw
      case true =>
        replace hwf := hwf.out
        replace hr := hr.out
        simp only [if_true, Prod.mk.injEq] at hr
        obtain ⟨rfl, rfl, rfl⟩ := hr
        go_wp2
        refine bodyPost_ret (results_ct rfl _ _ (w.heap.size + 1 + 1) 28 #[.int .i64 0, .int .i64 0] (0, 0) _ rfl (by
          repeat (first | exact KO.out | (with_reducible refine blk_drewN ?_ _) | (with_reducible refine blk_drew ?_) | (with_reducible refine blk_alloc ?_ _) | (refine blk_put (cs := #[.int .i64 0, .int .i64 0]) ?_ 1 _ rfl) | (refine blk_put (cs := #[.int .i64 0, .int .i64 0]) ?_ 0 _ rfl))) Tryd.underlying28 rfl (by kernel_rfl)) rfl ⟨rfl, ?_⟩
        repeat (first | exact KB.out | apply below_alloc | apply pw_below_drewN | apply below_drew | refine below_set ?_ (by first | omega | (simp; done) | (simp; omega)))
      case false =>
      replace hwf := hwf.out
      replace HQ := Aside0.mk (HQ.out rfl)
      replace hr := hr.out
      simp only [Bool.false_eq_true, if_false, Prod.mk.injEq] at hr
      obtain ⟨rfl, rfl, rfl⟩ := hr
      go_wp2_with fail
      refine (interval_Floor.same _ _ q _ HQ.out).mono ?_
      rintro e w5 ⟨rfl, rfl⟩
      go_wp2
      refine bodyPost_ret (results_ct rfl _ _ (w.heap.size + 1 + 1) 28 #[.int .i64 (wrap64 (s30 - wrap64 (q * 1000000000))), .int .i64 (wrap64 (s31 - wrap64 (q * 1000000000)))] (0, 0) _ rfl (by
        (with_reducible repeat (first | refine blk_drewN ?_ _ | refine blk_drew ?_ | refine blk_alloc ?_ _)); refine blk_put (cs := #[.int .i64 (wrap64 (s30 - wrap64 (q * 1000000000))), .int .i64 0]) ?_ 1 _ rfl; (with_reducible repeat (first | refine blk_drewN ?_ _ | refine blk_drew ?_ | refine blk_alloc ?_ _)); refine blk_put (cs := #[.int .i64 0, .int .i64 0]) ?_ 0 _ rfl; (with_reducible repeat (first | refine blk_drewN ?_ _ | refine blk_drew ?_ | refine blk_alloc ?_ _)); exact KO.out) Tryd.underlying28 rfl (by kernel_rfl)) rfl ⟨rfl, ?_⟩
      repeat (first | exact KB.out | apply below_alloc | apply pw_below_drewN | apply below_drew | refine below_set ?_ (by first | omega | (simp; done) | (simp; omega)))
set_option maxHeartbeats 8000000 in
set_option maxRecDepth 100000 in
theorem trig_Arc.walk4 (k : Nat) (y0 y1 x0 x1 f0 f1 s10 s11 s20 s21 s30 s31 q r1 r2 r3 : Int) (hw : Bool) (w : World) (CY : Aside0 (interval_Check.f 1 y0 y1 = some 0)) (CX : Aside0 (interval_Check.f 1 x0 x1 = some 0)) (HD : Aside0 (trig_direction.f k y0 x0 = some (f0, f1))) (HQ : Aside0 (hw = false → interval_Floor.f s30 1000000000 = some q)) (hr : Aside0 ((if hw = true then (0, 0, 11) else (wrap64 (s30 - wrap64 (q * 1000000000)), wrap64 (s31 - wrap64 (q * 1000000000)), 0)) = (r1, r2, r3)))
    (hwf : Aside0 (decide (400000000 < wrap64 (s31 - s30)) = hw)) (RS : Aside0 (∀ k' : Nat, k' < 3 → ∃ e0 e1 q, trig_direction.f k (trig_Arc.Y y0 y1 k') (trig_Arc.X x0 x1 k') = some (e0, e1) ∧ interval_Floor.f (wrap64 ((wrap64 (e0 - f0)) + 500000000)) 1000000000 = some q ∧ trig_Arc.S (f0, f1) (s10, s11) (s20, s21) (s30, s31) (k' + 1) = (mn (trig_Arc.S (f0, f1) (s10, s11) (s20, s21) (s30, s31) k').1 (wrap64 (e0 - wrap64 (q * 1000000000))), mx (trig_Arc.S (f0, f1) (s10, s11) (s20, s21) (s30, s31) k').2 (wrap64 (e1 - wrap64 (q * 1000000000)))))) (b1 : decide (y0 ≤ 0) = true) (b2 : decide (0 ≤ y1) = true) (b3 : decide (x0 ≤ 0) = true) (b4 : decide (0 ≤ x1) = false) :
    Calls Tryd.prog 32 #[.agg #[.int .i64 y0, .int .i64 y1], .agg #[.int .i64 x0, .int .i64 x1]] w fun e w' => e = .returned (.tuple #[.agg #[.int .i64 r1, .int .i64 r2], .int .i64 r3]) ∧ Below w.heap.size w w' := by
  have hu := Tryd.underlying28
  have hu48 := Tryd.underlying81
  have hu54 := Tryd.underlying82
  go_enter Tryd.func32, Tryd.ntmps32
  go_wp2_with fail
  refine (interval_Check.calls 1 y0 y1 0 _ CY.out).mono ?_
  rintro e w1 ⟨rfl, hb⟩
  have BA := Aside0.mk (blk_below (g := w.heap.size) (o := .cells #[.int .i64 y0, .int .i64 y1] 28 (0, 0)) (blk_alloc (blk_alloc (blk_new w _) _) _) hb)
  have BB := Aside0.mk (blk_below (g := w.heap.size + 1) (o := .cells #[.int .i64 x0, .int .i64 x1] 28 (0, 0)) (blk_alloc (by have h_ := blk_new (w.alloc (.cells #[.int .i64 y0, .int .i64 y1] 28 (0, 0))) (.cells #[.int .i64 x0, .int .i64 x1] 28 (0, 0)); simpa using h_) _) hb)
  have BO := Aside0.mk (blk_below (g := w.heap.size + 1 + 1) (o := .cells #[.int .i64 0, .int .i64 0] 28 (0, 0)) (by have h_ := blk_new ((w.alloc (.cells #[.int .i64 y0, .int .i64 y1] 28 (0, 0))).alloc (.cells #[.int .i64 x0, .int .i64 x1] 28 (0, 0))) (.cells #[.int .i64 0, .int .i64 0] 28 (0, 0)); simpa using h_) hb)
  have HB := Aside0.mk (below_step (w := w) (by repeat (first | exact Below.refl _ _ | apply below_alloc | apply pw_below_drewN | apply below_drew | refine below_set ?_ (by first | omega | (simp; done) | (simp; omega)))) hb)
  clear hb
  have xb0 : w1.cell? ⟨w.heap.size + 1, 0, none⟩ = some (.int .i64 x0) := (blk_cell BB.out 0).trans rfl
  have xb1 : w1.cell? ⟨w.heap.size + 1, 1, none⟩ = some (.int .i64 x1) := (blk_cell BB.out 1).trans rfl
  go_wp2_with fail
  refine (interval_Check.calls 1 x0 x1 0 _ CX.out).mono ?_
  rintro e w2 ⟨rfl, hb⟩
  have BA2 := Aside0.mk (blk_below BA.out hb)
  have BB2 := Aside0.mk (blk_below BB.out hb)
  have BO2 := Aside0.mk (blk_below BO.out hb)
  have HB2 := Aside0.mk (below_step HB.out hb)
  clear hb BA BB BO HB xb0 xb1
  have ya0 : w2.cell? ⟨w.heap.size, 0, none⟩ = some (.int .i64 y0) := (blk_cell BA2.out 0).trans rfl
  have ya1 : w2.cell? ⟨w.heap.size, 1, none⟩ = some (.int .i64 y1) := (blk_cell BA2.out 1).trans rfl
  have xb0 : w2.cell? ⟨w.heap.size + 1, 0, none⟩ = some (.int .i64 x0) := (blk_cell BB2.out 0).trans rfl
  have xb1 : w2.cell? ⟨w.heap.size + 1, 1, none⟩ = some (.int .i64 x1) := (blk_cell BB2.out 1).trans rfl
  go_wp2_with fail
  refine (trig_direction.calls k y0 x0 f0 f1 _ HD.out).mono ?_
  rintro e w3 ⟨rfl, hb⟩
  have BA := Aside0.mk (blk_below BA2.out hb)
  have BB := Aside0.mk (blk_below BB2.out hb)
  have BO := Aside0.mk (blk_below BO2.out hb)
  have HB := Aside0.mk (below_step HB2.out hb)
  clear hb BA2 BB2 BO2 HB2 ya0 ya1 xb0 xb1
  have ya0 : w3.cell? ⟨w.heap.size, 0, none⟩ = some (.int .i64 y0) := (blk_cell BA.out 0).trans rfl
  have ya1 : w3.cell? ⟨w.heap.size, 1, none⟩ = some (.int .i64 y1) := (blk_cell BA.out 1).trans rfl
  have xb0 : w3.cell? ⟨w.heap.size + 1, 0, none⟩ = some (.int .i64 x0) := (blk_cell BB.out 0).trans rfl
  have xb1 : w3.cell? ⟨w.heap.size + 1, 1, none⟩ = some (.int .i64 x1) := (blk_cell BB.out 1).trans rfl
  have lO : w.heap.size + 1 + 1 < w3.heap.size := blk_lt BO.out
  have nA : ¬ w3.heap.size = w.heap.size := by omega
  have nB : ¬ w3.heap.size = w.heap.size + 1 := by omega
  have nA' : ¬ w.heap.size = w3.heap.size := by omega
  have nB' : ¬ w.heap.size + 1 = w3.heap.size := by omega
  have nA1 : ¬ w3.heap.size + 1 = w.heap.size := by omega
  have nB1 : ¬ w3.heap.size + 1 = w.heap.size + 1 := by omega
  have nA1' : ¬ w.heap.size = w3.heap.size + 1 := by omega
  have nB1' : ¬ w.heap.size + 1 = w3.heap.size + 1 := by omega
  have lA : w.heap.size < w3.heap.size := by omega
  have lB : w.heap.size + 1 < w3.heap.size := by omega
  go_wp2
  have SF := Aside0.mk (blk_alloc (blk_new w3 (.cells #[.int .i64 f0, .int .i64 f1] 28 (0, 0))) (.cells #[.int .i64 f0, .int .i64 f1] 28 (0, 0)))
  have SS := Aside0.mk (show ((w3.alloc (.cells #[.int .i64 f0, .int .i64 f1] 28 (0, 0))).alloc (.cells #[.int .i64 f0, .int .i64 f1] 28 (0, 0))).heap[w3.heap.size + 1]? = some (.cells #[.int .i64 f0, .int .i64 f1] 28 (0, 0)) from by have h_ := blk_new (w3.alloc (.cells #[.int .i64 f0, .int .i64 f1] 28 (0, 0))) (.cells #[.int .i64 f0, .int .i64 f1] 28 (0, 0)); simpa using h_)
  have SO := Aside0.mk (blk_alloc (blk_alloc BO.out (.cells #[.int .i64 f0, .int .i64 f1] 28 (0, 0))) (.cells #[.int .i64 f0, .int .i64 f1] 28 (0, 0)))
  have SB := Aside0.mk (below_alloc (below_alloc HB.out (.cells #[.int .i64 f0, .int .i64 f1] 28 (0, 0))) (.cells #[.int .i64 f0, .int .i64 f1] 28 (0, 0)))
  clear BA BB BO HB ya0 ya1 xb0 xb1
  go_loopw [68] (fun v wr => ∃ (j : Nat) (z : Int), j ≤ 3 ∧ z = j ∧ v = .int .i64 z ∧ Aside0 (wr.heap[w3.heap.size + 1]? = some (.cells #[.int .i64 (trig_Arc.S (f0, f1) (s10, s11) (s20, s21) (s30, s31) j).1, .int .i64 (trig_Arc.S (f0, f1) (s10, s11) (s20, s21) (s30, s31) j).2] 28 (0, 0))) ∧ Aside0 (wr.heap[w3.heap.size]? = some (.cells #[.int .i64 f0, .int .i64 f1] 28 (0, 0))) ∧ Aside0 (wr.heap[w.heap.size + 1 + 1]? = some (.cells #[.int .i64 0, .int .i64 0] 28 (0, 0))) ∧ Aside0 (Below w.heap.size w wr)) (fun v _ => 3 - (intOf v).toNat)
  case atStart =>
    exact ⟨0, 0, by omega, rfl, rfl, ⟨SS.out⟩, ⟨SF.out⟩, ⟨SO.out⟩, ⟨SB.out⟩⟩
  case round =>
    obtain ⟨j, z, hj, hz, rfl, KS, KF, KO, KB⟩ := hrel
    clear SF SS SO SB
    have nr1 : w3.heap.size + 1 < wr.heap.size := blk_lt KS.out
    match j, hj with
    | 0, _ =>
      obtain rfl : z = 0 := hz
      replace KS : Aside0 (wr.heap[w3.heap.size + 1]? = some (.cells #[.int .i64 f0, .int .i64 f1] 28 (0, 0))) := ⟨KS.out⟩
      have ix : ∀ w : World, (Instr.index 82 (.agg #[.int .i64 y0, .int .i64 x1, .int .i64 y1, .int .i64 x0, .int .i64 y1, .int .i64 x1]) (.int .i64 0)).run Tryd.prog w = .ok (.agg #[.int .i64 y0, .int .i64 x1]) w := fun _ => by kernel_rfl
      obtain ⟨e0, e1, q', hd, hq', hs⟩ := RS.out 0 (by omega)
      have hsL : (if wrap64 (e0 - wrap64 (q' * 1000000000)) < f0 then wrap64 (e0 - wrap64 (q' * 1000000000)) else f0) = s10 := (congrArg Prod.fst hs).symm
      have hsH : (if f1 < wrap64 (e1 - wrap64 (q' * 1000000000)) then wrap64 (e1 - wrap64 (q' * 1000000000)) else f1) = s11 := (congrArg Prod.snd hs).symm
      have HD' := Aside0.mk (show trig_direction.f k y0 x1 = some (e0, e1) from hd)
      have HQ' := Aside0.mk hq'
      clear hd hq' hs
      go_wp2_with fail
      refine (trig_direction.calls k y0 x1 e0 e1 _ HD'.out).mono ?_
      rintro e w4 ⟨rfl, hb⟩
      have PS := Aside0.mk (blk_below (blk_alloc KS.out _) hb)
      have PF := Aside0.mk (blk_below (blk_alloc KF.out _) hb)
      have PO := Aside0.mk (blk_below (blk_alloc KO.out _) hb)
      have PB := Aside0.mk (below_step (below_alloc KB.out _) hb)
      have lw : wr.heap.size + 1 ≤ w4.heap.size := by have h_ := hb.size; simpa using h_
      clear hb KS KF KO KB
      have kf0 : w4.cell? ⟨w3.heap.size, 0, none⟩ = some (.int .i64 f0) := (blk_cell PF.out 0).trans rfl
      have ks0 : w4.cell? ⟨w3.heap.size + 1, 0, none⟩ = some (.int .i64 f0) := (blk_cell PS.out 0).trans rfl
      have ks1 : w4.cell? ⟨w3.heap.size + 1, 1, none⟩ = some (.int .i64 f1) := (blk_cell PS.out 1).trans rfl
      have fs0 := blk_frozen PS.out 0
      have fs1 := blk_frozen PS.out 1
      have m1 : ¬ w4.heap.size = w3.heap.size := by omega
      have m2 : ¬ w4.heap.size = w3.heap.size + 1 := by omega
      have m3 : ¬ w3.heap.size = w4.heap.size := by omega
      have m4 : ¬ w3.heap.size + 1 = w4.heap.size := by omega
      have m5 : w3.heap.size < w4.heap.size := by omega
      have m6 : w3.heap.size + 1 < w4.heap.size := by omega
      go_wp2_with fail
      refine (interval_Floor.same _ _ q' _ HQ'.out).mono ?_
      rintro e w5 ⟨rfl, rfl⟩
      go_wp2_with fail
      go_region
      go_wp2
      go_roundw
      case rel =>
        refine ⟨1, 1, by omega, rfl, by first | rfl | go_num, ⟨?_⟩, ⟨?_⟩, ⟨?_⟩, ⟨?_⟩⟩
        · show _ = some (Obj.cells #[.int .i64 s10, .int .i64 s11] 28 (0, 0))
          (with_reducible repeat (first | refine blk_drewN ?_ _ | refine blk_drew ?_ | refine blk_alloc ?_ _))
          refine blk_put (cs := #[.int .i64 s10, .int .i64 f1]) ?_ 1 _ rfl
          refine blk_put (cs := #[.int .i64 f0, .int .i64 f1]) ?_ 0 _ rfl
          (with_reducible repeat (first | refine blk_drewN ?_ _ | refine blk_drew ?_ | refine blk_alloc ?_ _))
          exact PS.out
        · repeat (first | exact PF.out | (with_reducible refine blk_drewN ?_ _) | (with_reducible refine blk_drew ?_) | (with_reducible refine blk_alloc ?_ _) | refine blk_far ?_ (by first | (simp; done) | (simp; omega)) _)
        · repeat (first | exact PO.out | (with_reducible refine blk_drewN ?_ _) | (with_reducible refine blk_drew ?_) | (with_reducible refine blk_alloc ?_ _) | refine blk_far ?_ (by first | (simp; done) | (simp; omega)) _)
        · repeat (first | exact PB.out | apply below_alloc | apply pw_below_drewN | apply below_drew | refine below_set ?_ (by first | omega | (simp; done) | (simp; omega)))
      case measure => simp [intOf]
    | 1, _ =>
      obtain rfl : z = 1 := hz
      replace KS : Aside0 (wr.heap[w3.heap.size + 1]? = some (.cells #[.int .i64 s10, .int .i64 s11] 28 (0, 0))) := ⟨KS.out⟩
      have ix : ∀ w : World, (Instr.index 82 (.agg #[.int .i64 y0, .int .i64 x1, .int .i64 y1, .int .i64 x0, .int .i64 y1, .int .i64 x1]) (.int .i64 1)).run Tryd.prog w = .ok (.agg #[.int .i64 y1, .int .i64 x0]) w := fun _ => by kernel_rfl
      obtain ⟨e0, e1, q', hd, hq', hs⟩ := RS.out 1 (by omega)
      have hsL : (if wrap64 (e0 - wrap64 (q' * 1000000000)) < s10 then wrap64 (e0 - wrap64 (q' * 1000000000)) else s10) = s20 := (congrArg Prod.fst hs).symm
      have hsH : (if s11 < wrap64 (e1 - wrap64 (q' * 1000000000)) then wrap64 (e1 - wrap64 (q' * 1000000000)) else s11) = s21 := (congrArg Prod.snd hs).symm
      have HD' := Aside0.mk (show trig_direction.f k y1 x0 = some (e0, e1) from hd)
      have HQ' := Aside0.mk hq'
      clear hd hq' hs
      go_wp2_with fail
      refine (trig_direction.calls k y1 x0 e0 e1 _ HD'.out).mono ?_
      rintro e w4 ⟨rfl, hb⟩
      have PS := Aside0.mk (blk_below (blk_alloc KS.out _) hb)
      have PF := Aside0.mk (blk_below (blk_alloc KF.out _) hb)
      have PO := Aside0.mk (blk_below (blk_alloc KO.out _) hb)
      have PB := Aside0.mk (below_step (below_alloc KB.out _) hb)
      have lw : wr.heap.size + 1 ≤ w4.heap.size := by have h_ := hb.size; simpa using h_
      clear hb KS KF KO KB
      have kf0 : w4.cell? ⟨w3.heap.size, 0, none⟩ = some (.int .i64 f0) := (blk_cell PF.out 0).trans rfl
      have ks0 : w4.cell? ⟨w3.heap.size + 1, 0, none⟩ = some (.int .i64 s10) := (blk_cell PS.out 0).trans rfl
      have ks1 : w4.cell? ⟨w3.heap.size + 1, 1, none⟩ = some (.int .i64 s11) := (blk_cell PS.out 1).trans rfl
      have fs0 := blk_frozen PS.out 0
      have fs1 := blk_frozen PS.out 1
      have m1 : ¬ w4.heap.size = w3.heap.size := by omega
      have m2 : ¬ w4.heap.size = w3.heap.size + 1 := by omega
      have m3 : ¬ w3.heap.size = w4.heap.size := by omega
      have m4 : ¬ w3.heap.size + 1 = w4.heap.size := by omega
      have m5 : w3.heap.size < w4.heap.size := by omega
      have m6 : w3.heap.size + 1 < w4.heap.size := by omega
      go_wp2_with fail
      refine (interval_Floor.same _ _ q' _ HQ'.out).mono ?_
      rintro e w5 ⟨rfl, rfl⟩
      go_wp2_with fail
      go_region
      go_wp2
      go_roundw
      case rel =>
        refine ⟨2, 2, by omega, rfl, by first | rfl | go_num, ⟨?_⟩, ⟨?_⟩, ⟨?_⟩, ⟨?_⟩⟩
        · show _ = some (Obj.cells #[.int .i64 s20, .int .i64 s21] 28 (0, 0))
          (with_reducible repeat (first | refine blk_drewN ?_ _ | refine blk_drew ?_ | refine blk_alloc ?_ _))
          refine blk_put (cs := #[.int .i64 s20, .int .i64 s11]) ?_ 1 _ rfl
          refine blk_put (cs := #[.int .i64 s10, .int .i64 s11]) ?_ 0 _ rfl
          (with_reducible repeat (first | refine blk_drewN ?_ _ | refine blk_drew ?_ | refine blk_alloc ?_ _))
          exact PS.out
        · repeat (first | exact PF.out | (with_reducible refine blk_drewN ?_ _) | (with_reducible refine blk_drew ?_) | (with_reducible refine blk_alloc ?_ _) | refine blk_far ?_ (by first | (simp; done) | (simp; omega)) _)
        · repeat (first | exact PO.out | (with_reducible refine blk_drewN ?_ _) | (with_reducible refine blk_drew ?_) | (with_reducible refine blk_alloc ?_ _) | refine blk_far ?_ (by first | (simp; done) | (simp; omega)) _)
        · repeat (first | exact PB.out | apply below_alloc | apply pw_below_drewN | apply below_drew | refine below_set ?_ (by first | omega | (simp; done) | (simp; omega)))
      case measure => simp [intOf]
    | 2, _ =>
      obtain rfl : z = 2 := hz
      replace KS : Aside0 (wr.heap[w3.heap.size + 1]? = some (.cells #[.int .i64 s20, .int .i64 s21] 28 (0, 0))) := ⟨KS.out⟩
      have ix : ∀ w : World, (Instr.index 82 (.agg #[.int .i64 y0, .int .i64 x1, .int .i64 y1, .int .i64 x0, .int .i64 y1, .int .i64 x1]) (.int .i64 2)).run Tryd.prog w = .ok (.agg #[.int .i64 y1, .int .i64 x1]) w := fun _ => by kernel_rfl
      obtain ⟨e0, e1, q', hd, hq', hs⟩ := RS.out 2 (by omega)
      have hsL : (if wrap64 (e0 - wrap64 (q' * 1000000000)) < s20 then wrap64 (e0 - wrap64 (q' * 1000000000)) else s20) = s30 := (congrArg Prod.fst hs).symm
      have hsH : (if s21 < wrap64 (e1 - wrap64 (q' * 1000000000)) then wrap64 (e1 - wrap64 (q' * 1000000000)) else s21) = s31 := (congrArg Prod.snd hs).symm
      have HD' := Aside0.mk (show trig_direction.f k y1 x1 = some (e0, e1) from hd)
      have HQ' := Aside0.mk hq'
      clear hd hq' hs
      go_wp2_with fail
      refine (trig_direction.calls k y1 x1 e0 e1 _ HD'.out).mono ?_
      rintro e w4 ⟨rfl, hb⟩
      have PS := Aside0.mk (blk_below (blk_alloc KS.out _) hb)
      have PF := Aside0.mk (blk_below (blk_alloc KF.out _) hb)
      have PO := Aside0.mk (blk_below (blk_alloc KO.out _) hb)
      have PB := Aside0.mk (below_step (below_alloc KB.out _) hb)
      have lw : wr.heap.size + 1 ≤ w4.heap.size := by have h_ := hb.size; simpa using h_
      clear hb KS KF KO KB
      have kf0 : w4.cell? ⟨w3.heap.size, 0, none⟩ = some (.int .i64 f0) := (blk_cell PF.out 0).trans rfl
      have ks0 : w4.cell? ⟨w3.heap.size + 1, 0, none⟩ = some (.int .i64 s20) := (blk_cell PS.out 0).trans rfl
      have ks1 : w4.cell? ⟨w3.heap.size + 1, 1, none⟩ = some (.int .i64 s21) := (blk_cell PS.out 1).trans rfl
      have fs0 := blk_frozen PS.out 0
      have fs1 := blk_frozen PS.out 1
      have m1 : ¬ w4.heap.size = w3.heap.size := by omega
      have m2 : ¬ w4.heap.size = w3.heap.size + 1 := by omega
      have m3 : ¬ w3.heap.size = w4.heap.size := by omega
      have m4 : ¬ w3.heap.size + 1 = w4.heap.size := by omega
      have m5 : w3.heap.size < w4.heap.size := by omega
      have m6 : w3.heap.size + 1 < w4.heap.size := by omega
      go_wp2_with fail
      refine (interval_Floor.same _ _ q' _ HQ'.out).mono ?_
      rintro e w5 ⟨rfl, rfl⟩
      go_wp2_with fail
      go_region
      go_wp2
      go_roundw
      case rel =>
        refine ⟨3, 3, by omega, rfl, by first | rfl | go_num, ⟨?_⟩, ⟨?_⟩, ⟨?_⟩, ⟨?_⟩⟩
        · show _ = some (Obj.cells #[.int .i64 s30, .int .i64 s31] 28 (0, 0))
          (with_reducible repeat (first | refine blk_drewN ?_ _ | refine blk_drew ?_ | refine blk_alloc ?_ _))
          refine blk_put (cs := #[.int .i64 s30, .int .i64 s21]) ?_ 1 _ rfl
          refine blk_put (cs := #[.int .i64 s20, .int .i64 s21]) ?_ 0 _ rfl
          (with_reducible repeat (first | refine blk_drewN ?_ _ | refine blk_drew ?_ | refine blk_alloc ?_ _))
          exact PS.out
        · repeat (first | exact PF.out | (with_reducible refine blk_drewN ?_ _) | (with_reducible refine blk_drew ?_) | (with_reducible refine blk_alloc ?_ _) | refine blk_far ?_ (by first | (simp; done) | (simp; omega)) _)
        · repeat (first | exact PO.out | (with_reducible refine blk_drewN ?_ _) | (with_reducible refine blk_drew ?_) | (with_reducible refine blk_alloc ?_ _) | refine blk_far ?_ (by first | (simp; done) | (simp; omega)) _)
        · repeat (first | exact PB.out | apply below_alloc | apply pw_below_drewN | apply below_drew | refine below_set ?_ (by first | omega | (simp; done) | (simp; omega)))
      case measure => simp [intOf]
    | 3, _ =>
      obtain rfl : z = 3 := hz
      replace KS : Aside0 (wr.heap[w3.heap.size + 1]? = some (.cells #[.int .i64 s30, .int .i64 s31] 28 (0, 0))) := ⟨KS.out⟩
      have ks0 : wr.cell? ⟨w3.heap.size + 1, 0, none⟩ = some (.int .i64 s30) := (blk_cell KS.out 0).trans rfl
      have ks1 : wr.cell? ⟨w3.heap.size + 1, 1, none⟩ = some (.int .i64 s31) := (blk_cell KS.out 1).trans rfl
      have ho0 : wr.cell? ⟨w.heap.size + 1 + 1, 0, none⟩ = some (.int .i64 0) := (blk_cell KO.out 0).trans rfl
      have ho1 : wr.cell? ⟨w.heap.size + 1 + 1, 1, none⟩ = some (.int .i64 0) := (blk_cell KO.out 1).trans rfl
      have hof0 := blk_frozen KO.out 0
      have hof1 := blk_frozen KO.out 1
      cases hw
      case true =>
        replace hwf := hwf.out
        replace hr := hr.out
        simp only [if_true, Prod.mk.injEq] at hr
        obtain ⟨rfl, rfl, rfl⟩ := hr
        go_wp2
        refine bodyPost_ret (results_ct rfl _ _ (w.heap.size + 1 + 1) 28 #[.int .i64 0, .int .i64 0] (0, 0) _ rfl (by
          repeat (first | exact KO.out | (with_reducible refine blk_drewN ?_ _) | (with_reducible refine blk_drew ?_) | (with_reducible refine blk_alloc ?_ _) | (refine blk_put (cs := #[.int .i64 0, .int .i64 0]) ?_ 1 _ rfl) | (refine blk_put (cs := #[.int .i64 0, .int .i64 0]) ?_ 0 _ rfl))) Tryd.underlying28 rfl (by kernel_rfl)) rfl ⟨rfl, ?_⟩
        repeat (first | exact KB.out | apply below_alloc | apply pw_below_drewN | apply below_drew | refine below_set ?_ (by first | omega | (simp; done) | (simp; omega)))
      case false =>
      replace hwf := hwf.out
      replace HQ := Aside0.mk (HQ.out rfl)
      replace hr := hr.out
      simp only [Bool.false_eq_true, if_false, Prod.mk.injEq] at hr
      obtain ⟨rfl, rfl, rfl⟩ := hr
      go_wp2_with fail
      refine (interval_Floor.same _ _ q _ HQ.out).mono ?_
      rintro e w5 ⟨rfl, rfl⟩
      go_wp2
      refine bodyPost_ret (results_ct rfl _ _ (w.heap.size + 1 + 1) 28 #[.int .i64 (wrap64 (s30 - wrap64 (q * 1000000000))), .int .i64 (wrap64 (s31 - wrap64 (q * 1000000000)))] (0, 0) _ rfl (by
        (with_reducible repeat (first | refine blk_drewN ?_ _ | refine blk_drew ?_ | refine blk_alloc ?_ _)); refine blk_put (cs := #[.int .i64 (wrap64 (s30 - wrap64 (q * 1000000000))), .int .i64 0]) ?_ 1 _ rfl; (with_reducible repeat (first | refine blk_drewN ?_ _ | refine blk_drew ?_ | refine blk_alloc ?_ _)); refine blk_put (cs := #[.int .i64 0, .int .i64 0]) ?_ 0 _ rfl; (with_reducible repeat (first | refine blk_drewN ?_ _ | refine blk_drew ?_ | refine blk_alloc ?_ _)); exact KO.out) Tryd.underlying28 rfl (by kernel_rfl)) rfl ⟨rfl, ?_⟩
      repeat (first | exact KB.out | apply below_alloc | apply pw_below_drewN | apply below_drew | refine below_set ?_ (by first | omega | (simp; done) | (simp; omega)))
set_option maxHeartbeats 8000000 in
set_option maxRecDepth 100000 in
theorem trig_Arc.walk5 (y0 y1 x0 x1 : Int) (w : World) (CY : Aside0 (interval_Check.f 1 y0 y1 = some 0)) (CX : Aside0 (interval_Check.f 1 x0 x1 = some 0)) (b1 : decide (y0 ≤ 0) = true) (b2 : decide (0 ≤ y1) = true) (b3 : decide (x0 ≤ 0) = true) (b4 : decide (0 ≤ x1) = true) :
    Calls Tryd.prog 32 #[.agg #[.int .i64 y0, .int .i64 y1], .agg #[.int .i64 x0, .int .i64 x1]] w fun e w' => e = .returned (.tuple #[.agg #[.int .i64 0, .int .i64 0], .int .i64 11]) ∧ Below w.heap.size w w' := by
  have hu := Tryd.underlying28
  go_enter Tryd.func32, Tryd.ntmps32
  go_wp2_with fail
  refine (interval_Check.calls 1 y0 y1 0 _ CY.out).mono ?_
  rintro e w1 ⟨rfl, hb⟩
  have BA := Aside0.mk (blk_below (g := w.heap.size) (o := .cells #[.int .i64 y0, .int .i64 y1] 28 (0, 0)) (blk_alloc (blk_alloc (blk_new w _) _) _) hb)
  have BB := Aside0.mk (blk_below (g := w.heap.size + 1) (o := .cells #[.int .i64 x0, .int .i64 x1] 28 (0, 0)) (blk_alloc (by have h_ := blk_new (w.alloc (.cells #[.int .i64 y0, .int .i64 y1] 28 (0, 0))) (.cells #[.int .i64 x0, .int .i64 x1] 28 (0, 0)); simpa using h_) _) hb)
  have BO := Aside0.mk (blk_below (g := w.heap.size + 1 + 1) (o := .cells #[.int .i64 0, .int .i64 0] 28 (0, 0)) (by have h_ := blk_new ((w.alloc (.cells #[.int .i64 y0, .int .i64 y1] 28 (0, 0))).alloc (.cells #[.int .i64 x0, .int .i64 x1] 28 (0, 0))) (.cells #[.int .i64 0, .int .i64 0] 28 (0, 0)); simpa using h_) hb)
  have HB := Aside0.mk (below_step (w := w) (by repeat (first | exact Below.refl _ _ | apply below_alloc | apply pw_below_drewN | apply below_drew | refine below_set ?_ (by first | omega | (simp; done) | (simp; omega)))) hb)
  clear hb
  have xb0 : w1.cell? ⟨w.heap.size + 1, 0, none⟩ = some (.int .i64 x0) := (blk_cell BB.out 0).trans rfl
  have xb1 : w1.cell? ⟨w.heap.size + 1, 1, none⟩ = some (.int .i64 x1) := (blk_cell BB.out 1).trans rfl
  go_wp2_with fail
  refine (interval_Check.calls 1 x0 x1 0 _ CX.out).mono ?_
  rintro e w2 ⟨rfl, hb⟩
  have BA2 := Aside0.mk (blk_below BA.out hb)
  have BB2 := Aside0.mk (blk_below BB.out hb)
  have BO2 := Aside0.mk (blk_below BO.out hb)
  have HB2 := Aside0.mk (below_step HB.out hb)
  clear hb BA BB BO HB xb0 xb1
  have ya0 : w2.cell? ⟨w.heap.size, 0, none⟩ = some (.int .i64 y0) := (blk_cell BA2.out 0).trans rfl
  have ya1 : w2.cell? ⟨w.heap.size, 1, none⟩ = some (.int .i64 y1) := (blk_cell BA2.out 1).trans rfl
  have xb0 : w2.cell? ⟨w.heap.size + 1, 0, none⟩ = some (.int .i64 x0) := (blk_cell BB2.out 0).trans rfl
  have xb1 : w2.cell? ⟨w.heap.size + 1, 1, none⟩ = some (.int .i64 x1) := (blk_cell BB2.out 1).trans rfl
  have ho0 : w2.cell? ⟨w.heap.size + 1 + 1, 0, none⟩ = some (.int .i64 0) := (blk_cell BO2.out 0).trans rfl
  have ho1 : w2.cell? ⟨w.heap.size + 1 + 1, 1, none⟩ = some (.int .i64 0) := (blk_cell BO2.out 1).trans rfl
  have hof0 := blk_frozen BO2.out 0
  have hof1 := blk_frozen BO2.out 1
  go_wp2
  refine bodyPost_ret (results_ct rfl _ _ (w.heap.size + 1 + 1) 28 #[.int .i64 0, .int .i64 0] (0, 0) _ rfl (by
    repeat (first | exact BO2.out | (with_reducible refine blk_drewN ?_ _) | (with_reducible refine blk_drew ?_) | (with_reducible refine blk_alloc ?_ _) | (refine blk_put (cs := #[.int .i64 0, .int .i64 0]) ?_ 1 _ rfl) | (refine blk_put (cs := #[.int .i64 0, .int .i64 0]) ?_ 0 _ rfl))) Tryd.underlying28 rfl (by kernel_rfl)) rfl ⟨rfl, ?_⟩
  repeat (first | exact HB2.out | apply below_alloc | apply pw_below_drewN | apply below_drew | refine below_set ?_ (by first | omega | (simp; done) | (simp; omega)))
set_option maxHeartbeats 4000000 in
set_option maxRecDepth 100000 in
theorem trig_Arc.calls (k : Nat) (y0 y1 x0 x1 : Int) (r1 : Int) (r2 : Int) (r3 : Int) (w : World) (h : trig_Arc.f k y0 y1 x0 x1 = some (r1, r2, r3)) :
    Calls Tryd.prog 32 #[.agg #[.int .i64 y0, .int .i64 y1], .agg #[.int .i64 x0, .int .i64 x1]] w fun e w' => e = .returned (.tuple #[.agg #[.int .i64 r1, .int .i64 r2], .int .i64 r3]) ∧ Below w.heap.size w w' := by
  have hu := Tryd.underlying28
  have hu48 := Tryd.underlying81
  have hu54 := Tryd.underlying82
  unfold trig_Arc.f at h
  by_cases hp : ArcOk y0 y1 x0 x1
  case neg => rw [if_neg hp] at h; cases h
  rw [if_pos hp] at h
  have CY := Aside0.mk (acheck_ hp.1 hp.2.1 hp.2.2.1)
  have CX := Aside0.mk (acheck_ hp.2.2.2.1 hp.2.2.2.2.1 hp.2.2.2.2.2)
  by_cases hz : y0 ≤ 0 ∧ 0 ≤ y1 ∧ x0 ≤ 0 ∧ 0 ≤ x1
  · rw [if_pos hz] at h
    simp only [Option.some.injEq, Prod.mk.injEq] at h
    obtain ⟨rfl, rfl, rfl⟩ := h
    exact trig_Arc.walk5 y0 y1 x0 x1 w CY CX (decide_eq_true hz.1) (decide_eq_true hz.2.1) (decide_eq_true hz.2.2.1) (decide_eq_true hz.2.2.2)
  rw [if_neg hz] at h
  obtain ⟨⟨f0, f1⟩, hd, h2⟩ := Option.bind_eq_some_iff.mp h
  clear h
  obtain ⟨⟨s10, s11⟩, hs1, h⟩ := Option.bind_eq_some_iff.mp h2
  clear h2
  obtain ⟨⟨s20, s21⟩, hs2, h2⟩ := Option.bind_eq_some_iff.mp h
  clear h
  obtain ⟨⟨s30, s31⟩, hs3, h⟩ := Option.bind_eq_some_iff.mp h2
  clear h2
  dsimp only at h hs1 hs2 hs3
  have HR : ∃ q, Aside0 (decide (400000000 < wrap64 (s31 - s30)) = false → interval_Floor.f s30 1000000000 = some q) ∧ Aside0 ((if decide (400000000 < wrap64 (s31 - s30)) = true then (0, 0, 11) else (wrap64 (s30 - wrap64 (q * 1000000000)), wrap64 (s31 - wrap64 (q * 1000000000)), 0)) = (r1, r2, r3)) := by
    by_cases hw : 400000000 < wrap64 (s31 - s30)
    · rw [if_pos hw] at h
      exact ⟨0, ⟨fun e => absurd e (by simp [hw])⟩, ⟨by rw [if_pos (decide_eq_true hw)]; exact Option.some.inj h⟩⟩
    · rw [if_neg hw] at h
      obtain ⟨q, hq, h2⟩ := Option.bind_eq_some_iff.mp h
      exact ⟨q, ⟨fun _ => hq⟩, ⟨by rw [if_neg (by simp [hw])]; exact Option.some.inj h2⟩⟩
  obtain ⟨q, HQ, HR⟩ := HR
  clear h
  have HD := Aside0.mk hd
  have hwf : Aside0 (decide (400000000 < wrap64 (s31 - s30)) = decide (400000000 < wrap64 (s31 - s30))) := ⟨rfl⟩
  have RS := Aside0.mk (fun (k' : Nat) (hk : k' < 3) => show ∃ e0 e1 q, trig_direction.f k (trig_Arc.Y y0 y1 k') (trig_Arc.X x0 x1 k') = some (e0, e1) ∧ interval_Floor.f (wrap64 ((wrap64 (e0 - f0)) + 500000000)) 1000000000 = some q ∧ trig_Arc.S (f0, f1) (s10, s11) (s20, s21) (s30, s31) (k' + 1) = (mn (trig_Arc.S (f0, f1) (s10, s11) (s20, s21) (s30, s31) k').1 (wrap64 (e0 - wrap64 (q * 1000000000))), mx (trig_Arc.S (f0, f1) (s10, s11) (s20, s21) (s30, s31) k').2 (wrap64 (e1 - wrap64 (q * 1000000000)))) from
    match k', hk with
    | 0, _ => stp_some_ hs1
    | 1, _ => stp_some_ hs2
    | 2, _ => stp_some_ hs3)
  clear hp hd hs1 hs2 hs3
  have hz4 : ¬ y0 ≤ 0 ∨ (y0 ≤ 0 ∧ ¬ 0 ≤ y1) ∨ (y0 ≤ 0 ∧ 0 ≤ y1 ∧ ¬ x0 ≤ 0) ∨ (y0 ≤ 0 ∧ 0 ≤ y1 ∧ x0 ≤ 0 ∧ ¬ 0 ≤ x1) := by omega
  clear hz
  rcases hz4 with g1 | ⟨g1, g2⟩ | ⟨g1, g2, g3⟩ | ⟨g1, g2, g3, g4⟩
  · exact trig_Arc.walk1 k y0 y1 x0 x1 f0 f1 s10 s11 s20 s21 s30 s31 q r1 r2 r3 _ w CY CX HD HQ HR hwf RS (decide_eq_false g1)
  · exact trig_Arc.walk2 k y0 y1 x0 x1 f0 f1 s10 s11 s20 s21 s30 s31 q r1 r2 r3 _ w CY CX HD HQ HR hwf RS (decide_eq_true g1) (decide_eq_false g2)
  · exact trig_Arc.walk3 k y0 y1 x0 x1 f0 f1 s10 s11 s20 s21 s30 s31 q r1 r2 r3 _ w CY CX HD HQ HR hwf RS (decide_eq_true g1) (decide_eq_true g2) (decide_eq_false g3)
  · exact trig_Arc.walk4 k y0 y1 x0 x1 f0 f1 s10 s11 s20 s21 s30 s31 q r1 r2 r3 _ w CY CX HD HQ HR hwf RS (decide_eq_true g1) (decide_eq_true g2) (decide_eq_true g3) (decide_eq_false g4)

end Go.Proofs.YtgmjgnojjbajdaaDoor.JG
