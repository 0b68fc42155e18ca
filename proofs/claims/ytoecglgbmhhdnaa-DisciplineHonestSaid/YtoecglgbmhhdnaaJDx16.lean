-- Made by a program of this session (wip/hp.py, over the kit's print) out of the translation. Not trusted: Lean checks it.
import Derived.Test.YtoecglgbmhhdnaaJDx0
import Derived.Test.YtoecglgbmhhdnaaJDx1
import Derived.Test.YtoecglgbmhhdnaaJDx2
import Derived.Test.YtoecglgbmhhdnaaJDx13
import Derived.Test.YtoecglgbmhhdnaaJDx14
import Derived.Test.YtoecglgbmhhdnaaJDx15
import Derived.Test.YtoecglgbmhhdnaaDiscLaw
namespace Go.Proofs.Ytoecglgbmhhdnaa.JD
open Go.RowKit Go.Proofs.YtoecglgbmhhdnaaW.PrintWords Go.Proofs.YtoecglgbmhhdnaaW.PrintLast Go.Proofs.YtoecglgbmhhdnaaW.PrintMore
attribute [local go_sem] max2_int min2_int max_two min_two max_three min_three max_four min_four   -- for this text's walks alone
set_option linter.unusedVariables false
set_option linter.unusedSimpArgs false

/-! ### ephemeriskeep2_DisciplineHonest: function 5 -/
-- hand
-- body
-- IMPORT Derived.Test.YtoecglgbmhhdnaaDiscLaw
theorem Keeps_.lower {B B' g : Nat} {d f last : Int} {hs : List Bool} {rs : List S62} {w : World} (h : Keeps_ B w g d f last hs rs) (hb : B' ≤ B) : Keeps_ B' w g d f last hs rs := by
  obtain ⟨gh, gr, b1, b2, b3, h⟩ := h
  exact ⟨gh, gr, Nat.le_trans hb b1, Nat.le_trans hb b2, Nat.le_trans hb b3, h⟩
theorem Feed_law {B g : Nat} {d f T q : Int} {L : List S34} {w : World} (i : Nat) (hk : Keeps_ B w g d f (laN (lawF T q L) i) (hsN 7 i) (rsN 7 (lawF T q L) i)) (hB : B ≤ w.heap.size) (hi : i < 7) (hT : -1000000000 < T ∧ T < 1000000000) (S : S34) (hS : lawS T q L i = S) :
    Calls Try.prog 20 #[.pointer (some ⟨g, 0, none⟩), .int .i64 (i : Int), .agg #[.int .i64 (10 + (i : Int)), .int .i64 S.f0, .int .i64 S.f1]] w fun e w' => e = .returned (.int .i64 0) ∧ Keeps_ B w' g d f (laN (lawF T q L) (i + 1)) (hsN 7 (i + 1)) (rsN 7 (lawF T q L) (i + 1)) ∧ Below B w w' := by
  subst hS
  have h := lawS_ok (q := q) (L := L) hT hi
  exact Feed_next (F := lawF T q L) i hk hB hi (by decide) (by show (0 : Int) ≤ 10 + i; omega) (by cases i with | zero => show (0 : Int) ≤ 10 + ((0 : Nat) : Int); omega | succ j => show (10 + (j : Int)) ≤ 10 + ((j + 1 : Nat) : Int); omega) (source_check_ok_ (by show (0 : Int) ≤ 10 + i; omega) (by show 10 + (i : Int) ≤ 1000000000000; omega) (by show (-100000000000000000 : Int) ≤ (lawS T q L i).f0; omega) (by show (lawS T q L i).f0 ≤ (lawS T q L i).f1; omega) (by show (lawS T q L i).f1 ≤ 100000000000000000; omega))
theorem rd_at_ {L : List S34} {i : Nat} (h : i < L.length) : L[i]? = some (rd_T34 L i) := by
  unfold rd_T34
  rw [Int.toNat_natCast, List.getD_eq_getElem?_getD, List.getElem?_eq_getElem h]; rfl
theorem at_same_ (a0 a1 : Int) (w : World) (h : ¬ a1 = 0) : Calls Try.prog 16 #[.int .i64 a0, .int .i64 a1] w fun e w' => e = .returned (.int .i64 (Int.tmod (wrap64 ((Int.tmod a0 a1) + a1)) a1)) ∧ w' = w := by
  have c0 : (a1 == 0) = false := beq_eq_false_iff_ne.mpr h
  go_enter Try.func16, Try.ntmps16
  go_wp2
  go_ret
  exact ⟨rfl, rfl⟩
theorem at_100_ (x : Int) (w : World) : Calls Try.prog 16 #[.int .i64 x, .int .i64 100] w fun e w' => e = .returned (.int .i64 (x % 100)) ∧ w' = w := by
  have h := at_same_ x 100 w (by decide)
  rwa [Go.Proofs.Ytoecglgbmhhdnaa.Own.at_val (by decide) (by decide)] at h
theorem cut6_ {a b x y : Int} (hx : mn (Int.tmod a 1000001) (Int.tmod b 1000001) = x) (hy : mx (Int.tmod a 1000001) (Int.tmod b 1000001) = y) : ephemeriskeep2_cut.f a b 1000000 = some (x, y) := by
  unfold ephemeriskeep2_cut.f
  rw [wrap_in_ (n := 1000000 + 1) (by decide) (by decide), if_neg (by decide), ← hx, ← hy]
  rfl
theorem cut_bd_ {a b x y : Int} (hx : mn (Int.tmod a 1000001) (Int.tmod b 1000001) = x) (hy : mx (Int.tmod a 1000001) (Int.tmod b 1000001) = y) : -1000001 < x ∧ x < 1000001 ∧ -1000001 < y ∧ y < 1000001 := by
  have m1 := Go.Proofs.Ytoecglgbmhhdnaa.Own.tmod_lt (a := a) (m := 1000001) (by omega)
  have m2 := Go.Proofs.Ytoecglgbmhhdnaa.Own.tmod_lt (a := b) (m := 1000001) (by omega)
  unfold mn at hx; unfold mx at hy
  omega
theorem d7_ {i : Nat} (c : i < 7) : decide ((i : Int) < 7) = true := decide_eq_true (by omega)
theorem d7n_ {i : Nat} (c : ¬ i < 7) : decide ((i : Int) < 7) = false := decide_eq_false (by omega)
theorem wr_ {T x : Int} (h : -1000000000 < T ∧ T < 1000000000) (h0 : -5000000 ≤ x) (h1 : x ≤ 5000000) : wrap64 (T + x) = T + x := wrap_in_ (by omega) (by omega)
theorem wr2_ {T x y : Int} (h : -1000000000 < T ∧ T < 1000000000) (h0 : -5000000 ≤ x) (h1 : x ≤ 5000000) (h2 : -5000000 ≤ y) (h3 : y ≤ 5000000) : wrap64 (T + x + y) = T + x + y := wrap_in_ (by omega) (by omega)
theorem wr3_ {T x y : Int} (h : -1000000000 < T ∧ T < 1000000000) (h0 : -5000000 ≤ x) (h1 : x ≤ 5000000) (h2 : -5000000 ≤ y) (h3 : y ≤ 5000000) : wrap64 (T + x - y) = T + x - y := wrap_in_ (by omega) (by omega)
set_option maxHeartbeats 8000000 in
set_option maxRecDepth 100000 in
theorem ephemeriskeep2_DisciplineHonest.calls (a0 a1 a2 : Int) (A3 : Option Addr) (c3 : Nat) (l3 : List S34) (r : Bool) (w : World) (hr3 : Kd.C k34 w A3 l3.length l3) (hc3 : l3.length ≤ c3) (h : ephemeriskeep2_DisciplineHonest.f a0 a1 a2 l3 = some r) :
    Calls Try.prog 5 #[.int .i64 a0, .int .i64 a1, .int .i64 a2, .slice A3 l3.length c3] w fun e w' => e = .returned (.bool r) ∧ Below w.heap.size w w' := by
  have hu34 := Try.underlying34
  have hu62 := Try.underlying62
  have hu32 := Try.underlying32
  obtain rfl := Option.some.inj h
  have HS := Aside0.mk hr3
  clear hr3 hc3 h
  obtain ⟨D, hD⟩ : ∃ D, a0 % 1000 = D := ⟨_, rfl⟩
  obtain ⟨q, hq⟩ : ∃ q, a1 % 3 = q := ⟨_, rfl⟩
  obtain ⟨T, hT⟩ : ∃ T, Int.tmod a2 1000000000 = T := ⟨_, rfl⟩
  have D0 : 0 ≤ D ∧ D ≤ 100000 := by omega
  have q0 : 0 ≤ q ∧ q ≤ 2 := by omega
  have T0 : -1000000000 < T ∧ T < 1000000000 := by rw [← hT]; exact Go.Proofs.Ytoecglgbmhhdnaa.Own.tmod_lt (by omega)
  have AD := Aside0.mk (at_f (a := a0) (m := 1000) (by omega) (by omega))
  have AQ := Aside0.mk (at_f (a := a1) (m := 3) (by omega) (by omega))
  rw [hD] at AD
  rw [hq] at AQ
  obtain ⟨ss, r1, r2, y1, y2, y3, y4, y5⟩ := disc_law D T q l3 D0.1 D0.2 T0 q0.2
  have Y1 := Aside0.mk y1
  have Y2 := Aside0.mk y2
  have Y3 := Aside0.mk y3
  have z1 : decide (r1 ≤ T + 56) = true := decide_eq_true y4
  have z2 : decide (T + 56 ≤ r2) = true := decide_eq_true y5
  have z3 : wrap64 (T + 6) = T + 6 := wr_ T0 (by decide) (by decide)
  have z4 : wrap64 (T + 6 + 50) = T + 56 := by rw [wr2_ T0 (by decide) (by decide) (by decide) (by decide)]; omega
  have BD := Aside0.mk D0
  have BQ := Aside0.mk q0
  have BT := Aside0.mk T0
  clear y1 y2 y3 y4 y5 D0 q0 T0 hD hq
  go_enter Try.func5, Try.ntmps5
  go_wp2_with fail
  refine (ephemeriskeep2_disciplineWorks.calls true _ rfl).mono ?_
  rintro e w1 ⟨rfl, hb⟩
  have HB := Aside0.mk hb
  clear hb
  go_wp2_with (first | (go_at_call 16; (with_reducible refine (ephemeriskeep2_at.calls a0 1000 D _ AD.out).mono ?_); rintro e w' ⟨rfl, ⟨nd, rfl⟩⟩) | (go_at_call 16; (with_reducible refine (ephemeriskeep2_at.calls a1 3 q _ AQ.out).mono ?_); rintro e w' ⟨rfl, ⟨nd2, rfl⟩⟩))
  refine (New_keeps D 2 7 _ BD.out.1 BD.out.2 (by decide) (by decide) (by decide) (by decide)).mono ?_
  rintro e w2 ⟨g, rfl, hk, hb⟩
  have HK2 : Aside0 (Keeps_ w.heap.size w2 g D 2 (laN (lawF T q l3) 0) (hsN 7 0) (rsN 7 (lawF T q l3) 0)) := ⟨hk.lower HB.out.size⟩
  have HB2 := Aside0.mk (below_step (pw_below_drewN HB.out _) hb)
  clear hk hb HB AD AQ hT
  go_wp2_with fail
  go_loopg [34] 7 (fun kq v34 wr => ∃ i : Nat, Aside0 (kq + i = 7) ∧ v34 = .int .i64 (i : Int) ∧ Aside0 (Keeps_ w.heap.size wr g D 2 (laN (lawF T q l3) i) (hsN 7 i) (rsN 7 (lawF T q l3) i)) ∧ Aside0 (Below w.heap.size w wr))
  case atStart => exact ⟨0, ⟨by decide⟩, rfl, HK2, HB2⟩
  case round =>
    clear HK2 HB2
    obtain ⟨i, hi, rfl, HK, HB⟩ := hrel
    by_cases c : i < 7
    · have c1 := d7_ c
      have C := Aside0.mk c
      have x1 : wrap64 (T + (i : Int)) = T + i := wr_ BT.out (by omega) (by omega)
      have x2 : wrap64 (T + (i : Int) - 3) = T + i - 3 := wr3_ BT.out (by omega) (by omega) (by decide) (by decide)
      have x3 : wrap64 (T + (i : Int) + 3) = T + i + 3 := wr2_ BT.out (by omega) (by omega) (by decide) (by decide)
      have x4 : wrap64 (10 + (i : Int)) = 10 + i := wrap_in_ (by omega) (by omega)
      have x5 := e4_ c (show 7 ≤ 40 by decide)
      clear c
      by_cases cl : i < l3.length
      · have c2 := d1_ cl
        obtain ⟨ad, e0, hx0, hx1⟩ := at_T34 HS.out i (Int.natCast_nonneg i) (Int.ofNat_lt.mpr cl)
        cases e0
        rw [Int.toNat_natCast] at hx0 hx1
        have hls := Aside0.mk (rd_at_ cl)
        generalize rd_T34 l3 i = s at hx0 hx1 hls
        have b0 := World.block_lt_of_cell? w _ hx0
        have CL := Aside0.mk cl
        have q1 : (0 ≤ (i : Int)) = True := e1_
        have q2 := e2_ cl
        have m0 := Aside0.mk (at_f (a := s.f0) (m := 100) (by decide) (by decide))
        have m1 := Aside0.mk (at_f (a := s.f1) (m := 100) (by decide) (by decide))
        have p0 : 0 ≤ s.f0 % 100 ∧ s.f0 % 100 < 100 := by omega
        have p1 : 0 ≤ s.f1 % 100 ∧ s.f1 % 100 < 100 := by omega
        have ci := C.out
        have x6 : wrap64 (T + (i : Int) - s.f0 % 100) = T + i - s.f0 % 100 := wr3_ BT.out (by omega) (by omega) (by omega) (by omega)
        have x7 : wrap64 (T + (i : Int) + s.f1 % 100) = T + i + s.f1 % 100 := wr2_ BT.out (by omega) (by omega) (by omega) (by omega)
        clear p0 p1 ci
        have X0 := Aside0.mk hx0
        have X1 := Aside0.mk hx1
        have B0 := Aside0.mk b0
        clear hx0 hx1 b0
        go_wp2_with fail
        have HBr1 := Aside0.mk (below_alloc (Below.refl wr.heap.size wr) (.cells #[.int .i64 (T + i - 3), .int .i64 (T + i + 3)] 34))
        have HX1 := Aside0.mk (blk_new wr (.cells #[.int .i64 (T + i - 3), .int .i64 (T + i + 3)] 34))
        have HG1 := Aside0.mk HB.out.size
        generalize wr.alloc (.cells #[.int .i64 (T + i - 3), .int .i64 (T + i + 3)] 34) = W1 at *
        obtain ⟨gs, hgs⟩ : ∃ gs, wr.heap.size = gs := ⟨_, rfl⟩
        have HGS := Aside0.mk hgs
        rw [hgs] at HBr1 HX1 HG1 ⊢
        clear hgs
        have hx0 := pw_cell_below (below_step HB.out (HGS.out ▸ HBr1.out)) X0.out
        have hx1 := pw_cell_below (below_step HB.out (HGS.out ▸ HBr1.out)) X1.out
        go_still_tail 21, (by kernel_rfl)
        still_call (at_100_ s.f0 _)
        repeat still_step
        still_call (at_100_ s.f1 _)
        repeat still_step
        refine wpStill_nil ?_
        change wpList _ _ _ _ _ W1.drew
        have HBr2 := Aside0.mk (below_drew HBr1.out)
        have HX4 : Aside0 (W1.drew.heap[gs]? = some (.cells #[.int .i64 (T + i - 3), .int .i64 (T + i + 3)] 34 (0, 0))) := ⟨HX1.out⟩
        clear HBr1 HX1 hx0 hx1
        generalize W1.drew = W2 at *
        have s0 : W2.cell? ⟨gs, 0, none⟩ = some (.int .i64 (T + i - 3)) := (blk_cell HX4.out 0).trans rfl
        have s1 : W2.cell? ⟨gs, 1, none⟩ = some (.int .i64 (T + i + 3)) := (blk_cell HX4.out 1).trans rfl
        have sf0 := blk_frozen HX4.out 0
        have sf1 := blk_frozen HX4.out 1
        have HX3 : Aside0 (((W2.setCell ⟨gs, 0, none⟩ (.int .i64 (T + i - s.f0 % 100))).setCell ⟨gs, 1, none⟩ (.int .i64 (T + i + s.f1 % 100))).heap[gs]? = some (.cells #[.int .i64 (T + i - s.f0 % 100), .int .i64 (T + i + s.f1 % 100)] 34 (0, 0))) := ⟨blk_put (blk_put HX4.out 0 _ rfl) 1 _ rfl⟩
        have HBr3 : Aside0 (Below gs wr ((W2.setCell ⟨gs, 0, none⟩ (.int .i64 (T + i - s.f0 % 100))).setCell ⟨gs, 1, none⟩ (.int .i64 (T + i + s.f1 % 100)))) := ⟨below_setg (below_setg HBr2.out (Nat.le_refl _)) (Nat.le_refl _)⟩
        by_cases cq : (i : Int) < q
        · have c3 : decide ((i : Int) < q) = true := decide_eq_true cq
          obtain ⟨x, hx⟩ : ∃ x, mn (Int.tmod s.f0 1000001) (Int.tmod s.f1 1000001) = x := ⟨_, rfl⟩
          obtain ⟨y, hy⟩ : ∃ y, mx (Int.tmod s.f0 1000001) (Int.tmod s.f1 1000001) = y := ⟨_, rfl⟩
          have HC := Aside0.mk (cut6_ hx hy)
          have hxy := cut_bd_ hx hy
          have x8 : wrap64 (x + T) = x + T := by rw [Int.add_comm]; exact wr_ BT.out (by omega) (by omega)
          have x9 : wrap64 (y + T) = y + T := by rw [Int.add_comm]; exact wr_ BT.out (by omega) (by omega)
          have HP : Aside0 (ephemeriskeep2_plus.f x y T T = some (x + T, y + T)) := ⟨by unfold ephemeriskeep2_plus.f; rw [x8, x9]⟩
          have HS2 : Aside0 (lawS T q l3 i = ⟨x + T, y + T⟩) := ⟨by unfold lawS; rw [hls.out]; dsimp only; rw [if_pos cq, hx, hy]⟩
          clear hxy hx hy x8 x9
          go_upto_region 14 with (fail)
          clear s0 s1 sf0 sf1 HX4 HBr2
          generalize (W2.setCell ⟨gs, 0, none⟩ (.int .i64 (T + i - s.f0 % 100))).setCell ⟨gs, 1, none⟩ (.int .i64 (T + i + s.f1 % 100)) = W3 at *
          have hx0 := pw_cell_below (below_step HB.out (HGS.out ▸ HBr3.out)) X0.out
          have hx1 := pw_cell_below (below_step HB.out (HGS.out ▸ HBr3.out)) X1.out
          go_wp2_with fail
          refine (ephemeriskeep2_cut.calls s.f0 s.f1 1000000 x y _ HC.out).mono ?_
          rintro e w5 ⟨rfl, hb⟩
          have HX5 := Aside0.mk (blk_below HX3.out hb)
          have HBr5 := Aside0.mk (below_step (HGS.out ▸ HBr3.out : Below wr.heap.size wr _) hb)
          clear hb hx0 hx1 HX3 HBr3
          go_wp2_with fail
          refine (ephemeriskeep2_plus.calls x y T T (x + T) (y + T) _ HP.out).mono ?_
          rintro e w6 ⟨rfl, hb⟩
          have HX6 := Aside0.mk (blk_below HX5.out hb)
          have HBr6 := Aside0.mk (below_step HBr5.out hb)
          clear hb HX5 HBr5
          have s0 : w6.cell? ⟨gs, 0, none⟩ = some (.int .i64 (T + i - s.f0 % 100)) := (blk_cell HX6.out 0).trans rfl
          have s1 : w6.cell? ⟨gs, 1, none⟩ = some (.int .i64 (T + i + s.f1 % 100)) := (blk_cell HX6.out 1).trans rfl
          have sf0 := blk_frozen HX6.out 0
          have sf1 := blk_frozen HX6.out 1
          have HBr7 : Aside0 (Below wr.heap.size wr ((w6.setCell ⟨gs, 0, none⟩ (.int .i64 (x + T))).setCell ⟨gs, 1, none⟩ (.int .i64 (y + T)))) := ⟨below_setg (below_setg HBr6.out (Nat.le_of_eq HGS.out)) (Nat.le_of_eq HGS.out)⟩
          go_wp2_with fail
          refine (Feed_law i (HK.out.moved HBr7.out) (below_step HB.out HBr7.out).size C.out BT.out _ HS2.out).mono ?_
          rintro e w5 ⟨rfl, hk, hb⟩
          have HK3 := Aside0.mk hk
          have HB3 := Aside0.mk ((below_step HB.out HBr7.out).trans hb)
          clear HK HB hk hb
          go_wp2_with fail
          go_roundg (gk - 1)
          case measure => exact m1_ C.out hi.out
          case rel => exact ⟨i + 1, ⟨m2_ C.out hi.out⟩, (by first | rfl | (rw [e4_ C.out (show 7 ≤ 40 by decide)]; rfl)), HK3, HB3⟩
        · have c3 : decide ((i : Int) < q) = false := decide_eq_false cq
          have HS2 : Aside0 (lawS T q l3 i = ⟨T + i - s.f0 % 100, T + i + s.f1 % 100⟩) := ⟨by unfold lawS; rw [hls.out]; dsimp only; rw [if_neg cq]⟩
          have HBr7 : Aside0 (Below wr.heap.size wr ((W2.setCell ⟨gs, 0, none⟩ (.int .i64 (T + i - s.f0 % 100))).setCell ⟨gs, 1, none⟩ (.int .i64 (T + i + s.f1 % 100)))) := ⟨HGS.out ▸ HBr3.out⟩
          go_wp2_with fail
          refine (Feed_law i (HK.out.moved HBr7.out) (below_step HB.out HBr7.out).size C.out BT.out _ HS2.out).mono ?_
          rintro e w5 ⟨rfl, hk, hb⟩
          have HK3 := Aside0.mk hk
          have HB3 := Aside0.mk ((below_step HB.out HBr7.out).trans hb)
          clear HK HB hk hb
          go_wp2_with fail
          go_roundg (gk - 1)
          case measure => exact m1_ C.out hi.out
          case rel => exact ⟨i + 1, ⟨m2_ C.out hi.out⟩, (by first | rfl | (rw [e4_ C.out (show 7 ≤ 40 by decide)]; rfl)), HK3, HB3⟩
      · have c2 := d2_ cl
        have hS : lawS T q l3 i = ⟨T + i - 3, T + i + 3⟩ := by unfold lawS; rw [List.getElem?_eq_none (Nat.le_of_not_lt cl)]
        have HS2 := Aside0.mk hS
        clear hS
        go_wp2_with fail
        refine (Feed_law i (HK.out.moved (below_alloc (Below.refl _ wr) _)) (below_alloc HB.out _).size C.out BT.out _ HS2.out).mono ?_
        rintro e w5 ⟨rfl, hk, hb⟩
        have HK3 := Aside0.mk hk
        have HB3 := Aside0.mk ((below_alloc HB.out _).trans hb)
        clear HK HB hk hb
        go_wp2_with fail
        go_roundg (gk - 1)
        case measure => exact m1_ C.out hi.out
        case rel => exact ⟨i + 1, ⟨m2_ C.out hi.out⟩, (by first | rfl | (rw [e4_ C.out (show 7 ≤ 40 by decide)]; rfl)), HK3, HB3⟩
    · have c1 := d7n_ c
      have hin : i = 7 := m3_ c hi.out
      subst hin
      clear c
      go_wp2_with fail
      refine (Read_keeps w.heap.size g 7 41 300 D 2 16 66 r1 r2 (rsN 7 (lawF T q l3) 7) ss wr HK.out (by decide) rfl (by decide) (by decide) (by decide) (by decide) (by decide) Y1.out Y2.out (show agree_Within.f 300 ss (((7 : Nat) : Int) - 2) = some (r1, r2, 0) from Y3.out)).mono ?_
      rintro e w5 ⟨rfl, hb⟩
      have HB5 := Aside0.mk (below_step HB.out hb)
      clear HK HB hb
      go_wp2
      go_ret
      refine ⟨rfl, ?_⟩
      repeat (first | exact HB5.out | apply below_drew | apply pw_below_drewN | apply below_alloc)

end Go.Proofs.Ytoecglgbmhhdnaa.JD
