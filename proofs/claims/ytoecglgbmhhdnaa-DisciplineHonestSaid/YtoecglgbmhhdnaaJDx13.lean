-- Made by a program of this session (wip/hp.py, over the kit's print) out of the translation. Not trusted: Lean checks it.
import Derived.Test.YtoecglgbmhhdnaaJDx0
import Derived.Test.YtoecglgbmhhdnaaJDx1
import Derived.Test.YtoecglgbmhhdnaaJDx2
import Derived.Test.YtoecglgbmhhdnaaJDx5
import Derived.Test.YtoecglgbmhhdnaaJDx9
import Derived.Test.YtoecglgbmhhdnaaJDx12
namespace Go.Proofs.Ytoecglgbmhhdnaa.JD
open Go.RowKit Go.Proofs.YtoecglgbmhhdnaaW.PrintWords Go.Proofs.YtoecglgbmhhdnaaW.PrintLast Go.Proofs.YtoecglgbmhhdnaaW.PrintMore
attribute [local go_sem] max2_int min2_int max_two min_two max_three min_three max_four min_four   -- for this text's walks alone
set_option linter.unusedVariables false
set_option linter.unusedSimpArgs false

/-! ### discipline_Keeper_Read: function 21 -/
-- hand
-- raw
theorem aL_ (rs : List S62) (i : Nat) (h : rs.length ≤ 40) : ((rs.take i).length + 1) * 24 ≤ 140737488355328 := by
  rw [List.length_take]; omega
theorem m1_ {gk i n : Nat} (c : i < n) (h : gk + i = n) : gk - 1 < gk := by omega
theorem m3_ {gk i n : Nat} (c : ¬ i < n) (h : gk + i = n) : i = n := by omega
theorem d1_ {i n : Nat} (c : i < n) : decide ((i : Int) < (n : Int)) = true := decide_eq_true (by omega)
theorem d2_ {i n : Nat} (c : ¬ i < n) : decide ((i : Int) < (n : Int)) = false := decide_eq_false (by omega)
theorem e1_ {i : Nat} : (0 ≤ (i : Int)) = True := eq_true (by omega)
theorem e2_ {i n : Nat} (c : i < n) : ((i : Int) < (n : Int)) = True := eq_true (by omega)
theorem e3_ {i n m : Nat} (c : i < n) (h : m = n) : ((i : Int) < (m : Int)) = True := eq_true (by omega)
theorem e4_ {i n : Nat} (c : i < n) (h : n ≤ 40) : wrap64 ((i : Int) + 1) = (i : Int) + 1 := wrap_in_ (by omega) (by omega)
theorem m2_ {gk i n : Nat} (c : i < n) (h : gk + i = n) : gk - 1 + (i + 1) = n := by omega
set_option maxHeartbeats 8000000 in
set_option maxRecDepth 100000 in
theorem Read_keeps (B g n k k2 : Nat) (d f last tick r1 r2 : Int) (rs : List S62) (ss : List S34) (w : World) (hk : Keeps_ B w g d f last (List.replicate n true) rs) (h40 : n ≤ 40) (hl : rs.length = n)
    (t0 : 0 ≤ tick) (t1 : last ≤ tick) (t2 : tick ≤ 1000000000000) (f0 : 0 ≤ f) (f1 : 2 * f < n) (ha : source_All.f k d rs tick = some (ss, 0)) (hsl : ss.length = n) (hw : agree_Within.f k2 ss ((n : Int) - f) = some (r1, r2, 0)) :
    Calls Try.prog 21 #[.pointer (some ⟨g, 0, none⟩), .int .i64 tick] w fun e w' => e = .returned (.tuple #[.agg #[.int .i64 r1, .int .i64 r2], .int .i64 0]) ∧ Below w.heap.size w w' := by
  have hu84 := Try.underlying84
  have hu81 := Try.underlying81
  have hu82 := Try.underlying82
  have hu62 := Try.underlying62
  have hu34 := Try.underlying34
  have hu32 := Try.underlying32
  have w1 : wrap64 (2 * f) = 2 * f := wrap_in_ (by omega) (by omega)
  have w2 : wrap64 ((n : Int) - f) = (n : Int) - f := wrap_in_ (by omega) (by omega)
  have c1 : decide (tick < 0) = false := decide_eq_false (by omega)
  have c2 : decide (1000000000000 < tick) = false := decide_eq_false (by omega)
  have c3 : decide (tick < last) = false := decide_eq_false (by omega)
  have c4 : decide ((n : Int) ≤ 2 * f) = false := decide_eq_false (by omega)
  have hk0 := Aside0.mk hk
  obtain ⟨gh, gr, b1, b2, b3, n1, n2, n3, HG, HH, HR⟩ := hk
  rw [List.length_replicate] at HG
  have HG0 := Aside0.mk HG
  have HH0 := Aside0.mk HH
  have HR0 := Aside0.mk HR
  have d2 : w.cell? ⟨g, 2, none⟩ = some (.int .i64 last) := (blk_cell HG 2).trans rfl
  have lg := blk_lt HG
  clear HG HH HR
  go_enter Try.func21, Try.ntmps21
  go_wp2_with fail
  have hk3 := Aside0.mk (hk0.out.moved (below_alloc (Below.refl _ w) (.cells #[.int .i64 0, .int .i64 0] 34)))
  have HX3 := Aside0.mk (blk_new w (.cells #[.int .i64 0, .int .i64 0] 34))
  have HB3 := Aside0.mk (below_alloc (Below.refl w.heap.size w) (.cells #[.int .i64 0, .int .i64 0] 34))
  have HG3 := Aside0.mk (blk_alloc HG0.out (.cells #[.int .i64 0, .int .i64 0] 34))
  clear d2
  generalize w.alloc (.cells #[.int .i64 0, .int .i64 0] 34) = w3 at *
  have d1 : w3.cell? ⟨g, 1, none⟩ = some (.int .i64 f) := (blk_cell HG3.out 1).trans rfl
  have d3 : w3.cell? ⟨g, 3, none⟩ = some (.slice (some ⟨gh, 0, none⟩) n n) := (blk_cell HG3.out 3).trans rfl
  have hcall : ∀ m : Nat, Calls Try.prog 38 #[.pointer (some ⟨g, 0, none⟩)] (w3.drewN m) fun e w' => e = .returned (.int .i64 n) ∧ ∃ m', w' = w3.drewN m' := fun m => (Heard_keeps B g n d f last rs (w3.drewN m) hk3.out h40).mono (by rintro e w' ⟨rfl, ⟨nd, rfl⟩⟩; exact ⟨rfl, _, World.drewN_drewN _ _ _⟩)
  go_quiet (first | (go_at_call 38; exact hcall _))
  go_wp2_with fail
  have A40 := Aside0.mk h40
  have AL := Aside0.mk hl
  have AS := Aside0.mk hsl
  have AF := Aside0.mk f0
  have AG := Aside0.mk f1
  clear h40 hl hsl f0 f1 t0 t1 t2 w1 c1 c2 c3 c4
  go_loopg [6, 39] n (fun kq v6 v39 wr => ∃ i : Nat, Aside0 (kq + i = n) ∧ v39 = .int .i64 (i : Int) ∧ Aside0 (Kd.R k62 62 wr w.heap.size (fun k => k ≠ w.heap.size) v6 (rs.take i)) ∧ Aside0 (wr.heap[w.heap.size]? = some (.cells #[.int .i64 0, .int .i64 0] 34 (0, 0))) ∧ Aside0 (Below w.heap.size w wr))
  case atStart => exact ⟨0, ⟨by omega⟩, rfl, ⟨Kd.R_nil _ _ _ _ _⟩, ⟨HX3.out⟩, ⟨pw_below_drewN HB3.out _⟩⟩
  case round =>
    clear d1 d3 HG3 HX3 HB3 hk3
    obtain ⟨i, hi, rfl, HO, HX, HB⟩ := hrel
    by_cases c : i < n
    · have c1 := d1_ c
      have e0 := hcs_cell (blk_mono_ HB.out HH0.out) (show (List.replicate n true)[i]? = some true by rw [List.getElem?_replicate, if_pos c])
      have q1 : (0 ≤ (i : Int)) = True := e1_
      have q2 := e2_ c
      have q3 := e3_ c AL.out
      have w3 := e4_ c A40.out
      obtain ⟨x, hx⟩ : ∃ x, rs[i]? = some x := ⟨rs[i]'(AL.out ▸ c), List.getElem?_eq_getElem (AL.out ▸ c)⟩
      obtain ⟨e1, e2, e3⟩ := rcs_cell (blk_mono_ HB.out HR0.out) hx
      have d4 : wr.cell? ⟨g, 4, none⟩ = some (.slice (some ⟨gr, 0, none⟩) rs.length rs.length) := (blk_cell (blk_mono_ HB.out HG0.out) 4).trans rfl
      have ht : rs.take (i + 1) = rs.take i ++ [x] := by rw [List.take_add_one, hx]; rfl
      go_wp2_with (first | ((with_reducible refine gate_dst (N := 54) rfl ?_); refine Kd.R_append k62 (w0 := w) w.heap.size rfl (.tmp 45) (.tmp 53) 82 62 (.agg #[.int .i64 0, .int .i64 0, .int .i64 0]) 24 rfl Try.underlying82 info62_ rfl (by decide) (by decide) _ (rs.take i) x [.int .i64 x.f0, .int .i64 x.f1.f0, .int .i64 x.f1.f1] (fun k => k ≠ w.heap.size) (fun _ => False) rfl (by first | (go_simp; done) | (go_simp; rfl)) (k62_mkM _ _ _ x) (fun _ hk => hk.elim) ?aF HO.out HB.out ?aS ?aL ?_; (case aF => have h1 := Kd.freshB HX.out; exact h1); (case aS => exact HB.out.size); (case aL => exact aL_ rs i (Nat.le_trans (Nat.le_of_eq AL.out) A40.out));  intro v1 w5 ho hb hg hnew; have HO2 : Aside0 (Kd.R k62 62 w5 w.heap.size (fun k => k ≠ w.heap.size) v1 (rs.take (i + 1))) := ⟨by rw [ht]; exact ho⟩; have HX2 := Aside0.mk (blk_grown HX.out hg (Kd.R_ne HO.out HX.out (by decide))); have HB2 := Aside0.mk hb; clear HO HX HB ho hb hg hnew))
      go_roundg (gk - 1)
      case measure => exact m1_ c hi.out
      case rel => exact ⟨i + 1, ⟨m2_ c hi.out⟩, (by rw [e4_ c A40.out]; rfl), HO2, HX2, HB2⟩
    · have c1 := d2_ c
      have hin : i = n := m3_ c hi.out
      subst hin
      have HG4 := Aside0.mk (blk_mono_ HB.out HG0.out)
      have d0 : wr.cell? ⟨g, 0, none⟩ = some (.int .i64 d) := (blk_cell HG4.out 0).trans rfl
      have hrt : rs.take i = rs := List.take_of_length_le (Nat.le_of_eq AL.out)
      rw [hrt] at HO
      obtain ⟨A, cc, hv, hcc, HC⟩ := Kd.R_reads HO.out
      have HC0 := Aside0.mk HC
      have HCC := Aside0.mk hcc
      clear HC hcc
      subst hv
      go_wp2_with fail
      refine (source_All.calls k d A cc rs tick ss 0 wr HC0.out HCC.out ha).mono ?_
      rintro e w5 ⟨v, rfl, ho, hb⟩
      have HG5 := Aside0.mk (blk_below HG4.out hb)
      have HX5 := Aside0.mk (blk_below HX.out hb)
      have HB5 := Aside0.mk (below_step HB.out hb)
      obtain ⟨A2, cc2, hv, hcc2, HC2⟩ := Kd.R_reads ho
      have HC3 := Aside0.mk HC2
      have HCC3 := Aside0.mk hcc2
      clear HC2 hcc2 ho hb d0 HC0 HCC HG4
      subst hv
      have d1 : w5.cell? ⟨g, 1, none⟩ = some (.int .i64 f) := (blk_cell HG5.out 1).trans rfl
      have hss := AS.out
      go_wp2_with fail
      have hcall := agree_Within.calls k2 A2 cc2 ss ((i : Int) - f) r1 r2 0 w5 HC3.out HCC3.out hw
      rw [AS.out] at hcall
      refine hcall.mono ?_
      rintro e w6 ⟨rfl, hb⟩
      have HX6 := Aside0.mk (blk_below HX5.out hb)
      have HB6 := Aside0.mk (below_step HB5.out hb)
      clear hb d1
      have r0 : w6.cell? ⟨w.heap.size, 0, none⟩ = some (.int .i64 0) := (blk_cell HX6.out 0).trans rfl
      have r1' : w6.cell? ⟨w.heap.size, 1, none⟩ = some (.int .i64 0) := (blk_cell HX6.out 1).trans rfl
      have rf0 := blk_frozen HX6.out 0
      have rf1 := blk_frozen HX6.out 1
      go_wp2
      refine bodyPost_ret (results_ct rfl _ _ w.heap.size 34 #[.int .i64 r1, .int .i64 r2] (0, 0) _ rfl (by
        (with_reducible repeat (first | refine blk_drewN ?_ _ | refine blk_drew ?_ | refine blk_alloc ?_ _)); refine blk_put (cs := #[.int .i64 r1, .int .i64 0]) ?_ 1 _ rfl; (with_reducible repeat (first | refine blk_drewN ?_ _ | refine blk_drew ?_ | refine blk_alloc ?_ _)); refine blk_put (cs := #[.int .i64 0, .int .i64 0]) ?_ 0 _ rfl; (with_reducible repeat (first | refine blk_drewN ?_ _ | refine blk_drew ?_ | refine blk_alloc ?_ _)); exact HX6.out) Try.underlying34 rfl (by kernel_rfl)) rfl ⟨rfl, ?_⟩
      repeat (first | exact HB6.out | apply below_drew | apply pw_below_drewN | apply below_alloc | refine below_set ?_ (Nat.le_refl _))

/-! ### ephemeriskeep2_disciplineWorks: function 15 -/
-- hand
-- body
/-- what is heard and read behind i calls of Feed -/
def hsN (n : Nat) : Nat → List Bool
  | 0 => List.replicate n false
  | i + 1 => (hsN n i).set i true
def rsN (n : Nat) (F : Nat → S62) : Nat → List S62
  | 0 => List.replicate n z62
  | i + 1 => (rsN n F i).set i (F i)
def laN (F : Nat → S62) : Nat → Int
  | 0 => 0
  | i + 1 => (F i).f0
theorem hsN_len (n : Nat) : ∀ i, (hsN n i).length = n
  | 0 => by simp [hsN]
  | i + 1 => by rw [hsN, List.length_set, hsN_len n i]
theorem rsN_len (n : Nat) (F : Nat → S62) : ∀ i, (rsN n F i).length = n
  | 0 => by simp [rsN]
  | i + 1 => by rw [rsN, List.length_set, rsN_len n F i]
theorem Feed_next {B g n : Nat} {d f : Int} {F : Nat → S62} {w : World} (i : Nat) (hk : Keeps_ B w g d f (laN F i) (hsN n i) (rsN n F i)) (hB : B ≤ w.heap.size) (hi : i < n) (hn : n ≤ 40) (t0 : 0 ≤ (F i).f0) (t1 : laN F i ≤ (F i).f0) (hc : source_Check.f 1 (F i).f0 (F i).f1.f0 (F i).f1.f1 = some 0) :
    Calls Try.prog 20 #[.pointer (some ⟨g, 0, none⟩), .int .i64 (i : Int), .agg #[.int .i64 (F i).f0, .int .i64 (F i).f1.f0, .int .i64 (F i).f1.f1]] w fun e w' => e = .returned (.int .i64 0) ∧ Keeps_ B w' g d f (laN F (i + 1)) (hsN n (i + 1)) (rsN n F (i + 1)) ∧ Below B w w' :=
  Feed_keeps B g i d f _ _ _ _ _ _ w hk hB (by rw [hsN_len]; exact hi) (by rw [hsN_len, rsN_len]) (by rw [hsN_len]; exact hn) t0 t1 hc
def exF (i : Nat) : S62 := ⟨i, ⟨10 * i, 10 * i + 15⟩⟩
theorem exAll : source_All.f 9 0 (rsN 3 exF 3) 2 = some ([⟨2, 17⟩, ⟨11, 26⟩, ⟨20, 35⟩], 0) := by kernel_rfl
theorem exWithin : agree_Within.f 99 [⟨2, 17⟩, ⟨11, 26⟩, ⟨20, 35⟩] 2 = some (11, 26, 0) := by kernel_rfl
theorem exCheck (i : Nat) (h : i < 3) : source_Check.f 1 (exF i).f0 (exF i).f1.f0 (exF i).f1.f1 = some 0 := source_check_ok_ (by show (0 : Int) ≤ i; omega) (by show (i : Int) ≤ 1000000000000; omega) (by show (-100000000000000000 : Int) ≤ 10 * i; omega) (by show (10 * i : Int) ≤ 10 * i + 15; omega) (by show (10 * i + 15 : Int) ≤ 100000000000000000; omega)
set_option maxHeartbeats 8000000 in
set_option maxRecDepth 100000 in
theorem ephemeriskeep2_disciplineWorks.calls (r : Bool) (w : World) (h : ephemeriskeep2_disciplineWorks.f = some r) :
    Calls Try.prog 15 #[] w fun e w' => e = .returned (.bool r) ∧ Below w.heap.size w w' := by
  have hu34 := Try.underlying34
  have hu62 := Try.underlying62
  obtain rfl := Option.some.inj h
  go_enter Try.func15, Try.ntmps15
  go_wp2_with fail
  refine (New_keeps 0 1 3 w (by decide) (by decide) (by decide) (by decide) (by decide) (by decide)).mono ?_
  rintro e w1 ⟨g, rfl, hk, hb⟩
  have HK := Aside0.mk hk
  have HB := Aside0.mk hb
  clear hk hb
  go_wp2_with fail
  go_loopg [16] 3 (fun kq v16 wr => ∃ i : Nat, Aside0 (kq + i = 3) ∧ v16 = .int .i64 (i : Int) ∧ Aside0 (Keeps_ w.heap.size wr g 0 1 (laN exF i) (hsN 3 i) (rsN 3 exF i)) ∧ Aside0 (Below w.heap.size w wr))
  case atStart => exact ⟨0, ⟨by decide⟩, rfl, HK, HB⟩
  case round =>
    clear HK HB
    obtain ⟨i, hi, rfl, HK, HB⟩ := hrel
    by_cases c : i < 3
    · have c1 : decide ((i : Int) < 3) = true := decide_eq_true (by omega)
      have C := Aside0.mk c
      have w1 : wrap64 (10 * (i : Int)) = 10 * (i : Int) := wrap_in_ (by omega) (by omega)
      have w2 : wrap64 (10 * (i : Int) + 15) = 10 * (i : Int) + 15 := wrap_in_ (by omega) (by omega)
      have w3 := e4_ c (by decide)
      clear c
      go_wp2_with fail
      refine (Feed_next (F := exF) i HK.out HB.out.size C.out (by decide) (by show (0 : Int) ≤ i; omega) (by cases i with | zero => exact Int.le_refl _ | succ j => show (j : Int) ≤ ((j + 1 : Nat) : Int); omega) (exCheck i C.out)).mono ?_
      rintro e w5 ⟨rfl, hk, hb⟩
      have HK2 := Aside0.mk hk
      have HB2 := Aside0.mk (HB.out.trans hb)
      clear HK HB hk hb
      go_wp2_with fail
      go_roundg (gk - 1)
      case measure => exact m1_ C.out hi.out
      case rel => exact ⟨i + 1, ⟨m2_ C.out hi.out⟩, (by first | rfl | (rw [e4_ C.out (by decide)]; rfl)), HK2, HB2⟩
    · have c1 : decide ((i : Int) < 3) = false := decide_eq_false (by omega)
      have hin : i = 3 := by have := hi.out; omega
      subst hin
      go_wp2_with fail
      refine (Read_keeps w.heap.size g 3 9 99 0 1 2 2 11 26 (rsN 3 exF 3) _ wr HK.out (by decide) rfl (by decide) (by decide) (by decide) (by decide) (by decide) exAll rfl exWithin).mono ?_
      rintro e w5 ⟨rfl, hb⟩
      have HK5 := Aside0.mk (HK.out.moved hb)
      have HB5 := Aside0.mk (below_step HB.out hb)
      clear HK HB hb
      go_wp2_with fail
      refine (Heard_keeps w.heap.size g 3 0 1 2 (rsN 3 exF 3) _ (HK5.out.moved (below_alloc (Below.refl _ w5) _)) (by decide)).mono ?_
      rintro e w6 ⟨rfl, nd, rfl⟩
      go_wp2
      go_ret
      refine ⟨rfl, ?_⟩
      repeat (first | exact HB5.out | apply below_drew | apply pw_below_drewN | apply below_alloc)

end Go.Proofs.Ytoecglgbmhhdnaa.JD
