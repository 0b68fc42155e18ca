/- Readings of seven sources, of which at most two are wrong: what source.All and agree.Within tell of them. No condition on a program. -/
import Derived.Test.YtoecglgbmhhdnaaJDx1
import Derived.Test.YtoecglgbmhhdnaaJDx13
import Derived.Test.YtoecglgbmhhdnaaAgreeWide
namespace Go.Proofs.Ytoecglgbmhhdnaa.JD
open Go.Proofs.Ytoecglgbmhhdnaa.Own Go.RowKit Go.Proofs.YtoecglgbmhhdnaaW.PrintWords Go.Proofs.YtoecglgbmhhdnaaW.PrintLast

abbrev Rd := S62

theorem fl_val {a b : Int} (hb : 0 < b) (hb' : b ≤ 9000000000000000000) (ha : -9000000000000000000 ≤ a) (ha' : a ≤ 9000000000000000000) : interval_Floor.f a b = some (a / b) := by
  have e := Int.emod_add_mul_ediv a b
  have m0 := Int.emod_nonneg a (show b ≠ 0 by omega)
  have m1 := Int.emod_lt_of_pos a hb
  unfold interval_Floor.f
  rw [if_neg (by omega)]
  rcases Int.le_total 0 a with h0 | h0
  · have d0 : 0 ≤ a / b := Int.ediv_nonneg h0 (by omega)
    have d1 : a / b ≤ a := Int.ediv_le_self _ h0
    rw [tdiv_nn h0, wrap_in (n := a / b) (by omega) (by omega), decide_eq_false (show ¬ a < 0 by omega), decide_eq_false (show ¬ b < 0 by omega)]
    simp
  · have hm : Int.tmod a b = -((-a) % b) := by rw [← Int.tmod_eq_emod_of_nonneg (by omega), Int.neg_tmod, Int.neg_neg]
    have hd : Int.tdiv a b = -((-a) / b) := by rw [← Int.tdiv_eq_ediv_of_nonneg (by omega), Int.neg_tdiv, Int.neg_neg]
    have e' := Int.emod_add_mul_ediv (-a) b
    have m0' := Int.emod_nonneg (-a) (show b ≠ 0 by omega)
    have m1' := Int.emod_lt_of_pos (-a) hb
    have d0 : 0 ≤ (-a) / b := Int.ediv_nonneg (by omega) (by omega)
    have d1 : (-a) / b ≤ -a := Int.ediv_le_self _ (by omega)
    rw [hm, hd, wrap_in (n := -((-a) / b)) (by omega) (by omega)]
    clear hm hd e m0 m1
    generalize (-a) / b = q at *
    generalize (-a) % b = m at *
    have n1 : b * (-q) = -(b * q) := Int.mul_neg b q
    have bq : 0 ≤ b * q := Int.mul_nonneg (by omega) d0
    have n2 : b * (-q - 1) = -(b * q) - b := by rw [Int.mul_sub, n1, Int.mul_one]
    by_cases z : m = 0
    · rw [if_pos (by omega)]
      congr 1
      rw [show a = b * (-q) by omega, Int.mul_ediv_cancel_left _ (by omega)]
    · rw [if_neg (by omega), decide_eq_true (show a < 0 by omega), decide_eq_false (show ¬ b < 0 by omega), wrap_in (by omega) (by omega)]
      simp only [Bool.true_bne, Bool.not_false, if_true]
      congr 1
      rw [show a = (b - m) + b * (-q - 1) by omega, Int.add_mul_ediv_left _ _ (by omega), Int.ediv_eq_zero_of_lt (by omega) (by omega)]; omega

theorem ce_val {a b : Int} (hb : 0 < b) (hb' : b ≤ 9000000000000000000) (ha : -9000000000000000000 ≤ a) (ha' : a ≤ 9000000000000000000) : interval_Ceil.f a b = some (-((-a) / b)) := by
  unfold interval_Ceil.f
  rw [wrap_in (n := -a) (by omega) (by omega), fl_val hb hb' (by omega) (by omega)]
  simp only [Option.bind_some]
  have h : -9000000000000000001 ≤ (-a) / b ∧ (-a) / b ≤ 9000000000000000001 := by
    constructor
    · refine Int.le_ediv_of_mul_le hb ?_
      have : b * 1 ≤ b * 9000000000000000001 := Int.mul_le_mul_of_nonneg_left (by omega) (by omega)
      rw [Int.neg_mul, Int.mul_comm]; omega
    · refine Int.ediv_le_of_le_mul hb ?_
      have : 9000000000000000001 * 1 ≤ 9000000000000000001 * b := Int.mul_le_mul_of_nonneg_left (by omega) (by omega)
      omega
  rw [wrap_in (by omega) (by omega)]

theorem el_val {d x : Int} (k : Nat) (h0 : 0 ≤ d) (h1 : d ≤ 100000) (h2 : 0 ≤ x) (h3 : x ≤ 1000000000000) :
    oscill_Elapsed.f (k + 2) d x = some (x * 1000000 / (1000000 + d), -((-(x * 1000000)) / (1000000 - d)), 0) := by
  unfold oscill_Elapsed.f
  rw [if_neg (by omega), decide_eq_false (by omega)]
  simp only [oscill_Elapsed.j0, Bool.false_eq_true, if_false]
  rw [if_neg (by omega), decide_eq_false (by omega)]
  simp only [oscill_Elapsed.j1, Bool.false_eq_true, if_false]
  rw [wrap_in (n := x * 1000000) (by omega) (by omega), wrap_in (n := 1000000 + d) (by omega) (by omega), wrap_in (n := 1000000 - d) (by omega) (by omega), fl_val (by omega) (by omega) (by omega) (by omega), ce_val (by omega) (by omega) (by omega) (by omega)]
  rfl

/-- a time that has passed, told by a clock that errs little -/
theorem el_bd {d x : Int} (h0 : 0 ≤ d) (h1 : d ≤ 100000) (h2 : 0 ≤ x) (h3 : x ≤ 1000) : 0 ≤ x * 1000000 / (1000000 + d) ∧ x * 1000000 / (1000000 + d) ≤ x ∧ x ≤ -((-(x * 1000000)) / (1000000 - d)) ∧ -((-(x * 1000000)) / (1000000 - d)) ≤ 2 * x := by
  refine ⟨Int.ediv_nonneg (by omega) (by omega), Int.ediv_le_of_le_mul (by omega) (Int.mul_le_mul_of_nonneg_left (by omega) h2), ?_, ?_⟩
  · have : (-(x * 1000000)) / (1000000 - d) ≤ -x := by
      refine Int.ediv_le_of_le_mul (by omega) ?_
      have h := Int.mul_le_mul_of_nonneg_left (show 1000000 - d ≤ 1000000 by omega) h2
      rw [Int.neg_mul]; omega
    omega
  · have : -(2 * x) ≤ (-(x * 1000000)) / (1000000 - d) := by
      refine Int.le_ediv_of_mul_le (by omega) ?_
      have h := Int.mul_le_mul_of_nonneg_left (show 500000 ≤ 1000000 - d by omega) h2
      rw [Int.neg_mul, Int.mul_assoc]; omega
    omega

def okR (s : Rd) : Prop := 0 ≤ s.f0 ∧ s.f0 ≤ 66 ∧ -10000000000 ≤ s.f1.f0 ∧ s.f1.f0 ≤ s.f1.f1 ∧ s.f1.f1 ≤ 10000000000

def mv (d : Int) (s : Rd) : Sp := ⟨s.f1.f0 + (66 - s.f0) * 1000000 / (1000000 + d), s.f1.f1 + -((-((66 - s.f0) * 1000000)) / (1000000 - d))⟩

theorem mv_f {d : Int} {s : Rd} (h0 : 0 ≤ d) (h1 : d ≤ 100000) (h : okR s) : source_Moved.f d s.f0 s.f1.f0 s.f1.f1 66 = some ((mv d s).f0, (mv d s).f1, 0) := by
  obtain ⟨a, b, c, e, g⟩ := h
  have hb := el_bd h0 h1 (show 0 ≤ 66 - s.f0 by omega) (by omega)
  unfold source_Moved.f
  rw [if_pos (by refine ⟨a, ?_, ?_, e, ?_, h0, h1, b, ?_⟩ <;> omega), el_val 7 h0 h1 (show 0 ≤ 66 - s.f0 by omega) (by omega)]
  simp only [Option.bind_some, if_true]
  rw [wrap_in (by omega) (by omega), wrap_in (by omega) (by omega)]
  rfl

theorem rdR {l : List Rd} {i : Nat} {s : Rd} (h : ∀ z, l.getD i z = s) : rd_T62 l i = s := by
  unfold rd_T62; rw [Int.toNat_natCast]; exact h _

theorem all_loop {d : Int} (h0 : 0 ≤ d) (h1 : d ≤ 100000) (l : List Rd) (ho : ∀ s ∈ l, okR s) (hl : l.length ≤ 40) : ∀ (rest : List Rd) (k i : Nat) (acc : List Sp), l.drop i = rest → rest.length + 1 ≤ k → acc.length + rest.length ≤ 40 →
    source_All.l0 k d 66 acc l l.length i = some (acc ++ rest.map (mv d), 0)
  | [], k, i, acc, hr, hk, ha => by
    obtain ⟨k, rfl⟩ : ∃ m, k = m + 1 := ⟨k - 1, by omega⟩
    have := drop_end hr
    simp only [source_All.l0]
    rw [if_neg (by omega)]
    simp
  | s :: rest, k, i, acc, hr, hk, ha => by
    have hlen : (s :: rest).length = rest.length + 1 := rfl
    obtain ⟨k, rfl⟩ : ∃ m, k = m + 1 := ⟨k - 1, by omega⟩
    obtain ⟨d1, d2, d3⟩ := drop_step hr
    have hs : s ∈ l := by
      have : s ∈ l.drop i := by rw [hr]; exact List.mem_cons_self ..
      exact List.mem_of_mem_drop this
    simp only [source_All.l0]
    rw [if_pos (by omega), if_pos (by omega), if_pos (by omega), rdR d3, mv_f h0 h1 (ho s hs)]
    simp only [Option.bind_some, if_true]
    rw [if_pos (by omega), wrap_in (n := (i : Int) + 1) (by omega) (by omega), show (i : Int) + 1 = ((i + 1 : Nat) : Int) from by omega]
    rw [all_loop h0 h1 l ho hl rest k (i + 1) _ d2 (by omega) (by simp only [List.length_append, List.length_cons, List.length_nil]; omega)]
    simp

theorem all_f {d : Int} (h0 : 0 ≤ d) (h1 : d ≤ 100000) (l : List Rd) (ho : ∀ s ∈ l, okR s) (hl : l.length ≤ 40) : source_All.f 41 d l 66 = some (l.map (mv d), 0) := by
  unfold source_All.f
  rw [if_neg (by omega)]
  have := all_loop h0 h1 l ho hl l 41 0 [] rfl (by omega) (by simpa using hl)
  simpa using this

/-- the interval of source i -/
def lawS (T q : Int) (L : List Sp) (i : Nat) : Sp := match L[i]? with
  | none => ⟨T + i - 3, T + i + 3⟩
  | some s => if (i : Int) < q then ⟨mn (Int.tmod s.f0 1000001) (Int.tmod s.f1 1000001) + T, mx (Int.tmod s.f0 1000001) (Int.tmod s.f1 1000001) + T⟩ else ⟨T + i - s.f0 % 100, T + i + s.f1 % 100⟩
def lawF (T q : Int) (L : List Sp) (i : Nat) : Rd := ⟨10 + i, lawS T q L i⟩

theorem lawS_ok {T q : Int} {L : List Sp} {i : Nat} (h : -1000000000 < T ∧ T < 1000000000) (hi : i < 7) : -2000000000 ≤ (lawS T q L i).f0 ∧ (lawS T q L i).f0 ≤ (lawS T q L i).f1 ∧ (lawS T q L i).f1 ≤ 2000000000 := by
  unfold lawS
  cases L[i]? with
  | none => dsimp only; omega
  | some s =>
    have m1 := tmod_lt (a := s.f0) (m := 1000001) (by omega)
    have m2 := tmod_lt (a := s.f1) (m := 1000001) (by omega)
    have m3 : 0 ≤ s.f0 % 100 ∧ s.f0 % 100 < 100 := by omega
    have m4 : 0 ≤ s.f1 % 100 ∧ s.f1 % 100 < 100 := by omega
    dsimp only
    split <;> dsimp only [mn, mx] <;> omega

theorem lawS_has {T q : Int} {L : List Sp} {i : Nat} (hq : q ≤ i) : (lawS T q L i).f0 ≤ T + i ∧ T + i ≤ (lawS T q L i).f1 := by
  unfold lawS
  cases L[i]? with
  | none => dsimp only; omega
  | some s =>
    have m3 : 0 ≤ s.f0 % 100 ∧ s.f0 % 100 < 100 := by omega
    have m4 : 0 ≤ s.f1 % 100 ∧ s.f1 % 100 < 100 := by omega
    dsimp only
    rw [if_neg (by omega)]
    dsimp only; omega

theorem lawF_ok {T q : Int} {L : List Sp} {i : Nat} (h : -1000000000 < T ∧ T < 1000000000) (hi : i < 7) : okR (lawF T q L i) := by
  have := lawS_ok (q := q) (L := L) h hi
  unfold okR lawF
  dsimp only
  omega

theorem lawF_mv {d T q : Int} {L : List Sp} {i : Nat} (h0 : 0 ≤ d) (h1 : d ≤ 100000) (hi : i < 7) (hq : q ≤ i) : has (mv d (lawF T q L i)) (T + 56) := by
  have h := lawS_has (T := T) (L := L) hq
  have hb := el_bd h0 h1 (show 0 ≤ 66 - (10 + (i : Int)) by omega) (by omega)
  unfold has mv lawF
  dsimp only
  omega

theorem mv_ok {d : Int} {s : Rd} (h0 : 0 ≤ d) (h1 : d ≤ 100000) (h : okR s) : okS (mv d s) := by
  obtain ⟨a, b, c, e, g⟩ := h
  have hb := el_bd h0 h1 (show 0 ≤ 66 - s.f0 by omega) (by omega)
  unfold okS mv
  dsimp only
  omega

theorem disc_law (d T q : Int) (L : List Sp) (h0 : 0 ≤ d) (h1 : d ≤ 100000) (hT : -1000000000 < T ∧ T < 1000000000) (hq : q ≤ 2) :
    ∃ ss r1 r2, source_All.f 41 d (rsN 7 (lawF T q L) 7) 66 = some (ss, 0) ∧ ss.length = 7 ∧ agree_Within.f 300 ss 5 = some (r1, r2, 0) ∧ r1 ≤ T + 56 ∧ T + 56 ≤ r2 := by
  have e : rsN 7 (lawF T q L) 7 = [lawF T q L 0, lawF T q L 1, lawF T q L 2, lawF T q L 3, lawF T q L 4, lawF T q L 5, lawF T q L 6] := rfl
  have ho : ∀ s ∈ rsN 7 (lawF T q L) 7, okR s := by
    rw [e]
    intro s hs
    simp only [List.mem_cons, List.not_mem_nil, or_false] at hs
    rcases hs with rfl | rfl | rfl | rfl | rfl | rfl | rfl <;> exact lawF_ok hT (by omega)
  have hlen : (rsN 7 (lawF T q L) 7).length = 7 := rsN_len _ _ _
  have hss : ((rsN 7 (lawF T q L) 7).map (mv d)).length = 7 := by rw [List.length_map, hlen]
  have hok : ∀ s ∈ (rsN 7 (lawF T q L) 7).map (mv d), okS s := by
    intro s hs
    obtain ⟨x, hx, rfl⟩ := List.mem_map.mp hs
    exact mv_ok h0 h1 (ho x hx)
  have hc : 5 ≤ cnt (T + 56) ((rsN 7 (lawF T q L) 7).map (mv d)) := by
    rw [e]
    simp only [List.map_cons, List.map_nil, cnt]
    rw [if_pos (lawF_mv (i := 2) h0 h1 (by omega) (by omega)), if_pos (lawF_mv (i := 3) h0 h1 (by omega) (by omega)), if_pos (lawF_mv (i := 4) h0 h1 (by omega) (by omega)), if_pos (lawF_mv (i := 5) h0 h1 (by omega) (by omega)), if_pos (lawF_mv (i := 6) h0 h1 (by omega) (by omega))]
    split <;> split <;> omega
  have ha := all_f h0 h1 _ ho (by omega)
  generalize (rsN 7 (lawF T q L) 7).map (mv d) = ss at *
  obtain ⟨lo, hi, e', w1, w2⟩ := within_f ss 5 300 hok (by intro h; rw [h] at hss; simp at hss) (by omega) (by omega) (by omega) (by omega)
  obtain ⟨a, ha', hat, hab⟩ := top_lo (t := T + 56) (l := ss) (cnt_pos (by omega))
  obtain ⟨b, hb', hbt, hbb⟩ := low_hi (t := T + 56) (l := ss) (cnt_pos (by omega))
  have ca : 5 ≤ cnt a.f0 ss := Int.le_trans hc (cnt_le (fun s hs h => ⟨hab s hs h, Int.le_trans hat.1 h.2⟩))
  have cb : 5 ≤ cnt b.f1 ss := Int.le_trans hc (cnt_le (fun s hs h => ⟨Int.le_trans h.1 hbt.2, hbb s hs h⟩))
  rcases w2 with ⟨_, _, _, h⟩ | ⟨rfl, _, v2, v3, v4, v5⟩
  · have := h a ha'; omega
  · have g1 := v2 a ha' ca
    have g2 := v5 b hb' cb
    have hat1 := hat.1
    have hbt2 := hbt.2
    exact ⟨ss, lo, hi, ha, hss, w1, by omega, by omega⟩

end Go.Proofs.Ytoecglgbmhhdnaa.JD
