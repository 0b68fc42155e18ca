/- Tables of leaps: what leap.Check, leap.Instant, leap.Count, leap.Sum and the statements' maker of tables compute, as plain functions on lists. -/
import Derived.Test.YtfmjlglkleinmaaJEx2
import Derived.Test.YtfmjlglkleinmaaAbase
namespace Go.Proofs.Ytfmjlglkleinmaa.JE
open Go.Proofs.Ytfmjlglkleinmaa.Own Go.RowKit Go.Proofs.YtfmjlglkleinmaaW.PrintWords Go.Proofs.YtfmjlglkleinmaaW.PrintLast

abbrev Lp := S41

/-- a table from a day on -/
def okL : Int → List Lp → Prop
  | _, [] => True
  | p, s :: r => p + 2 ≤ s.f0 ∧ s.f0 ≤ 100000 ∧ (s.f1 = 1 ∨ s.f1 = -1) ∧ okL s.f0 r

theorem okL_mono {p q : Int} (h : q ≤ p) : ∀ {l : List Lp}, okL p l → okL q l
  | [], _ => trivial
  | _ :: _, ⟨a, b, c, d⟩ => ⟨by omega, b, c, d⟩

theorem drop_step {α : Type} {l : List α} {i : Nat} {x : α} {r : List α} (h : l.drop i = x :: r) : i < l.length ∧ l.drop (i + 1) = r ∧ ∀ z, l.getD i z = x := by
  have hi : i < l.length := by
    rcases Nat.lt_or_ge i l.length with h1 | h1
    · exact h1
    · rw [List.drop_eq_nil_of_le h1] at h; cases h
  rw [List.drop_eq_getElem_cons hi] at h
  injection h with h1 h2
  exact ⟨hi, h2, fun z => by rw [List.getD_eq_getElem?_getD, List.getElem?_eq_getElem hi]; exact h1⟩

theorem drop_end {α : Type} {l : List α} {i : Nat} (h : l.drop i = []) : l.length ≤ i := List.drop_eq_nil_iff.1 h

/-! ### leap.Check -/
theorem check_loop (l : List Lp) : ∀ (rest : List Lp) (k i : Nat) (p : Int), l.drop i = rest → 3 * rest.length + 1 ≤ k → okL p rest → -3000000 ≤ p → (0 < i → (rd_T41 l ((i : Int) - 1)).f0 ≤ p ∧ -3000000 ≤ (rd_T41 l ((i : Int) - 1)).f0) →
    l.length ≤ 60 → leap_Check.l0 k l l l.length i = some 0
  | [], k, i, p, hr, hk, ho, hp, hq, hx => by
    obtain ⟨k, rfl⟩ : ∃ m, k = m + 1 := ⟨k - 1, by omega⟩
    have := drop_end hr
    simp only [leap_Check.l0]
    rw [if_neg (by omega)]
  | s :: rest, k, i, p, hr, hk, ho, hp, hq, hx => by
    have hlen : (s :: rest).length = rest.length + 1 := rfl
    obtain ⟨k, rfl⟩ : ∃ m, k = m + 3 := ⟨k - 3, by omega⟩
    obtain ⟨h1, h2, h3⟩ := drop_step hr
    obtain ⟨o1, o2, o3, o4⟩ := ho
    have hrd : rd_T41 l i = s := by unfold rd_T41; rw [Int.toNat_natCast]; exact h3 _
    have ih := check_loop l rest k (i + 1) s.f0 h2 (by omega) o4 (by omega) (fun _ => by rw [show ((i + 1 : Nat) : Int) - 1 = i from by omega, hrd]; exact ⟨Int.le_refl _, by omega⟩) hx
    simp only [leap_Check.l0]
    rw [if_pos (by omega), if_pos (by omega), if_pos (by omega), hrd, if_neg (by omega), decide_eq_false (by omega)]
    simp only [leap_Check.j1, Bool.false_eq_true, if_false]
    have hs : (if s.f1 = 1 then leap_Check.j2 (k + 1) l i l l.length i false s.f0 s.f1 else leap_Check.j2 (k + 1) l i l l.length i (s.f1 != -1) s.f0 s.f1) = leap_Check.j2 (k + 1) l i l l.length i false s.f0 s.f1 := by
      rcases o3 with e | e
      · rw [if_pos e]
      · rw [if_neg (by omega), e]; rfl
    rw [hs]
    simp only [leap_Check.j2, Bool.false_eq_true, if_false]
    rw [wrap_in (n := (i : Int) + 1) (by omega) (by omega), show (i : Int) + 1 = ((i + 1 : Nat) : Int) from by omega, ih]
    by_cases h0 : 0 < i
    · obtain ⟨q1, q2⟩ := hq h0
      rw [if_pos (by omega), wrap_in (n := (i : Int) - 1) (by omega) (by omega), if_pos (by omega), if_pos (by omega), wrap_in (by omega) (by omega), if_neg (by omega)]
    · rw [if_neg (by omega)]

theorem check_f (l : List Lp) (k : Nat) (h : okL 0 l) (hl : l.length ≤ 60) (hk : 3 * l.length + 1 ≤ k) : leap_Check.f k l = some 0 := by
  unfold leap_Check.f
  rw [if_neg (by omega)]
  exact check_loop l l k 0 0 rfl hk h (by omega) (fun h => by omega) hl

theorem valid_f {a : Int} (h : -345600000000000 ≤ a) (h' : a < 345600086400000) : series_Valid.f a = some true := by
  unfold series_Valid.f
  rw [if_pos (by omega), decide_eq_true h']

/-! ### leap.Instant -/
def inst (x : Int) : Int → List Lp → Int × Bool
  | n, [] => (x - n * 1000, false)
  | n, s :: r =>
    if x < (s.f0 + 1) * 86400000 + (n + min 0 s.f1) * 1000 then (x - n * 1000, false)
    else if s.f1 > 0 ∧ x < (s.f0 + 1) * 86400000 + (n + 1) * 1000 then ((s.f0 + 1) * 86400000 - 1, true)
    else inst x (n + s.f1) r

theorem inst_loop (l : List Lp) (x : Int) (hx : -100000000000000 ≤ x) (hx' : x ≤ 100000000000000) : ∀ (rest : List Lp) (k i : Nat) (n p : Int), l.drop i = rest → rest.length + 1 ≤ k → okL p rest → -3000000 ≤ p → -100 ≤ n - rest.length → n + rest.length ≤ 100 → l.length ≤ 60 →
    leap_Instant.l0 k x n l l.length i = some ((inst x n rest).1, (inst x n rest).2, 0)
  | [], k, i, n, p, hr, hk, ho, hp, hn, hn', hl => by
    obtain ⟨k, rfl⟩ : ∃ m, k = m + 1 := ⟨k - 1, by omega⟩
    have := drop_end hr
    simp at hn hn'
    simp only [leap_Instant.l0]
    rw [if_neg (by omega), wrap_in (n := n * 1000) (by omega) (by omega), wrap_in (by omega) (by omega), valid_f (by omega) (by omega)]
    simp [inst]
  | s :: rest, k, i, n, p, hr, hk, ho, hp, hn, hn', hl => by
    have hlen : (s :: rest).length = rest.length + 1 := rfl
    rw [hlen] at hk hn hn'
    obtain ⟨k, rfl⟩ : ∃ m, k = m + 1 := ⟨k - 1, by omega⟩
    obtain ⟨h1, h2, h3⟩ := drop_step hr
    obtain ⟨o1, o2, o3, o4⟩ := ho
    have hrd : rd_T41 l i = s := by unfold rd_T41; rw [Int.toNat_natCast]; exact h3 _
    have ih := inst_loop l x hx hx' rest k (i + 1) (n + s.f1) s.f0 h2 (by omega) o4 (by omega) (by omega) (by omega) hl
    simp only [leap_Instant.l0, leap_end.f, inst]
    rw [if_pos (by omega), if_pos (by omega), if_pos (by omega), hrd]
    simp only [Option.bind_some]
    have hm : mn 0 s.f1 = min 0 s.f1 := by unfold mn; omega
    rw [hm]
    rw [wrap_in (n := s.f0 + 1) (by omega) (by omega), wrap_in (n := (s.f0 + 1) * 86400000) (by omega) (by omega), wrap_in (n := n + min 0 s.f1) (by omega) (by omega), wrap_in (n := (n + min 0 s.f1) * 1000) (by omega) (by omega), wrap_in (n := (s.f0 + 1) * 86400000 + (n + min 0 s.f1) * 1000) (by omega) (by omega),
      wrap_in (n := n * 1000) (by omega) (by omega), wrap_in (n := x - n * 1000) (by omega) (by omega), wrap_in (n := n + 1) (by omega) (by omega), wrap_in (n := (n + 1) * 1000) (by omega) (by omega), wrap_in (n := (s.f0 + 1) * 86400000 + (n + 1) * 1000) (by omega) (by omega), wrap_in (n := (s.f0 + 1) * 86400000 - 1) (by omega) (by omega),
      wrap_in (n := n + s.f1) (by omega) (by omega), wrap_in (n := (i : Int) + 1) (by omega) (by omega), show (i : Int) + 1 = ((i + 1 : Nat) : Int) from by omega]
    by_cases c1 : x < (s.f0 + 1) * 86400000 + (n + min 0 s.f1) * 1000
    · rw [if_pos c1, if_pos c1, valid_f (by omega) (by omega)]; rfl
    · rw [if_neg c1, if_neg c1, ih]
      by_cases c2 : s.f1 > 0
      · by_cases c3 : x < (s.f0 + 1) * 86400000 + (n + 1) * 1000
        · rw [if_pos c2, if_pos c3, if_pos ⟨c2, c3⟩]
        · rw [if_pos c2, if_neg c3, if_neg (fun h => c3 h.2)]
      · rw [if_neg c2, if_neg (fun h => c2 h.1)]

theorem instant_f (l : List Lp) (x : Int) (k : Nat) (h : okL 0 l) (hl : l.length ≤ 60) (hk : 3 * l.length + 1 ≤ k) (hx : -100000000000000 ≤ x) (hx' : x ≤ 100000000000000) :
    leap_Instant.f k l x = some ((inst x 0 l).1, (inst x 0 l).2, 0) := by
  unfold leap_Instant.f
  rw [check_f l k h hl hk]
  simp only [Option.bind_some, if_true]
  exact inst_loop l x hx hx' l k 0 0 0 rfl (by omega) h (by omega) (by omega) (by omega) hl

/-- what is well ahead of the next leap -/
theorem inst_near {p x n : Int} {l : List Lp} (h : okL p l) (hx : x < (p + 3) * 86400000 + (n - 1) * 1000) : inst x n l = (x - n * 1000, false) := by
  cases l with
  | nil => rfl
  | cons s r =>
    obtain ⟨o1, o2, o3, o4⟩ := h
    simp only [inst]
    rw [if_pos (by omega)]

/-- behind a leap, its end is past -/
theorem inst_past {x : Int} : ∀ {l : List Lp} {p n : Int}, okL p l → (p + 1) * 86400000 + n * 1000 ≤ x → (p + 1) * 86400000 ≤ (inst x n l).1
  | [], p, n, _, hx => by simp only [inst]; omega
  | s :: r, p, n, ⟨o1, o2, o3, o4⟩, hx => by
    simp only [inst]
    split
    · dsimp only; omega
    · split
      · dsimp only; omega
      · have := inst_past (x := x) (n := n + s.f1) o4 (by omega)
        omega

theorem inst_grows {x b : Int} (hb : 0 ≤ b) (hb' : b < 5000) : ∀ {l : List Lp} {p n : Int}, okL p l →
    (inst x n l).1 ≤ (inst (x + b) n l).1 ∧ ((inst x n l).2 = true ∨ (inst (x + b) n l).2 = true ∨ b - 1000 ≤ (inst (x + b) n l).1 - (inst x n l).1)
  | [], p, n, _ => by simp only [inst]; omega
  | s :: r, p, n, ⟨o1, o2, o3, o4⟩ => by
    have ih := inst_grows (x := x) hb hb' (n := n + s.f1) o4
    have p1 := inst_past (x := x + b) (n := n + s.f1) o4
    have n1 := inst_near (x := x + b) (n := n + s.f1) o4
    simp only [inst]
    by_cases a1 : x < (s.f0 + 1) * 86400000 + (n + min 0 s.f1) * 1000
    · rw [if_pos a1]
      by_cases b1 : x + b < (s.f0 + 1) * 86400000 + (n + min 0 s.f1) * 1000
      · rw [if_pos b1]; dsimp only; omega
      · rw [if_neg b1]
        by_cases b2 : s.f1 > 0 ∧ x + b < (s.f0 + 1) * 86400000 + (n + 1) * 1000
        · rw [if_pos b2]; exact ⟨by dsimp only; omega, .inr (.inl rfl)⟩
        · rw [if_neg b2, n1 (by omega)]; dsimp only; omega
    · rw [if_neg a1, if_neg (c := x + b < _) (by omega)]
      by_cases a2 : s.f1 > 0 ∧ x < (s.f0 + 1) * 86400000 + (n + 1) * 1000
      · rw [if_pos a2]
        refine ⟨?_, .inl rfl⟩
        by_cases b2 : s.f1 > 0 ∧ x + b < (s.f0 + 1) * 86400000 + (n + 1) * 1000
        · rw [if_pos b2]; exact Int.le_refl _
        · rw [if_neg b2]; have := p1 (by omega); dsimp only; omega
      · rw [if_neg a2, if_neg (c := s.f1 > 0 ∧ x + b < _) (by omega)]
        exact ih

/-! ### leap.Sum and leap.Count -/
def sumB (day : Int) : List Lp → Int
  | [] => 0
  | s :: r => (if s.f0 < day then s.f1 else 0) + sumB day r

theorem sumB_bd (day : Int) : ∀ {l : List Lp} {p : Int}, okL p l → -(l.length : Int) ≤ sumB day l ∧ sumB day l ≤ l.length
  | [], _, _ => by simp [sumB]
  | s :: r, p, ⟨_, _, o3, o4⟩ => by
    have ih := sumB_bd day o4
    have hlen : ((s :: r).length : Int) = r.length + 1 := by simp
    simp only [sumB]
    split <;> omega

theorem sum_loop (l : List Lp) (day : Int) : ∀ (rest : List Lp) (k i : Nat) (n p : Int), l.drop i = rest → rest.length + 1 ≤ k → okL p rest → -100 ≤ n - rest.length → n + rest.length ≤ 100 → l.length ≤ 60 →
    leap_Sum.l0 k day n l l.length i = some (n + sumB day rest, 0)
  | [], k, i, n, p, hr, hk, ho, hn, hn', hl => by
    obtain ⟨k, rfl⟩ : ∃ m, k = m + 1 := ⟨k - 1, by omega⟩
    have := drop_end hr
    simp only [leap_Sum.l0]
    rw [if_neg (by omega)]; simp [sumB]
  | s :: rest, k, i, n, p, hr, hk, ho, hn, hn', hl => by
    have hlen : (s :: rest).length = rest.length + 1 := rfl
    rw [hlen] at hk hn hn'
    obtain ⟨k, rfl⟩ : ∃ m, k = m + 1 := ⟨k - 1, by omega⟩
    obtain ⟨h1, h2, h3⟩ := drop_step hr
    obtain ⟨o1, o2, o3, o4⟩ := ho
    have hrd : rd_T41 l i = s := by unfold rd_T41; rw [Int.toNat_natCast]; exact h3 _
    simp only [leap_Sum.l0, sumB]
    rw [if_pos (by omega), if_pos (by omega), if_pos (by omega), hrd, wrap_in (n := (i : Int) + 1) (by omega) (by omega), show (i : Int) + 1 = ((i + 1 : Nat) : Int) from by omega, wrap_in (n := n + s.f1) (by omega) (by omega)]
    split
    · rw [sum_loop l day rest k (i + 1) (n + s.f1) s.f0 h2 (by omega) o4 (by omega) (by omega) hl]
      rw [Int.add_assoc]
    · rw [sum_loop l day rest k (i + 1) n s.f0 h2 (by omega) o4 (by omega) (by omega) hl]
      rw [Int.zero_add]

theorem sum_f (l : List Lp) (day : Int) (k : Nat) (h : okL 0 l) (hl : l.length ≤ 60) (hk : 3 * l.length + 2 ≤ k) (hd : -4000000 ≤ day) (hd' : day ≤ 4000000) : leap_Sum.f k l day = some (sumB day l, 0) := by
  obtain ⟨k, rfl⟩ : ∃ m, k = m + 1 := ⟨k - 1, by omega⟩
  unfold leap_Sum.f
  rw [check_f l _ h hl (by omega)]
  simp only [Option.bind_some, if_true]
  rw [if_neg (by omega), decide_eq_false (by omega)]
  simp only [leap_Sum.j0, Bool.false_eq_true, if_false]
  have := sum_loop l day l k 0 0 0 rfl (by omega) h (by omega) (by omega) hl
  simpa using this

/-- in a gap -/
def gap (t day : Int) : List Lp → Bool
  | [] => false
  | s :: r => decide (s.f0 = day ∧ s.f1 < 0 ∧ (s.f0 + 1) * 86400000 - 1000 ≤ t) || gap t day r

theorem floor_f {a b : Int} (hb : 0 < b) (hb' : b ≤ 9000000000000000000) (ha : -9000000000000000000 ≤ a) (ha' : a ≤ 9000000000000000000) : interval_Floor.f a b = some (a / b) := by
  have e := Int.emod_add_mul_ediv a b
  have m0 := Int.emod_nonneg a (show b ≠ 0 by omega)
  have m1 := Int.emod_lt_of_pos a hb
  unfold interval_Floor.f
  rw [if_neg (by omega)]
  rcases Int.le_total 0 a with h0 | h0
  · have d0 : 0 ≤ a / b := Int.ediv_nonneg h0 (by omega)
    have d1 : a / b ≤ a := Int.ediv_le_self _ h0
    rw [tdiv_nn h0, wrap_in (n := a / b) (by omega) (by omega), decide_eq_false (show ¬ a < 0 by omega), decide_eq_false (show ¬ b < 0 by omega)]
    simp
  · have hm : Int.tmod a b = -((-a) % b) := by rw [← Int.tmod_eq_emod_of_nonneg (by omega), Int.neg_tmod, Int.neg_neg]
    have hd : Int.tdiv a b = -((-a) / b) := by rw [← Int.tdiv_eq_ediv_of_nonneg (by omega), Int.neg_tdiv, Int.neg_neg]
    have e' := Int.emod_add_mul_ediv (-a) b
    have m0' := Int.emod_nonneg (-a) (show b ≠ 0 by omega)
    have m1' := Int.emod_lt_of_pos (-a) hb
    have d0 : 0 ≤ (-a) / b := Int.ediv_nonneg (by omega) (by omega)
    have d1 : (-a) / b ≤ -a := Int.ediv_le_self _ (by omega)
    rw [hm, hd, wrap_in (n := -((-a) / b)) (by omega) (by omega)]
    clear hm hd e m0 m1
    generalize (-a) / b = q at *
    generalize (-a) % b = m at *
    have n1 : b * (-q) = -(b * q) := Int.mul_neg b q
    have bq : 0 ≤ b * q := Int.mul_nonneg (by omega) d0
    have n2 : b * (-q - 1) = -(b * q) - b := by rw [Int.mul_sub, n1, Int.mul_one]
    by_cases z : m = 0
    · rw [if_pos (by omega)]
      congr 1
      rw [show a = b * (-q) by omega, Int.mul_ediv_cancel_left _ (by omega)]
    · rw [if_neg (by omega), decide_eq_true (show a < 0 by omega), decide_eq_false (show ¬ b < 0 by omega), wrap_in (by omega) (by omega)]
      simp only [Bool.true_bne, Bool.not_false, if_true]
      congr 1
      rw [show a = (b - m) + b * (-q - 1) by omega, Int.add_mul_ediv_left _ _ (by omega), Int.ediv_eq_zero_of_lt (by omega) (by omega)]; omega

theorem count_loop (l : List Lp) (t day : Int) (hd : -4000000 ≤ day) (hd' : day ≤ 4000000) (ht : -100000000000000 ≤ t) (ht' : t ≤ 100000000000000) (h0 : okL 0 l) (hl : l.length ≤ 60) :
    ∀ (rest : List Lp) (k i : Nat) (p : Int), l.drop i = rest → rest.length + 3 * l.length + 3 ≤ k → okL p rest → -3000000 ≤ p →
    leap_Count.l0 k l t day l l.length i = some (if gap t day rest = true then (0, 15) else (t + sumB day l * 1000, 0))
  | [], k, i, p, hr, hk, ho, hp => by
    obtain ⟨k, rfl⟩ : ∃ m, k = m + 1 := ⟨k - 1, by omega⟩
    have := drop_end hr
    have hb := sumB_bd day h0
    simp only [leap_Count.l0]
    rw [if_neg (by omega), sum_f l day k h0 hl (by simp at hk; omega) hd hd']
    simp only [Option.bind_some]
    rw [wrap_in (n := sumB day l * 1000) (by omega) (by omega), wrap_in (by omega) (by omega)]
    simp [gap]
  | s :: rest, k, i, p, hr, hk, ho, hp => by
    have hlen : (s :: rest).length = rest.length + 1 := rfl
    rw [hlen] at hk
    obtain ⟨k, rfl⟩ : ∃ m, k = m + 1 := ⟨k - 1, by omega⟩
    obtain ⟨h1, h2, h3⟩ := drop_step hr
    obtain ⟨o1, o2, o3, o4⟩ := ho
    have hrd : rd_T41 l i = s := by unfold rd_T41; rw [Int.toNat_natCast]; exact h3 _
    have ih := count_loop l t day hd hd' ht ht' h0 hl rest k (i + 1) s.f0 h2 (by omega) o4 (by omega)
    have hgs : gap t day (s :: rest) = (decide (s.f0 = day ∧ s.f1 < 0 ∧ (s.f0 + 1) * 86400000 - 1000 ≤ t) || gap t day rest) := rfl
    simp only [leap_Count.l0, leap_end.f]
    rw [if_pos (by omega), if_pos (by omega), if_pos (by omega), hrd, wrap_in (n := (i : Int) + 1) (by omega) (by omega), show (i : Int) + 1 = ((i + 1 : Nat) : Int) from by omega, ih]
    simp only [Option.bind_some]
    rw [wrap_in (n := s.f0 + 1) (by omega) (by omega), wrap_in (n := (s.f0 + 1) * 86400000) (by omega) (by omega), wrap_in (n := (s.f0 + 1) * 86400000 - 1000) (by omega) (by omega)]
    by_cases c1 : s.f0 = day
    · by_cases c2 : s.f1 < 0
      · by_cases c3 : t ≥ (s.f0 + 1) * 86400000 - 1000
        · rw [decide_eq_true ⟨c1, c2, c3⟩, Bool.true_or] at hgs
          rw [if_pos c1, if_pos c2, if_pos c3, if_pos hgs]
        · rw [decide_eq_false (fun h => c3 h.2.2), Bool.false_or] at hgs
          rw [if_pos c1, if_pos c2, if_neg c3, hgs]
      · rw [decide_eq_false (fun h => c2 h.2.1), Bool.false_or] at hgs
        rw [if_pos c1, if_neg c2, hgs]
    · rw [decide_eq_false (fun h => c1 h.1), Bool.false_or] at hgs
      rw [if_neg c1, hgs]

theorem count_f (l : List Lp) (t : Int) (k : Nat) (h : okL 0 l) (hl : l.length ≤ 60) (hk : 4 * l.length + 3 ≤ k) (ht : -100000000000000 ≤ t) (ht' : t ≤ 100000000000000) :
    leap_Count.f k l t = some (if gap t (t / 86400000) l = true then (0, 15) else (t + sumB (t / 86400000) l * 1000, 0)) := by
  unfold leap_Count.f
  rw [check_f l k h hl (by omega), valid_f (by omega) (by omega), floor_f (by omega) (by omega) (by omega) (by omega)]
  simp only [Option.bind_some, if_true]
  exact count_loop l t _ (by omega) (by omega) ht ht' h hl l k 0 0 rfl (by omega) h (by omega)

theorem sumB_zero (day : Int) : ∀ {l : List Lp} {p : Int}, okL p l → day ≤ p + 2 → sumB day l = 0
  | [], _, _, _ => rfl
  | s :: r, p, ⟨o1, _, o3, o4⟩, h => by
    simp only [sumB]
    rw [if_neg (by omega), sumB_zero day o4 (by omega)]; rfl

theorem sumB_ge (day : Int) : ∀ {l : List Lp} {p : Int}, okL p l → p + 1 ≤ day → (p + 1 - day) * 86400000 ≤ 1000 * sumB day l
  | [], _, _, h => by simp only [sumB]; omega
  | s :: r, p, ⟨o1, _, o3, o4⟩, h => by
    simp only [sumB]
    by_cases c : s.f0 < day
    · have := sumB_ge day o4 (by omega)
      rw [if_pos c]; omega
    · rw [if_neg c, sumB_zero day o4 (by omega)]; omega

theorem inst_back (t day : Int) (h1 : day * 86400000 ≤ t) (h2 : t < (day + 1) * 86400000) : ∀ {l : List Lp} {p n : Int}, okL p l → gap t day l = false →
    inst (t + (n + sumB day l) * 1000) n l = (t, false)
  | [], p, n, _, _ => by simp only [inst, sumB]; rw [show t + (n + 0) * 1000 - n * 1000 = t by omega]
  | s :: r, p, n, ⟨o1, o2, o3, o4⟩, hg => by
    simp only [gap, Bool.or_eq_false_iff, decide_eq_false_iff_not] at hg
    obtain ⟨g1, g2⟩ := hg
    by_cases c : s.f0 < day
    · have hb := sumB_ge day o4 (by omega)
      have ih := inst_back t day h1 h2 (n := n + s.f1) o4 g2
      have e : sumB day (s :: r) = s.f1 + sumB day r := by simp only [sumB]; rw [if_pos c]
      rw [e]
      simp only [inst]
      rw [if_neg (by omega), if_neg (by omega)]
      rw [show t + (n + (s.f1 + sumB day r)) * 1000 = t + (n + s.f1 + sumB day r) * 1000 by omega, ih]
    · have e : sumB day (s :: r) = 0 := by simp only [sumB]; rw [if_neg c, sumB_zero day o4 (by omega)]; rfl
      rw [e]
      simp only [inst]
      rw [if_pos (by omega)]
      rw [show t + (n + 0) * 1000 - n * 1000 = t by omega]

end Go.Proofs.Ytfmjlglkleinmaa.JE
