/- What smear.Smear computes, as a plain function on a table of leaps; it grows, and it is near leap.Instant. -/
import Derived.Test.YtfmjlglkleinmaaLeapCore
import Derived.Test.YtfmjlglkleinmaaJEx2
namespace Go.Proofs.Ytfmjlglkleinmaa.JE
open Go.Proofs.Ytfmjlglkleinmaa.Own Go.RowKit Go.Proofs.YtfmjlglkleinmaaW.PrintWords Go.Proofs.YtfmjlglkleinmaaW.PrintLast

def sm (h x : Int) : Int → List Lp → Int
  | n, [] => x - n * 1000
  | n, s :: r =>
    if x - n * 1000 < (s.f0 + 1) * 86400000 - h then x - n * 1000
    else if x - n * 1000 - ((s.f0 + 1) * 86400000 - h) < 2 * h + s.f1 * 1000 then
      (s.f0 + 1) * 86400000 - h + (x - n * 1000 - ((s.f0 + 1) * 86400000 - h)) * 2 * h / (2 * h + s.f1 * 1000)
    else sm h x (n + s.f1) r

theorem mul_two_bd {c h m : Int} (c0 : 0 ≤ c) (c1 : c ≤ m) (h0 : 0 ≤ h) : 0 ≤ c * 2 * h ∧ c * 2 * h ≤ m * 2 * h :=
  ⟨Int.mul_nonneg (by omega) h0, Int.mul_le_mul_of_nonneg_right (by omega) h0⟩

/-- the quotient in a window -/
theorem quot_bd {c h L f : Int} (h0 : 1000 ≤ h) (hf : f = 1 ∨ f = -1) (hL : L = 2 * h + f * 1000) (c0 : 0 ≤ c) (c1 : c < L) :
    0 ≤ c * 2 * h / L ∧ c * 2 * h / L < 2 * h ∧ c - 1000 ≤ c * 2 * h / L ∧ c * 2 * h / L ≤ c + 1000 ∧ (f = 1 → c * 2 * h / L ≤ c) ∧ (f = -1 → c ≤ c * 2 * h / L) := by
  have Lp : 0 < L := by omega
  have e : c * 2 * h = c * L - c * f * 1000 := by
    subst hL; rw [Int.mul_add, Int.mul_assoc c 2 h, ← Int.mul_assoc c f 1000]; omega
  have cL : c * 2 * h < 2 * h * L := by
    have : c * (2 * h) < L * (2 * h) := Int.mul_lt_mul_of_pos_right c1 (by omega)
    rw [Int.mul_assoc c 2 h, Int.mul_comm (2 * h) L]; exact this
  have n0 : 0 ≤ c * 2 * h := (mul_two_bd c0 (Int.le_refl c) (by omega)).1
  have cf : c * f * 1000 = f * c * 1000 := by rw [Int.mul_comm c f]
  have fc : -c ≤ f * c ∧ f * c ≤ c ∧ (f = 1 → f * c = c) ∧ (f = -1 → f * c = -c) := by
    rcases hf with e | e <;> subst e <;> simp <;> omega
  refine ⟨Int.ediv_nonneg n0 (by omega), Int.ediv_lt_of_lt_mul Lp cL, ?_, ?_, fun h1 => ?_, fun h1 => ?_⟩
  · refine Int.le_ediv_of_mul_le Lp ?_
    rw [Int.sub_mul]; omega
  · refine Int.ediv_le_of_le_mul Lp ?_
    rw [Int.add_mul]; omega
  · refine Int.ediv_le_of_le_mul Lp ?_
    have := fc.2.2.1 h1; omega
  · refine Int.le_ediv_of_mul_le Lp ?_
    have := fc.2.2.2 h1; omega

theorem smear_loop (l : List Lp) (h x : Int) (hh : 1000 ≤ h) (hh' : h ≤ 43200000) (hx : -100000000000000 ≤ x) (hx' : x ≤ 100000000000000) : ∀ (rest : List Lp) (k i : Nat) (n p : Int), l.drop i = rest → rest.length + 1 ≤ k → okL p rest → -3000000 ≤ p → -100 ≤ n - rest.length → n + rest.length ≤ 100 → l.length ≤ 60 →
    smear_Smear.l0 k h x n l l.length i = some (sm h x n rest, 0)
  | [], k, i, n, p, hr, hk, ho, hp, hn, hn', hl => by
    obtain ⟨k, rfl⟩ : ∃ m, k = m + 1 := ⟨k - 1, by omega⟩
    have := drop_end hr
    simp at hn hn'
    simp only [smear_Smear.l0]
    rw [if_neg (by omega), wrap_in (n := n * 1000) (by omega) (by omega), wrap_in (by omega) (by omega), valid_f (by omega) (by omega)]
    simp [sm]
  | s :: rest, k, i, n, p, hr, hk, ho, hp, hn, hn', hl => by
    have hlen : (s :: rest).length = rest.length + 1 := rfl
    rw [hlen] at hk hn hn'
    obtain ⟨k, rfl⟩ : ∃ m, k = m + 1 := ⟨k - 1, by omega⟩
    obtain ⟨h1, h2, h3⟩ := drop_step hr
    obtain ⟨o1, o2, o3, o4⟩ := ho
    have hrd : rd_T41 l i = s := by unfold rd_T41; rw [Int.toNat_natCast]; exact h3 _
    have ih := smear_loop l h x hh hh' hx hx' rest k (i + 1) (n + s.f1) s.f0 h2 (by omega) o4 (by omega) (by omega) (by omega) hl
    simp only [smear_Smear.l0, sm]
    rw [if_pos (by omega), if_pos (by omega), if_pos (by omega), hrd]
    rw [wrap_in (n := s.f0 + 1) (by omega) (by omega), wrap_in (n := (s.f0 + 1) * 86400000) (by omega) (by omega), wrap_in (n := (s.f0 + 1) * 86400000 - h) (by omega) (by omega), wrap_in (n := n * 1000) (by omega) (by omega), wrap_in (n := x - ((s.f0 + 1) * 86400000 - h)) (by omega) (by omega),
      wrap_in (n := x - ((s.f0 + 1) * 86400000 - h) - n * 1000) (by omega) (by omega), wrap_in (n := 2 * h) (by omega) (by omega), wrap_in (n := s.f1 * 1000) (by omega) (by omega), wrap_in (n := 2 * h + s.f1 * 1000) (by omega) (by omega),
      wrap_in (n := n + s.f1) (by omega) (by omega), wrap_in (n := (i : Int) + 1) (by omega) (by omega), show (i : Int) + 1 = ((i + 1 : Nat) : Int) from by omega, ih,
      show x - ((s.f0 + 1) * 86400000 - h) - n * 1000 = x - n * 1000 - ((s.f0 + 1) * 86400000 - h) by omega]
    by_cases c1 : x - n * 1000 < (s.f0 + 1) * 86400000 - h
    · rw [if_pos (by omega), if_pos c1, wrap_in (n := x - n * 1000) (by omega) (by omega), valid_f (by omega) (by omega)]; rfl
    · rw [if_neg (by omega), if_neg c1]
      by_cases c2 : x - n * 1000 - ((s.f0 + 1) * 86400000 - h) < 2 * h + s.f1 * 1000
      · rw [if_pos c2, if_pos c2, if_neg (by omega)]
        have q := quot_bd hh o3 rfl (c := x - n * 1000 - ((s.f0 + 1) * 86400000 - h)) (by omega) c2
        have m := mul_two_bd (c := x - n * 1000 - ((s.f0 + 1) * 86400000 - h)) (h := h) (m := 90000000) (by omega) (by omega) (by omega)
        generalize x - n * 1000 - ((s.f0 + 1) * 86400000 - h) = c at *
        rw [wrap_in (n := c * 2) (by omega) (by omega), wrap_in (n := c * 2 * h) (by omega) (by omega), tdiv_nn m.1]
        generalize c * 2 * h / (2 * h + s.f1 * 1000) = q' at *
        rw [wrap_in (n := q') (by omega) (by omega), wrap_in (by omega) (by omega)]
      · rw [if_neg c2, if_neg c2]

theorem smear_f (l : List Lp) (h x : Int) (k : Nat) (ho : okL 0 l) (hl : l.length ≤ 60) (hk : 3 * l.length + 1 ≤ k) (hh : 1000 ≤ h) (hh' : h ≤ 43200000) (hx : -100000000000000 ≤ x) (hx' : x ≤ 100000000000000) :
    smear_Smear.f k l h x = some (sm h x 0 l, 0) := by
  unfold smear_Smear.f smear_Check.f
  rw [check_f l k ho hl hk]
  simp only [Option.bind_some, if_true]
  rw [if_neg (by omega), if_neg (by omega)]
  simp only [Option.bind_some, if_true]
  exact smear_loop l h x hh hh' hx hx' l k 0 0 0 rfl (by omega) ho (by omega) (by omega) (by omega) hl

/-- behind the time over which a leap is spread -/
theorem sm_past {h x : Int} (hh : 1000 ≤ h) (hh' : h ≤ 43200000) : ∀ {l : List Lp} {p n : Int}, okL p l → (p + 1) * 86400000 + h ≤ x - n * 1000 → (p + 1) * 86400000 + h ≤ sm h x n l
  | [], p, n, _, hx => by simp only [sm]; omega
  | s :: r, p, n, ⟨o1, o2, o3, o4⟩, hx => by
    simp only [sm]
    split
    · omega
    · rename_i c1
      split
      · rename_i c2
        have q := quot_bd hh o3 rfl (c := x - n * 1000 - ((s.f0 + 1) * 86400000 - h)) (by omega) c2
        omega
      · have := sm_past (x := x) hh hh' (n := n + s.f1) o4 (by omega)
        omega

theorem sm_mono {h x y : Int} (hh : 1000 ≤ h) (hh' : h ≤ 43200000) (hxy : x ≤ y) : ∀ {l : List Lp} {p n : Int}, okL p l → sm h x n l ≤ sm h y n l
  | [], p, n, _ => by simp only [sm]; omega
  | s :: r, p, n, ⟨o1, o2, o3, o4⟩ => by
    have ih := sm_mono hh hh' hxy (n := n + s.f1) o4
    have pa := sm_past (x := y) hh hh' (n := n + s.f1) o4
    simp only [sm]
    by_cases a1 : x - n * 1000 < (s.f0 + 1) * 86400000 - h
    · rw [if_pos a1]
      by_cases b1 : y - n * 1000 < (s.f0 + 1) * 86400000 - h
      · rw [if_pos b1]; omega
      · rw [if_neg b1]
        by_cases b2 : y - n * 1000 - ((s.f0 + 1) * 86400000 - h) < 2 * h + s.f1 * 1000
        · have q := quot_bd hh o3 rfl (c := y - n * 1000 - ((s.f0 + 1) * 86400000 - h)) (by omega) b2
          rw [if_pos b2]; omega
        · rw [if_neg b2]; have := pa (by omega); omega
    · rw [if_neg a1, if_neg (c := y - n * 1000 < _) (by omega)]
      by_cases a2 : x - n * 1000 - ((s.f0 + 1) * 86400000 - h) < 2 * h + s.f1 * 1000
      · have q := quot_bd hh o3 rfl (c := x - n * 1000 - ((s.f0 + 1) * 86400000 - h)) (by omega) a2
        rw [if_pos a2]
        by_cases b2 : y - n * 1000 - ((s.f0 + 1) * 86400000 - h) < 2 * h + s.f1 * 1000
        · rw [if_pos b2]
          have : (x - n * 1000 - ((s.f0 + 1) * 86400000 - h)) * 2 * h / (2 * h + s.f1 * 1000) ≤ (y - n * 1000 - ((s.f0 + 1) * 86400000 - h)) * 2 * h / (2 * h + s.f1 * 1000) :=
            Int.ediv_le_ediv (by omega) (Int.mul_le_mul_of_nonneg_right (by omega) (by omega))
          omega
        · rw [if_neg b2]; have := pa (by omega); omega
      · rw [if_neg a2, if_neg (c := y - n * 1000 - _ < _) (by omega)]
        exact ih

theorem sm_inst {h x : Int} (hh : 1000 ≤ h) (hh' : h ≤ 43200000) : ∀ {l : List Lp} {p n : Int}, okL p l → sm h x n l - (inst x n l).1 ≤ 1001 ∧ (inst x n l).1 - sm h x n l ≤ 1001
  | [], p, n, _ => by simp only [sm, inst]; omega
  | s :: r, p, n, ⟨o1, o2, o3, o4⟩ => by
    have ih := sm_inst (x := x) hh hh' (n := n + s.f1) o4
    have n1 := inst_near (x := x) (n := n + s.f1) o4
    simp only [sm]
    by_cases a1 : x - n * 1000 < (s.f0 + 1) * 86400000 - h
    · rw [if_pos a1]
      simp only [inst]
      rw [if_pos (by omega)]; dsimp only; omega
    · rw [if_neg a1]
      by_cases a2 : x - n * 1000 - ((s.f0 + 1) * 86400000 - h) < 2 * h + s.f1 * 1000
      · have q := quot_bd hh o3 rfl (c := x - n * 1000 - ((s.f0 + 1) * 86400000 - h)) (by omega) a2
        rw [if_pos a2]
        simp only [inst]
        split
        · dsimp only; omega
        · split
          · dsimp only; omega
          · rw [n1 (by omega)]; dsimp only; omega
      · rw [if_neg a2]
        simp only [inst]
        rw [if_neg (by omega), if_neg (by omega)]
        exact ih

/-- no leap within half and two seconds of the instant -/
def far (h u : Int) : List Lp → Prop
  | [] => True
  | s :: r => (u - (s.f0 + 1) * 86400000 ≥ h + 2000 ∨ u - (s.f0 + 1) * 86400000 ≤ -h - 2000) ∧ far h u r

theorem sm_far {h x : Int} (hh : 1000 ≤ h) (hh' : h ≤ 43200000) : ∀ {l : List Lp} {p n : Int}, okL p l → far h (inst x n l).1 l → sm h x n l = (inst x n l).1
  | [], p, n, _, _ => rfl
  | s :: r, p, n, ⟨o1, o2, o3, o4⟩, hf => by
    have ih := sm_far (x := x) hh hh' (n := n + s.f1) o4
    have n1 := inst_near (x := x) (n := n + s.f1) o4
    simp only [inst] at hf
    simp only [sm, inst]
    by_cases a1 : x - n * 1000 < (s.f0 + 1) * 86400000 - h
    · rw [if_pos a1, if_pos (by omega)]
    · rw [if_neg a1]
      by_cases a2 : x - n * 1000 - ((s.f0 + 1) * 86400000 - h) < 2 * h + s.f1 * 1000
      · exfalso
        have hf := hf.1
        split at hf
        · dsimp only at hf; omega
        · split at hf
          · dsimp only at hf; omega
          · rw [n1 (by omega)] at hf; dsimp only at hf; omega
      · rw [if_neg (by omega), if_neg (by omega)] at hf
        rw [if_neg a2, if_neg (by omega), if_neg (by omega)]
        exact ih hf.2

theorem sm_bd {h x : Int} (hh : 1000 ≤ h) (hh' : h ≤ 43200000) (hx : -1000000000000000 ≤ x) (hx' : x ≤ 1000000000000000) : ∀ {l : List Lp} {p n : Int}, okL p l → -3000000 ≤ p → -100 ≤ n - l.length → n + l.length ≤ 100 →
    -2000000000000000 ≤ sm h x n l ∧ sm h x n l ≤ 2000000000000000
  | [], p, n, _, _, h1, h2 => by simp only [sm]; simp at h1 h2; omega
  | s :: r, p, n, ⟨o1, o2, o3, o4⟩, hp, h1, h2 => by
    have hlen : ((s :: r).length : Int) = r.length + 1 := by simp
    have ih := sm_bd hh hh' hx hx' (n := n + s.f1) o4 (by omega) (by omega) (by omega)
    simp only [sm]
    split
    · omega
    · split
      · rename_i a1 a2
        have q := quot_bd hh o3 rfl (c := x - n * 1000 - ((s.f0 + 1) * 86400000 - h)) (by omega) a2
        omega
      · exact ih

theorem inst_bd {x : Int} : ∀ {l : List Lp} {p n : Int}, okL p l → -3000000 ≤ p → -100 ≤ n - l.length → n + l.length ≤ 100 → -1000000000000000 ≤ x → x ≤ 1000000000000000 →
    -2000000000000000 ≤ (inst x n l).1 ∧ (inst x n l).1 ≤ 2000000000000000
  | [], p, n, _, _, h1, h2, h3, h4 => by simp only [inst]; simp at h1 h2; omega
  | s :: r, p, n, ⟨o1, o2, o3, o4⟩, hp, h1, h2, h3, h4 => by
    have hlen : ((s :: r).length : Int) = r.length + 1 := by simp
    have ih := inst_bd (n := n + s.f1) o4 (by omega) (by omega) (by omega) h3 h4
    simp only [inst]
    split
    · dsimp only; omega
    · split
      · dsimp only; omega
      · exact ih

end Go.Proofs.Ytfmjlglkleinmaa.JE
