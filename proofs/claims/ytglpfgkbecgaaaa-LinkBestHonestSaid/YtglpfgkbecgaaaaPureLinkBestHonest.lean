/- The law LinkBestHonest: the interval of several exchanges contains the offset, and is within that of each. No condition. -/
import Derived.Test.YtglpfgkbecgaaaaJLx2
import Derived.Test.YtglpfgkbecgaaaaAbase
namespace Go.Proofs.Ytglpfgkbecgaaaa.JL
open Go.Proofs.Ytglpfgkbecgaaaa.Own Go.RowKit Go.Proofs.YtglpfgkbecgaaaaW.PrintWords Go.Proofs.YtglpfgkbecgaaaaW.PrintLast

theorem at_eq {a m : Int} (h : 0 < m) (h' : m ≤ 4000000000000000000) : ephemeriskeep2_at.f a m = some (a % m) := by
  unfold ephemeriskeep2_at.f
  rw [if_neg (by omega), at_val h h']

theorem check_ok {a b : Int} (k : Nat) (h1 : -1000000000000000000 ≤ a) (h2 : a ≤ b) (h3 : b ≤ 1000000000000000000) : interval_Check.f (k + 1) a b = some 0 := by
  unfold interval_Check.f interval_out.f
  rw [if_neg (by omega), if_neg (by omega)]
  simp only [Option.bind_some, interval_Check.j0]
  rw [decide_eq_false (by omega), decide_eq_false (by omega)]
  simp only [Bool.false_eq_true, if_false]
  rw [if_neg (by omega)]

theorem times_ok {a b : Int} (k : Nat) (h1 : -100000000000000000 ≤ a) (h2 : a ≤ b) (h3 : b ≤ 100000000000000000) : oscill_Times.f (k + 1) a b = some 0 := by
  unfold oscill_Times.f
  rw [if_neg (by omega), if_neg (by omega), check_ok k (by omega) h2 (by omega)]
  rfl

theorem offset_ok {a b c d : Int} (k : Nat) (h1 : -100000000000000000 ≤ a) (h2 : a ≤ b) (h3 : b ≤ 100000000000000000) (h4 : -100000000000000000 ≤ c) (h5 : c ≤ d) (h6 : d ≤ 100000000000000000) (h7 : d - b ≤ c - a) :
    link_Offset.f (k + 1) a b c d = some (d - b, c - a, 0) := by
  unfold link_Offset.f link_Check.f
  rw [times_ok k h1 h2 h3, times_ok k h4 h5 h6]
  simp only [Option.bind_some, if_true]
  rw [wrap_in (by omega) (by omega), wrap_in (by omega) (by omega), if_neg (by omega)]

abbrev LX := S30
theorem drop_end_ {α : Type} {l : List α} {i : Nat} (h : l.drop i = []) : l.length ≤ i := List.drop_eq_nil_iff.mp h
theorem drop_step_ {α : Type} {l : List α} {i : Nat} {x : α} {r : List α} (h : l.drop i = x :: r) : i < l.length ∧ l.drop (i + 1) = r ∧ l[i]? = some x := by
  have h1 : i < l.length := by
    rcases Nat.lt_or_ge i l.length with h1 | h1
    · exact h1
    · rw [List.drop_eq_nil_iff.mpr h1] at h; cases h
  refine ⟨h1, ?_, ?_⟩
  · rw [← List.drop_drop, h]; rfl
  · have := congrArg (fun z => z[0]?) h
    simpa using this
theorem rdX {l : List LX} {i : Nat} {x : LX} (h : l[i]? = some x) : rd_T30 l (i : Int) = x := by
  simp [rd_T30, h]

/-- an exchange whose delays are not negative -/
def okL (o : Int) (x : LX) : Prop := 0 ≤ x.f0 ∧ x.f0 ≤ x.f1 ∧ x.f1 ≤ 100000 ∧ -2000000 ≤ x.f2.f0 ∧ x.f2.f0 ≤ x.f2.f1 ∧ x.f2.f1 ≤ 2000000 ∧ x.f2.f1 - x.f1 ≤ o ∧ o ≤ x.f2.f0 - x.f0

theorem okL_off {o : Int} {x : LX} (k : Nat) (h : okL o x) : link_Offset.f (k + 1) x.f0 x.f1 x.f2.f0 x.f2.f1 = some (x.f2.f1 - x.f1, x.f2.f0 - x.f0, 0) := by
  obtain ⟨h1, h2, h3, h4, h5, h6, h7, h8⟩ := h
  exact offset_ok k (by omega) (by omega) (by omega) (by omega) (by omega) (by omega) (by omega)

theorem best_loop (o : Int) (l : List LX) (hl : l.length ≤ 1000) (hok : ∀ x ∈ l, okL o x) : ∀ (rest : List LX) (k i : Nat) (a b : Int), l.drop i = rest → rest.length + 2 ≤ k → a ≤ o → o ≤ b → (∀ x ∈ l.take i, x.f2.f1 - x.f1 ≤ a ∧ b ≤ x.f2.f0 - x.f0) →
    ∃ p q, link_Best.l0 k l l.length i a b = some (p, q, 0) ∧ p ≤ o ∧ o ≤ q ∧ ∀ x ∈ l, x.f2.f1 - x.f1 ≤ p ∧ q ≤ x.f2.f0 - x.f0
  | [], k, i, a, b, hr, hk, ha, hb, hx => by
    obtain ⟨k, rfl⟩ : ∃ m, k = m + 1 := ⟨k - 1, by omega⟩
    have := drop_end_ hr
    simp only [link_Best.l0]
    rw [if_neg (by omega), if_neg (by omega)]
    refine ⟨a, b, rfl, ha, hb, fun x h => hx x ?_⟩
    rw [List.take_of_length_le this]; exact h
  | s :: rest, k, i, a, b, hr, hk, ha, hb, hx => by
    have hlen : (s :: rest).length = rest.length + 1 := rfl
    obtain ⟨k, rfl⟩ : ∃ m, k = m + 2 := ⟨k - 2, by omega⟩
    obtain ⟨h1, h2, h3⟩ := drop_step_ hr
    have hs := hok s (List.mem_of_getElem? h3)
    simp only [link_Best.l0]
    rw [if_pos (by omega), if_pos (by omega), if_pos (by omega), rdX h3, okL_off k hs, wrap_in (n := (i : Int) + 1) (by omega) (by omega), show (i : Int) + 1 = ((i + 1 : Nat) : Int) from by omega]
    simp only [Option.bind_some, if_true]
    obtain ⟨_, _, _, _, _, _, s7, s8⟩ := hs
    obtain ⟨p, q, g1, g2, g3, g4⟩ := best_loop o l hl hok rest (k + 1) (i + 1) (mx a (s.f2.f1 - s.f1)) (mn b (s.f2.f0 - s.f0)) h2 (by omega) (by simp only [mx]; omega) (by simp only [mn]; omega) (fun x h => by
      rw [List.take_add_one, h3] at h
      rcases List.mem_append.1 h with e | e
      · have := hx x e
        simp only [mx, mn]; omega
      · simp at e; subst e
        simp only [mx, mn]; omega)
    exact ⟨p, q, g1, g2, g3, g4⟩

theorem best_f (o : Int) (l : List LX) (k : Nat) (hl : l.length ≤ 40) (hne : l ≠ []) (hk : l.length + 2 ≤ k) (ho : -1000000 ≤ o ∧ o ≤ 1000000) (hok : ∀ x ∈ l, okL o x) : ∃ p q, link_Best.f k l = some (p, q, 0) ∧ p ≤ o ∧ o ≤ q ∧ ∀ x ∈ l, x.f2.f1 - x.f1 ≤ p ∧ q ≤ x.f2.f0 - x.f0 := by
  have h0 : 0 < l.length := List.length_pos_iff.mpr hne
  unfold link_Best.f
  rw [if_neg (by omega), if_neg (by omega)]
  exact best_loop o l (by omega) hok l k 0 _ _ rfl hk (by omega) (by omega) (fun x h => by simp at h)

theorem check_loop (o p q : Int) (l : List LX) (hl : l.length ≤ 1000) (hok : ∀ x ∈ l, okL o x) (hpq : ∀ x ∈ l, x.f2.f1 - x.f1 ≤ p ∧ q ≤ x.f2.f0 - x.f0) (h1 : p ≤ o) (h2 : o ≤ q) : ∀ (rest : List LX) (k i : Nat), l.drop i = rest → rest.length + 2 ≤ k →
    ephemeriskeep2_LinkBestHonest.l1 k o 0 l l.length i p q = some true
  | [], k, i, hr, hk => by
    obtain ⟨k, rfl⟩ : ∃ m, k = m + 1 := ⟨k - 1, by omega⟩
    have := drop_end_ hr
    simp only [ephemeriskeep2_LinkBestHonest.l1]
    rw [if_neg (by omega), if_pos (by trivial), if_pos h1, decide_eq_true h2]
  | s :: rest, k, i, hr, hk => by
    have hlen : (s :: rest).length = rest.length + 1 := rfl
    obtain ⟨k, rfl⟩ : ∃ m, k = m + 2 := ⟨k - 2, by omega⟩
    obtain ⟨g1, g2, g3⟩ := drop_step_ hr
    have hm := List.mem_of_getElem? g3
    have hs := hok s hm
    have hh := hpq s hm
    simp only [ephemeriskeep2_LinkBestHonest.l1]
    rw [if_pos (by omega), if_pos (by omega), if_pos (by omega), rdX g3, okL_off k hs, wrap_in (n := (i : Int) + 1) (by omega) (by omega), show (i : Int) + 1 = ((i + 1 : Nat) : Int) from by omega]
    simp only [Option.bind_some, if_true]
    unfold ephemeriskeep2_holds.f
    rw [if_pos (by omega), decide_eq_true (by omega)]
    simp only [Option.bind_some, if_true]
    exact check_loop o p q l hl hok hpq h1 h2 rest (k + 1) (i + 1) g2 (by omega)

theorem make_loop (o : Int) (ho : -1000000 ≤ o ∧ o ≤ 1000000) (l : List (S25)) (hl : l.length ≤ 9223372036854775807) : ∀ (rest : List (S25)) (k i : Nat) (acc : List LX), l.drop i = rest → rest.length + 50 ≤ k → (∀ x ∈ acc, okL o x) → acc.length ≤ i → acc.length ≤ 10 →
    ephemeriskeep2_LinkBestHonest.l0 k o acc l l.length i = some true
  | [], k, i, acc, hr, hk, ha, hi, h10 => by
    obtain ⟨k, rfl⟩ : ∃ m, k = m + 1 := ⟨k - 1, by omega⟩
    have := drop_end_ hr
    simp only [ephemeriskeep2_LinkBestHonest.l0]
    rw [if_neg (by omega)]
    by_cases c : acc = []
    · subst c
      unfold link_Best.f
      simp
    · obtain ⟨p, q, g1, g2, g3, g4⟩ := best_f o acc k (by omega) c (by omega) ho ha
      have h0 : 0 < acc.length := List.length_pos_iff.mpr c
      rw [g1]
      simp only [Option.bind_some]
      rw [if_neg (by omega)]
      exact check_loop o p q acc (by omega) ha g4 g2 g3 acc k 0 rfl (by omega)
  | s :: rest, k, i, acc, hr, hk, ha, hi, h10 => by
    have hlen : (s :: rest).length = rest.length + 1 := rfl
    obtain ⟨k, rfl⟩ : ∃ m, k = m + 1 := ⟨k - 1, by omega⟩
    obtain ⟨h1, h2, h3⟩ := drop_step_ hr
    simp only [ephemeriskeep2_LinkBestHonest.l0]
    rw [if_pos (by omega), if_pos (by omega), if_pos (by omega), wrap_in (n := (i : Int) + 1) (by omega) (by omega), show (i : Int) + 1 = ((i + 1 : Nat) : Int) from by omega]
    by_cases c : (i : Int) < 10
    · rw [if_pos c, at_eq (by omega) (by omega), at_eq (by omega) (by omega), at_eq (by omega) (by omega)]
      simp only [Option.bind_some]
      generalize rd_T25 l (i : Int) = d
      have c2 : 0 ≤ d.f0 % 1000 ∧ d.f0 % 1000 < 1000 := by omega
      have c3 : 0 ≤ d.f1 % 1000 ∧ d.f1 % 1000 < 1000 := by omega
      have c4 : 0 ≤ d.f2 % 1000 ∧ d.f2 % 1000 < 1000 := by omega
      generalize d.f0 % 1000 = x at *
      generalize d.f1 % 1000 = y at *
      generalize d.f2 % 1000 = z at *
      rw [if_pos (by omega), wrap_in (n := 5000 * (i : Int)) (by omega) (by omega), wrap_in (n := 5000 * (i : Int) + x) (by omega) (by omega), wrap_in (n := 5000 * (i : Int) + x + y) (by omega) (by omega), wrap_in (n := 5000 * (i : Int) + x + y + z) (by omega) (by omega), wrap_in (n := 5000 * (i : Int) + x + o) (by omega) (by omega), wrap_in (n := 5000 * (i : Int) + x + y + o) (by omega) (by omega)]
      exact make_loop o ho l hl rest k (i + 1) _ h2 (by omega) (fun e he => by
        rcases List.mem_append.1 he with e1 | e1
        · exact ha e e1
        · simp at e1; subst e1
          refine ⟨?_, ?_, ?_, ?_, ?_, ?_, ?_, ?_⟩ <;> (dsimp only; omega)) (by simp; omega) (by simp; omega)
    · rw [if_neg c]
      exact make_loop o ho l hl rest k (i + 1) acc h2 (by omega) ha (by omega) h10

end Go.Proofs.Ytglpfgkbecgaaaa.JL
namespace Go.Proofs.Ytglpfgkbecgaaaa.Pure
open Go.Proofs.Ytglpfgkbecgaaaa.Own Go.RowKit Go.Proofs.YtglpfgkbecgaaaaW.PrintWords Go.Proofs.YtglpfgkbecgaaaaW.PrintLast Go.Proofs.Ytglpfgkbecgaaaa.JL
theorem LinkBestHonest : ephemeriskeep2_LinkBestHonest.Pure := by
  intro a0 l1 _ hl _
  refine ⟨l1.length + 51, ?_⟩
  unfold ephemeriskeep2_LinkBestHonest.f
  have hw : ephemeriskeep2_linkWorks.f (l1.length + 51) = some true := by
    unfold ephemeriskeep2_linkWorks.f link_Delay.f
    rw [offset_ok (l1.length + 50) (by omega) (by omega) (by omega) (by omega) (by omega) (by omega) (by omega)]
    decide +kernel
  rw [hw]
  simp only [Option.bind_some, if_true]
  have b0 := tmod_lt (a := a0) (m := 1000000) (by omega)
  have hm : l1.length ≤ 9223372036854775807 := by unfold maxLen at hl; omega
  exact make_loop _ (by omega) l1 hm l1 _ 0 [] rfl (by omega) (fun x h => by cases h) (Nat.le_refl _) (by simp)

end Go.Proofs.Ytglpfgkbecgaaaa.Pure
