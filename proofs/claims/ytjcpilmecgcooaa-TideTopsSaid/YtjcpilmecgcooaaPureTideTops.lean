/- The law TideTops: in an interval of a high water there is a height above those at its ends, and no high water is a low one. No condition. -/
import Derived.Test.YtjcpilmecgcooaaJDx2
import Derived.Test.YtjcpilmecgcooaaTideLaw
namespace Go.Proofs.Ytjcpilmecgcooaa.Pure
open Go.Proofs.Ytjcpilmecgcooaa.JD Go.Proofs.Ytjcpilmecgcooaa.Own Go.RowKit Go.Proofs.YtjcpilmecgcooaaW.PrintWords Go.Proofs.YtjcpilmecgcooaaW.PrintLast

abbrev SP := S29
/-- the height at an instant, upside down for low waters -/
def hg (s : Int) (L : List TT) (t : Int) : SP := if s < 0 then ⟨-(ht L t).2, -(ht L t).1⟩ else ⟨(ht L t).1, (ht L t).2⟩
/-- what is told at place i -/
def isTop (h : Int → SP) (fr : Int) (i : Nat) : Prop := (h (fr + (i : Int) * 3600000)).f0 > (h (fr + ((i : Int) - 1) * 3600000)).f1 ∧ (h (fr + (i : Int) * 3600000)).f0 > (h (fr + ((i : Int) + 1) * 3600000)).f1
instance (h : Int → SP) (fr : Int) (i : Nat) : Decidable (isTop h fr i) := inferInstanceAs (Decidable (_ ∧ _))
def pk (h : Int → SP) (fr : Int) : Nat → Nat → List SP
  | 0, _ => []
  | c + 1, i => if isTop h fr i then ⟨fr + ((i : Int) - 1) * 3600000, fr + ((i : Int) + 1) * 3600000⟩ :: pk h fr c (i + 1) else pk h fr c (i + 1)
theorem pk_mem {h : Int → SP} {fr : Int} : ∀ {c i : Nat} {s : SP}, s ∈ pk h fr c i → ∃ j : Nat, i ≤ j ∧ j < i + c ∧ s = ⟨fr + ((j : Int) - 1) * 3600000, fr + ((j : Int) + 1) * 3600000⟩ ∧ isTop h fr j
  | 0, i, s, hs => by simp [pk] at hs
  | c + 1, i, s, hs => by
    simp only [pk] at hs
    split at hs
    · rename_i g
      rcases List.mem_cons.1 hs with e | e
      · exact ⟨i, Nat.le_refl _, by omega, e, g⟩
      · obtain ⟨j, a, b, d, e⟩ := pk_mem e
        exact ⟨j, by omega, by omega, d, e⟩
    · obtain ⟨j, a, b, d, e⟩ := pk_mem hs
      exact ⟨j, by omega, by omega, d, e⟩
theorem pk_len {h : Int → SP} {fr : Int} : ∀ {c i : Nat}, (pk h fr c i).length ≤ c
  | 0, i => by simp [pk]
  | c + 1, i => by
    simp only [pk]
    have := pk_len (h := h) (fr := fr) (c := c) (i := i + 1)
    split
    · simp; omega
    · omega

/-- the heights, hour by hour -/
def hl (h : Int → SP) (fr : Int) (n : Nat) : List SP := (List.range n).map fun (j : Nat) => h (fr + (j : Int) * 3600000)
theorem hl_len (h : Int → SP) (fr : Int) (n : Nat) : (hl h fr n).length = n := by simp [hl]
theorem hl_get {h : Int → SP} {fr : Int} {n i : Nat} (hi : i < n) : rd_T29 (hl h fr n) (i : Int) = h (fr + (i : Int) * 3600000) := by
  unfold rd_T29 hl
  simp [List.getD, hi]
theorem hl_succ (h : Int → SP) (fr : Int) (n : Nat) : hl h fr (n + 1) = hl h fr n ++ [h (fr + (n : Int) * 3600000)] := by
  unfold hl; rw [List.range_succ]; simp

theorem ends_l1 {h : Int → SP} {fr : Int} {n : Nat} (hn : n ≤ 500) (f1 : -310000000000000 ≤ fr) (f2 : fr ≤ 310000000000000) : ∀ (c i : Nat) (out : List SP), 1 ≤ i → i ≤ 501 → c = n - (i + 1) → out.length ≤ i → ∀ k, c + 1 ≤ k →
    tide_ends.l1 k fr (hl h fr n) out (i : Int) = some (out ++ pk h fr c i, 0)
  | 0, i, out, hi, hi5, hc, ho, k, hk => by
    obtain ⟨k, rfl⟩ : ∃ m, k = m + 1 := ⟨k - 1, by omega⟩
    simp only [tide_ends.l1]
    rw [hl_len, wrap_in (n := (i : Int) + 1) (by omega) (by omega), if_neg (by omega)]
    simp [pk]
  | c + 1, i, out, hi, hi5, hc, ho, k, hk => by
    obtain ⟨k, rfl⟩ : ∃ m, k = m + 1 := ⟨k - 1, by omega⟩
    have g0 := hl_get (h := h) (fr := fr) (n := n) (i := i) (by omega)
    have g1 := hl_get (h := h) (fr := fr) (n := n) (i := i - 1) (by omega)
    have g2 := hl_get (h := h) (fr := fr) (n := n) (i := i + 1) (by omega)
    rw [show ((i - 1 : Nat) : Int) = (i : Int) - 1 by omega] at g1
    rw [show ((i + 1 : Nat) : Int) = (i : Int) + 1 by omega] at g2
    simp only [tide_ends.l1]
    rw [hl_len, wrap_in (n := (i : Int) + 1) (by omega) (by omega), wrap_in (n := (i : Int) - 1) (by omega) (by omega), if_pos (by omega), if_pos (by omega), if_pos (by omega), if_pos (by omega), if_pos (by omega), g0, g1]
    rw [wrap_in (n := ((i : Int) - 1) * 3600000) (by omega) (by omega), wrap_in (n := ((i : Int) + 1) * 3600000) (by omega) (by omega), wrap_in (n := fr + ((i : Int) - 1) * 3600000) (by omega) (by omega), wrap_in (n := fr + ((i : Int) + 1) * 3600000) (by omega) (by omega)]
    simp only [pk]
    have e1 : ((i + 1 : Nat) : Int) = (i : Int) + 1 := by omega
    have ih := ends_l1 (h := h) hn f1 f2 c (i + 1) out (by omega) (by omega) (by omega) (by omega) k (by omega)
    rw [e1] at ih
    by_cases a : (h (fr + (i : Int) * 3600000)).f0 > (h (fr + ((i : Int) - 1) * 3600000)).f1
    · rw [if_pos a, if_pos (by omega), g2]
      by_cases b : (h (fr + (i : Int) * 3600000)).f0 > (h (fr + ((i : Int) + 1) * 3600000)).f1
      · have ih2 := ends_l1 (h := h) hn f1 f2 c (i + 1) (out ++ [⟨fr + ((i : Int) - 1) * 3600000, fr + ((i : Int) + 1) * 3600000⟩]) (by omega) (by omega) (by omega) (by simp; omega) k (by omega)
        rw [e1] at ih2
        rw [if_pos b, if_pos (by omega), if_pos (show isTop h fr i from ⟨a, b⟩), ih2]
        simp
      · rw [if_neg b, if_neg (show ¬ isTop h fr i from fun x => b x.2), ih]
    · rw [if_neg a, if_neg (show ¬ isTop h fr i from fun x => a x.1), ih]

theorem ends_l0 {L : List TT} (hL : L.length ≤ 12) (oL : ∀ x ∈ L, okT x) {fr tz s : Int} (f1 : -302400000000000 ≤ fr) (f2 : fr ≤ 302400000000000) (h1 : fr ≤ tz) (h2 : tz - fr ≤ 1728000000) (hs : s = 1 ∨ s = -1) : ∀ (m j : Nat), j + m = ((tz - fr) / 3600000 + 1).toNat → ∀ k, m + 600 ≤ k →
    tide_ends.l0 k L fr tz s (hl (hg s L) fr j) (fr + (j : Int) * 3600000) = some (pk (hg s L) fr ((tz - fr) / 3600000 - 1).toNat 1, 0)
  | 0, j, hj, k, hk => by
    obtain ⟨k, rfl⟩ : ∃ m, k = m + 1 := ⟨k - 1, by omega⟩
    simp only [tide_ends.l0]
    rw [if_neg (by omega)]
    have := ends_l1 (h := hg s L) (fr := fr) (n := j) (by omega) (by omega) (by omega) (j - 2) 1 [] (by omega) (by omega) rfl (by simp) k (by omega)
    rw [show ((1 : Nat) : Int) = 1 from rfl] at this
    rw [this, show ((tz - fr) / 3600000 - 1).toNat = j - 2 by omega]
    rfl
  | m + 1, j, hj, k, hk => by
    obtain ⟨k, rfl⟩ : ∃ m, k = m + 1 := ⟨k - 1, by omega⟩
    have ih := ends_l0 hL oL f1 f2 h1 h2 hs m (j + 1) (by omega) k (by omega)
    have b := ht_b hL oL (fr + (j : Int) * 3600000)
    have e : fr + ((j + 1 : Nat) : Int) * 3600000 = fr + (j : Int) * 3600000 + 3600000 := by omega
    simp only [tide_ends.l0]
    rw [if_pos (by omega), tsum_f hL oL k (by omega)]
    simp only [Option.bind_some]
    rw [tvalue_f hL oL (by omega) (by omega) k (by omega)]
    simp only [Option.bind_some]
    rw [hl_succ, e] at ih
    rcases hs with hs | hs
    · rw [hs] at ih ⊢
      rw [if_neg (by omega), hl_len, if_pos (by omega), wrap_in (n := fr + (j : Int) * 3600000 + 3600000) (by omega) (by omega)]
      exact ih
    · rw [hs] at ih ⊢
      rw [if_pos (by omega), hl_len, if_pos (by omega), wrap_in (n := fr + (j : Int) * 3600000 + 3600000) (by omega) (by omega), wrap_in (n := -(ht L (fr + (j : Int) * 3600000)).2) (by omega) (by omega), wrap_in (n := -(ht L (fr + (j : Int) * 3600000)).1) (by omega) (by omega)]
      exact ih

theorem ends_f {L : List TT} (hL : L.length ≤ 12) (oL : ∀ x ∈ L, okT x) {fr tz s : Int} (f1 : -302400000000000 ≤ fr) (f2 : fr ≤ 302400000000000) (h1 : fr ≤ tz) (h2 : tz - fr ≤ 1728000000) (hs : s = 1 ∨ s = -1) (k : Nat) (hk : 1200 ≤ k) :
    tide_ends.f k L fr tz s = some (pk (hg s L) fr ((tz - fr) / 3600000 - 1).toNat 1, 0) := by
  obtain ⟨k, rfl⟩ : ∃ m, k = m + 1 := ⟨k - 1, by omega⟩
  unfold tide_ends.f
  rw [tchk_f hL oL _ (by omega)]
  unfold series_Valid.f
  rw [if_pos (show fr ≥ -345600000000000 by omega), if_pos (show tz ≥ -345600000000000 by omega), decide_eq_true (show fr < 345600086400000 by omega), decide_eq_true (show tz < 345600086400000 by omega)]
  simp only [Option.bind_some, if_true, Bool.not_true, tide_ends.j0, Bool.false_eq_true, if_false]
  rw [if_neg (by omega), wrap_in (n := tz - fr) (by omega) (by omega), if_neg (by omega)]
  have := ends_l0 hL oL f1 f2 h1 h2 hs _ 0 (Nat.zero_add _) k (by omega)
  simpa [hl] using this

theorem rdSP_get {l : List SP} {i : Nat} (h : i < l.length) : rd_T29 l (i : Int) = l[i] := by
  unfold rd_T29
  simp [List.getD, h]
theorem tops_l1 {L : List TT} {low high : List SP} {a b i0 n : Int} (hn : low.length ≤ 500) (hne : ∀ r ∈ low, ¬ (r.f0 = a ∧ r.f1 = b)) {Z : Option Bool} : ∀ (c i : Nat), i + c = low.length → ∀ k, c + 1 ≤ k → (∀ k', k = k' + c + 1 → ephemeriskeep2_TideTops.l0 k' L low high n (wrap64 (i0 + 1)) = Z) →
    ephemeriskeep2_TideTops.l1 k L low high n i0 low (low.length : Int) (i : Int) a b = Z
  | 0, i, hi, k, hk, hz => by
    obtain ⟨k, rfl⟩ : ∃ m, k = m + 1 := ⟨k - 1, by omega⟩
    simp only [ephemeriskeep2_TideTops.l1]
    rw [if_neg (by omega)]
    exact hz k rfl
  | c + 1, i, hi, k, hk, hz => by
    obtain ⟨k, rfl⟩ : ∃ m, k = m + 1 := ⟨k - 1, by omega⟩
    have hlt : i < low.length := by omega
    have ne := hne _ (List.getElem_mem hlt)
    simp only [ephemeriskeep2_TideTops.l1]
    rw [if_pos (by omega), if_pos (by omega), if_pos (by omega), rdSP_get hlt]
    have f : ¬ ((low[i].f0 == a && (low[i].f1 == b)) = true) := by
      intro h
      rw [Bool.and_eq_true, beq_iff_eq, beq_iff_eq] at h
      exact ne h
    rw [if_neg f, wrap_in (n := (i : Int) + 1) (by omega) (by omega), show ((i : Int) + 1) = ((i + 1 : Nat) : Int) by omega]
    exact tops_l1 hn hne c (i + 1) (by omega) k (by omega) (fun k' e => hz k' (by omega))

def bd : Nat → Nat
  | 0 => 600
  | c + 1 => bd c + 600
theorem tops_l0 {L : List TT} (hL : L.length ≤ 12) (oL : ∀ x ∈ L, okT x) {fr : Int} (f1 : -302400000000000 ≤ fr) (f2 : fr ≤ 302400000000000) {N : Nat} (hN : N ≤ 480) : ∀ (c i : Nat), i + c = (pk (hg 1 L) fr N 1).length → ∀ k, bd c ≤ k →
    ephemeriskeep2_TideTops.l0 k L (pk (hg (-1) L) fr N 1) (pk (hg 1 L) fr N 1) ((pk (hg 1 L) fr N 1).length : Int) (i : Int) = some true := by
  intro c
  induction c with
  | zero =>
    intro i hi k hk
    have hb : bd 0 = 600 := rfl
    obtain ⟨k, rfl⟩ : ∃ m, k = m + 1 := ⟨k - 1, by omega⟩
    simp only [ephemeriskeep2_TideTops.l0]
    rw [if_neg (by omega)]
  | succ c ih =>
    intro i hi k hk
    have hb : bd (c + 1) = bd c + 600 := rfl
    have hb2 : 600 ≤ bd c := by cases c <;> simp [bd]
    obtain ⟨k, rfl⟩ : ∃ m, k = m + 1 + 1 := ⟨k - 2, by omega⟩
    have hlt : i < (pk (hg 1 L) fr N 1).length := by omega
    have len := pk_len (h := hg 1 L) (fr := fr) (c := N) (i := 1)
    have len2 := pk_len (h := hg (-1) L) (fr := fr) (c := N) (i := 1)
    obtain ⟨j, j1, j2, j3, j4, j5⟩ := pk_mem (List.getElem_mem hlt)
    unfold hg at j4 j5
    rw [if_neg (by omega), if_neg (by omega)] at j4 j5
    simp only at j4 j5
    simp only [ephemeriskeep2_TideTops.l0]
    rw [if_pos (by omega), if_pos (by omega), if_pos (by omega), rdSP_get hlt, j3]
    simp only
    have em : fr + ((j : Int) - 1) * 3600000 + (fr + ((j : Int) + 1) * 3600000) = 2 * (fr + (j : Int) * 3600000) := by omega
    rw [wrap_in (n := fr + ((j : Int) - 1) * 3600000 + (fr + ((j : Int) + 1) * 3600000)) (by omega) (by omega), em, Int.mul_tdiv_cancel_left _ (show (2 : Int) ≠ 0 by decide), wrap_in (n := fr + (j : Int) * 3600000) (by omega) (by omega)]
    rw [height_f hL oL (by omega) (by omega) _ (by omega), height_f hL oL (by omega) (by omega) _ (by omega), height_f hL oL (by omega) (by omega) _ (by omega)]
    simp only [Option.bind_some]
    rw [if_neg (by omega), decide_eq_false (by omega)]
    simp only [ephemeriskeep2_TideTops.j2, Bool.false_eq_true, if_false]
    refine tops_l1 (by omega) ?_ _ 0 (Nat.zero_add _) k (by omega) (fun k' e => ?_)
    · intro r hr he
      obtain ⟨q, q1, q2, q3, q4, q5⟩ := pk_mem hr
      unfold hg at q4 q5
      rw [if_pos (by omega), if_pos (by omega)] at q4 q5
      simp only at q4 q5
      rw [q3] at he
      simp only at he
      have e : q = j := by omega
      subst e
      have b0 := ht_b hL oL (fr + (q : Int) * 3600000)
      have b1 := ht_b hL oL (fr + ((q : Int) - 1) * 3600000)
      omega
    · rw [wrap_in (n := (i : Int) + 1) (by omega) (by omega), show ((i : Int) + 1) = ((i + 1 : Nat) : Int) by omega]
      have e' : k = k' + (pk (hg (-1) L) fr N 1).length + 1 := e
      clear e
      have kk : bd c ≤ k' := by omega
      exact ih (i + 1) (by omega) k' kk

theorem TideTops : ephemeriskeep2_TideTops.Pure := by
  intro l a hours hlm _ _ _
  have hl' : l.length ≤ 9223372036854775807 := by unfold maxLen at hlm; omega
  obtain ⟨k0, hw⟩ := tide_works
  have key : ∀ (L : List TT) (t h : Int), ∃ K, K = bd (pk (hg 1 L) t ((t + h * 3600000 - t) / 3600000 - 1).toNat 1).length := fun _ _ _ => ⟨_, rfl⟩
  obtain ⟨K, hK⟩ := key ((l.take 6).map nt) (a % 604800000000000 - 302400000000000) (hours % 480)
  refine ⟨k0 + l.length + K + 2000 + 1, ?_⟩
  have nl := nt_len l
  have ol := nt_all l
  unfold ephemeriskeep2_TideTops.f
  rw [hw _ (by omega), tides_f hl' _ (by omega), instant_f, tat_f (by omega) (by omega)]
  generalize (l.take 6).map nt = L at *
  have h3 : -302400000000000 ≤ a % 604800000000000 - 302400000000000 := by omega
  have h4 : a % 604800000000000 - 302400000000000 ≤ 302400000000000 := by omega
  generalize a % 604800000000000 - 302400000000000 = t at *
  have hh : 0 ≤ hours % 480 ∧ hours % 480 < 480 := by omega
  generalize hours % 480 = h at *
  simp only [Option.bind_some, if_true]
  rw [wrap_in (n := h * 3600000) (by omega) (by omega), wrap_in (n := t + h * 3600000) (by omega) (by omega)]
  unfold tide_High.f tide_Low.f
  rw [ends_f (by omega) ol h3 h4 (by omega) (by omega) (Or.inl rfl) _ (by omega), ends_f (by omega) ol h3 h4 (by omega) (by omega) (Or.inr rfl) _ (by omega)]
  simp only [Option.bind_some, if_true]
  rw [show ((0 : Int) != 0) = false from rfl]
  simp only [ephemeriskeep2_TideTops.j0, Bool.false_eq_true, if_false]
  have len := pk_len (h := hg 1 L) (fr := t) (c := ((t + h * 3600000 - t) / 3600000 - 1).toNat) (i := 1)
  exact tops_l0 (by omega) ol h3 h4 (N := ((t + h * 3600000 - t) / 3600000 - 1).toNat) (by omega) _ 0 (Nat.zero_add _) _ (by omega)
end Go.Proofs.Ytjcpilmecgcooaa.Pure
