/- package tide: what tides, sum, Check and Height compute. No condition on a program. -/
import Derived.Test.YtjcpilmecgcooaaJDx2
import Derived.Test.YtjcpilmecgcooaaJDx2
import Derived.Test.YtjcpilmecgcooaaJDx2
import Derived.Test.YtjcpilmecgcooaaSumLaw
namespace Go.Proofs.Ytjcpilmecgcooaa.JD
open Go.Proofs.Ytjcpilmecgcooaa.Own Go.RowKit Go.Proofs.YtjcpilmecgcooaaW.PrintWords Go.Proofs.YtjcpilmecgcooaaW.PrintLast

abbrev TT := S48
abbrev ST := S69
def okT (x : TT) : Prop := 0 ≤ x.f0 ∧ x.f0 ≤ 20000 ∧ 0 ≤ x.f1 ∧ x.f1 < 1000000000 ∧ 1 ≤ x.f2 ∧ x.f2 ≤ 4000000000000000
/-- a constituent that is permitted -/
def nt (x : TT) : TT := ⟨x.f0 % 20001, x.f1 % 1000000000, 1 + x.f2 % 4000000000000000⟩
theorem nt_ok (x : TT) : okT (nt x) := by unfold okT nt; simp only; omega
/-- the term of a constituent -/
def tt (x : TT) : ST := ⟨x.f0, (x.f1 + 250000000) % 1000000000, x.f2⟩
theorem tt_ok {x : TT} (h : okT x) : tok (tt x) := by obtain ⟨a, b, c, d, e, f⟩ := h; unfold tok tt; simp only; omega

theorem rdTT_get {l : List TT} {i : Nat} (h : i < l.length) : rd_T48 l (i : Int) = l[i] := by
  unfold rd_T48
  simp [List.getD, h]

theorem instant_f (a : Int) : ephemeriskeep2_instant.f a = some (a % 604800000000000 - 302400000000000) := by
  unfold ephemeriskeep2_instant.f
  rw [tat_f (by omega) (by omega)]
  simp only [Option.bind_some]
  rw [wrap_in (by omega) (by omega)]

theorem tides_l {l : List TT} (hl : l.length ≤ 9223372036854775807) : ∀ (n i : Nat) (acc : List TT), i + n = l.length → acc.length ≤ 6 → acc.length = min i 6 → ∀ k, n + 1 ≤ k →
    ephemeriskeep2_tides.l0 k acc l (l.length : Int) (i : Int) = some (acc ++ ((l.drop i).take (6 - i)).map nt)
  | 0, i, acc, hi, _, _, k, hk => by
    obtain ⟨k, rfl⟩ : ∃ m, k = m + 1 := ⟨k - 1, by omega⟩
    simp only [ephemeriskeep2_tides.l0]
    rw [if_neg (by omega), List.drop_eq_nil_of_le (by omega)]
    simp
  | n + 1, i, acc, hi, ha, ha', k, hk => by
    obtain ⟨k, rfl⟩ : ∃ m, k = m + 1 := ⟨k - 1, by omega⟩
    have hlt : i < l.length := by omega
    have e : l.drop i = l[i] :: l.drop (i + 1) := List.drop_eq_getElem_cons hlt
    simp only [ephemeriskeep2_tides.l0]
    rw [if_pos (by omega), if_pos (by omega), if_pos (by omega), rdTT_get hlt]
    rw [wrap_in (n := (i : Int) + 1) (by omega) (by omega), show ((i : Int) + 1) = ((i + 1 : Nat) : Int) by omega]
    by_cases c : i < 6
    · rw [if_pos (by omega), tat_f (by omega) (by omega), tat_f (by omega) (by omega), tat_f (by omega) (by omega)]
      simp only [Option.bind_some]
      rw [if_pos (by omega), wrap_in (n := 1 + l[i].f2 % 4000000000000000) (by omega) (by omega)]
      have ih := tides_l hl n (i + 1) (acc ++ [nt l[i]]) (by omega) (by simp; omega) (by simp; omega) k (by omega)
      simp only [nt] at ih
      rw [ih, e, show 6 - i = (6 - (i + 1)) + 1 by omega, List.take_succ_cons, List.map_cons, List.append_assoc]
      rfl
    · rw [if_neg (by omega)]
      have ih := tides_l hl n (i + 1) acc (by omega) ha (by omega) k (by omega)
      rw [ih, show 6 - i = 0 by omega, show 6 - (i + 1) = 0 by omega]
      simp
theorem tides_f {l : List TT} (hl : l.length ≤ 9223372036854775807) (k : Nat) (hk : l.length + 1 ≤ k) : ephemeriskeep2_tides.f k l = some ((l.take 6).map nt) := by
  unfold ephemeriskeep2_tides.f
  have := tides_l hl l.length 0 [] (by omega) (by simp) (by simp) k hk
  simpa using this

theorem tchk_l {l : List TT} (hl : l.length ≤ 12) (ho : ∀ x ∈ l, okT x) : ∀ (n i : Nat), i + n = l.length → ∀ k, n + 1 ≤ k → tide_Check.l0 k l (l.length : Int) (i : Int) = some 0
  | 0, i, hi, k, hk => by
    obtain ⟨k, rfl⟩ : ∃ m, k = m + 1 := ⟨k - 1, by omega⟩
    simp only [tide_Check.l0]
    rw [if_neg (by omega)]
  | n + 1, i, hi, k, hk => by
    obtain ⟨k, rfl⟩ : ∃ m, k = m + 1 := ⟨k - 1, by omega⟩
    have hlt : i < l.length := by omega
    obtain ⟨o1, o2, o3, o4, o5, o6⟩ := ho _ (List.getElem_mem hlt)
    simp only [tide_Check.l0]
    rw [if_pos (by omega), if_pos (by omega), if_pos (by omega), rdTT_get hlt, if_neg (by omega), if_neg (by omega), if_neg (by omega), if_neg (by omega), if_neg (by omega), if_neg (by omega)]
    rw [wrap_in (n := (i : Int) + 1) (by omega) (by omega), show ((i : Int) + 1) = ((i + 1 : Nat) : Int) by omega]
    exact tchk_l hl ho n (i + 1) (by omega) k (by omega)
theorem tchk_f {l : List TT} (hl : l.length ≤ 12) (ho : ∀ x ∈ l, okT x) (k : Nat) (hk : 13 ≤ k) : tide_Check.f k l = some 0 := by
  unfold tide_Check.f
  rw [if_neg (by omega)]
  exact tchk_l hl ho l.length 0 (by omega) k (by omega)

theorem tsum_l {l : List TT} (hl : l.length ≤ 12) (ho : ∀ x ∈ l, okT x) : ∀ (n i : Nat) (acc : List ST), i + n = l.length → acc.length = i → ∀ k, n + 1 ≤ k →
    tide_sum.l0 k l (l.length : Int) (i : Int) 0 0 acc 0 = some (0, 0, acc ++ (l.drop i).map tt, 0)
  | 0, i, acc, hi, _, k, hk => by
    obtain ⟨k, rfl⟩ : ∃ m, k = m + 1 := ⟨k - 1, by omega⟩
    simp only [tide_sum.l0]
    rw [if_neg (by omega), List.drop_eq_nil_of_le (by omega)]
    simp
  | n + 1, i, acc, hi, ha, k, hk => by
    obtain ⟨k, rfl⟩ : ∃ m, k = m + 1 := ⟨k - 1, by omega⟩
    have hlt : i < l.length := by omega
    obtain ⟨o1, o2, o3, o4, o5, o6⟩ := ho _ (List.getElem_mem hlt)
    have e : l.drop i = l[i] :: l.drop (i + 1) := List.drop_eq_getElem_cons hlt
    simp only [tide_sum.l0]
    rw [if_pos (by omega), if_pos (by omega), if_pos (by omega), if_pos (by omega), rdTT_get hlt]
    rw [wrap_in (n := (i : Int) + 1) (by omega) (by omega), wrap_in (n := l[i].f1 + 250000000) (by omega) (by omega), tmod_nn (by omega), show ((i : Int) + 1) = ((i + 1 : Nat) : Int) by omega]
    have ih := tsum_l hl ho n (i + 1) (acc ++ [tt l[i]]) (by omega) (by simp; omega) k (by omega)
    simp only [tt] at ih
    rw [ih, e, List.map_cons, List.append_assoc]
    rfl
theorem tsum_f {l : List TT} (hl : l.length ≤ 12) (ho : ∀ x ∈ l, okT x) (k : Nat) (hk : 13 ≤ k) : tide_sum.f k l = some (0, 0, l.map tt, 0) := by
  unfold tide_sum.f
  have := tsum_l hl ho l.length 0 [] (by omega) rfl k (by omega)
  simpa using this

/-- the heights of a tide -/
def ht (l : List TT) (t : Int) : Int × Int := sl (l.map tt) t
theorem tt_all {l : List TT} (ho : ∀ x ∈ l, okT x) : ∀ x ∈ l.map tt, tok x := by
  intro x hx
  obtain ⟨y, hy, rfl⟩ := List.mem_map.1 hx
  exact tt_ok (ho y hy)
theorem tvalue_f {l : List TT} (hl : l.length ≤ 12) (ho : ∀ x ∈ l, okT x) {t : Int} (h3 : -345600000000000 ≤ t) (h4 : t < 345600086400000) (k : Nat) (hk : 53 ≤ k) :
    series_Value.f k 0 0 (l.map tt) 0 t = some ((ht l t).1, (ht l t).2, 0) := by
  rw [value_f (by simp; omega) (tt_all ho) h3 h4 (by omega) (by omega) (by omega) (by omega) (by omega) (by omega) k hk]
  simp [ht]
theorem ht_b {l : List TT} (hl : l.length ≤ 12) (ho : ∀ x ∈ l, okT x) (t : Int) : -12000000000 ≤ (ht l t).1 ∧ (ht l t).1 ≤ (ht l t).2 ∧ (ht l t).2 ≤ 12000000000 := by
  have b := sl_b (tt_all ho) t
  rw [List.length_map] at b
  unfold ht
  omega
theorem height_f {l : List TT} (hl : l.length ≤ 12) (ho : ∀ x ∈ l, okT x) {t : Int} (h3 : -345600000000000 ≤ t) (h4 : t < 345600086400000) (k : Nat) (hk : 53 ≤ k) :
    tide_Height.f k l t = some ((ht l t).1, (ht l t).2, 0) := by
  unfold tide_Height.f
  rw [tchk_f hl ho k (by omega), tsum_f hl ho k (by omega)]
  simp only [Option.bind_some, if_true]
  rw [tvalue_f hl ho h3 h4 k hk]
  simp

theorem tide_works : ∃ k0, ∀ k, k0 ≤ k → ephemeriskeep2_tideWorks.f k = some true :=
  of_mono (k0 := 60) ephemeriskeep2_tideWorks.mono (by decide +kernel)
theorem nt_all (l : List TT) : ∀ x ∈ (l.take 6).map nt, okT x := by
  intro x hx
  obtain ⟨y, _, rfl⟩ := List.mem_map.1 hx
  exact nt_ok y
theorem nt_len (l : List TT) : ((l.take 6).map nt).length ≤ 6 := by simp; omega
theorem plus_f {a b c d : Int} (h1 : -1000000000000 ≤ a) (h1' : a ≤ 1000000000000) (h2 : -1000000000000 ≤ b) (h2' : b ≤ 1000000000000) (h3 : -1000000000000 ≤ c) (h3' : c ≤ 1000000000000) (h4 : -1000000000000 ≤ d) (h4' : d ≤ 1000000000000) :
    ephemeriskeep2_plus.f a b c d = some (a + c, b + d) := by
  unfold ephemeriskeep2_plus.f
  rw [wrap_in (by omega) (by omega), wrap_in (by omega) (by omega)]
end Go.Proofs.Ytjcpilmecgcooaa.JD
