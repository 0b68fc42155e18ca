/- What the statement's small computes. No condition on a program. -/
import Derived.Test.YtemfkcdhkmmbeaaJDx1
import Derived.Test.YtemfkcdhkmmbeaaJDx1
import Derived.Test.YtemfkcdhkmmbeaaSumLaw
namespace Go.Proofs.Ytemfkcdhkmmbeaa.JD
open Go.Proofs.Ytemfkcdhkmmbeaa.Own Go.RowKit Go.Proofs.YtemfkcdhkmmbeaaW.PrintWords Go.Proofs.YtemfkcdhkmmbeaaW.PrintLast

abbrev ST := S48
def nm (x : ST) : ST := ⟨Int.tmod x.f0 1000000001, x.f1 % 1000000000, Int.tmod x.f2 4000000000000001⟩
theorem nm_ok (x : ST) : tok (nm x) := by
  have a := tmod_lt (a := x.f0) (m := 1000000001) (by omega)
  have b := tmod_lt (a := x.f2) (m := 4000000000000001) (by omega)
  unfold tok nm; simp only; omega
theorem series_works : ∃ k0, ∀ k, k0 ≤ k → ephemeriskeep2_seriesWorks.f k = some true :=
  of_mono (k0 := 60) ephemeriskeep2_seriesWorks.mono (by decide +kernel)
theorem instant_f (a : Int) : ephemeriskeep2_instant.f a = some (a % 604800000000000 - 302400000000000) := by
  unfold ephemeriskeep2_instant.f
  rw [tat_f (by omega) (by omega)]
  simp only [Option.bind_some]
  rw [wrap_in (by omega) (by omega)]

theorem small_l {l x3 : List ST} {a b c : Int} (hl : l.length ≤ 9223372036854775807) : ∀ (n i : Nat) (acc : List ST), i + n = l.length → acc.length ≤ 6 → acc.length = min i 6 → ∀ k, n + 1 ≤ k →
    ephemeriskeep2_small.l0 k acc l (l.length : Int) (i : Int) a b x3 c = some (a, b, acc ++ ((l.drop i).take (6 - i)).map nm, c)
  | 0, i, acc, hi, _, _, k, hk => by
    obtain ⟨k, rfl⟩ : ∃ m, k = m + 1 := ⟨k - 1, by omega⟩
    simp only [ephemeriskeep2_small.l0]
    rw [if_neg (by omega), List.drop_eq_nil_of_le (by omega)]
    simp
  | n + 1, i, acc, hi, ha, ha', k, hk => by
    obtain ⟨k, rfl⟩ : ∃ m, k = m + 1 := ⟨k - 1, by omega⟩
    have hlt : i < l.length := by omega
    have e : l.drop i = l[i] :: l.drop (i + 1) := List.drop_eq_getElem_cons hlt
    simp only [ephemeriskeep2_small.l0]
    rw [if_pos (by omega), if_pos (by omega), if_pos (by omega), rdT_get hlt]
    rw [wrap_in (n := (i : Int) + 1) (by omega) (by omega), show ((i : Int) + 1) = ((i + 1 : Nat) : Int) by omega]
    by_cases c6 : i < 6
    · rw [if_pos (by omega), tat_f (by omega) (by omega)]
      simp only [Option.bind_some]
      rw [if_pos (by omega)]
      have ih := small_l (x3 := x3) (a := a) (b := b) (c := c) hl n (i + 1) (acc ++ [nm l[i]]) (by omega) (by simp; omega) (by simp; omega) k (by omega)
      simp only [nm] at ih
      rw [ih, e, show 6 - i = (6 - (i + 1)) + 1 by omega, List.take_succ_cons, List.map_cons, List.append_assoc]
      rfl
    · rw [if_neg (by omega)]
      have ih := small_l (x3 := x3) (a := a) (b := b) (c := c) hl n (i + 1) acc (by omega) ha (by omega) k (by omega)
      rw [ih, show 6 - i = 0 by omega, show 6 - (i + 1) = 0 by omega]
      simp
theorem small_f {l : List ST} (hl : l.length ≤ 9223372036854775807) (a b c : Int) (k : Nat) (hk : l.length + 1 ≤ k) :
    ephemeriskeep2_small.f k a b l c = some (Int.tmod a 1000000001, Int.tmod b 4000000000000001, (l.take 6).map nm, c % 1000) := by
  unfold ephemeriskeep2_small.f
  rw [tat_f (by omega) (by omega)]
  have := small_l (x3 := l) (a := Int.tmod a 1000000001) (b := Int.tmod b 4000000000000001) (c := c % 1000) hl l.length 0 [] (by omega) (by simp) (by simp) k hk
  simpa using this
theorem nm_all (l : List ST) : ∀ x ∈ (l.take 6).map nm, tok x := by
  intro x hx
  obtain ⟨y, _, rfl⟩ := List.mem_map.1 hx
  exact nm_ok y
theorem nm_len (l : List ST) : ((l.take 6).map nm).length ≤ 6 := by simp; omega

theorem plus_f {a b c d : Int} (h1 : -1000000000000 ≤ a) (h1' : a ≤ 1000000000000) (h2 : -1000000000000 ≤ b) (h2' : b ≤ 1000000000000) (h3 : -1000000000000 ≤ c) (h3' : c ≤ 1000000000000) (h4 : -1000000000000 ≤ d) (h4' : d ≤ 1000000000000) :
    ephemeriskeep2_plus.f a b c d = some (a + c, b + d) := by
  unfold ephemeriskeep2_plus.f
  rw [wrap_in (by omega) (by omega), wrap_in (by omega) (by omega)]
end Go.Proofs.Ytemfkcdhkmmbeaa.JD
