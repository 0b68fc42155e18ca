/- The law LeapGrows: instants grow with the count, but for inserted seconds. No condition. -/
import Derived.Test.YtmoeeneekcbdeaaLeapLaw
import Derived.Test.YtmoeeneekcbdeaaJAx2
namespace Go.Proofs.Ytmoeeneekcbdeaa.Pure
open Go.Proofs.Ytmoeeneekcbdeaa.JA Go.Proofs.Ytmoeeneekcbdeaa.Own Go.RowKit Go.Proofs.YtmoeeneekcbdeaaW.PrintWords Go.Proofs.YtmoeeneekcbdeaaW.PrintLast

theorem inst_bd {x : Int} : ∀ {l : List Lp} {p n : Int}, okL p l → -3000000 ≤ p → -100 ≤ n - l.length → n + l.length ≤ 100 → -1000000000000000 ≤ x → x ≤ 1000000000000000 →
    -2000000000000000 ≤ (inst x n l).1 ∧ (inst x n l).1 ≤ 2000000000000000
  | [], p, n, _, _, h1, h2, h3, h4 => by simp only [inst]; simp at h1 h2; omega
  | s :: r, p, n, ⟨o1, o2, o3, o4⟩, hp, h1, h2, h3, h4 => by
    have hlen : ((s :: r).length : Int) = r.length + 1 := by simp
    have ih := inst_bd (n := n + s.f1) o4 (by omega) (by omega) (by omega) h3 h4
    simp only [inst]
    split
    · dsimp only; omega
    · split
      · dsimp only; omega
      · exact ih

theorem LeapGrows : ephemeriskeep2_LeapGrows.Pure := by
  intro l a b _ hl _ _ _
  refine ⟨l.length + 100, ?_⟩
  obtain ⟨ho, hlen⟩ := leaps_ok l
  have hw : ephemeriskeep2_leapWorks.f (l.length + 100) = some true :=
    at_rounds (fun k => ephemeriskeep2_leapWorks.mono k) (k := 100) (by omega) (by decide +kernel)
  unfold ephemeriskeep2_LeapGrows.f
  rw [hw, leaps_f l _ (by omega) (by omega), at_f (by omega) (by omega), at_f (by omega) (by omega)]
  simp only [Option.bind_some, if_true]
  have ha : 0 ≤ a % 777600000000 ∧ a % 777600000000 < 777600000000 := by omega
  have hb : 0 ≤ b % 5000 ∧ b % 5000 < 5000 := by omega
  generalize a % 777600000000 = t at *
  generalize b % 5000 = d at *
  generalize leapsOf 0 (l.take 20) = T at *
  have g := inst_grows (x := t) hb.1 hb.2 (n := 0) ho
  have b1 := inst_bd (x := t) (n := 0) ho (by omega) (by omega) (by omega) (by omega) (by omega)
  have b2 := inst_bd (x := t + d) (n := 0) ho (by omega) (by omega) (by omega) (by omega) (by omega)
  rw [wrap_in (n := t + d) (by omega) (by omega), instant_f T _ _ ho (by omega) (by omega) (by omega) (by omega), instant_f T _ _ ho (by omega) (by omega) (by omega) (by omega)]
  simp only [Option.bind_some, if_true]
  rw [if_pos g.1, wrap_in (n := (inst (t + d) 0 T).1 - (inst t 0 T).1) (by omega) (by omega), wrap_in (n := d - 1000) (by omega) (by omega)]
  rcases g.2 with h | h | h
  · rw [if_pos h]
  · rw [if_pos h]; split <;> rfl
  · split
    · rfl
    · split
      · rfl
      · rw [decide_eq_true h]

end Go.Proofs.Ytmoeeneekcbdeaa.Pure
