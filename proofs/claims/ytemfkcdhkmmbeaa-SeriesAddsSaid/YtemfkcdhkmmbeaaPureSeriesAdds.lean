/- The law SeriesAdds: the value of two sums together meets the sum of the values. No condition. -/
import Derived.Test.YtemfkcdhkmmbeaaJDx1
import Derived.Test.YtemfkcdhkmmbeaaSmallLaw
namespace Go.Proofs.Ytemfkcdhkmmbeaa.Pure
open Go.Proofs.Ytemfkcdhkmmbeaa.JD Go.Proofs.Ytemfkcdhkmmbeaa.Own Go.RowKit Go.Proofs.YtemfkcdhkmmbeaaW.PrintWords Go.Proofs.YtemfkcdhkmmbeaaW.PrintLast

theorem half_b {p : Int} (h : -1000000001 < p) (h' : p < 1000000001) : -500000000 ≤ Int.tdiv p 2 ∧ Int.tdiv p 2 ≤ 500000000 := by
  rcases Int.le_total 0 p with c | c
  · rw [Int.tdiv_eq_ediv_of_nonneg c]; omega
  · have e : Int.tdiv p 2 = -(Int.tdiv (-p) 2) := by rw [Int.neg_tdiv, Int.neg_neg]
    rw [e, Int.tdiv_eq_ediv_of_nonneg (by omega)]; omega
theorem SeriesAdds : ephemeriskeep2_SeriesAdds.Pure := by
  intro mean rate l rest mean2 rate2 l2 rest2 a _ _ hl _ _ _ _ hl2 _ _ _
  have hl' : l.length ≤ 9223372036854775807 := by unfold maxLen at hl; omega
  have hl2' : l2.length ≤ 9223372036854775807 := by unfold maxLen at hl2; omega
  obtain ⟨k0, hw⟩ := series_works
  refine ⟨k0 + l.length + l2.length + 100, ?_⟩
  have nl := nm_len l
  have ol := nm_all l
  have nl2 := nm_len l2
  have ol2 := nm_all l2
  have m := tmod_lt (a := mean) (m := 1000000001) (by omega)
  have r := tmod_lt (a := rate) (m := 4000000000000001) (by omega)
  have m2 := tmod_lt (a := mean2) (m := 1000000001) (by omega)
  have r2 := tmod_lt (a := rate2) (m := 4000000000000001) (by omega)
  unfold ephemeriskeep2_SeriesAdds.f
  rw [hw _ (by omega), small_f hl' _ _ _ _ (by omega), small_f hl2' _ _ _ _ (by omega), instant_f]
  generalize (l.take 6).map nm = L at *
  generalize (l2.take 6).map nm = M at *
  have h3 : -345600000000000 ≤ a % 604800000000000 - 302400000000000 := by omega
  have h4 : a % 604800000000000 - 302400000000000 < 345600086400000 := by omega
  generalize a % 604800000000000 - 302400000000000 = t at *
  generalize Int.tmod mean 1000000001 = p at *
  generalize Int.tmod mean2 1000000001 = q at *
  have d1 := half_b m.1 m.2
  have d2 := half_b m2.1 m2.2
  simp only [Option.bind_some, if_true, List.nil_append]
  generalize Int.tdiv p 2 = u at *
  generalize Int.tdiv q 2 = v at *
  have oLM : ∀ x ∈ L ++ M, tok x := by
    intro x hx
    rcases List.mem_append.1 hx with h | h
    · exact ol x h
    · exact ol2 x h
  have sL := sl_b ol t
  have sM := sl_b ol2 t
  rw [wrap_in (n := u) (by omega) (by omega), wrap_in (n := v) (by omega) (by omega), wrap_in (n := u + v) (by omega) (by omega), wrap_in (n := rest % 1000 + rest2 % 1000) (by omega) (by omega)]
  rw [value_f (by omega) ol h3 h4 (by omega) (by omega) (by omega) (by omega) (by omega) (by omega) _ (by omega), value_f (by omega) ol2 h3 h4 (by omega) (by omega) (by omega) (by omega) (by omega) (by omega) _ (by omega),
    value_f (l := L ++ M) (by simp; omega) oLM h3 h4 (by omega) (by omega) (by omega) (by omega) (by omega) (by omega) _ (by omega), sl_append]
  simp only [Option.bind_some, if_true, List.length_nil]
  rw [if_pos (by omega), if_pos (by omega), plus_f (by omega) (by omega) (by omega) (by omega) (by omega) (by omega) (by omega) (by omega)]
  simp only [Option.bind_some]
  unfold ephemeriskeep2_meets.f
  rw [if_pos (by omega)]
  simp only [Option.bind_some]
  rw [decide_eq_true (by omega)]
end Go.Proofs.Ytemfkcdhkmmbeaa.Pure
