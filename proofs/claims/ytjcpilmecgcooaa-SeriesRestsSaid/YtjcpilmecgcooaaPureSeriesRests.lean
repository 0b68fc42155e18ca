/- The law SeriesRests: a greater remainder makes the interval wider, by as much. No condition. -/
import Derived.Test.YtjcpilmecgcooaaJDx2
import Derived.Test.YtjcpilmecgcooaaSeriesLaw
namespace Go.Proofs.Ytjcpilmecgcooaa.Pure
open Go.Proofs.Ytjcpilmecgcooaa.JD Go.Proofs.Ytjcpilmecgcooaa.Own Go.RowKit Go.Proofs.YtjcpilmecgcooaaW.PrintWords Go.Proofs.YtjcpilmecgcooaaW.PrintLast

theorem SeriesRests : ephemeriskeep2_SeriesRests.Pure := by
  intro mean rate l rest a more _ _ hl _ _ _ _
  have hl' : l.length ≤ 9223372036854775807 := by unfold maxLen at hl; omega
  obtain ⟨k0, hw⟩ := series_works
  refine ⟨k0 + l.length + 100, ?_⟩
  have nl := nm_len l
  have ol := nm_all l
  have m := tmod_lt (a := mean) (m := 1000000001) (by omega)
  have r := tmod_lt (a := rate) (m := 4000000000000001) (by omega)
  unfold ephemeriskeep2_SeriesRests.f
  rw [hw _ (by omega), small_f hl' _ _ _ _ (by omega), instant_f, tat_f (by omega) (by omega)]
  generalize (l.take 6).map nm = L at *
  have h3 : -345600000000000 ≤ a % 604800000000000 - 302400000000000 := by omega
  have h4 : a % 604800000000000 - 302400000000000 < 345600086400000 := by omega
  generalize a % 604800000000000 - 302400000000000 = t at *
  simp only [Option.bind_some, if_true]
  have w := wl_b ol
  have sw := sl_w L t
  have sb := sl_b ol t
  rw [wrap_in (n := rest % 1000 + more % 1000) (by omega) (by omega)]
  rw [value_f (by omega) ol h3 h4 (by omega) (by omega) (by omega) (by omega) (by omega) (by omega) _ (by omega), value_f (by omega) ol h3 h4 (by omega) (by omega) (by omega) (by omega) (by omega) (by omega) _ (by omega),
    bound_f (by omega) ol (by omega) (by omega) (by omega) (by omega) (by omega) (by omega) _ (by omega), bound_f (by omega) ol (by omega) (by omega) (by omega) (by omega) (by omega) (by omega) _ (by omega)]
  simp only [Option.bind_some, if_true]
  rw [wrap_in (n := 2 * (more % 1000)) (by omega) (by omega), wrap_in (by omega) (by omega), wrap_in (by omega) (by omega), wrap_in (by omega) (by omega), if_pos (by omega), if_pos (by omega), if_pos (by omega)]
  unfold ephemeriskeep2_meets.f
  rw [if_pos (by omega)]
  simp only [Option.bind_some]
  rw [decide_eq_true (by omega)]
end Go.Proofs.Ytjcpilmecgcooaa.Pure
