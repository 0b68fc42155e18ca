/- The law TideSums: the heights of two tides add up. No condition. -/
import Derived.Test.YtjcpilmecgcooaaJDx2
import Derived.Test.YtjcpilmecgcooaaTideLaw
namespace Go.Proofs.Ytjcpilmecgcooaa.Pure
open Go.Proofs.Ytjcpilmecgcooaa.JD Go.Proofs.Ytjcpilmecgcooaa.Own Go.RowKit Go.Proofs.YtjcpilmecgcooaaW.PrintWords Go.Proofs.YtjcpilmecgcooaaW.PrintLast

theorem TideSums : ephemeriskeep2_TideSums.Pure := by
  intro l m a hl _ hm _ _
  have hl' : l.length ≤ 9223372036854775807 := by unfold maxLen at hl; omega
  have hm' : m.length ≤ 9223372036854775807 := by unfold maxLen at hm; omega
  obtain ⟨k0, hw⟩ := tide_works
  refine ⟨k0 + l.length + m.length + 60, ?_⟩
  have nl := nt_len l
  have nm := nt_len m
  have ol := nt_all l
  have om := nt_all m
  unfold ephemeriskeep2_TideSums.f
  rw [hw _ (by omega), tides_f hl' _ (by omega), tides_f hm' _ (by omega), instant_f]
  generalize (l.take 6).map nt = L at *
  generalize (m.take 6).map nt = M at *
  have h3 : -345600000000000 ≤ a % 604800000000000 - 302400000000000 := by omega
  have h4 : a % 604800000000000 - 302400000000000 < 345600086400000 := by omega
  generalize a % 604800000000000 - 302400000000000 = t at *
  have oLM : ∀ x ∈ L ++ M, okT x := by
    intro x hx
    rcases List.mem_append.1 hx with h | h
    · exact ol x h
    · exact om x h
  simp only [Option.bind_some, if_true, List.nil_append]
  rw [height_f (by omega) ol h3 h4 _ (by omega), height_f (by omega) om h3 h4 _ (by omega), height_f (l := L ++ M) (by simp; omega) oLM h3 h4 _ (by omega)]
  have bL := ht_b (l := L) (by omega) ol t
  have bM := ht_b (l := M) (by omega) om t
  have e : ht (L ++ M) t = ((ht L t).1 + (ht M t).1, (ht L t).2 + (ht M t).2) := by
    unfold ht
    rw [List.map_append, sl_append]
  simp only [Option.bind_some, if_true, List.length_nil]
  rw [if_pos (by omega), if_pos (by omega), plus_f (by omega) (by omega) (by omega) (by omega) (by omega) (by omega) (by omega) (by omega), e]
  simp only [Option.bind_some]
  unfold ephemeriskeep2_meets.f
  rw [if_pos (by omega)]
  simp only [Option.bind_some]
  rw [decide_eq_true (by omega)]
end Go.Proofs.Ytjcpilmecgcooaa.Pure
