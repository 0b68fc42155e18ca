/- The law SmearApart: farther than half (and two seconds) from all leaps, a smeared clock is the one with leaps. No condition. -/
import Derived.Test.YtmoeeneekcbdeaaSmearLaw
import Derived.Test.YtmoeeneekcbdeaaJAx2
namespace Go.Proofs.Ytmoeeneekcbdeaa.Pure
open Go.Proofs.Ytmoeeneekcbdeaa.JA Go.Proofs.Ytmoeeneekcbdeaa.Own Go.RowKit Go.Proofs.YtmoeeneekcbdeaaW.PrintWords Go.Proofs.YtmoeeneekcbdeaaW.PrintLast

theorem apart_loop (T : List Lp) (h x u : Int) (hh : 1000 ≤ h) (hh' : h ≤ 43200000) (hx : 0 ≤ x) (hx' : x < 777600000000) (hu : -2000000000000000 ≤ u) (hu' : u ≤ 2000000000000000) (ho : okL 0 T) (hT : T.length ≤ 20) (hs : far h u T → sm h x 0 T = u) (hb : -2000000000000000 ≤ sm h x 0 T ∧ sm h x 0 T ≤ 2000000000000000) :
    ∀ (rest : List Lp) (k i : Nat) (p : Int), T.drop i = rest → rest.length + 100 ≤ k → okL p rest → -3000000 ≤ p → (far h u rest → far h u T) →
    ephemeriskeep2_SmearApart.l0 k h x T u 0 T T.length i = some true
  | [], k, i, p, hr, hk, hop, hp, hf => by
    obtain ⟨k, rfl⟩ : ∃ m, k = m + 1 := ⟨k - 1, by omega⟩
    have := drop_end hr
    simp at hk
    have e := hs (hf trivial)
    simp only [ephemeriskeep2_SmearApart.l0, smear_Offset.f]
    rw [if_neg (by omega), smear_f T h x k ho (by omega) (by omega) hh hh' (by omega) (by omega)]
    simp only [Option.bind_some, if_true]
    rw [if_pos e, wrap_in (by omega) (by omega), wrap_in (by omega) (by omega), e]
    simp
  | s :: rest, k, i, p, hr, hk, ⟨o1, o2, o3, o4⟩, hp, hf => by
    have hlen : (s :: rest).length = rest.length + 1 := rfl
    rw [hlen] at hk
    obtain ⟨k, rfl⟩ : ∃ m, k = m + 1 := ⟨k - 1, by omega⟩
    obtain ⟨h1, h2, h3⟩ := drop_step hr
    have hrd : rd_T56 T i = s := by unfold rd_T56; rw [Int.toNat_natCast]; exact h3 _
    have ih := apart_loop T h x u hh hh' hx hx' hu hu' ho hT hs hb rest k (i + 1) s.f0 h2 (by omega) o4 (by omega)
    simp only [ephemeriskeep2_SmearApart.l0]
    rw [if_pos (by omega), if_pos (by omega), if_pos (by omega), hrd]
    rw [wrap_in (n := s.f0 + 1) (by omega) (by omega), wrap_in (n := (s.f0 + 1) * 86400000) (by omega) (by omega), wrap_in (n := u - (s.f0 + 1) * 86400000) (by omega) (by omega), wrap_in (n := h + 2000) (by omega) (by omega), wrap_in (n := -h) (by omega) (by omega), wrap_in (n := -h - 2000) (by omega) (by omega),
      wrap_in (n := (i : Int) + 1) (by omega) (by omega), show (i : Int) + 1 = ((i + 1 : Nat) : Int) from by omega]
    by_cases c1 : u - (s.f0 + 1) * 86400000 < h + 2000
    · rw [if_pos c1]
      by_cases c2 : u - (s.f0 + 1) * 86400000 > -h - 2000
      · rw [if_pos c2]; rfl
      · rw [if_neg c2]; exact ih (fun g => hf ⟨by omega, g⟩)
    · rw [if_neg c1]; exact ih (fun g => hf ⟨by omega, g⟩)

theorem SmearApart : ephemeriskeep2_SmearApart.Pure := by
  intro l h0 a _ hl _ _ _
  refine ⟨l.length + 200, ?_⟩
  obtain ⟨ho, hlen⟩ := leaps_ok l
  have hw : ephemeriskeep2_smearWorks.f (l.length + 200) = some true :=
    at_rounds (fun k => ephemeriskeep2_smearWorks.mono k) (k := 100) (by omega) (by decide +kernel)
  unfold ephemeriskeep2_SmearApart.f
  rw [hw, leaps_f l _ (by omega) (by omega), at_f (by omega) (by omega), at_f (by omega) (by omega)]
  simp only [Option.bind_some, if_true]
  have hh : 0 ≤ h0 % 43199001 ∧ h0 % 43199001 < 43199001 := by omega
  have ha : 0 ≤ a % 777600000000 ∧ a % 777600000000 < 777600000000 := by omega
  generalize h0 % 43199001 = h at *
  generalize a % 777600000000 = t at *
  generalize leapsOf 0 (l.take 20) = T at *
  have b1 := inst_bd (x := t) (n := 0) ho (by omega) (by omega) (by omega) (by omega) (by omega)
  have b2 := sm_bd (h := 1000 + h) (x := t) (n := 0) (by omega) (by omega) (by omega) (by omega) ho (by omega) (by omega) (by omega)
  rw [wrap_in (n := 1000 + h) (by omega) (by omega), instant_f T _ _ ho (by omega) (by omega) (by omega) (by omega)]
  simp only [Option.bind_some]
  exact apart_loop T (1000 + h) t _ (by omega) (by omega) ha.1 ha.2 b1.1 b1.2 ho hlen (fun g => sm_far (by omega) (by omega) ho g) b2 T _ 0 0 rfl (by omega) ho (by omega) (fun g => g)

end Go.Proofs.Ytmoeeneekcbdeaa.Pure
