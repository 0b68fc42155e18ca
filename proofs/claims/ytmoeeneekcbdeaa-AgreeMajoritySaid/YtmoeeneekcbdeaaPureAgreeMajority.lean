/- The law AgreeMajority: a number that is in n of the intervals is in agree.Within of n. No condition. -/
import Derived.Test.YtmoeeneekcbdeaaSpansLaw
import Derived.Test.YtmoeeneekcbdeaaJAx2
namespace Go.Proofs.Ytmoeeneekcbdeaa.Pure
open Go.Proofs.Ytmoeeneekcbdeaa.JA Go.Proofs.Ytmoeeneekcbdeaa.Own Go.RowKit Go.Proofs.YtmoeeneekcbdeaaW.PrintWords Go.Proofs.YtmoeeneekcbdeaaW.PrintLast

theorem okS_of {s : Sp} (h : okT s) : okS s := by obtain ⟨a, b, c⟩ := h; exact ⟨by omega, b, by omega⟩

theorem maj_end (l : List Sp) (t n : Int) (k : Nat) (ho : ∀ s ∈ l, okT s) (hl : l.length ≤ 20) (hn : n = cnt t l) (hk : 301 ≤ k) :
    ephemeriskeep2_AgreeMajority.l0 k l t n l l.length l.length = some true := by
  obtain ⟨k, rfl⟩ : ∃ m, k = m + 1 := ⟨k - 1, by omega⟩
  simp only [ephemeriskeep2_AgreeMajority.l0]
  rw [if_neg (by omega)]
  have hb := cnt_bd t l
  by_cases c : n = 0
  · rw [if_pos c]
  · rw [if_neg c]
    have hne : l ≠ [] := by rintro rfl; simp [cnt] at hn; exact c hn
    have hok : ∀ s ∈ l, okS s := fun s hs => okS_of (ho s hs)
    obtain ⟨lo, hi, e, w1, w2⟩ := within_f l n k hok hne (by omega) (by omega) (by omega) (by omega)
    obtain ⟨mlo, mhi, mn', m1, m2, ⟨s3, hs3, e3, f3⟩, m4, ⟨s5, hs5, c5, f5⟩, m6⟩ := most_f l k hok hne (by omega) (by omega)
    obtain ⟨a, ha, hat, hab⟩ := top_lo (t := t) (l := l) (cnt_pos (by omega))
    obtain ⟨b, hb', hbt, hbb⟩ := low_hi (t := t) (l := l) (cnt_pos (by omega))
    have ca : n ≤ cnt a.f0 l := by rw [hn]; exact cnt_le (fun s hs h => ⟨hab s hs h, Int.le_trans hat.1 h.2⟩)
    have cb : n ≤ cnt b.f1 l := by rw [hn]; exact cnt_le (fun s hs h => ⟨Int.le_trans h.1 hbt.2, hbb s hs h⟩)
    rw [w1, m1]
    simp only [Option.bind_some]
    rcases w2 with ⟨_, _, _, h⟩ | ⟨rfl, _, v2, v3, v4, v5⟩
    · have := h a ha; omega
    · have g1 := v2 a ha ca
      have g2 := v5 b hb' cb
      have g3 := m2 a ha
      have hat1 := hat.1
      have hbt2 := hbt.2
      simp only [if_true]
      rw [if_pos (by omega), if_pos (by omega), if_pos (by omega)]
      by_cases d : mn' > n
      · rw [if_pos d]
      · rw [if_neg d]
        have q1 := v2 s3 hs3 (by omega)
        have q2 : cnt s3.f0 l ≤ cnt s5.f1 l := cnt_le (fun s hs h => by
          rw [← f3] at h
          exact ⟨Int.le_trans h.1 c5.2, by rw [f5]; exact m6 s hs h⟩)
        have q3 := v5 s5 hs5 (by omega)
        simp only [ephemeriskeep2_holds.f]
        rw [if_pos (by omega)]
        simp only [Option.bind_some]
        rw [decide_eq_true (by omega)]

theorem maj_loop (l : List Sp) (t : Int) (ho : ∀ s ∈ l, okT s) (hl : l.length ≤ 20) : ∀ (rest : List Sp) (k i : Nat) (n : Int), l.drop i = rest → i ≤ l.length → rest.length + 301 ≤ k → n + cnt t rest = cnt t l → 0 ≤ n → n ≤ i →
    ephemeriskeep2_AgreeMajority.l0 k l t n l l.length i = some true
  | [], k, i, n, hr, hi, hk, hn, h0, h1 => by
    have := drop_end hr
    have e : i = l.length := by omega
    subst e
    simp [cnt] at hn
    exact maj_end l t n k ho hl hn (by simp at hk; omega)
  | s :: rest, k, i, n, hr, hi, hk, hn, h0, h1 => by
    have hlen : (s :: rest).length = rest.length + 1 := rfl
    obtain ⟨k, rfl⟩ : ∃ m, k = m + 1 := ⟨k - 1, by omega⟩
    obtain ⟨d1, d2, d3⟩ := drop_step hr
    have ih := fun n => maj_loop l t ho hl rest k (i + 1) n d2 (by omega) (by omega)
    simp only [cnt] at hn
    simp only [ephemeriskeep2_AgreeMajority.l0]
    rw [if_pos (by omega), if_pos (by omega), if_pos (by omega), rdS d3, wrap_in (n := n + 1) (by omega) (by omega), wrap_in (n := (i : Int) + 1) (by omega) (by omega), show (i : Int) + 1 = ((i + 1 : Nat) : Int) from by omega]
    by_cases c1 : s.f0 ≤ t
    · rw [if_pos c1]
      by_cases c2 : t ≤ s.f1
      · rw [if_pos c2]
        rw [if_pos (show has s t from ⟨c1, c2⟩)] at hn
        exact ih (n + 1) (by omega) (by omega) (by omega)
      · rw [if_neg c2]
        rw [if_neg (show ¬ has s t from fun h => c2 h.2)] at hn
        exact ih n (by omega) (by omega) (by omega)
    · rw [if_neg c1]
      rw [if_neg (show ¬ has s t from fun h => c1 h.1)] at hn
      exact ih n (by omega) (by omega) (by omega)

theorem AgreeMajority : ephemeriskeep2_AgreeMajority.Pure := by
  intro l t hm _ _
  have hm2 : l.length ≤ 9223372036854775807 := by unfold maxLen at hm; omega
  refine ⟨l.length + 400, ?_⟩
  have hw : ephemeriskeep2_agreeWorks.f (l.length + 400) = some true :=
    at_rounds (fun k => ephemeriskeep2_agreeWorks.mono k) (k := 100) (by omega) (by decide +kernel)
  unfold ephemeriskeep2_AgreeMajority.f
  obtain ⟨L, g1, g2, g3⟩ := spans_f l (l.length + 400) hm2 (by omega)
  rw [hw, g1]
  simp only [Option.bind_some, if_true]
  have := maj_loop L (Int.tmod t 1001) g2 g3 L (l.length + 400) 0 0 rfl (by omega) (by omega) (by omega) (by omega) (by omega)
  simpa using this

end Go.Proofs.Ytmoeeneekcbdeaa.Pure
