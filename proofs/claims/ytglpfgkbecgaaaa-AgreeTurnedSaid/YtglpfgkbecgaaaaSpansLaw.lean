/- The statements' maker of permitted intervals: at most twenty, each in order and within a thousand. -/
import Derived.Test.YtglpfgkbecgaaaaJVx2
import Derived.Test.YtglpfgkbecgaaaaAgreeLaw
namespace Go.Proofs.Ytglpfgkbecgaaaa.JV
open Go.Proofs.Ytglpfgkbecgaaaa.Own Go.RowKit Go.Proofs.YtglpfgkbecgaaaaW.PrintWords Go.Proofs.YtglpfgkbecgaaaaW.PrintLast

theorem cut_f {a b m : Int} (h : 0 ≤ m) (h' : m ≤ 4000000000000000000) : ∃ x y, ephemeriskeep2_cut.f a b m = some (x, y) ∧ -m ≤ x ∧ x ≤ y ∧ y ≤ m := by
  have h1 := tmod_lt (a := a) (m := m + 1) (by omega)
  have h2 := tmod_lt (a := b) (m := m + 1) (by omega)
  unfold ephemeriskeep2_cut.f
  rw [wrap_in (n := m + 1) (by omega) (by omega), if_neg (by omega)]
  refine ⟨_, _, rfl, ?_, ?_, ?_⟩ <;> (simp only [mn, mx]; omega)

def okT (s : Sp) : Prop := -1000 ≤ s.f0 ∧ s.f0 ≤ s.f1 ∧ s.f1 ≤ 1000

theorem spans_loop (l : List Sp) (hl : l.length ≤ 9223372036854775807) : ∀ (rest : List Sp) (k i : Nat) (acc : List Sp), l.drop i = rest → rest.length + 1 ≤ k → (∀ s ∈ acc, okT s) → acc.length ≤ i → acc.length ≤ 20 →
    ∃ L, ephemeriskeep2_spans.l0 k acc l l.length i = some L ∧ (∀ s ∈ L, okT s) ∧ L.length ≤ 20 ∧ acc.length ≤ L.length
  | [], k, i, acc, hr, hk, ha, hi, h20 => by
    obtain ⟨k, rfl⟩ : ∃ m, k = m + 1 := ⟨k - 1, by omega⟩
    have := drop_end hr
    simp only [ephemeriskeep2_spans.l0]
    rw [if_neg (by omega)]
    exact ⟨acc, rfl, ha, h20, Nat.le_refl _⟩
  | s :: rest, k, i, acc, hr, hk, ha, hi, h20 => by
    have hlen : (s :: rest).length = rest.length + 1 := rfl
    obtain ⟨k, rfl⟩ : ∃ m, k = m + 1 := ⟨k - 1, by omega⟩
    obtain ⟨h1, h2, h3⟩ := drop_step hr
    simp only [ephemeriskeep2_spans.l0]
    rw [if_pos (by omega), if_pos (by omega), if_pos (by omega), rdS h3, wrap_in (n := (i : Int) + 1) (by omega) (by omega), show (i : Int) + 1 = ((i + 1 : Nat) : Int) from by omega]
    by_cases c : (i : Int) < 20
    · obtain ⟨x, y, hc, c1, c2, c3⟩ := cut_f (a := s.f0) (b := s.f1) (m := 1000) (by omega) (by omega)
      rw [if_pos c, hc]
      simp only [Option.bind_some]
      rw [if_pos (by omega)]
      obtain ⟨L, g1, g2, g3, g4⟩ := spans_loop l hl rest k (i + 1) (acc ++ [⟨x, y⟩]) h2 (by omega) (fun z hz => by
        rcases List.mem_append.1 hz with e | e
        · exact ha z e
        · simp at e; subst e; exact ⟨c1, c2, c3⟩) (by simp; omega) (by simp; omega)
      exact ⟨L, g1, g2, g3, by simp at g4; omega⟩
    · rw [if_neg c]
      obtain ⟨L, g1, g2, g3, g4⟩ := spans_loop l hl rest k (i + 1) acc h2 (by omega) ha (by omega) h20
      exact ⟨L, g1, g2, g3, g4⟩

theorem spans_f (l : List Sp) (k : Nat) (hl : l.length ≤ 9223372036854775807) (hk : l.length + 1 ≤ k) : ∃ L, ephemeriskeep2_spans.f k l = some L ∧ (∀ s ∈ L, okT s) ∧ L.length ≤ 20 := by
  unfold ephemeriskeep2_spans.f
  obtain ⟨L, g1, g2, g3, _⟩ := spans_loop l hl l k 0 [] rfl hk (fun s hs => by cases hs) (Nat.le_refl _) (by simp)
  exact ⟨L, g1, g2, g3⟩

end Go.Proofs.Ytglpfgkbecgaaaa.JV
