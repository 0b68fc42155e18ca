/- The law AgreeTurned: the order of the intervals makes no difference. No condition. -/
import Derived.Test.YtglpfgkbecgaaaaJVx2
import Derived.Test.YtglpfgkbecgaaaaSpansLaw
namespace Go.Proofs.Ytglpfgkbecgaaaa.Pure
open Go.Proofs.Ytglpfgkbecgaaaa.JV Go.Proofs.Ytglpfgkbecgaaaa.Own Go.RowKit Go.Proofs.YtglpfgkbecgaaaaW.PrintWords Go.Proofs.YtglpfgkbecgaaaaW.PrintLast

theorem cnt_append (t : Int) : ∀ (l m : List Sp), cnt t (l ++ m) = cnt t l + cnt t m
  | [], m => by simp [cnt]
  | s :: l, m => by simp only [List.cons_append, cnt, cnt_append t l m]; omega
theorem cnt_turn (t : Int) (l : List Sp) (k : Nat) : cnt t (l.drop k ++ l.take k) = cnt t l := by
  have e : cnt t l = cnt t (l.take k ++ l.drop k) := by rw [List.take_append_drop]
  rw [e, cnt_append, cnt_append, Int.add_comm]
theorem mem_turn {l : List Sp} {k : Nat} {s : Sp} : s ∈ l.drop k ++ l.take k ↔ s ∈ l := by
  have e : s ∈ l ↔ s ∈ l.take k ++ l.drop k := by rw [List.take_append_drop]
  rw [e, List.mem_append, List.mem_append, Or.comm]

theorem most_one {l m : List Sp} (hm : ∀ s, s ∈ m ↔ s ∈ l) (hc : ∀ t, cnt t m = cnt t l) {lo hi n lo' hi' n' : Int} (a : MostIs l lo hi n) (b : MostIs m lo' hi' n') : lo = lo' ∧ hi = hi' ∧ n = n' := by
  obtain ⟨a1, ⟨s, hs, a2, a3⟩, a4, ⟨u, hu, a5, a6⟩, a7⟩ := a
  obtain ⟨b1, ⟨s', hs', b2, b3⟩, b4, ⟨u', hu', b5, b6⟩, b7⟩ := b
  have e1 := a1 s' ((hm s').1 hs')
  have e2 := b1 s ((hm s).2 hs)
  rw [hc] at b2 e2
  have en : n = n' := by omega
  subst en
  have f1 := a4 s' ((hm s').1 hs') b2
  have f2 := b4 s ((hm s).2 hs) (by rw [hc]; exact a2)
  have el : lo = lo' := by omega
  subst el
  have g1 := a7 u' ((hm u').1 hu') b5
  have g2 := b7 u ((hm u).2 hu) a5
  exact ⟨rfl, by omega, rfl⟩

theorem within_one {l m : List Sp} (hm : ∀ s, s ∈ m ↔ s ∈ l) (hc : ∀ t, cnt t m = cnt t l) {n lo hi e lo' hi' e' : Int} (a : WithinIs l n lo hi e) (b : WithinIs m n lo' hi' e') : lo = lo' ∧ hi = hi' ∧ e = e' := by
  rcases a with ⟨a0, a1, a2, a3⟩ | ⟨a0, ⟨s, hs, a1, a2⟩, a3, a4, a5, a6⟩ <;> rcases b with ⟨b0, b1, b2, b3⟩ | ⟨b0, ⟨s', hs', b1, b2⟩, b3, b4, b5, b6⟩
  · exact ⟨by omega, by omega, by omega⟩
  · have := a3 s' ((hm s').1 hs')
    rw [hc] at b1; omega
  · have := b3 s ((hm s).2 hs)
    rw [hc] at this; omega
  · have f1 := a3 s' ((hm s').1 hs') (by rw [← hc]; exact b1)
    have f2 := b3 s ((hm s).2 hs) (by rw [hc]; exact a1)
    have el : lo = lo' := by omega
    have h1 : hi ≤ hi' := by
      rcases a4 with h | ⟨u, hu, h1, h2⟩
      · omega
      · have := b6 u ((hm u).2 hu) (by rw [hc]; exact h1); omega
    have h2 : hi' ≤ hi := by
      rcases b4 with h | ⟨u, hu, h1, h2⟩
      · omega
      · have := a6 u ((hm u).1 hu) (by rw [← hc]; exact h1); omega
    exact ⟨el, by omega, by omega⟩

theorem AgreeTurned : ephemeriskeep2_AgreeTurned.Pure := by
  intro l a1 hl _ _
  have hm2 : l.length ≤ 9223372036854775807 := by unfold maxLen at hl; omega
  refine ⟨l.length + 400, ?_⟩
  have hw : ephemeriskeep2_agreeWorks.f (l.length + 400) = some true :=
    at_rounds (fun k => ephemeriskeep2_agreeWorks.mono k) (k := 100) (by omega) (by decide +kernel)
  unfold ephemeriskeep2_AgreeTurned.f
  obtain ⟨L, g1, g2, g3⟩ := spans_f l (l.length + 400) hm2 (by omega)
  rw [hw, g1]
  simp only [Option.bind_some, if_true]
  by_cases c : (L.length : Int) = 0
  · rw [if_pos c]
  · rw [if_neg c, at_f (by omega) (by omega)]
    simp only [Option.bind_some, List.nil_append, List.length_nil]
    have n0 := Int.emod_nonneg a1 (show (L.length : Int) ≠ 0 by omega)
    have n1 := Int.emod_lt_of_pos a1 (show (0 : Int) < (L.length : Int) by omega)
    obtain ⟨t, ht⟩ : ∃ t : Nat, a1 % (L.length : Int) = t := ⟨(a1 % (L.length : Int)).toNat, by omega⟩
    rw [ht] at n1 ⊢
    rw [Int.toNat_natCast]
    have hne : L ≠ [] := by rintro rfl; simp at c
    have hok : ∀ s ∈ L, okS s := fun s hs => by obtain ⟨a, b, c⟩ := g2 s hs; exact ⟨by omega, b, by omega⟩
    have lr : (L.drop t ++ L.take t).length = L.length := by simp; omega
    have hne2 : L.drop t ++ L.take t ≠ [] := by
      intro h0
      have := congrArg List.length h0
      rw [lr] at this
      have h3 : L.length = 0 := this
      omega
    have hok2 : ∀ s ∈ L.drop t ++ L.take t, okS s := fun s hs => hok s (mem_turn.1 hs)
    obtain ⟨lo, hi, n, m1, m2⟩ := most_f L (l.length + 400) hok hne (by omega) (by omega)
    obtain ⟨lo', hi', n', m3, m4⟩ := most_f (L.drop t ++ L.take t) (l.length + 400) hok2 hne2 (by omega) (by omega)
    obtain ⟨q1, q2, q3⟩ := most_one (fun s => mem_turn) (fun u => cnt_turn u L t) m2 m4
    subst q1 q2 q3
    have hn : 1 ≤ n ∧ n ≤ L.length := by
      obtain ⟨p1, ⟨s, hs, p2, p3⟩, _⟩ := m2
      have := cnt_pos_of (t := s.f0) hs ⟨Int.le_refl _, (hok s hs).2.1⟩
      have := cnt_bd s.f0 L
      omega
    obtain ⟨x, y, e, w1, w2⟩ := within_f L n (l.length + 400) hok hne (by omega) hn.1 hn.2 (by omega)
    obtain ⟨x', y', e', w3, w4⟩ := within_f (L.drop t ++ L.take t) n (l.length + 400) hok2 hne2 (by omega) hn.1 (by omega) (by omega)
    obtain ⟨q1, q2, q3⟩ := within_one (fun s => mem_turn) (fun u => cnt_turn u L t) w2 w4
    subst q1 q2 q3
    have he : e = 0 := by
      rcases w2 with ⟨_, _, _, h⟩ | ⟨h, _⟩
      · obtain ⟨p1, ⟨s, hs, p2, p3⟩, _⟩ := m2
        have := h s hs
        omega
      · exact h
    subst he
    rw [if_pos (by omega), if_pos (by omega), if_pos (by simp; omega), if_pos (by simp; omega), m1, m3]
    simp only [Option.bind_some]
    rw [w1]
    simp only [Option.bind_some]
    rw [w3]
    simp
end Go.Proofs.Ytglpfgkbecgaaaa.Pure
