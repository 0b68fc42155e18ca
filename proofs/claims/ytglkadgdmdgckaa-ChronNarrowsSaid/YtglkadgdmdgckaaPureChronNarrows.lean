/- The law ChronNarrows: a further constraint makes no interval wider. No condition. -/
import Derived.Test.YtglkadgdmdgckaaJBx2
import Derived.Test.YtglkadgdmdgckaaChronLaw3
namespace Go.Proofs.Ytglkadgdmdgckaa.Pure
open Go.Proofs.Ytglkadgdmdgckaa.JB Go.Proofs.Ytglkadgdmdgckaa.Own Go.Proofs.Ytglkadgdmdgckaa.Fw Go.RowKit Go.Proofs.YtglkadgdmdgckaaW.PrintWords Go.Proofs.YtglkadgdmdgckaaW.PrintLast

theorem nl1 {n i : Nat} {f g : Mx} (hn : n ≤ 8) (hi : i < n) (hfg : ∀ a b, a < n → b < n → g a b ≤ f a b) (H : Goes (fun k => ephemeriskeep2_ChronNarrows.l0 k n (spans n f) (spans n g) n ((i + 1 : Nat) : Int)) true) :
    ∀ (d j : Nat), j + d = n → Goes (fun k => ephemeriskeep2_ChronNarrows.l1 k n (spans n f) (spans n g) i n i n (j : Int)) true
  | 0, j, hj => by
    refine Goes.step (fun k => ?_) H
    simp only [ephemeriskeep2_ChronNarrows.l1]
    rw [if_neg (by omega), wrap_in (n := (i : Int) + 1) (by omega) (by omega)]
    rfl
  | d + 1, j, hj => by
    refine Goes.step (fun k => ?_) (nl1 hn hi hfg H d (j + 1) (by omega))
    have hj' : j < n := by omega
    have h1 := hfg i j hi hj'
    have h2 := hfg j i hj' hi
    simp only [ephemeriskeep2_ChronNarrows.l1]
    rw [if_pos (by omega), if_pos (by omega), spans_len, spans_len, if_pos (by omega), spans_rd f hi, spans_rd g hi, row_len, row_len, if_pos rfl, if_pos (by omega), if_pos rfl, if_pos (by omega), if_pos (by omega), if_pos (by omega), rds_row _ hj', rds_row _ hj']
    simp only [ephemeriskeep2_holds.f]
    rw [if_pos (show (spn f i j).f0 ≤ (spn g i j).f0 from by show -(f j i) ≤ -(g j i); omega), decide_eq_true (show (spn g i j).f1 ≤ (spn f i j).f1 from h1)]
    simp only [Option.bind_some, if_true]
    rw [wrap_in (n := (j : Int) + 1) (by omega) (by omega)]
    rfl

theorem nl0 {n : Nat} {f g : Mx} (hn : n ≤ 8) (hfg : ∀ a b, a < n → b < n → g a b ≤ f a b) :
    ∀ (d i : Nat), i + d = n → Goes (fun k => ephemeriskeep2_ChronNarrows.l0 k n (spans n f) (spans n g) n (i : Int)) true
  | 0, i, hi => by
    refine ⟨1, fun k hk => ?_⟩
    obtain ⟨m, rfl⟩ : ∃ m, k = m + 1 := ⟨k - 1, by omega⟩
    simp only [ephemeriskeep2_ChronNarrows.l0]
    rw [if_neg (by omega)]
  | d + 1, i, hi => by
    refine Goes.step (fun k => ?_) (nl1 hn (show i < n by omega) hfg (nl0 hn hfg d (i + 1) (by omega)) n 0 (by omega))
    simp only [ephemeriskeep2_ChronNarrows.l0]
    rw [if_pos (by omega)]
    rfl

theorem ChronNarrows : ephemeriskeep2_ChronNarrows.Pure := by
  intro days l hd _ _ hl _
  unfold maxLen at hd hl
  obtain ⟨L, e1, e2, e3⟩ := events_goes (days := days) (l := l) (by omega) (by omega)
  obtain ⟨n, hn⟩ : ∃ n, min days.length 8 = n := ⟨_, rfl⟩
  rw [hn] at e1 e2
  have n8 : n ≤ 8 := by omega
  have : Goes (fun k => ephemeriskeep2_ChronNarrows.f k days l) true := by
    unfold ephemeriskeep2_ChronNarrows.f
    refine Goes.bind works ?_
    simp only [if_true]
    refine Goes.bind e1 ?_
    by_cases c : L.length = 0
    · refine Goes.of (fun k => ?_)
      show (if (L.length : Int) = 0 then some true else _) = _
      rw [if_pos (by omega)]
    · have n1 : 1 ≤ n := by
        obtain ⟨x, hx⟩ : ∃ x, x ∈ L := by
          cases L with
          | nil => exact absurd rfl c
          | cons x l => exact ⟨x, by simp⟩
        obtain ⟨a, b, o, _⟩ := e2 x hx
        have := o.ha
        omega
      obtain ⟨m, hm⟩ : ∃ m, L.length = m + 1 := ⟨L.length - 1, by omega⟩
      have sub : ∀ x ∈ L.take m, x ∈ L := fun x hx => List.mem_of_mem_take hx
      have e2' : ∀ x ∈ L.take m, Sat n (dy days) x := fun x hx => e2 x (sub x hx)
      have gb := good n8 (dy_b days) e2
      have ga := good n8 (dy_b days) e2'
      have ta := tight_good n1 n8 (by rw [List.length_take]; omega) e2' ga
      have tb := tight_good n1 n8 (by omega) e2 gb
      have bb : ∀ p q, base L p q ≤ base (L.take m) p q := by
        intro p q
        have e : base L = (L.drop m).foldl addC (base (L.take m)) := by
          unfold base
          rw [← List.foldl_append, List.take_append_drop]
        rw [e]
        exact fold_le (fun x hx => (e2 x (List.mem_of_mem_drop hx)).ok) p q
      have lowT : Low n (iter (base L) n) (base (L.take m)) := ⟨fun a b _ _ => Int.le_trans (gb.up n a b) (bb a b), fun w hw a b ha hb h1 h2 => (gb.tri w hw a b ha hb h1 h2).2⟩
      have key : ∀ a b, a < n → b < n → iter (base L) n a b ≤ iter (base (L.take m)) n a b := fun a b ha hb => (low_iter lowT n (Nat.le_refl _)).le a b ha hb
      refine Goes.congr (g := fun k => (chron_Tightest.f k n (L.take m)).bind fun bt216 => ((chron_Tightest.f k n L).bind fun bt220 => (if bt216.2 = 0 then (if bt220.2 = 0 then (if (bt216.1.length : Int) = n then (ephemeriskeep2_ChronNarrows.j0 k n bt216.1 bt220.1 ((bt220.1.length : Int) != n)) else (ephemeriskeep2_ChronNarrows.j0 k n bt216.1 bt220.1 true)) else (ephemeriskeep2_ChronNarrows.j0 k n bt216.1 bt220.1 true)) else (ephemeriskeep2_ChronNarrows.j0 k n bt216.1 bt220.1 true)))) (fun k => ?_) ?_
      · dsimp only
        rw [if_neg (by omega), wrap_in (n := (L.length : Int) - 1) (by omega) (by omega), if_pos (by omega), if_pos (by omega), show ((L.length : Int) - 1).toNat = m by omega]
      · refine Goes.bind ta ?_
        refine Goes.bind tb ?_
        simp only [if_true]
        refine Goes.congr (fun k => ?_) (Goes.step (f := fun k => ephemeriskeep2_ChronNarrows.j0 k n (spans n (iter (base (L.take m)) n)) (spans n (iter (base L) n)) false) (fun k => ?_) (nl0 n8 key n 0 (by omega)))
        · rw [spans_len, spans_len, if_pos rfl]
          simp
        · simp only [ephemeriskeep2_ChronNarrows.j0, Bool.false_eq_true, if_false]
          rfl
  obtain ⟨k0, h0⟩ := this
  exact ⟨k0, h0 k0 (Nat.le_refl _)⟩

end Go.Proofs.Ytglkadgdmdgckaa.Pure
