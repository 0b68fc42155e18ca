/- The law ChronContains: days that satisfy all constraints are within the tightest intervals. No condition. -/
import Derived.Test.YtglkadgdmdgckaaJBx2
import Derived.Test.YtglkadgdmdgckaaChronLaw3
namespace Go.Proofs.Ytglkadgdmdgckaa.Pure
open Go.Proofs.Ytglkadgdmdgckaa.JB Go.Proofs.Ytglkadgdmdgckaa.Own Go.Proofs.Ytglkadgdmdgckaa.Fw Go.RowKit Go.Proofs.YtglkadgdmdgckaaW.PrintWords Go.Proofs.YtglkadgdmdgckaaW.PrintLast

theorem cl2 {n i : Nat} {D : Nat → Int} {g : Mx} (hn : n ≤ 8) (hi : i < n) (hD : ∀ i, -10000 ≤ D i ∧ D i ≤ 10000) (hg : ∀ a b, a < n → b < n → D b - D a ≤ g a b) (H : Goes (fun k => ephemeriskeep2_ChronContains.l1 k n (row n D) (spans n g) n ((i + 1 : Nat) : Int)) true) :
    ∀ (d j : Nat), j + d = n → Goes (fun k => ephemeriskeep2_ChronContains.l2 k n (row n D) (spans n g) i n i n (j : Int)) true
  | 0, j, hj => by
    refine Goes.step (fun k => ?_) H
    simp only [ephemeriskeep2_ChronContains.l2]
    rw [if_neg (by omega), wrap_in (n := (i : Int) + 1) (by omega) (by omega)]
    rfl
  | d + 1, j, hj => by
    refine Goes.step (fun k => ?_) (cl2 hn hi hD hg H d (j + 1) (by omega))
    have hj' : j < n := by omega
    have h1 := hg i j hi hj'
    have h2 := hg j i hj' hi
    have d1 := hD i
    have d2 := hD j
    simp only [ephemeriskeep2_ChronContains.l2]
    rw [if_pos (by omega), if_pos (by omega), row_len, if_pos (by omega), if_pos (by omega), if_pos (by omega), spans_len, if_pos (by omega), spans_rd g hi, row_len, if_pos rfl, if_pos (by omega), rd_row _ hi, rd_row _ hj', rds_row _ hj', wrap_in (n := D j - D i) (by omega) (by omega),
      if_neg (show ¬ D j - D i < (spn g i j).f0 from by show ¬ D j - D i < -(g j i); omega), if_neg (show ¬ D j - D i > (spn g i j).f1 from by show ¬ D j - D i > g i j; omega), wrap_in (n := (j : Int) + 1) (by omega) (by omega)]
    rfl

theorem cl1 {n : Nat} {D : Nat → Int} {g : Mx} (hn : n ≤ 8) (hD : ∀ i, -10000 ≤ D i ∧ D i ≤ 10000) (hg : ∀ a b, a < n → b < n → D b - D a ≤ g a b) :
    ∀ (d i : Nat), i + d = n → Goes (fun k => ephemeriskeep2_ChronContains.l1 k n (row n D) (spans n g) n (i : Int)) true
  | 0, i, hi => by
    refine ⟨1, fun k hk => ?_⟩
    obtain ⟨m, rfl⟩ : ∃ m, k = m + 1 := ⟨k - 1, by omega⟩
    simp only [ephemeriskeep2_ChronContains.l1]
    rw [if_neg (by omega)]
  | d + 1, i, hi => by
    refine Goes.step (fun k => ?_) (cl2 hn (show i < n by omega) hD hg (cl1 hn hD hg d (i + 1) (by omega)) n 0 (by omega))
    simp only [ephemeriskeep2_ChronContains.l1]
    rw [if_pos (by omega)]
    rfl

theorem rd_take {l : List Int} {n i : Nat} (h : i < n) : rd (l.take n) (i : Int) = rd l (i : Int) := by
  unfold rd
  rw [Int.toNat_natCast, List.getD_eq_getElem?_getD, List.getD_eq_getElem?_getD, List.getElem?_take, if_pos h]

theorem cl0 {n : Nat} {days : List Int} {L : List Bd} (n1 : 1 ≤ n) (n8 : n ≤ 8) (hnd : n ≤ days.length) (hL : L.length ≤ 20) (ho : ∀ x ∈ L, Sat n (dy days) x) :
    ∀ (d i : Nat), i + d = n → Goes (fun k => ephemeriskeep2_ChronContains.l0 k L n (row i (dy days)) (days.take n) ((days.take n).length : Int) (i : Int)) true
  | 0, i, hi => by
    obtain rfl : i = n := by omega
    have g := good n8 (dy_b days) ho
    refine Goes.step (g := fun k => (chron_Fits.f k i L (row i (dy days))).bind fun bt247 => ((chron_Tightest.f k i L).bind fun bt249 => (if bt247.2 = 0 then (if bt249.2 = 0 then (if bt247.1 = true then (ephemeriskeep2_ChronContains.j1 k i (row i (dy days)) bt249.1 ((bt249.1.length : Int) != i)) else (ephemeriskeep2_ChronContains.j1 k i (row i (dy days)) bt249.1 true)) else (ephemeriskeep2_ChronContains.j1 k i (row i (dy days)) bt249.1 true)) else (ephemeriskeep2_ChronContains.j1 k i (row i (dy days)) bt249.1 true)))) (fun k => ?_) ?_
    · simp only [ephemeriskeep2_ChronContains.l0]
      rw [if_neg (by rw [List.length_take]; omega)]
    · refine Goes.bind (fits_goes n1 (by omega) (by omega) (fun a _ => by have := dy_b days a; omega) (fun x hx => by obtain ⟨a, b, o, o1, o2, _⟩ := ho x hx; exact ⟨a, b, o, o1, o2⟩)) ?_
      refine Goes.bind (tight_good n1 n8 (by omega) ho g) ?_
      simp only [if_true]
      refine Goes.congr (fun k => ?_) (Goes.step (f := fun k => ephemeriskeep2_ChronContains.j1 k i (row i (dy days)) (spans i (iter (base L) i)) false) (fun k => ?_) (cl1 n8 (dy_b days) (g.low i (Nat.le_refl _)) i 0 (by omega)))
      · rw [spans_len]; simp
      · simp only [ephemeriskeep2_ChronContains.j1, Bool.false_eq_true, if_false]
        rfl
  | d + 1, i, hi => by
    refine Goes.step (fun k => ?_) (cl0 n1 n8 hnd hL ho d (i + 1) (by omega))
    simp only [ephemeriskeep2_ChronContains.l0]
    rw [if_pos (by rw [List.length_take]; omega), if_pos (by omega), if_pos (by rw [List.length_take]; omega), row_len, if_pos (by omega), rd_take (show i < n by omega), wrap_in (n := (i : Int) + 1) (by omega) (by omega)]
    show ephemeriskeep2_ChronContains.l0 k L n (row i (dy days) ++ [dy days i]) _ _ _ = _
    rw [row_snoc]
    rfl

theorem ChronContains : ephemeriskeep2_ChronContains.Pure := by
  intro days l hd _ _ hl _
  unfold maxLen at hd hl
  obtain ⟨L, e1, e2, e3⟩ := events_goes (days := days) (l := l) (by omega) (by omega)
  obtain ⟨n, hn⟩ : ∃ n, min days.length 8 = n := ⟨_, rfl⟩
  rw [hn] at e1 e2
  have n8 : n ≤ 8 := by omega
  have : Goes (fun k => ephemeriskeep2_ChronContains.f k days l) true := by
    unfold ephemeriskeep2_ChronContains.f
    refine Goes.bind works ?_
    simp only [if_true]
    refine Goes.bind e1 ?_
    by_cases c : n = 0
    · refine Goes.of (fun k => ?_)
      dsimp only
      rw [if_pos (by omega)]
    · refine Goes.congr (fun k => ?_) (cl0 (by omega) n8 (by omega) e3 e2 n 0 (by omega))
      dsimp only
      rw [if_neg (by omega), if_pos (by omega), if_pos (by omega), Int.toNat_natCast]
      rfl
  obtain ⟨k0, h0⟩ := this
  exact ⟨k0, h0 k0 (Nat.le_refl _)⟩

end Go.Proofs.Ytglkadgdmdgckaa.Pure
