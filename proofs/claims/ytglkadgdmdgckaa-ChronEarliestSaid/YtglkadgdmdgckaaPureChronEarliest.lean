/- The law ChronEarliest: the earliest days satisfy all constraints, and no event can be a day earlier. No condition. -/
import Derived.Test.YtglkadgdmdgckaaJBx2
import Derived.Test.YtglkadgdmdgckaaChronLaw3
namespace Go.Proofs.Ytglkadgdmdgckaa.Pure
open Go.Proofs.Ytglkadgdmdgckaa.JB Go.Proofs.Ytglkadgdmdgckaa.Own Go.Proofs.Ytglkadgdmdgckaa.Fw Go.RowKit Go.Proofs.YtglkadgdmdgckaaW.PrintWords Go.Proofs.YtglkadgdmdgckaaW.PrintLast

/-- the earliest days, if each event has a bound -/
theorem early_loop {n e : Nat} {g : Mx} {day : Int} (hn : n ≤ 8) (he : e < n) (hday : 0 ≤ day ∧ day ≤ 1000) (no : NoOver n g) (hg : ∀ b, b < n → g b e ≠ 1000000000) :
    ∀ (d i : Nat), i + d = n → Goes (fun k => chron_Early.l0 k day (row i (fun b => day - g b e)) (row n (spn g e)) n (i : Int)) (row n (fun b => day - g b e), 0)
  | 0, i, hi => by
    obtain rfl : i = n := by omega
    refine ⟨1, fun k hk => ?_⟩
    obtain ⟨m, rfl⟩ : ∃ m, k = m + 1 := ⟨k - 1, by omega⟩
    simp only [chron_Early.l0]
    rw [if_neg (by omega)]
  | d + 1, i, hi => by
    refine Goes.step (fun k => ?_) (early_loop hn he hday no hg d (i + 1) (by omega))
    have hi' : i < n := by omega
    have b1 := no i e hi' he
    have b2 := hg i hi'
    simp only [chron_Early.l0]
    rw [if_pos (by omega), if_pos (by omega), row_len, row_len, if_pos (by omega), rds_row _ hi']
    show (if -(g i e) = (-1000000000 : Int) then _ else if i < 17592186044416 then chron_Early.l0 k day (row i (fun b => day - g b e) ++ [wrap64 (day + -(g i e))]) _ _ _ else none) = _
    rw [if_neg (by omega), if_pos (by omega), wrap_in (n := day + -(g i e)) (by omega) (by omega), wrap_in (n := (i : Int) + 1) (by omega) (by omega), show day + -(g i e) = (fun b => day - g b e) i from by show _ = day - g i e; omega, row_snoc]
    rfl

/-- none, if some event has no bound -/
theorem early_none {n e : Nat} {g : Mx} {day : Int} (hn : n ≤ 8) (he : e < n) (hday : 0 ≤ day ∧ day ≤ 1000) (no : NoOver n g) (hg : ∃ b, b < n ∧ g b e = 1000000000) :
    ∀ (d i : Nat), i + d = n → (∀ b, b < i → g b e ≠ 1000000000) → Goes (fun k => chron_Early.l0 k day (row i (fun b => day - g b e)) (row n (spn g e)) n (i : Int)) (([] : List Int), 6)
  | 0, i, hi, h => by
    obtain ⟨b, hb, e⟩ := hg
    exact absurd e (h b (by omega))
  | d + 1, i, hi, h => by
    have hi' : i < n := by omega
    have b1 := no i e hi' he
    by_cases c : g i e = 1000000000
    · refine ⟨1, fun k hk => ?_⟩
      obtain ⟨m, rfl⟩ : ∃ m, k = m + 1 := ⟨k - 1, by omega⟩
      simp only [chron_Early.l0]
      rw [if_pos (by omega), if_pos (by omega), row_len, row_len, if_pos (by omega), rds_row _ hi']
      show (if -(g i e) = (-1000000000 : Int) then some (([] : List Int), (6 : Int)) else _) = _
      rw [if_pos (by omega)]
    · refine Goes.step (fun k => ?_) (early_none hn he hday no hg d (i + 1) (by omega) (fun b hb => by
        rcases Nat.lt_or_ge b i with h' | h'
        · exact h b h'
        · obtain rfl : b = i := by omega
          exact c))
      simp only [chron_Early.l0]
      rw [if_pos (by omega), if_pos (by omega), row_len, row_len, if_pos (by omega), rds_row _ hi']
      show (if -(g i e) = (-1000000000 : Int) then _ else if i < 17592186044416 then chron_Early.l0 k day (row i (fun b => day - g b e) ++ [wrap64 (day + -(g i e))]) _ _ _ else none) = _
      rw [if_neg (by omega), if_pos (by omega), wrap_in (n := day + -(g i e)) (by omega) (by omega), wrap_in (n := (i : Int) + 1) (by omega) (by omega), show day + -(g i e) = (fun b => day - g b e) i from by show _ = day - g i e; omega, row_snoc]
      rfl

theorem early_goes {n e : Nat} {l : List Bd} {r : List Int × Int} (he : e < n) (T : Goes (fun k => chron_Tightest.f k n l) (spans n (iter (base l) n), 0))
    (H : Goes (fun k => chron_Early.l0 k 100 [] (row n (spn (iter (base l) n) e)) n 0) r) : Goes (fun k => chron_Early.f k n l e 100) r := by
  unfold chron_Early.f
  refine Goes.bind T ?_
  simp only [if_true]
  refine Goes.congr (g := fun k => chron_Early.j0 k e 100 (spans n (iter (base l) n)) false) (fun k => ?_) (Goes.step (fun k => ?_) H)
  · rw [if_neg (by omega), if_neg (by omega), if_neg (by omega)]
    rfl
  · simp only [chron_Early.j0, Bool.false_eq_true, if_false]
    rw [if_pos (by omega), spans_len, if_pos (by omega), spans_rd _ he, row_len]

theorem el0 {n e : Nat} {g : Mx} (hn : n ≤ 8) (he : e < n) (no : NoOver n g) :
    ∀ (d i : Nat), i + d = n → Goes (fun k => ephemeriskeep2_ChronEarliest.l0 k e (row n (fun b => 100 - g b e)) (spans n g) n (i : Int)) true
  | 0, i, hi => by
    refine ⟨1, fun k hk => ?_⟩
    obtain ⟨m, rfl⟩ : ∃ m, k = m + 1 := ⟨k - 1, by omega⟩
    simp only [ephemeriskeep2_ChronEarliest.l0]
    rw [if_neg (by omega)]
  | d + 1, i, hi => by
    have hi' : i < n := by omega
    have b1 := no i e hi' he
    refine Goes.step (fun k => ?_) (el0 hn he no d (i + 1) (by omega))
    simp only [ephemeriskeep2_ChronEarliest.l0]
    rw [if_pos (by omega), if_pos (by omega), row_len, if_pos (by omega), if_pos (by omega), spans_len, if_pos (by omega), spans_rd _ he, row_len, if_pos (by omega), rd_row _ hi', rds_row _ hi', wrap_in (n := 100 - g i e - 100) (by omega) (by omega),
      if_pos (show 100 - g i e - 100 = (spn g e i).f0 from by show _ = -(g i e); omega), wrap_in (n := (i : Int) + 1) (by omega) (by omega)]
    rfl

theorem ChronEarliest : ephemeriskeep2_ChronEarliest.Pure := by
  intro days l ev hd _ _ hl _ _
  unfold maxLen at hd hl
  obtain ⟨L, e1, e2, e3⟩ := events_goes (days := days) (l := l) (by omega) (by omega)
  obtain ⟨n, hn⟩ : ∃ n, min days.length 8 = n := ⟨_, rfl⟩
  rw [hn] at e1 e2
  have n8 : n ≤ 8 := by omega
  have : Goes (fun k => ephemeriskeep2_ChronEarliest.f k days l ev) true := by
    unfold ephemeriskeep2_ChronEarliest.f
    refine Goes.bind works ?_
    simp only [if_true]
    refine Goes.bind e1 ?_
    dsimp only
    by_cases c : n = 0
    · refine Goes.of (fun k => ?_)
      rw [if_pos (show (n : Int) = 0 by omega)]
    · simp only [if_neg (show ¬ (n : Int) = 0 by omega)]
      have ee : 0 ≤ ev % n ∧ ev % n < n := ⟨Int.emod_nonneg _ (by omega), Int.emod_lt_of_pos _ (by omega)⟩
      obtain ⟨e, he⟩ : ∃ e : Nat, ev % n = e := ⟨(ev % n).toNat, by omega⟩
      have he' : e < n := by omega
      simp only [at_f (a := ev) (m := (n : Int)) (by omega) (by omega), he, Option.bind_some]
      have g := good n8 (dy_b days) e2
      have T := tight_good (by omega) n8 (by omega) e2 g
      have no := g.no n (Nat.le_refl _)
      by_cases cf : ∃ b, b < n ∧ iter (base L) n b e = 1000000000
      · refine Goes.bind (early_goes he' T (early_none n8 he' (by omega) no cf n 0 (by omega) (fun b hb => by omega))) ?_
        refine Goes.of (fun k => ?_)
        rfl
      · have hg : ∀ b, b < n → iter (base L) n b e ≠ 1000000000 := fun b hb h => cf ⟨b, hb, h⟩
        refine Goes.bind (early_goes he' T (early_loop n8 he' (by omega) no hg n 0 (by omega))) ?_
        simp only [if_true]
        have lt : ∀ b, b < n → iter (base L) n b e < far := fun b hb => by
          have h1 := no b e hb he'
          have h2 := hg b hb
          show _ < (1000000000 : Int)
          omega
        refine Goes.bind (fits_goes (D := fun b => 100 - iter (base L) n b e) (by omega) (by omega) (by omega) (fun b hb => by
          have h1 := g.low n (Nat.le_refl _) b e hb he'
          have h2 := lt b hb
          have h3 := dy_b days b
          have h4 := dy_b days e
          show _ ≤ 100 - iter (base L) n b e ∧ 100 - iter (base L) n b e ≤ _
          have h5 : iter (base L) n b e < (1000000000 : Int) := h2
          omega) (fun x hx => by
          obtain ⟨a, b, o, o1, o2, o3, o4⟩ := e2 x hx
          have m := g.mem x hx a b o
          have u1 := g.up n a b
          have u2 := g.up n b a
          have ha := o.ha
          have hb := o.hb
          have le := o.le
          have f1 : iter (base L) n a b < far := by show _ < (1000000000 : Int); omega
          have f2 : iter (base L) n b a < far := by show _ < (1000000000 : Int); omega
          have t1 := (g.tri b hb a e ha he' f1 (lt b hb)).2
          have t2 := (g.tri a ha b e hb he' f2 (lt a ha)).2
          refine ⟨a, b, o, ?_, ?_⟩
          · show x.f2 ≤ (100 - iter (base L) n b e) - (100 - iter (base L) n a e)
            omega
          · show (100 - iter (base L) n b e) - (100 - iter (base L) n a e) ≤ x.f3
            omega)) ?_
        refine Goes.bind T ?_
        simp only [if_true]
        refine Goes.congr (fun k => ?_) (Goes.step (f := fun k => ephemeriskeep2_ChronEarliest.j0 k e n (row n (fun b => 100 - iter (base L) n b e)) (spans n (iter (base L) n)) false) (fun k => ?_) (el0 n8 he' no n 0 (by omega)))
        · rw [row_len, spans_len, if_pos rfl, if_pos rfl, if_pos (by omega), if_pos (by omega), spans_rd _ he', row_len]
          simp
        · simp only [ephemeriskeep2_ChronEarliest.j0, Bool.false_eq_true, if_false]
          rfl
  obtain ⟨k0, h0⟩ := this
  exact ⟨k0, h0 k0 (Nat.le_refl _)⟩

end Go.Proofs.Ytglkadgdmdgckaa.Pure
