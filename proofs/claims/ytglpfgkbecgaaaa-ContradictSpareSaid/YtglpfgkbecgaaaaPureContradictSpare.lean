/- The law ContradictSpare: a constraint that is implied changes no interval. No condition. -/
import Derived.Test.YtglpfgkbecgaaaaJCx2
import Derived.Test.YtglpfgkbecgaaaaChronLaw3
namespace Go.Proofs.Ytglpfgkbecgaaaa.Pure
open Go.Proofs.Ytglpfgkbecgaaaa.JC Go.Proofs.Ytglpfgkbecgaaaa.Own Go.Proofs.Ytglpfgkbecgaaaa.Fw Go.RowKit Go.Proofs.YtglpfgkbecgaaaaW.PrintWords Go.Proofs.YtglpfgkbecgaaaaW.PrintLast

theorem cons_works : Goes (fun k => ephemeriskeep2_contradictWorks.f k) true := Goes.of_mono (k0 := 300) ephemeriskeep2_contradictWorks.mono (by decide +kernel)

/-- the pairs whose intervals differ, from a pair on -/
theorem chg_l1 {n : Nat} {G H : Mx} {i : Nat} (hn : n ≤ 12) (hi : i < n) (g : ∀ acc : List S62, acc.length ≤ (i + 1) * 20 → ∃ out, Goes (fun k => contradict_Changed.l0 k n (spans n G) (spans n H) acc n ((i + 1 : Nat) : Int)) (out, 0) ∧ (out = [] ↔ acc = [] ∧ ∀ a b, i + 1 ≤ a → a < b → b < n → spn G a b = spn H a b)) :
    ∀ (d j : Nat) (acc : List S62), j + d = n → i < j → acc.length ≤ i * 20 + j → ∃ out, Goes (fun k => contradict_Changed.l1 k n (spans n G) (spans n H) acc i (j : Int) n i) (out, 0) ∧ (out = [] ↔ acc = [] ∧ (∀ b, j ≤ b → b < n → spn G i b = spn H i b) ∧ ∀ a b, i + 1 ≤ a → a < b → b < n → spn G a b = spn H a b)
  | 0, j, acc, hj, hij, ha => by
    obtain ⟨out, g1, g2⟩ := g acc (by omega)
    refine ⟨out, Goes.step (fun k => ?_) g1, g2.trans ⟨fun h => ⟨h.1, fun b h1 h2 => by omega, h.2⟩, fun h => ⟨h.1, h.2.2⟩⟩⟩
    simp only [contradict_Changed.l1]
    rw [if_neg (by omega), wrap_in (n := (i : Int) + 1) (by omega) (by omega)]
    rfl
  | d + 1, j, acc, hj, hij, ha => by
    have hj' : j < n := by omega
    have E1 : spn G i j = spn H i j → (!((spn G i j).f0 == (spn H i j).f0) || !((spn G i j).f1 == (spn H i j).f1)) = false := fun c => by rw [c]; simp
    have E2 : spn G i j ≠ spn H i j → (!((spn G i j).f0 == (spn H i j).f0) || !((spn G i j).f1 == (spn H i j).f1)) = true := fun c => by
      by_cases c1 : (spn G i j).f0 = (spn H i j).f0
      · by_cases c2 : (spn G i j).f1 = (spn H i j).f1
        · exact absurd (by
            cases h1 : spn G i j
            cases h2 : spn H i j
            rw [h1, h2] at c1 c2
            simp only at c1 c2
            rw [c1, c2]) c
        · simp [c2]
      · simp [c1]
    by_cases c : spn G i j = spn H i j
    · obtain ⟨out, g1, g2⟩ := chg_l1 hn hi g d (j + 1) acc (by omega) (by omega) (by omega)
      refine ⟨out, Goes.step (fun k => ?_) g1, g2.trans ⟨fun h => ⟨h.1, fun b h1 h2 => ?_, h.2.2⟩, fun h => ⟨h.1, fun b h1 h2 => h.2.1 b (by omega) h2, h.2.2⟩⟩⟩
      · simp only [contradict_Changed.l1]
        rw [if_pos (by omega), if_pos (by omega), if_pos (by rw [spans_len]; omega), if_pos (by omega), spans_rd G hi, spans_rd H hi, row_len, if_pos (by omega), if_pos (by rw [spans_len]; omega), row_len, if_pos (by omega), rds_row _ hj', rds_row _ hj', E1 c, if_neg (by simp), wrap_in (n := (j : Int) + 1) (by omega) (by omega)]
        rfl
      · by_cases e : b = j
        · rw [e]; exact c
        · exact h.2.1 b (by omega) h2
    · obtain ⟨out, g1, g2⟩ := chg_l1 hn hi g d (j + 1) (acc ++ [⟨i, j⟩]) (by omega) (by omega) (by simp; omega)
      refine ⟨out, Goes.step (fun k => ?_) g1, g2.trans ⟨fun h => ?_, fun h => absurd (h.2.1 j (Nat.le_refl _) hj') c⟩⟩
      · simp only [contradict_Changed.l1]
        rw [if_pos (by omega), if_pos (by omega), if_pos (by rw [spans_len]; omega), if_pos (by omega), spans_rd G hi, spans_rd H hi, row_len, if_pos (by omega), if_pos (by rw [spans_len]; omega), row_len, if_pos (by omega), rds_row _ hj', rds_row _ hj', E2 c, if_pos rfl]
        simp only [Option.bind_some, List.length_cons, List.length_nil]
        rw [if_pos (by omega), wrap_in (n := (j : Int) + 1) (by omega) (by omega)]
        rfl
      · exact absurd h.1 (by simp)

theorem chg_l0 {n : Nat} {G H : Mx} (hn : n ≤ 12) : ∀ (d i : Nat) (acc : List S62), i + d = n → acc.length ≤ i * 20 → ∃ out, Goes (fun k => contradict_Changed.l0 k n (spans n G) (spans n H) acc n (i : Int)) (out, 0) ∧ (out = [] ↔ acc = [] ∧ ∀ a b, i ≤ a → a < b → b < n → spn G a b = spn H a b)
  | 0, i, acc, hi, ha => by
    refine ⟨acc, ⟨1, fun k hk => ?_⟩, ⟨fun h => ⟨h, fun a b h1 h2 h3 => by omega⟩, fun h => h.1⟩⟩
    obtain ⟨m, rfl⟩ : ∃ m, k = m + 1 := ⟨k - 1, by omega⟩
    simp only [contradict_Changed.l0]
    rw [if_neg (by omega)]
  | d + 1, i, acc, hi, ha => by
    obtain ⟨out, g1, g2⟩ := chg_l1 (G := G) (H := H) (i := i) hn (by omega) (fun acc h => chg_l0 hn d (i + 1) acc (by omega) h) (n - (i + 1)) (i + 1) acc (by omega) (by omega) (by omega)
    refine ⟨out, Goes.step (fun k => ?_) g1, g2.trans ⟨fun h => ⟨h.1, fun a b h1 h2 h3 => ?_⟩, fun h => ⟨h.1, fun b h1 h2 => h.2 i b (Nat.le_refl _) (by omega) h2, fun a b h1 h2 h3 => h.2 a b (by omega) h2 h3⟩⟩⟩
    · simp only [contradict_Changed.l0]
      rw [if_pos (by omega), wrap_in (n := (i : Int) + 1) (by omega) (by omega)]
      rfl
    · by_cases e : a = i
      · rw [e]; exact h.2.1 b (by omega) h3
      · exact h.2.2 a b (by omega) h2 h3

theorem low_of {n : Nat} {D : Nat → Int} {L M : List Bd} (g : Go.Proofs.Ytglpfgkbecgaaaa.JC.Good n D L) (h : ∀ a b, a < n → b < n → iter (base L) n a b ≤ base M a b) : ∀ a b, a < n → b < n → iter (base L) n a b ≤ iter (base M) n a b := by
  have : Low n (iter (base L) n) (base M) := ⟨h, fun w hw a b ha hb h1 h2 => (g.tri w hw a b ha hb h1 h2).2⟩
  exact (low_iter this n (Nat.le_refl _)).le

theorem base_snoc (L : List Bd) (x : Bd) : base (L ++ [x]) = addC (base L) x := by unfold base; rw [List.foldl_append]; rfl

/-- a further constraint changes an interval, unless it is implied -/
theorem spare_iff {n : Nat} {D : Nat → Int} {L : List Bd} {x : Bd} {a b : Nat} (gL : Go.Proofs.Ytglpfgkbecgaaaa.JC.Good n D L) (gM : Go.Proofs.Ytglpfgkbecgaaaa.JC.Good n D (L ++ [x])) (o : OkC n x a b) (ok : Ok n x) :
    (∀ p q, 0 ≤ p → p < q → q < n → spn (iter (base L) n) p q = spn (iter (base (L ++ [x])) n) p q) ↔ (x.f2 ≤ -(iter (base L) n b a) ∧ iter (base L) n a b ≤ x.f3) := by
  constructor
  · intro h
    have m := gM.mem x (by simp) a b o
    have u1 := gM.up n a b
    have u2 := gM.up n b a
    have ne := o.ne
    have key : iter (base L) n a b = iter (base (L ++ [x])) n a b ∧ iter (base L) n b a = iter (base (L ++ [x])) n b a := by
      rcases Nat.lt_or_gt_of_ne ne with c | c
      · have e := h a b (Nat.zero_le _) c o.hb
        unfold spn at e
        injection e with e1 e2
        exact ⟨e2, by omega⟩
      · have e := h b a (Nat.zero_le _) c o.ha
        unfold spn at e
        injection e with e1 e2
        exact ⟨by omega, e2⟩
    rw [key.1, key.2]
    omega
  · intro h
    have h1 : ∀ p q, p < n → q < n → iter (base (L ++ [x])) n p q ≤ iter (base L) n p q := low_of gM (fun p q _ _ => by
      have := gM.up n p q
      rw [base_snoc] at this ⊢
      exact Int.le_trans this (addC_le ok p q))
    have h2 : ∀ p q, p < n → q < n → iter (base L) n p q ≤ iter (base (L ++ [x])) n p q := low_of gL (fun p q _ _ => by
      have u := gL.up n p q
      rw [base_snoc, addC_eq o]
      split
      · rename_i e; rw [e.1, e.2] at u ⊢; omega
      · split
        · rename_i e; rw [e.1, e.2] at u ⊢; omega
        · exact u)
    intro p q _ c d
    have a1 := h1 p q (by omega) d
    have a2 := h2 p q (by omega) d
    have a3 := h1 q p d (by omega)
    have a4 := h2 q p d (by omega)
    unfold spn
    rw [show iter (base L) n p q = iter (base (L ++ [x])) n p q by omega, show iter (base L) n q p = iter (base (L ++ [x])) n q p by omega]

theorem ContradictSpare : ephemeriskeep2_ContradictSpare.Pure := by
  intro days l hd _ _ hl _
  unfold maxLen at hd hl
  obtain ⟨L, e1, e2, e3⟩ := events_goes (days := days) (l := l) (by omega) (by omega)
  obtain ⟨n, hn⟩ : ∃ n, min days.length 8 = n := ⟨_, rfl⟩
  rw [hn] at e1 e2
  have n8 : n ≤ 8 := by omega
  have : Goes (fun k => ephemeriskeep2_ContradictSpare.f k days l) true := by
    unfold ephemeriskeep2_ContradictSpare.f
    refine Goes.bind cons_works ?_
    simp only [if_true]
    refine Goes.bind e1 ?_
    dsimp only
    by_cases c : L.length = 0
    · refine Goes.of (fun k => ?_)
      rw [if_pos (by omega)]
    · obtain ⟨M, x, rfl⟩ : ∃ M x, L = M ++ [x] := ⟨L.dropLast, L.getLast (by intro h; rw [h] at c; exact c rfl), (List.dropLast_concat_getLast _).symm⟩
      have hM : M.length + 1 = (M ++ [x]).length := by simp
      obtain ⟨a, b, o, o1, o2, o3, o4⟩ := e2 x (by simp)
      have ok : Ok n x := ⟨a, b, o⟩
      have n1 : 1 ≤ n := by have := o.ha; omega
      have eM : ∀ y ∈ M, Sat n (dy days) y := fun y hy => e2 y (by simp [hy])
      have gM := good n8 (dy_b days) eM
      have gL := good n8 (dy_b days) e2
      have tM := tight_good n1 n8 (by omega) eM gM
      have tL := tight_good n1 n8 (by omega) e2 gL
      have ck := check_goes n1 (by omega) (l := M ++ [x]) (by omega) (fun y hy => (e2 y hy).ok)
      have hrd : rd_T51 (M ++ [x]) ((M.length : Nat) : Int) = x := by
        unfold rd_T51
        rw [Int.toNat_natCast]
        simp [List.getD]
      have hwo : contradict_without.f (M ++ [x]) ((M.length : Nat) : Int) = some M := by
        unfold contradict_without.f
        rw [if_pos ⟨by omega, by omega, by omega⟩, Int.toNat_natCast]
        congr 1
        rw [List.eraseIdx_append_of_length_le (Nat.le_refl _)]
        simp
      have ha := o.ha
      have hb := o.hb
      have I : Goes (fun k => contradict_Implied.f k n (M ++ [x]) ((M.length : Nat) : Int)) (decide (x.f2 ≤ -(iter (base M) n b a) ∧ iter (base M) n a b ≤ x.f3), 0) := by
        unfold contradict_Implied.f
        refine Goes.bind ck ?_
        simp only [if_true]
        refine Goes.congr (g := fun k => contradict_Implied.j0 k n (M ++ [x]) ((M.length : Nat) : Int) false) (fun k => ?_) ?_
        · rw [if_neg (by omega), decide_eq_false (by omega)]
        refine Goes.step (g := fun k => (chron_Tightest.f k n M).bind fun bt190 => (if bt190.2 = 0 then (if 0 ≤ ((M.length : Nat) : Int) then (if ((M.length : Nat) : Int) < ((M ++ [x]).length : Int) then (if 0 ≤ x.f0 then (if x.f0 < (bt190.1.length : Int) then (if 0 ≤ x.f1 then (if x.f1 < ((rd_L4 bt190.1 x.f0).length : Int) then (if ((rd_T28 (rd_L4 bt190.1 x.f0) x.f1).f0) ≥ x.f2 then (some (decide (((rd_T28 (rd_L4 bt190.1 x.f0) x.f1).f1) ≤ x.f3), 0)) else (some (false, 0))) else (none)) else (none)) else (none)) else (none)) else (none)) else (none)) else (some (false, bt190.2)))) (fun k => ?_) ?_
        · simp only [contradict_Implied.j0, Bool.false_eq_true, if_false]
          rw [hwo, hrd]
          rfl
        · refine Goes.bind tM (Goes.of (fun k => ?_))
          simp only [if_true]
          rw [o.fa, o.fb, if_pos (by omega), if_pos (by omega), if_pos (by omega), if_pos (by rw [spans_len]; omega), if_pos (by omega), spans_rd _ ha, row_len, if_pos (by omega), rds_row _ hb]
          by_cases c1 : x.f2 ≤ -(iter (base M) n b a)
          · rw [if_pos (show (spn (iter (base M) n) a b).f0 ≥ x.f2 from c1)]
            congr 2
            exact decide_eq_decide.2 ⟨fun h => ⟨c1, h⟩, fun h => h.2⟩
          · rw [if_neg (show ¬ (spn (iter (base M) n) a b).f0 ≥ x.f2 from c1), decide_eq_false (fun h => c1 h.1)]
      obtain ⟨out, h1, h2⟩ := chg_l0 (n := n) (G := iter (base M) n) (H := iter (base (M ++ [x])) n) (by omega) n 0 [] (by omega) (by simp)
      have C : Goes (fun k => contradict_Changed.f k n M x.f0 x.f1 x.f2 x.f3) (out, 0) := by
        unfold contradict_Changed.f
        refine Goes.bind tM ?_
        simp only [if_true]
        refine Goes.congr (g := fun k => (chron_Tightest.f k n (M ++ [x])).bind fun bt256 => (if bt256.2 = 0 then (contradict_Changed.l0 k n (spans n (iter (base M) n)) bt256.1 ([] : List S62) n 0) else (some (([] : List S62), bt256.2)))) (fun k => ?_) ?_
        · unfold api_ChronBound_37.f
          simp only [Option.bind_some, List.length_nil, List.nil_append, List.length_cons]
          rw [if_pos (by omega)]
          simp only [Option.bind_some]
          rw [if_pos (by omega)]
        · refine Goes.bind tL ?_
          simp only [if_true]
          exact h1
      have hk : wrap64 (((M ++ [x]).length : Int) - 1) = ((M.length : Nat) : Int) := by rw [wrap_in (by omega) (by omega)]; omega
      rw [hk]
      refine Goes.congr (g := fun k => (contradict_Implied.f k n (M ++ [x]) ((M.length : Nat) : Int)).bind fun bt275 => (contradict_Changed.f k n M x.f0 x.f1 x.f2 x.f3).bind fun bt282 => (if bt275.2 = 0 then (if bt282.2 = 0 then (some (bt275.1 == ((bt282.1.length : Int) == 0))) else (none)) else (none))) (fun k => ?_) ?_
      · rw [if_neg (by omega), hrd, Int.toNat_natCast, List.take_left]
        refine congrArg (fun z => (contradict_Implied.f k n (M ++ [x]) ((M.length : Nat) : Int)).bind z) (funext fun v => ?_)
        rw [if_pos (by omega), if_pos (by omega), if_pos (by omega)]
      · refine Goes.bind I (Goes.bind C (Goes.of (fun k => ?_)))
        simp only [if_true]
        congr 1
        rw [beq_iff_eq]
        have s := spare_iff gM gL o ok
        by_cases c1 : x.f2 ≤ -(iter (base M) n b a) ∧ iter (base M) n a b ≤ x.f3
        · have : out = [] := h2.2 ⟨rfl, fun p q h3 h4 h5 => (s.2 c1) p q h3 h4 h5⟩
          rw [decide_eq_true c1, this]; rfl
        · have : out ≠ [] := fun h => c1 (s.1 (fun p q h3 h4 h5 => (h2.1 h).2 p q h3 h4 h5))
          have hl : 0 < out.length := List.length_pos_iff.mpr this
          rw [decide_eq_false c1]
          symm
          simp
          exact this
  obtain ⟨k0, h0⟩ := this
  exact ⟨k0, h0 k0 (Nat.le_refl _)⟩
end Go.Proofs.Ytglpfgkbecgaaaa.Pure
