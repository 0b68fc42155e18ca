/- What chron.Check, chron.Tightest and chron.Fits compute for permitted constraints. No condition on a program. -/
import Derived.Test.YtoecglgbmhhdnaaChronLaw
namespace Go.Proofs.Ytoecglgbmhhdnaa.JE
open Go.Proofs.Ytoecglgbmhhdnaa.Own Go.Proofs.Ytoecglgbmhhdnaa.Fw Go.RowKit Go.Proofs.YtoecglgbmhhdnaaW.PrintWords Go.Proofs.YtoecglgbmhhdnaaW.PrintLast

theorem Goes.of_mono {α : Type} {f : Nat → Option α} {r : α} {k0 : Nat} (h : ∀ k, LeO (f k) (f (k + 1))) (h0 : f k0 = some r) : Goes f r := by
  refine ⟨k0, fun k hk => ?_⟩
  obtain ⟨m, rfl⟩ := Nat.le.dest hk
  clear hk
  induction m with
  | zero => exact h0
  | succ m ih => exact h _ _ ih

theorem drop_rd {l : List Bd} {i : Nat} {x : Bd} {rest : List Bd} (hd : l.drop i = x :: rest) : i < l.length ∧ rd_T37 l (i : Int) = x ∧ l.drop (i + 1) = rest := by
  refine ⟨?_, ?_, ?_⟩
  · rcases Nat.lt_or_ge i l.length with h | h
    · exact h
    · rw [List.drop_eq_nil_of_le h] at hd; cases hd
  · unfold rd_T37
    rw [Int.toNat_natCast, List.getD_eq_getElem?_getD]
    have : (l.drop i)[0]? = some x := by rw [hd]; rfl
    rw [List.getElem?_drop, Nat.add_zero] at this
    rw [this]; rfl
  · rw [← List.drop_drop, hd]; rfl

variable {n : Nat} {l : List Bd}

theorem check_loop (hn : n ≤ 12) (hl : l.length ≤ 40) : ∀ (rest : List Bd) (i : Nat), l.drop i = rest → (∀ x ∈ rest, Ok n x) → Goes (fun k => chron_Check.l0 k n l l.length (i : Int)) 0
  | [], i, hd, _ => by
    have := List.drop_eq_nil_iff.1 hd
    refine ⟨1, fun k hk => ?_⟩
    obtain ⟨m, rfl⟩ : ∃ m, k = m + 1 := ⟨k - 1, by omega⟩
    simp only [chron_Check.l0]
    rw [if_neg (by omega)]
  | x :: rest, i, hd, ho => by
    obtain ⟨hi, hx, hd'⟩ := drop_rd hd
    obtain ⟨a, b, o⟩ := ho x (by simp)
    have h1 := o.ha
    have h2 := o.hb
    have h3 := o.lo
    have h4 := o.hi
    have h5 := o.le
    have h6 := o.ne
    have h7 := o.fa
    have h8 := o.fb
    refine Goes.step (g := fun k => chron_Check.j2 k n l l.length (i : Int) false x.f0 x.f1 x.f2 x.f3) (fun k => ?_) (Goes.step (fun k => ?_) (check_loop hn hl rest (i + 1) hd' (fun y hy => ho y (by simp [hy]))))
    · simp only [chron_Check.l0]
      rw [hx, if_pos (by omega), if_pos (by omega), if_pos (by omega), if_neg (by omega), if_neg (by omega), if_neg (by omega), if_neg (by omega), if_neg (by omega), decide_eq_false (by omega)]
    · simp only [chron_Check.j2, Bool.false_eq_true, if_false]
      rw [if_neg (by omega), if_neg (by omega), wrap_in (n := (i : Int) + 1) (by omega) (by omega)]
      rfl

theorem check_goes (h1 : 1 ≤ n) (hn : n ≤ 12) (hl : l.length ≤ 40) (ho : ∀ x ∈ l, Ok n x) : Goes (fun k => chron_Check.f k n l) 0 := by
  refine Goes.congr (g := fun k => chron_Check.j0 k n l false) (fun k => ?_) (Goes.step (fun k => ?_) (check_loop hn hl l 0 rfl ho))
  · unfold chron_Check.f
    rw [if_neg (by omega), decide_eq_false (by omega)]
  · simp only [chron_Check.j0, Bool.false_eq_true, if_false]
    rw [if_neg (by omega)]
    rfl

/-- the spans that belong to a matrix -/
def spn (g : Mx) (a b : Nat) : Sn := ⟨-(g b a), g a b⟩
def spans (n : Nat) (g : Mx) : List (List Sn) := row n (fun a => row n (spn g a))
theorem spans_len (n : Nat) (g : Mx) : (spans n g).length = n := row_len _ _
theorem rdl_rows {n i : Nat} (g : Nat → List Sn) (h : i < n) : rd_L4 (row n g) (i : Int) = g i := by
  unfold rd_L4; rw [Int.toNat_natCast]; exact row_getD g h []
theorem spans_rd {n i : Nat} (g : Mx) (h : i < n) : rd_L4 (spans n g) (i : Int) = row n (spn g i) := rdl_rows _ h
theorem rds_row {n i : Nat} (g : Nat → Sn) (h : i < n) : rd_T34 (row n g) (i : Int) = g i := by
  unfold rd_T34; rw [Int.toNat_natCast]; exact row_getD g h _

theorem tl1_goes {g : Mx} {i : Nat} {r : List (List Sn) × Int} (hn : n ≤ 12) (hi : i < n) (no : NoOver n g)
    (H : Goes (fun k => chron_Tightest.l0 k n (mat n g) (row n (fun a => if a < i + 1 then row n (spn g a) else [])) n ((i + 1 : Nat) : Int)) r) :
    ∀ (d j : Nat), j + d = n → Goes (fun k => chron_Tightest.l1 k n (mat n g) (row n (fun a => if a < i then row n (spn g a) else if a = i then row j (spn g i) else [])) i n i n (j : Int)) r
  | 0, j, hj => by
    refine Goes.step (fun k => ?_) H
    simp only [chron_Tightest.l1]
    rw [if_neg (by omega), wrap_in (n := (i : Int) + 1) (by omega) (by omega)]
    obtain rfl : j = n := by omega
    congr 1
    refine row_congr (fun a ha => ?_)
    by_cases c : a < i
    · rw [if_pos c, if_pos (by omega)]
    · by_cases e : a = i
      · rw [if_neg c, if_pos e, if_pos (by omega), e]
      · rw [if_neg c, if_neg e, if_neg (by omega)]
  | d + 1, j, hj => by
    refine Goes.step (fun k => ?_) (tl1_goes hn hi no H d (j + 1) (by omega))
    have hj' : j < n := by omega
    have b1 := no j i hj' hi
    simp only [chron_Tightest.l1]
    rw [if_pos (by omega), if_pos (by omega), row_len, if_pos (by omega), if_pos (by omega), mat_len, if_pos (by omega), mat_rd _ hj', row_len, if_pos (by omega), if_pos (by omega), mat_rd _ hi, row_len, if_pos (by omega), rdl_rows _ hi, if_neg (show ¬ i < i by omega), if_pos (show i = i from rfl), row_len, if_pos (by omega), rd_row _ hi, rd_row _ hj', wrap_in (n := -(g j i)) (by omega) (by omega), wrap_in (n := (j : Int) + 1) (by omega) (by omega), Int.toNat_natCast, row_set _ _ hi]
    show chron_Tightest.l1 k n (mat n g) (row n fun x => if x = i then row j (spn g i) ++ [spn g i j] else _) i n i n ((j + 1 : Nat) : Int) = _
    rw [row_snoc]
    congr 1
    refine row_congr (fun a ha => ?_)
    by_cases e : a = i
    · rw [if_pos e, if_neg (by omega), if_pos e]
    · rw [if_neg e, if_neg e, if_neg e]

theorem tl0_goes {g : Mx} (hn : n ≤ 12) (no : NoOver n g) :
    ∀ (d i : Nat), i + d = n → Goes (fun k => chron_Tightest.l0 k n (mat n g) (row n (fun a => if a < i then row n (spn g a) else [])) n (i : Int)) (spans n g, 0)
  | 0, i, hi => by
    refine ⟨1, fun k hk => ?_⟩
    obtain ⟨m, rfl⟩ : ∃ m, k = m + 1 := ⟨k - 1, by omega⟩
    simp only [chron_Tightest.l0]
    rw [if_neg (by omega)]
    congr 2
    exact row_congr (fun a ha => by rw [if_pos (by omega)])
  | d + 1, i, hi => by
    refine Goes.step (fun k => ?_) (tl1_goes hn (show i < n by omega) no (tl0_goes hn no d (i + 1) (by omega)) n 0 (by omega))
    simp only [chron_Tightest.l0]
    rw [if_pos (by omega)]
    congr 1
    refine row_congr (fun a ha => ?_)
    by_cases c : a < i
    · rw [if_pos c, if_pos c]
    · rw [if_neg c, if_neg c]
      by_cases e : a = i
      · rw [if_pos e]; rfl
      · rw [if_neg e]

theorem tight_goes (h1 : 1 ≤ n) (hn : n ≤ 12) (hl : l.length ≤ 40) (ho : ∀ x ∈ l, Ok n x) (hd : ∀ v, v ≤ n → ∀ a, a < n → 0 ≤ iter (base l) v a a) (no : ∀ v, v ≤ n → NoOver n (iter (base l) v)) :
    Goes (fun k => chron_Tightest.f k n l) (spans n (iter (base l) n), 0) := by
  unfold chron_Tightest.f
  refine Goes.bind (check_goes h1 hn hl ho) ?_
  simp only [if_true]
  refine Goes.bind (most_goes hn hl ho hd no) ?_
  simp only [if_true]
  refine Goes.congr (fun k => ?_) (tl0_goes hn (no n (Nat.le_refl _)) n 0 (by omega))
  rw [if_pos (by omega), if_pos (by omega)]
  simp only [Option.bind_some]
  rw [Int.toNat_natCast, row_rep, row_len]
  congr 1

end Go.Proofs.Ytoecglgbmhhdnaa.JE
