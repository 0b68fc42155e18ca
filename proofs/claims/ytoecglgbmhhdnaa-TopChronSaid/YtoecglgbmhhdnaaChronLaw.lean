/- What package chron computes: the matrix of tightest bounds is the closure of the bounds; of days that satisfy all constraints, no contradiction. No condition on a program. -/
import Derived.Test.YtoecglgbmhhdnaaJEx2
import Derived.Test.YtoecglgbmhhdnaaGoesLaw
namespace Go.Proofs.Ytoecglgbmhhdnaa.JE
open Go.Proofs.Ytoecglgbmhhdnaa.Own Go.Proofs.Ytoecglgbmhhdnaa.Fw Go.RowKit Go.Proofs.YtoecglgbmhhdnaaW.PrintWords Go.Proofs.YtoecglgbmhhdnaaW.PrintLast

def mat (n : Nat) (f : Mx) : List (List Int) := row n (fun a => row n (f a))
theorem mat_len (n : Nat) (f : Mx) : (mat n f).length = n := row_len _ _
theorem mat_rd {n i : Nat} (f : Mx) (h : i < n) : rd_L2 (mat n f) (i : Int) = row n (f i) := rd_rows _ h
theorem mat_congr {n : Nat} {f g : Mx} (e : ∀ a b, a < n → b < n → f a b = g a b) : mat n f = mat n g :=
  row_congr (fun a ha => row_congr (fun b hb => e a b ha hb))
def upd (f : Mx) (a b : Nat) (v : Int) : Mx := fun x y => if x = a ∧ y = b then v else f x y
theorem mat_set {n a b : Nat} (f : Mx) (v : Int) (ha : a < n) (hb : b < n) : (mat n f).set a ((row n (f a)).set b v) = mat n (upd f a b v) := by
  unfold mat
  rw [row_set _ _ hb, row_set _ _ ha]
  refine row_congr (fun x _ => ?_)
  unfold upd
  by_cases e : x = a
  · subst e; simp
  · rw [if_neg e]; exact row_congr (fun y _ => by rw [if_neg (fun h => e h.1)])

def init : Mx := fun a b => if a = b then 0 else far

/-- a constraint between two of n events -/
structure OkC (n : Nat) (x : Bd) (a b : Nat) : Prop where
  ha : a < n
  hb : b < n
  ne : a ≠ b
  fa : x.f0 = a
  fb : x.f1 = b
  lo : -8000000 ≤ x.f2
  le : x.f2 ≤ x.f3
  hi : x.f3 ≤ 8000000
def Ok (n : Nat) (x : Bd) : Prop := ∃ a b, OkC n x a b

def addC (f : Mx) (x : Bd) : Mx :=
  let a := x.f0.toNat
  let b := x.f1.toNat
  let g := upd f a b (min (f a b) x.f3)
  upd g b a (min (g b a) (-x.f2))
def base (l : List Bd) : Mx := l.foldl addC init

theorem mn_min (a b : Int) : mn a b = min a b := by simp only [mn]; omega

variable {n : Nat} {l : List Bd} {r : List (List Int) × Bool}

theorem l1_goes {i : Nat} (hn : n ≤ 12) (hi : i < n)
    (H : Goes (fun k => chron_most.l0 k n l (row n (fun a => if a < i + 1 then row n (init a) else [])) n ((i + 1 : Nat) : Int)) r) :
    ∀ (d j : Nat), j + d = n → Goes (fun k => chron_most.l1 k n l (row n (fun a => if a < i then row n (init a) else if a = i then row n (fun b => if b < j then init i b else 0) else [])) i n i n (j : Int)) r
  | 0, j, hj => by
    refine Goes.step (g := fun k => chron_most.l0 k n l (row n (fun a => if a < i + 1 then row n (init a) else [])) n ((i + 1 : Nat) : Int)) (fun k => ?_) H
    simp only [chron_most.l1]
    rw [if_neg (by omega), wrap_in (n := (i : Int) + 1) (by omega) (by omega)]
    congr 1
    refine row_congr (fun a ha => ?_)
    by_cases c : a < i
    · rw [if_pos c, if_pos (by omega)]
    · by_cases e : a = i
      · subst e
        rw [if_neg (by omega), if_pos rfl, if_pos (by omega)]
        exact row_congr (fun b hb => by rw [if_pos (by omega)])
      · rw [if_neg c, if_neg e, if_neg (by omega)]
  | d + 1, j, hj => by
    refine Goes.step (fun k => ?_) (l1_goes hn hi H d (j + 1) (by omega))
    simp only [chron_most.l1]
    rw [if_pos (by omega), wrap_in (n := (j : Int) + 1) (by omega) (by omega), show (j : Int) + 1 = ((j + 1 : Nat) : Int) by omega]
    by_cases e : i = j
    · rw [if_pos (by omega)]
      congr 1
      refine row_congr (fun a ha => ?_)
      by_cases c : a < i
      · rw [if_pos c, if_pos c]
      · by_cases e2 : a = i
        · rw [if_neg c, if_pos e2, if_neg c, if_pos e2]
          refine row_congr (fun b hb => ?_)
          by_cases c3 : b < j
          · rw [if_pos c3, if_pos (by omega)]
          · rw [if_neg c3]
            by_cases c4 : b < j + 1
            · rw [if_pos c4]; unfold init; rw [if_pos (by omega)]
            · rw [if_neg c4]
        · rw [if_neg c, if_neg e2, if_neg c, if_neg e2]
    · rw [if_neg (by omega), if_pos (by omega), row_len, if_pos (by omega), if_pos (by omega), rd_rows _ hi, if_neg (show ¬ i < i by omega), if_pos (show i = i from rfl), row_len, if_pos (by omega), Int.toNat_natCast, Int.toNat_natCast, row_set (i := j) _ _ (by omega), row_set (i := i) _ _ hi]
      congr 1
      refine row_congr (fun a ha => ?_)
      by_cases e2 : a = i
      · rw [if_pos e2, if_neg (by omega), if_pos e2]
        refine row_congr (fun b hb => ?_)
        by_cases c3 : b = j
        · rw [if_pos c3, if_pos (by omega)]; unfold init; rw [if_neg (by omega)]
        · rw [if_neg c3]
          by_cases c4 : b < j
          · rw [if_pos c4, if_pos (by omega)]
          · rw [if_neg c4, if_neg (by omega)]
      · rw [if_neg e2]
        by_cases c : a < i
        · rw [if_pos c, if_pos c]
        · rw [if_neg c, if_neg e2, if_neg c, if_neg e2]

theorem l0_goes (hn : n ≤ 12) (H : Goes (fun k => chron_most.l2 k n (mat n init) l l.length 0) r) :
    ∀ (d i : Nat), i + d = n → Goes (fun k => chron_most.l0 k n l (row n (fun a => if a < i then row n (init a) else [])) n (i : Int)) r
  | 0, i, hi => by
    refine Goes.step (fun k => ?_) H
    simp only [chron_most.l0]
    rw [if_neg (by omega)]
    congr 1
    exact row_congr (fun a ha => by rw [if_pos (by omega)])
  | d + 1, i, hi => by
    refine Goes.step (fun k => ?_) (l1_goes (j := 0) hn (show i < n by omega) (l0_goes hn H d (i + 1) (by omega)) n (by omega))
    simp only [chron_most.l0]
    rw [if_pos (by omega), if_pos (by omega), if_pos (by omega), if_pos (by omega), row_len, if_pos (by omega)]
    simp only [Option.bind_some]
    rw [Int.toNat_natCast, Int.toNat_natCast, row_rep, row_set _ _ (by omega), rd_rows _ (show i < n by omega), if_pos rfl, row_len]
    congr 1
    refine row_congr (fun a ha => ?_)
    by_cases e2 : a = i
    · rw [if_pos e2, if_neg (by omega), if_pos e2]
      exact row_congr (fun b hb => by rw [if_neg (by omega)])
    · rw [if_neg e2]
      by_cases c : a < i
      · rw [if_pos c, if_pos c]
      · rw [if_neg c, if_neg c, if_neg e2]

theorem l2_goes (hn : n ≤ 12) (hl : l.length ≤ 40) : ∀ (rest : List Bd) (f : Mx) (i : Nat), l.drop i = rest → (∀ x ∈ rest, Ok n x) →
    Goes (fun k => chron_most.l3 k n (mat n (rest.foldl addC f)) n 0) r → Goes (fun k => chron_most.l2 k n (mat n f) l l.length (i : Int)) r
  | [], f, i, hd, _, H => by
    have := List.drop_eq_nil_iff.1 hd
    refine Goes.step (fun k => ?_) H
    simp only [chron_most.l2]
    rw [if_neg (by omega)]; rfl
  | x :: rest, f, i, hd, ho, H => by
    have hi : i < l.length := by
      rcases Nat.lt_or_ge i l.length with h | h
      · exact h
      · rw [List.drop_eq_nil_of_le h] at hd; cases hd
    have hx : rd_T37 l (i : Int) = x := by
      unfold rd_T37
      rw [Int.toNat_natCast, List.getD_eq_getElem?_getD]
      have : (l.drop i)[0]? = some x := by rw [hd]; rfl
      rw [List.getElem?_drop, Nat.add_zero] at this
      rw [this]; rfl
    have hd' : l.drop (i + 1) = rest := by rw [← List.drop_drop, hd]; rfl
    obtain ⟨a, b, o⟩ := ho x (by simp)
    refine Goes.step (fun k => ?_) (l2_goes hn hl rest (addC f x) (i + 1) hd' (fun y hy => ho y (by simp [hy])) H)
    have h1 := o.ha
    have h2 := o.hb
    have h3 := o.lo
    have h4 := o.hi
    have h5 := o.le
    simp only [chron_most.l2]
    rw [hx, o.fa, o.fb, if_pos (by omega), if_pos (by omega), if_pos (by omega), if_pos (by omega), mat_len, if_pos (by omega), if_pos (by omega), mat_rd f h1, row_len, if_pos (by omega), rd_row _ h2, Int.toNat_natCast, Int.toNat_natCast, mat_set _ _ h1 h2]
    simp only [Option.bind_some]
    rw [if_pos (by omega), mat_rd _ h2, row_len, if_pos (by omega), rd_row _ h1, mat_set _ _ h2 h1, mn_min, mn_min, wrap_in (n := -x.f2) (by omega) (by omega), wrap_in (n := (i : Int) + 1) (by omega) (by omega)]
    have e : addC f x = upd (upd f a b (min (f a b) x.f3)) b a (min ((upd f a b (min (f a b) x.f3)) b a) (-x.f2)) := by
      unfold addC; rw [o.fa, o.fb, Int.toNat_natCast, Int.toNat_natCast]
    rw [e]; rfl

/-- the matrix in the middle of a step -/
def mix (f : Mx) (v i j : Nat) : Mx := fun a b => if a < i ∨ a = i ∧ b < j then Fw.step f v a b else f a b

def NoOver (n : Nat) (f : Mx) : Prop := ∀ a b, a < n → b < n → -1000000000000 ≤ f a b ∧ f a b ≤ 1000000000

theorem l5_goes {f : Mx} {v i : Nat} (hn : n ≤ 12) (hv : v < n) (hi : i < n) (h0 : 0 ≤ f v v) (no : NoOver n f)
    (H : Goes (fun k => chron_most.l4 k n (mat n (mix f v (i + 1) 0)) v n v n ((i + 1 : Nat) : Int)) r) :
    ∀ (d j : Nat), j + d = n → Goes (fun k => chron_most.l5 k n (mat n (mix f v i j)) v i n v n i n (j : Int)) r
  | 0, j, hj => by
    refine Goes.step (fun k => ?_) H
    simp only [chron_most.l5]
    rw [if_neg (by omega), wrap_in (n := (i : Int) + 1) (by omega) (by omega)]
    congr 1
    refine mat_congr (fun a b ha hb => ?_)
    unfold mix
    by_cases c : a < i ∨ a = i ∧ b < j
    · rw [if_pos c, if_pos (by omega)]
    · rw [if_neg c, if_neg (by omega)]
  | d + 1, j, hj => by
    refine Goes.step (fun k => ?_) (l5_goes hn hv hi h0 no H d (j + 1) (by omega))
    have e1 : mix f v i j i v = f i v := by unfold mix; split; exact step_col h0 i; rfl
    have e2 : mix f v i j v j = f v j := by unfold mix; split; exact step_row h0 j; rfl
    have e3 : mix f v i j i j = f i j := by unfold mix; rw [if_neg (by omega)]
    have hj' : j < n := by omega
    have b1 := no i v hi hv
    have b2 := no v j hv hj'
    simp only [chron_most.l5]
    rw [if_pos (by omega), if_pos (by omega), mat_len, if_pos (by omega), if_pos (by omega), mat_rd _ hi, row_len, if_pos (by omega), rd_row _ hv, e1, wrap_in (n := (j : Int) + 1) (by omega) (by omega)]
    have key : ∀ (g : Mx), (∀ b, b < n → ∀ a, a < n → g a b = mix f v i (j + 1) a b) → mat n g = mat n (mix f v i (j + 1)) := fun g h => mat_congr (fun a b ha hb => h b hb a ha)
    have step_at : ∀ a b, ¬ (a = i ∧ b = j) → mix f v i j a b = mix f v i (j + 1) a b := by
      intro a b h
      unfold mix
      by_cases c : a < i ∨ a = i ∧ b < j
      · rw [if_pos c, if_pos (by omega)]
      · rw [if_neg c, if_neg (by omega)]
    have at_ij : mix f v i (j + 1) i j = relax f v i j := by unfold mix; rw [if_pos (by omega)]; rfl
    by_cases c1 : f i v < 1000000000
    · rw [if_pos c1, if_pos (by omega), mat_rd _ hv, row_len, if_pos (by omega), if_pos (by omega), rd_row _ hj', e2]
      by_cases c2 : f v j < 1000000000
      · rw [if_pos c2, if_pos (by omega), rd_row _ hj', e3, Int.toNat_natCast, Int.toNat_natCast, mat_set _ _ hi hj', wrap_in (n := f i v + f v j) (by omega) (by omega), mn_min]
        congr 1
        refine mat_congr (fun a b ha hb => ?_)
        unfold upd
        by_cases c : a = i ∧ b = j
        · rw [if_pos c, c.1, c.2, at_ij]; unfold relax; rw [if_pos ⟨c1, c2⟩]
        · rw [if_neg c]; exact step_at a b c
      · rw [if_neg c2]
        congr 1
        refine mat_congr (fun a b ha hb => ?_)
        by_cases c : a = i ∧ b = j
        · rw [c.1, c.2, at_ij, e3]; unfold relax; rw [if_neg (fun h => c2 h.2)]
        · exact step_at a b c
    · rw [if_neg c1]
      congr 1
      refine mat_congr (fun a b ha hb => ?_)
      by_cases c : a = i ∧ b = j
      · rw [c.1, c.2, at_ij, e3]; unfold relax; rw [if_neg (fun h => c1 h.1)]
      · exact step_at a b c

theorem l4_goes {f : Mx} {v : Nat} (hn : n ≤ 12) (hv : v < n) (h0 : 0 ≤ f v v) (no : NoOver n f)
    (H : Goes (fun k => chron_most.l6 k n (mat n (Fw.step f v)) n v n 0) r) :
    ∀ (d i : Nat), i + d = n → Goes (fun k => chron_most.l4 k n (mat n (mix f v i 0)) v n v n (i : Int)) r
  | 0, i, hi => by
    refine Goes.step (fun k => ?_) H
    simp only [chron_most.l4]
    rw [if_neg (by omega)]
    congr 1
    refine mat_congr (fun a b ha hb => ?_)
    unfold mix
    rw [if_pos (by omega)]
  | d + 1, i, hi => by
    refine Goes.step (fun k => ?_) (l5_goes hn hv (show i < n by omega) h0 no (l4_goes hn hv h0 no H d (i + 1) (by omega)) n 0 (by omega))
    simp only [chron_most.l4]
    rw [if_pos (by omega)]
    rfl

theorem l6_goes {f : Mx} {v : Nat} (hn : n ≤ 12) (hv : v < n) (hd : ∀ a, a < n → 0 ≤ f a a)
    (H : Goes (fun k => chron_most.l3 k n (mat n f) n ((v + 1 : Nat) : Int)) r) :
    ∀ (d i : Nat), i + d = n → Goes (fun k => chron_most.l6 k n (mat n f) n v n (i : Int)) r
  | 0, i, hi => by
    refine Goes.step (fun k => ?_) H
    simp only [chron_most.l6]
    rw [if_neg (by omega), wrap_in (n := (v : Int) + 1) (by omega) (by omega)]
    rfl
  | d + 1, i, hi => by
    refine Goes.step (fun k => ?_) (l6_goes hn hv hd H d (i + 1) (by omega))
    have := hd i (by omega)
    simp only [chron_most.l6]
    rw [if_pos (by omega), if_pos (by omega), mat_len, if_pos (by omega), mat_rd _ (show i < n by omega), row_len, if_pos (by omega), rd_row _ (show i < n by omega), if_neg (by omega), wrap_in (n := (i : Int) + 1) (by omega) (by omega)]
    rfl

/-- where all steps leave the diagonal from 0 on -/
theorem l3_goes {f : Mx} (hn : n ≤ 12) (hd : ∀ v, v ≤ n → ∀ a, a < n → 0 ≤ iter f v a a) (no : ∀ v, v ≤ n → NoOver n (iter f v)) :
    ∀ (d v : Nat), v + d = n → Goes (fun k => chron_most.l3 k n (mat n (iter f v)) n (v : Int)) (mat n (iter f n), true)
  | 0, v, hv => by
    obtain rfl : v = n := by omega
    refine ⟨1, fun k hk => ?_⟩
    obtain ⟨m, rfl⟩ : ∃ m, k = m + 1 := ⟨k - 1, by omega⟩
    simp only [chron_most.l3]
    rw [if_neg (by omega)]
  | d + 1, v, hv => by
    refine Goes.step (fun k => ?_) (l4_goes hn (show v < n by omega) (hd v (by omega) v (by omega)) (no v (by omega)) (l6_goes hn (show v < n by omega) (fun a ha => hd (v + 1) (by omega) a ha) (l3_goes hn hd no d (v + 1) (by omega)) n 0 (by omega)) n 0 (by omega))
    simp only [chron_most.l3]
    rw [if_pos (by omega)]
    congr 1
    exact mat_congr (fun a b _ _ => by unfold mix; rw [if_neg (by omega)])

theorem most_goes (hn : n ≤ 12) (hl : l.length ≤ 40) (ho : ∀ x ∈ l, Ok n x) (hd : ∀ v, v ≤ n → ∀ a, a < n → 0 ≤ iter (base l) v a a) (no : ∀ v, v ≤ n → NoOver n (iter (base l) v)) :
    Goes (fun k => chron_most.f k n l) (mat n (iter (base l) n), true) := by
  have h := l0_goes hn (l2_goes hn hl l init 0 rfl ho (l3_goes hn hd no n 0 (by omega))) n 0 (by omega)
  refine Goes.congr (fun k => ?_) h
  unfold chron_most.f
  rw [if_pos (by omega), if_pos (by omega)]
  simp only [Option.bind_some]
  rw [Int.toNat_natCast, row_rep, row_len]
  congr 1

end Go.Proofs.Ytoecglgbmhhdnaa.JE
