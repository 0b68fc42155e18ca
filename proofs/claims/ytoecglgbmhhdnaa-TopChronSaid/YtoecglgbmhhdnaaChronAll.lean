/- chron.Tightest of any permitted constraints: whether they contradict each other, and that fewer of them do so less. No condition on a program. -/
import Derived.Test.YtoecglgbmhhdnaaChronLaw3
namespace Go.Proofs.Ytoecglgbmhhdnaa.JE
open Go.Proofs.Ytoecglgbmhhdnaa.Own Go.Proofs.Ytoecglgbmhhdnaa.Fw Go.RowKit Go.Proofs.YtoecglgbmhhdnaaW.PrintWords Go.Proofs.YtoecglgbmhhdnaaW.PrintLast
set_option maxRecDepth 100000

/-- no step leaves a number below 0 on the diagonal -/
def Free (n : Nat) (f : Mx) : Prop := ∀ v, v ≤ n → ∀ a, a < n → 0 ≤ iter f v a a

theorem step_mono {f g : Mx} (h : ∀ a b, f a b ≤ g a b) (v a b : Nat) : Fw.step f v a b ≤ Fw.step g v a b := by
  have h0 := h a b
  have h1 := h a v
  have h2 := h v b
  unfold Fw.step relax
  by_cases c : g a v < far ∧ g v b < far
  · rw [if_pos c, if_pos ⟨by omega, by omega⟩]; omega
  · rw [if_neg c]
    split <;> omega
theorem iter_mono {f g : Mx} (h : ∀ a b, f a b ≤ g a b) : ∀ v a b, iter f v a b ≤ iter g v a b
  | 0, a, b => h a b
  | v + 1, a, b => step_mono (fun a b => iter_mono h v a b) v a b
theorem Free.mono {n : Nat} {f g : Mx} (h : ∀ a b, f a b ≤ g a b) (hf : Free n f) : Free n g := fun v hv a ha => Int.le_trans (hf v hv a ha) (iter_mono h v a a)

variable {n : Nat}
theorem addC_ge {f g : Mx} {x : Bd} (o : Ok n x) (h : ∀ a b, g a b ≤ f a b) (hx : ∀ a b, OkC n x a b → g a b ≤ x.f3 ∧ g b a ≤ -x.f2) (p q : Nat) : g p q ≤ addC f x p q := by
  obtain ⟨a, b, o⟩ := o
  have h0 := h p q
  obtain ⟨h1, h2⟩ := hx a b o
  rw [addC_eq o]
  split
  · rename_i e; rw [e.1, e.2] at h0 ⊢; omega
  · split
    · rename_i e; rw [e.1, e.2] at h0 ⊢; omega
    · exact h0
theorem fold_ge {g : Mx} : ∀ {l : List Bd} {f : Mx}, (∀ x ∈ l, Ok n x) → (∀ a b, g a b ≤ f a b) → (∀ x ∈ l, ∀ a b, OkC n x a b → g a b ≤ x.f3 ∧ g b a ≤ -x.f2) → ∀ p q, g p q ≤ l.foldl addC f p q
  | [], _, _, h, _, p, q => h p q
  | x :: l, f, ho, h, hx, p, q => fold_ge (l := l) (f := addC f x) (fun y hy => ho y (by simp [hy])) (addC_ge (ho x (by simp)) h (hx x (by simp))) (fun y hy => hx y (by simp [hy])) p q
/-- fewer constraints, greater bounds -/
theorem base_sub {l m : List Bd} (ho : ∀ x ∈ l, Ok n x) (hs : ∀ x ∈ m, x ∈ l) (a b : Nat) : base l a b ≤ base m a b :=
  fold_ge (fun x hx => ho x (hs x hx)) (fun p q => fold_le ho p q) (fun _ hx _ _ o => fold_mem ho (hs _ hx) o) a b

theorem fold_all {l : List Bd} : ∀ {f : Mx}, (∀ x ∈ l, Ok n x) → (∀ a b, -8000000 ≤ f a b ∧ (f a b < far → f a b ≤ 8000000)) → ∀ p q, -8000000 ≤ l.foldl addC f p q ∧ (l.foldl addC f p q < far → l.foldl addC f p q ≤ 8000000) := by
  induction l with
  | nil => intro f _ h p q; exact h p q
  | cons x l ih =>
    intro f ho h p q
    refine ih (f := addC f x) (fun y hy => ho y (by simp [hy])) (fun p q => ?_) p q
    obtain ⟨a, b, o⟩ := ho x (by simp)
    have h0 := h p q
    have l1 := o.lo
    have l2 := o.le
    have l3 := o.hi
    rw [addC_eq o]
    have hf : far = 1000000000 := rfl
    split
    · rename_i e; rw [e.1, e.2] at h0; omega
    · split
      · rename_i e; rw [e.1, e.2] at h0; omega
      · exact h0
theorem base_small {l : List Bd} (ho : ∀ x ∈ l, Ok n x) : Small n (base l) 8000000 := fun a b _ _ => fold_all ho (fun a b => by
  have hf : far = 1000000000 := rfl
  unfold init
  split <;> omega) a b
theorem no_over {l : List Bd} (hn : n ≤ 12) (ho : ∀ x ∈ l, Ok n x) (v : Nat) (hv : v ≤ n) : NoOver n (iter (base l) v) := by
  intro a b ha hb
  have s := (small_iter (by omega) (base_small ho) v hv a b ha hb).1
  have p : (8000000 : Int) * 2 ^ v ≤ 8000000 * 2 ^ 12 := pow_le_pow (by omega) (by omega)
  have q : (8000000 : Int) * 2 ^ 12 = 32768000000 := by decide
  have u := iter_le (base l) a b v
  have w : base l a b ≤ far := Int.le_trans (fold_le ho a b) (by
    have hf : far = 1000000000 := rfl
    unfold init
    split <;> omega)
  have hf : far = 1000000000 := rfl
  omega

theorem tight_free {l : List Bd} (h1 : 1 ≤ n) (hn : n ≤ 12) (hl : l.length ≤ 40) (ho : ∀ x ∈ l, Ok n x) (hf : Free n (base l)) : ∃ t, Goes (fun k => chron_Tightest.f k n l) (t, 0) :=
  ⟨_, tight_goes h1 hn hl ho hf (no_over hn ho)⟩

theorem l6_neg {f : Mx} {v a : Nat} (hn : n ≤ 12) (ha : a < n) (hf : f a a < 0) : ∀ (d i : Nat), i + d = a → Goes (fun k => chron_most.l6 k n (mat n f) n v n (i : Int)) ([], false)
  | 0, i, hi => by
    obtain rfl : i = a := by omega
    refine ⟨1, fun k hk => ?_⟩
    obtain ⟨m, rfl⟩ : ∃ m, k = m + 1 := ⟨k - 1, by omega⟩
    simp only [chron_most.l6]
    rw [if_pos (by omega), if_pos (by omega), mat_len, if_pos (by omega), mat_rd _ ha, row_len, if_pos (by omega), rd_row _ ha, if_pos hf]
  | d + 1, i, hi => by
    by_cases c : f i i < 0
    · refine ⟨1, fun k hk => ?_⟩
      obtain ⟨m, rfl⟩ : ∃ m, k = m + 1 := ⟨k - 1, by omega⟩
      simp only [chron_most.l6]
      rw [if_pos (by omega), if_pos (by omega), mat_len, if_pos (by omega), mat_rd _ (show i < n by omega), row_len, if_pos (by omega), rd_row _ (show i < n by omega), if_pos c]
    · refine Goes.step (fun k => ?_) (l6_neg (v := v) hn ha hf d (i + 1) (by omega))
      simp only [chron_most.l6]
      rw [if_pos (by omega), if_pos (by omega), mat_len, if_pos (by omega), mat_rd _ (show i < n by omega), row_len, if_pos (by omega), rd_row _ (show i < n by omega), if_neg c, wrap_in (n := (i : Int) + 1) (by omega) (by omega)]
      rfl
/-- where a step leaves a number below 0 on the diagonal -/
theorem l3_neg {f : Mx} (hn : n ≤ 12) (no : ∀ v, v ≤ n → NoOver n (iter f v)) {w a : Nat} (hw : w < n) (ha : a < n) (hneg : iter f (w + 1) a a < 0) (hd : ∀ v, v ≤ w → ∀ a, a < n → 0 ≤ iter f v a a) :
    ∀ (d v : Nat), v + d = w → Goes (fun k => chron_most.l3 k n (mat n (iter f v)) n (v : Int)) ([], false)
  | 0, v, hv => by
    obtain rfl : v = w := by omega
    refine Goes.step (fun k => ?_) (l4_goes hn hw (hd v (by omega) v hw) (no v (by omega)) (l6_neg hn ha hneg a 0 (by omega)) n 0 (by omega))
    simp only [chron_most.l3]
    rw [if_pos (by omega)]
    congr 1
    exact mat_congr (fun a b _ _ => by unfold mix; rw [if_neg (by omega)])
  | d + 1, v, hv => by
    refine Goes.step (fun k => ?_) (l4_goes hn (show v < n by omega) (hd v (by omega) v (by omega)) (no v (by omega)) (l6_goes hn (show v < n by omega) (fun a ha => hd (v + 1) (by omega) a ha) (l3_neg hn no hw ha hneg hd d (v + 1) (by omega)) n 0 (by omega)) n 0 (by omega))
    simp only [chron_most.l3]
    rw [if_pos (by omega)]
    congr 1
    exact mat_congr (fun a b _ _ => by unfold mix; rw [if_neg (by omega)])

theorem first_neg {f : Mx} : ∀ (v : Nat), (∃ a, a < n ∧ iter f v a a < 0) → (∀ a, a < n → 0 ≤ f a a) → ∃ w a, w < v ∧ a < n ∧ iter f (w + 1) a a < 0 ∧ ∀ u, u ≤ w → ∀ a, a < n → 0 ≤ iter f u a a
  | 0, ⟨a, ha, h⟩, h0 => by have := h0 a ha; simp only [iter] at h; omega
  | v + 1, ⟨a, ha, h⟩, h0 => by
    by_cases c : ∃ u, u ≤ v ∧ ∃ a, a < n ∧ iter f u a a < 0
    · obtain ⟨u, hu, hx⟩ := c
      obtain ⟨w, a, h1, h2⟩ := first_neg u hx h0
      exact ⟨w, a, by omega, h2⟩
    · refine ⟨v, a, by omega, ha, h, fun u hu b hb => ?_⟩
      rcases Int.lt_or_le (iter f u b b) 0 with g | g
      · exact absurd ⟨u, hu, b, hb, g⟩ c
      · exact g
termination_by v => v

theorem tight_bad {l : List Bd} (h1 : 1 ≤ n) (hn : n ≤ 12) (hl : l.length ≤ 40) (ho : ∀ x ∈ l, Ok n x) (hf : ¬ Free n (base l)) : Goes (fun k => chron_Tightest.f k n l) ([], 10) := by
  have hx : ∃ v, v ≤ n ∧ ∃ a, a < n ∧ iter (base l) v a a < 0 := by
    apply Classical.byContradiction
    intro h
    apply hf
    intro v hv a ha
    rcases Int.lt_or_le (iter (base l) v a a) 0 with g | g
    · exact absurd ⟨v, hv, a, ha, g⟩ h
    · exact g
  obtain ⟨v, hv, hx⟩ := hx
  obtain ⟨w, a, q1, q2, q3, q4⟩ := first_neg v hx (fun a _ => by unfold base; rw [fold_diag ho]; unfold init; rw [if_pos rfl]; exact Int.le_refl _)
  have h := l0_goes hn (l2_goes hn hl l init 0 rfl ho (l3_neg hn (no_over hn ho) (show w < n by omega) q2 q3 q4 w 0 (by omega))) n 0 (by omega)
  have hm : Goes (fun k => chron_most.f k n l) ([], false) := by
    refine Goes.congr (fun k => ?_) h
    unfold chron_most.f
    rw [if_pos (by omega), if_pos (by omega)]
    simp only [Option.bind_some]
    rw [Int.toNat_natCast, row_rep, row_len]
    congr 1
  unfold chron_Tightest.f
  refine Goes.bind (check_goes h1 hn hl ho) ?_
  simp only [if_true]
  exact Goes.bind hm (Goes.of (fun k => rfl))

/-- constraints are permitted, or chron.Check says why not -/
theorem check_rest (hn : n ≤ 12) {l : List Bd} (hl : l.length ≤ 40) : ∀ (rest : List Bd) (i : Nat), l.drop i = rest → (∀ x ∈ rest, Ok n x) ∨ ∃ e, Goes (fun k => chron_Check.l0 k n l l.length (i : Int)) e ∧ (e = 1 ∨ e = 3 ∨ e = 9)
  | [], i, hd => .inl (fun x hx => by cases hx)
  | x :: rest, i, hd => by
    obtain ⟨hi, hx, hd'⟩ := drop_rd hd
    have J : ∀ {b : Bool} {e : Int}, Goes (fun k => chron_Check.j2 k n l l.length (i : Int) b x.f0 x.f1 x.f2 x.f3) e → b = (decide (x.f0 < 0 ∨ x.f0 ≥ n ∨ x.f1 < 0 ∨ x.f1 ≥ n ∨ x.f2 < -8000000 ∨ x.f3 > 8000000)) → Goes (fun k => chron_Check.l0 k n l l.length (i : Int)) e := by
      intro b e g hb
      refine Goes.step (fun k => ?_) g
      simp only [chron_Check.l0]
      rw [hx, if_pos (by omega), if_pos (by omega), if_pos (by omega), hb]
      by_cases c1 : x.f0 < 0
      · rw [if_pos c1, decide_eq_true (.inl c1)]
      rw [if_neg c1]
      by_cases c2 : x.f0 ≥ n
      · rw [if_pos c2, decide_eq_true (.inr (.inl c2))]
      rw [if_neg c2]
      by_cases c3 : x.f1 < 0
      · rw [if_pos c3, decide_eq_true (.inr (.inr (.inl c3)))]
      rw [if_neg c3]
      by_cases c4 : x.f1 ≥ n
      · rw [if_pos c4, decide_eq_true (.inr (.inr (.inr (.inl c4))))]
      rw [if_neg c4]
      by_cases c5 : x.f2 < -8000000
      · rw [if_pos c5, decide_eq_true (.inr (.inr (.inr (.inr (.inl c5)))))]
      rw [if_neg c5]
      congr 1
      exact decide_eq_decide.2 ⟨fun h => .inr (.inr (.inr (.inr (.inr h)))), fun h => by omega⟩
    by_cases c : x.f0 < 0 ∨ x.f0 ≥ n ∨ x.f1 < 0 ∨ x.f1 ≥ n ∨ x.f2 < -8000000 ∨ x.f3 > 8000000
    · refine .inr ⟨3, J (b := true) ⟨1, fun k hk => ?_⟩ (decide_eq_true c).symm, .inr (.inl rfl)⟩
      obtain ⟨m, rfl⟩ : ∃ m, k = m + 1 := ⟨k - 1, by omega⟩
      simp only [chron_Check.j2, if_true]
    by_cases c1 : x.f0 = x.f1
    · refine .inr ⟨1, J (b := false) ⟨1, fun k hk => ?_⟩ (decide_eq_false c).symm, .inl rfl⟩
      obtain ⟨m, rfl⟩ : ∃ m, k = m + 1 := ⟨k - 1, by omega⟩
      simp only [chron_Check.j2, Bool.false_eq_true, if_false]
      rw [if_pos c1]
    by_cases c2 : x.f2 > x.f3
    · refine .inr ⟨9, J (b := false) ⟨1, fun k hk => ?_⟩ (decide_eq_false c).symm, .inr (.inr rfl)⟩
      obtain ⟨m, rfl⟩ : ∃ m, k = m + 1 := ⟨k - 1, by omega⟩
      simp only [chron_Check.j2, Bool.false_eq_true, if_false]
      rw [if_neg c1, if_pos c2]
    have okx : Ok n x := ⟨x.f0.toNat, x.f1.toNat, ⟨by omega, by omega, by omega, by omega, by omega, by omega, by omega, by omega⟩⟩
    rcases check_rest hn hl rest (i + 1) hd' with h | ⟨e, g, he⟩
    · refine .inl (fun y hy => ?_)
      rcases List.mem_cons.1 hy with rfl | hy
      · exact okx
      · exact h y hy
    · refine .inr ⟨e, J (b := false) (Goes.step (fun k => ?_) g) (decide_eq_false c).symm, he⟩
      simp only [chron_Check.j2, Bool.false_eq_true, if_false]
      rw [if_neg c1, if_neg c2, wrap_in (n := (i : Int) + 1) (by omega) (by omega)]
      rfl
theorem check_any (a0 : Int) (l : List Bd) : (∃ e, Goes (fun k => chron_Check.f k a0 l) e ∧ e ≠ 0 ∧ e ≠ 10) ∨ ∃ n : Nat, a0 = n ∧ 1 ≤ n ∧ n ≤ 12 ∧ l.length ≤ 40 ∧ ∀ x ∈ l, Ok n x := by
  by_cases c : a0 > 12 ∨ (l.length : Int) > 40
  · refine .inl ⟨2, ⟨1, fun k hk => ?_⟩, by omega, by omega⟩
    obtain ⟨m, rfl⟩ : ∃ m, k = m + 1 := ⟨k - 1, by omega⟩
    show chron_Check.f (m + 1) a0 l = some 2
    unfold chron_Check.f
    by_cases c1 : a0 > 12
    · rw [if_pos c1]; simp only [chron_Check.j0, if_true]
    · rw [if_neg c1, decide_eq_true (c.resolve_left c1)]; simp only [chron_Check.j0, if_true]
  by_cases c2 : a0 < 1
  · refine .inl ⟨8, ⟨1, fun k hk => ?_⟩, by omega, by omega⟩
    obtain ⟨m, rfl⟩ : ∃ m, k = m + 1 := ⟨k - 1, by omega⟩
    show chron_Check.f (m + 1) a0 l = some 8
    unfold chron_Check.f
    rw [if_neg (by omega), decide_eq_false (by omega)]
    simp only [chron_Check.j0, Bool.false_eq_true, if_false]
    rw [if_pos c2]
  obtain ⟨n, rfl⟩ : ∃ n : Nat, a0 = n := ⟨a0.toNat, by omega⟩
  rcases check_rest (n := n) (by omega) (l := l) (by omega) l 0 rfl with h | ⟨e, g, he⟩
  · exact .inr ⟨n, rfl, by omega, by omega, by omega, h⟩
  · refine .inl ⟨e, Goes.congr (g := fun k => chron_Check.j0 k n l false) (fun k => ?_) (Goes.step (fun k => ?_) g), by omega, by omega⟩
    · unfold chron_Check.f
      rw [if_neg (by omega), decide_eq_false (by omega)]
    · simp only [chron_Check.j0, Bool.false_eq_true, if_false]
      rw [if_neg (by omega)]
      rfl
end Go.Proofs.Ytoecglgbmhhdnaa.JE
