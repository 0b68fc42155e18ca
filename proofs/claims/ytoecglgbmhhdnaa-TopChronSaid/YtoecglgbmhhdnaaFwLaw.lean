/- The tightest differences of events: matrices of upper bounds, relaxed over each event in turn (plain law, no program). -/
namespace Go.Proofs.Ytoecglgbmhhdnaa.Fw

abbrev Mx := Nat → Nat → Int

/-- ChronFar: no bound -/
abbrev far : Int := 1000000000

def relax (f : Mx) (v a b : Nat) : Int := if f a v < far ∧ f v b < far then min (f a b) (f a v + f v b) else f a b

def step (f : Mx) (v : Nat) : Mx := fun a b => relax f v a b

/-- the first v steps -/
def iter (f : Mx) : Nat → Mx
  | 0 => f
  | v + 1 => step (iter f v) v

/-- a matrix that is closed under the way over another event -/
def Tri (n : Nat) (f : Mx) (w : Nat) : Prop := ∀ a b, a < n → b < n → f a w < far → f w b < far → f a b < far ∧ f a b ≤ f a w + f w b

def Diag (n : Nat) (f : Mx) : Prop := ∀ a, a < n → 0 ≤ f a a

theorem relax_le (f : Mx) (v a b : Nat) : relax f v a b ≤ f a b := by unfold relax; split <;> omega

theorem relax_le_sum {f : Mx} {v a b : Nat} (h1 : f a v < far) (h2 : f v b < far) : relax f v a b ≤ f a v + f v b := by
  unfold relax; rw [if_pos ⟨h1, h2⟩]; omega

/-- what a relaxed bound comes of -/
theorem relax_cases (f : Mx) (v a b : Nat) : relax f v a b = f a b ∨ (f a v < far ∧ f v b < far ∧ relax f v a b = f a v + f v b) := by
  unfold relax
  by_cases h : f a v < far ∧ f v b < far
  · rw [if_pos h]; rcases Int.le_total (f a b) (f a v + f v b) with g | g
    · exact .inl (by omega)
    · exact .inr ⟨h.1, h.2, by omega⟩
  · rw [if_neg h]; exact .inl rfl

theorem step_col {f : Mx} {v : Nat} (h : 0 ≤ f v v) (a : Nat) : step f v a v = f a v := by
  unfold step relax; split <;> omega

theorem step_row {f : Mx} {v : Nat} (h : 0 ≤ f v v) (b : Nat) : step f v v b = f v b := by
  unfold step relax; split <;> omega

theorem tri_self {n : Nat} {f : Mx} {v : Nat} (h : 0 ≤ f v v) (hs : ∀ a b, a < n → b < n → f a v < far → f v b < far → f a v + f v b < far) : Tri n (step f v) v := by
  intro a b ha hb h1 h2
  rw [step_col h] at h1 ⊢
  rw [step_row h] at h2 ⊢
  have g := relax_le_sum h1 h2
  exact ⟨Int.lt_of_le_of_lt g (hs a b ha hb h1 h2), g⟩

theorem tri_keep {n : Nat} {f : Mx} {v w : Nat} (hv : v < n) (h : 0 ≤ f v v) (hs : ∀ a b, a < n → b < n → f a v < far → f v b < far → f a v + f v b < far) (hw : Tri n f w) : Tri n (step f v) w := by
  intro a b ha hb h1 h2
  have l := relax_le f v a b
  unfold step at h1 h2 ⊢
  rcases relax_cases f v a w with e1 | ⟨p1, p2, e1⟩ <;> rcases relax_cases f v w b with e2 | ⟨q1, q2, e2⟩
  · rw [e1] at h1 ⊢; rw [e2] at h2 ⊢
    have := hw a b ha hb h1 h2; omega
  · rw [e1] at h1 ⊢; rw [e2]
    obtain ⟨t1, t2⟩ := hw a v ha hv h1 q1
    have g := relax_le_sum t1 q2
    have := hs a b ha hb t1 q2
    omega
  · rw [e1]; rw [e2] at h2 ⊢
    obtain ⟨t1, t2⟩ := hw v b hv hb p2 h2
    have g := relax_le_sum p1 t1
    have := hs a b ha hb p1 t1
    omega
  · rw [e1, e2]
    have g := relax_le_sum p1 q2
    have := hs a b ha hb p1 q2
    obtain ⟨t1, t2⟩ := hw v v hv hv p2 q1
    omega

/-- finite bounds are small: v steps at most double them -/
def Small (n : Nat) (f : Mx) (B : Int) : Prop := ∀ a b, a < n → b < n → -B ≤ f a b ∧ (f a b < far → f a b ≤ B)

theorem small_step {n : Nat} {f : Mx} {B : Int} {v : Nat} (hB : 0 ≤ B) (h : Small n f B) (hv : v < n) : Small n (step f v) (2 * B) := by
  intro a b ha hb
  have h1 := h a b ha hb
  have h2 := h a v ha hv
  have h3 := h v b hv hb
  unfold step
  rcases relax_cases f v a b with e | ⟨p1, p2, e⟩ <;> rw [e]
  · exact ⟨by omega, fun g => by have := h1.2 g; omega⟩
  · have := h2.2 p1; have := h3.2 p2
    exact ⟨by omega, fun _ => by omega⟩

theorem small_iter {n : Nat} {f : Mx} {B : Int} (hB : 0 ≤ B) (h : Small n f B) : ∀ v, v ≤ n → Small n (iter f v) (B * 2 ^ v)
  | 0, _ => by simpa [iter] using h
  | v + 1, hv => by
    have e : B * 2 ^ (v + 1) = 2 * (B * 2 ^ v) := by rw [Int.pow_succ, ← Int.mul_assoc]; omega
    rw [e]
    exact small_step (Int.mul_nonneg hB (Int.pow_nonneg (by omega))) (small_iter hB h v (by omega)) (by omega)

theorem small_mono {n : Nat} {f : Mx} {B C : Int} (h : Small n f B) (hBC : B ≤ C) : Small n f C := fun a b ha hb => by
  have := h a b ha hb
  exact ⟨by omega, fun g => by have := this.2 g; omega⟩

theorem pow_le_pow {B : Int} (hB : 0 ≤ B) {v n : Nat} (h : v ≤ n) : B * 2 ^ v ≤ B * 2 ^ n := by
  obtain ⟨m, rfl⟩ := Nat.le.dest h
  rw [Int.pow_add, ← Int.mul_assoc]
  have p : 0 ≤ B * 2 ^ v := Int.mul_nonneg hB (Int.pow_nonneg (by omega))
  have q : (1 : Int) ≤ 2 ^ m := by
    have : (0 : Int) < 2 ^ m := Int.pow_pos (by omega)
    omega
  have := Int.mul_le_mul_of_nonneg_left q p
  omega

theorem iter_le (f : Mx) (a b : Nat) : ∀ v, iter f v a b ≤ f a b
  | 0 => Int.le_refl _
  | v + 1 => Int.le_trans (relax_le _ _ _ _) (iter_le f a b v)

theorem iter_tri {n : Nat} {f : Mx} {B : Int} (hB : 0 ≤ B) (hs : Small n f B) (hn : B * 2 ^ n ≤ 400000000) : ∀ v, v ≤ n → (∀ u, u < v → 0 ≤ iter f u u u) → ∀ w, w < v → Tri n (iter f v) w
  | 0, _, _, w, hw => by omega
  | v + 1, hv, hd, w, hw => by
    have sm := small_iter hB hs v (by omega)
    have p := pow_le_pow hB (show v ≤ n by omega)
    have fin : ∀ a b, a < n → b < n → iter f v a v < far → iter f v v b < far → iter f v a v + iter f v v b < far := by
      intro a b ha hb h1 h2
      have g1 := (sm a v ha (by omega)).2 h1
      have g2 := (sm v b (by omega) hb).2 h2
      show _ < (1000000000 : Int)
      omega
    by_cases e : w = v
    · subst e; exact tri_self (hd w (by omega)) fin
    · exact tri_keep (by omega) (hd v (by omega)) fin (iter_tri hB hs hn v (by omega) (fun u hu => hd u (by omega)) w (by omega))

/-- bounds that no relaxing goes below -/
structure Low (n : Nat) (X f : Mx) : Prop where
  le : ∀ a b, a < n → b < n → X a b ≤ f a b
  tri : ∀ w, w < n → ∀ a b, a < n → b < n → X a w < far → X w b < far → X a b ≤ X a w + X w b

theorem low_step {n : Nat} {X f : Mx} {v : Nat} (h : Low n X f) (hv : v < n) : Low n X (step f v) where
  tri := h.tri
  le := by
    intro a b ha hb
    unfold step
    have l0 := h.le a b ha hb
    rcases relax_cases f v a b with e | ⟨p1, p2, e⟩
    · rw [e]; exact l0
    · rw [e]
      have l1 := h.le a v ha hv
      have l2 := h.le v b hv hb
      have := h.tri v hv a b ha hb (by omega) (by omega)
      omega

theorem low_iter {n : Nat} {X f : Mx} (h : Low n X f) : ∀ v, v ≤ n → Low n X (iter f v)
  | 0, _ => h
  | v + 1, hv => low_step (low_iter h v (by omega)) (by omega)

/-- days as bounds -/
theorem low_days {n : Nat} {f : Mx} {D : Nat → Int} (h : ∀ a b, a < n → b < n → D b - D a ≤ f a b) : Low n (fun a b => D b - D a) f :=
  ⟨h, fun w _ a b _ _ _ _ => by omega⟩

/-- days that keep within a closed matrix: the least bound of each event -/
def least (f : Mx) (k : Nat) : Nat → Int
  | 0 => far
  | n + 1 => min (f n k) (least f k n)

theorem least_le {f : Mx} {k : Nat} : ∀ {n i : Nat}, i < n → least f k n ≤ f i k
  | n + 1, i, h => by
    simp only [least]
    by_cases e : i = n
    · subst e; omega
    · have := least_le (f := f) (k := k) (n := n) (i := i) (by omega); omega

theorem least_is {f : Mx} {k : Nat} : ∀ {n : Nat}, least f k n < far → ∃ i, i < n ∧ least f k n = f i k
  | 0, h => by simp [least] at h
  | n + 1, h => by
    simp only [least] at h ⊢
    rcases Int.le_total (f n k) (least f k n) with g | g
    · exact ⟨n, by omega, by omega⟩
    · obtain ⟨i, hi, e⟩ := least_is (f := f) (k := k) (n := n) (by omega)
      exact ⟨i, by omega, by omega⟩

/-- a closed matrix with a zero diagonal has days that keep within it -/
theorem days_of {n : Nat} {f : Mx} (hd : ∀ a, a < n → f a a ≤ 0) (ht : ∀ w, w < n → Tri n f w) (a b : Nat) (ha : a < n) (hb : b < n) (hf : f a b < far) :
    least f b n - least f a n ≤ f a b := by
  have la : least f a n < far := by have := least_le (f := f) (k := a) ha; have := hd a ha; show _ < (1000000000 : Int); omega
  obtain ⟨i, hi, e⟩ := least_is la
  obtain ⟨_, t⟩ := ht a ha i b hi hb (by rw [← e]; exact la) hf
  have := least_le (f := f) (k := b) hi
  omega

end Go.Proofs.Ytoecglgbmhhdnaa.Fw
