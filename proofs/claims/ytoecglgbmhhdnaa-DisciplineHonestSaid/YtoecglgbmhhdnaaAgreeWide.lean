/- What agree.Within computes on a valid list of wide intervals, said by how many intervals contain a number. -/
import Derived.Test.YtoecglgbmhhdnaaJDx1
import Derived.Test.YtoecglgbmhhdnaaRowsLaw
namespace Go.Proofs.Ytoecglgbmhhdnaa.JD
open Go.Proofs.Ytoecglgbmhhdnaa.Own Go.RowKit Go.Proofs.YtoecglgbmhhdnaaW.PrintWords Go.Proofs.YtoecglgbmhhdnaaW.PrintLast

abbrev Sp := S34

def okS (s : Sp) : Prop := -1000000000000000 ≤ s.f0 ∧ s.f0 ≤ s.f1 ∧ s.f1 ≤ 1000000000000000

def has (s : Sp) (t : Int) : Prop := s.f0 ≤ t ∧ t ≤ s.f1
instance (s : Sp) (t : Int) : Decidable (has s t) := inferInstanceAs (Decidable (_ ∧ _))

def cnt (t : Int) : List Sp → Int
  | [] => 0
  | s :: r => (if has s t then 1 else 0) + cnt t r

theorem cnt_bd (t : Int) : ∀ l : List Sp, 0 ≤ cnt t l ∧ cnt t l ≤ l.length
  | [] => by simp [cnt]
  | s :: r => by
    have := cnt_bd t r
    simp only [cnt, List.length_cons]
    split <;> omega

/-- if each interval that contains t contains u, as many contain u -/
theorem cnt_le {t u : Int} : ∀ {l : List Sp}, (∀ s ∈ l, has s t → has s u) → cnt t l ≤ cnt u l
  | [], _ => Int.le_refl _
  | s :: r, h => by
    have ih := cnt_le (t := t) (u := u) (l := r) (fun x hx => h x (List.mem_cons_of_mem _ hx))
    have h0 := h s (List.mem_cons_self ..)
    simp only [cnt]
    split
    · rename_i c; rw [if_pos (h0 c)]; omega
    · split <;> omega

theorem cnt_pos {t : Int} : ∀ {l : List Sp}, 0 < cnt t l → ∃ s ∈ l, has s t
  | [], h => by simp [cnt] at h
  | s :: r, h => by
    by_cases c : has s t
    · exact ⟨s, List.mem_cons_self .., c⟩
    · simp only [cnt] at h
      rw [if_neg c] at h
      obtain ⟨x, hx, hc⟩ := cnt_pos (t := t) (l := r) (by omega)
      exact ⟨x, List.mem_cons_of_mem _ hx, hc⟩

theorem cnt_pos_of {t : Int} {s : Sp} : ∀ {l : List Sp}, s ∈ l → has s t → 0 < cnt t l
  | x :: r, hm, hc => by
    have := cnt_bd t r
    simp only [cnt]
    rcases List.mem_cons.1 hm with e | e
    · subst e; rw [if_pos hc]; omega
    · have := cnt_pos_of e hc
      split <;> omega

/-- among the intervals that contain t, the greatest lower bound that occurs -/
theorem top_lo {t : Int} : ∀ {l : List Sp}, (∃ s ∈ l, has s t) → ∃ s ∈ l, has s t ∧ ∀ x ∈ l, has x t → x.f0 ≤ s.f0
  | [], h => by obtain ⟨s, hs, _⟩ := h; cases hs
  | a :: r, h => by
    by_cases hr : ∃ s ∈ r, has s t
    · obtain ⟨s, hs, hc, hb⟩ := top_lo hr
      by_cases ha : has a t ∧ s.f0 < a.f0
      · refine ⟨a, List.mem_cons_self .., ha.1, fun x hx hxt => ?_⟩
        rcases List.mem_cons.1 hx with e | e
        · subst e; exact Int.le_refl _
        · have := hb x e hxt; omega
      · refine ⟨s, List.mem_cons_of_mem _ hs, hc, fun x hx hxt => ?_⟩
        rcases List.mem_cons.1 hx with e | e
        · subst e
          rcases Int.lt_or_le s.f0 x.f0 with h1 | h1
          · exact absurd ⟨hxt, h1⟩ ha
          · exact h1
        · exact hb x e hxt
    · obtain ⟨s, hs, hc⟩ := h
      rcases List.mem_cons.1 hs with e | e
      · subst e
        refine ⟨s, hs, hc, fun x hx hxt => ?_⟩
        rcases List.mem_cons.1 hx with e | e
        · subst e; exact Int.le_refl _
        · exact absurd ⟨x, e, hxt⟩ hr
      · exact absurd ⟨s, e, hc⟩ hr

theorem low_hi {t : Int} : ∀ {l : List Sp}, (∃ s ∈ l, has s t) → ∃ s ∈ l, has s t ∧ ∀ x ∈ l, has x t → s.f1 ≤ x.f1
  | [], h => by obtain ⟨s, hs, _⟩ := h; cases hs
  | a :: r, h => by
    by_cases hr : ∃ s ∈ r, has s t
    · obtain ⟨s, hs, hc, hb⟩ := low_hi hr
      by_cases ha : has a t ∧ a.f1 < s.f1
      · refine ⟨a, List.mem_cons_self .., ha.1, fun x hx hxt => ?_⟩
        rcases List.mem_cons.1 hx with e | e
        · subst e; exact Int.le_refl _
        · have := hb x e hxt; omega
      · refine ⟨s, List.mem_cons_of_mem _ hs, hc, fun x hx hxt => ?_⟩
        rcases List.mem_cons.1 hx with e | e
        · subst e
          rcases Int.lt_or_le x.f1 s.f1 with h1 | h1
          · exact absurd ⟨hxt, h1⟩ ha
          · exact h1
        · exact hb x e hxt
    · obtain ⟨s, hs, hc⟩ := h
      rcases List.mem_cons.1 hs with e | e
      · subst e
        refine ⟨s, hs, hc, fun x hx hxt => ?_⟩
        rcases List.mem_cons.1 hx with e | e
        · subst e; exact Int.le_refl _
        · exact absurd ⟨x, e, hxt⟩ hr
      · exact absurd ⟨s, e, hc⟩ hr

/-! ### agree.Check -/
theorem icheck_f {a b : Int} (k : Nat) (hk : 1 ≤ k) (h1 : -1000000000000000000 ≤ a) (h2 : a ≤ b) (h3 : b ≤ 1000000000000000000) : interval_Check.f k a b = some 0 := by
  obtain ⟨k, rfl⟩ : ∃ m, k = m + 1 := ⟨k - 1, by omega⟩
  unfold interval_Check.f interval_out.f
  rw [if_neg (by omega), if_neg (by omega)]
  simp only [Option.bind_some, interval_Check.j0]
  rw [decide_eq_false (by omega), decide_eq_false (by omega)]
  simp only [Bool.false_eq_true, if_false]
  rw [if_neg (by omega)]

theorem rdS {l : List Sp} {i : Nat} {s : Sp} (h : ∀ z, l.getD i z = s) : rd_T34 l i = s := by
  unfold rd_T34; rw [Int.toNat_natCast]; exact h _

theorem acheck_loop (l : List Sp) : ∀ (rest : List Sp) (k i : Nat), l.drop i = rest → rest.length + 2 ≤ k → (∀ s ∈ rest, okS s) → l.length ≤ 40 → agree_Check.l0 k l l.length i = some 0
  | [], k, i, hr, hk, ho, hl => by
    obtain ⟨k, rfl⟩ : ∃ m, k = m + 1 := ⟨k - 1, by omega⟩
    have := drop_end hr
    simp only [agree_Check.l0]
    rw [if_neg (by omega)]
  | s :: rest, k, i, hr, hk, ho, hl => by
    have hlen : (s :: rest).length = rest.length + 1 := rfl
    obtain ⟨k, rfl⟩ : ∃ m, k = m + 1 := ⟨k - 1, by omega⟩
    obtain ⟨h1, h2, h3⟩ := drop_step hr
    obtain ⟨o1, o2, o3⟩ := ho s (List.mem_cons_self ..)
    simp only [agree_Check.l0]
    rw [if_pos (by omega), if_pos (by omega), if_pos (by omega), rdS h3, icheck_f k (by omega) (by omega) o2 (by omega)]
    simp only [Option.bind_some, if_true]
    rw [wrap_in (by omega) (by omega), show (i : Int) + 1 = ((i + 1 : Nat) : Int) from by omega]
    exact acheck_loop l rest k (i + 1) h2 (by omega) (fun x hx => ho x (List.mem_cons_of_mem _ hx)) hl

theorem acheck_f (l : List Sp) (k : Nat) (ho : ∀ s ∈ l, okS s) (h0 : l ≠ []) (hl : l.length ≤ 40) (hk : l.length + 2 ≤ k) : agree_Check.f k l = some 0 := by
  have : l.length ≠ 0 := fun h => h0 (List.length_eq_zero_iff.1 h)
  unfold agree_Check.f
  rw [if_neg (by omega), if_neg (by omega)]
  exact acheck_loop l l k 0 rfl hk ho hl

/-! ### agree.many -/
def manyF (t : Int) : Int → Int → List Sp → Int × Int
  | n, h, [] => (n, h)
  | n, h, s :: r => if has s t then manyF t (n + 1) (if n = 0 ∨ s.f1 < h then s.f1 else h) r else manyF t n h r

theorem many_loop (l : List Sp) (t : Int) : ∀ (rest : List Sp) (k i : Nat) (n h : Int), l.drop i = rest → 2 * rest.length + 1 ≤ k → 0 ≤ n → n ≤ i → l.length ≤ 40 → agree_many.l0 k t n h l l.length i = some (manyF t n h rest)
  | [], k, i, n, h, hr, hk, hn, hn', hl => by
    obtain ⟨k, rfl⟩ : ∃ m, k = m + 1 := ⟨k - 1, by omega⟩
    have := drop_end hr
    simp only [agree_many.l0]
    rw [if_neg (by omega)]; rfl
  | s :: rest, k, i, n, h, hr, hk, hn, hn', hl => by
    have hlen : (s :: rest).length = rest.length + 1 := rfl
    obtain ⟨k, rfl⟩ : ∃ m, k = m + 2 := ⟨k - 2, by omega⟩
    obtain ⟨h1, h2, h3⟩ := drop_step hr
    have ih := fun n h => many_loop l t rest k (i + 1) n h h2 (by omega)
    simp only [agree_many.l0, manyF]
    rw [if_pos (by omega), if_pos (by omega), if_pos (by omega), rdS h3]
    have e : (if s.f0 ≤ t then agree_many.j1 (k + 1) t n h l l.length i (decide (t ≤ s.f1)) s.f0 s.f1 else agree_many.j1 (k + 1) t n h l l.length i false s.f0 s.f1) = agree_many.j1 (k + 1) t n h l l.length i (decide (has s t)) s.f0 s.f1 := by
      by_cases c : s.f0 ≤ t
      · rw [if_pos c]; congr 1; exact decide_eq_decide.2 ⟨fun z => ⟨c, z⟩, fun z => z.2⟩
      · rw [if_neg c, decide_eq_false (fun z => c z.1)]
    rw [e]
    simp only [agree_many.j1]
    rw [wrap_in (n := n + 1) (by omega) (by omega), wrap_in (n := (i : Int) + 1) (by omega) (by omega), show (i : Int) + 1 = ((i + 1 : Nat) : Int) from by omega]
    by_cases c : has s t
    · rw [decide_eq_true c, if_pos rfl, if_pos c]
      by_cases c0 : n = 0
      · rw [if_pos c0, if_pos (.inl c0)]; exact ih _ _ (by omega) (by omega) hl
      · by_cases c1 : s.f1 < h
        · rw [if_neg c0, if_pos c1, if_pos (.inr c1)]; exact ih _ _ (by omega) (by omega) hl
        · rw [if_neg c0, if_neg c1, if_neg (fun z => z.elim c0 c1)]; exact ih _ _ (by omega) (by omega) hl
    · rw [decide_eq_false c, if_neg (by decide), if_neg c]; exact ih _ _ (by omega) (by omega) hl

theorem manyF_fst (t : Int) : ∀ (l : List Sp) (n h : Int), (manyF t n h l).1 = n + cnt t l
  | [], n, h => by simp [manyF, cnt]
  | s :: r, n, h => by
    simp only [manyF, cnt]
    split <;> rw [manyF_fst t r] <;> omega

/-- the bound: one of those that contain t has it, and none has a lesser one -/
theorem manyF_snd (t : Int) : ∀ (l : List Sp) (n h : Int), 0 ≤ n → 0 < n + cnt t l →
    ((0 < n ∧ (manyF t n h l).2 = h) ∨ ∃ s ∈ l, has s t ∧ s.f1 = (manyF t n h l).2) ∧ (0 < n → (manyF t n h l).2 ≤ h) ∧ ∀ s ∈ l, has s t → (manyF t n h l).2 ≤ s.f1
  | [], n, h, hn, hp => by
    simp only [cnt] at hp
    exact ⟨.inl ⟨by omega, rfl⟩, fun _ => Int.le_refl _, (fun s hs => by cases hs)⟩
  | a :: r, n, h, hn, hp => by
    have hb := cnt_bd t r
    simp only [cnt] at hp
    simp only [manyF]
    by_cases c : has a t
    · rw [if_pos c] at hp ⊢
      obtain ⟨i1, i2, i3⟩ := manyF_snd t r (n + 1) (if n = 0 ∨ a.f1 < h then a.f1 else h) (by omega) (by omega)
      have i2 := i2 (by omega)
      refine ⟨?_, fun hn0 => ?_, fun s hs hst => ?_⟩
      · rcases i1 with ⟨_, e⟩ | ⟨s, hs, hc, e⟩
        · split at e
          · exact .inr ⟨a, List.mem_cons_self .., c, by rw [if_pos ‹_›]; exact e.symm⟩
          · rename_i hne
            exact .inl ⟨by omega, by rw [if_neg hne]; exact e⟩
        · exact .inr ⟨s, List.mem_cons_of_mem _ hs, hc, e⟩
      · split at i2 <;> rename_i hne <;> (first | rw [if_pos hne] | rw [if_neg hne]) <;> omega
      · rcases List.mem_cons.1 hs with e | e
        · subst e
          split at i2 <;> rename_i hne <;> (first | rw [if_pos hne] | rw [if_neg hne]) <;> omega
        · exact i3 s e hst
    · rw [if_neg c] at hp ⊢
      obtain ⟨i1, i2, i3⟩ := manyF_snd t r n h hn (by omega)
      refine ⟨?_, i2, fun s hs hst => ?_⟩
      · rcases i1 with e | ⟨s, hs, hc, e⟩
        · exact .inl e
        · exact .inr ⟨s, List.mem_cons_of_mem _ hs, hc, e⟩
      · rcases List.mem_cons.1 hs with e | e
        · subst e; exact absurd hst c
        · exact i3 s e hst

theorem many_f (l : List Sp) (t : Int) (k : Nat) (hk : 2 * l.length + 1 ≤ k) (hl : l.length ≤ 40) : agree_many.f k l t = some (manyF t 0 0 l) := by
  unfold agree_many.f
  exact many_loop l t l k 0 0 0 rfl hk (by omega) (by omega) hl

/-! ### agree.Within -/
theorem within_lo (l : List Sp) (need : Int) (hl : l.length ≤ 40) (K : Nat) : ∀ (rest : List Sp) (k i : Nat) (fd : Bool) (lo hi : Int), l.drop i = rest → rest.length + 2 * l.length + 2 + K ≤ k →
    ∃ (fd' : Bool) (lo' : Int) (k' : Nat), K ≤ k' ∧ agree_Within.l0 k l need fd l l.length i lo hi = (if fd' = true then agree_Within.l1 k' l need l l.length 0 lo' lo' else some (0, 0, 6)) ∧
      (fd' = true ↔ fd = true ∨ ∃ s ∈ rest, need ≤ cnt s.f0 l) ∧ (fd' = true → (fd = true ∧ lo' = lo) ∨ ∃ s ∈ rest, need ≤ cnt s.f0 l ∧ lo' = s.f0) ∧ (fd = true → lo' ≤ lo) ∧ ∀ s ∈ rest, need ≤ cnt s.f0 l → lo' ≤ s.f0
  | [], k, i, fd, lo, hi, hr, hk => by
    obtain ⟨k, rfl⟩ : ∃ m, k = m + 1 := ⟨k - 1, by omega⟩
    have := drop_end hr
    refine ⟨fd, lo, k, by omega, ?_, by simp, fun h => .inl ⟨h, rfl⟩, fun _ => Int.le_refl _, (fun s hs => by cases hs)⟩
    simp only [agree_Within.l0]
    rw [if_neg (by omega)]
  | s :: rest, k, i, fd, lo, hi, hr, hk => by
    have hlen : (s :: rest).length = rest.length + 1 := rfl
    obtain ⟨k, rfl⟩ : ∃ m, k = m + 1 := ⟨k - 1, by omega⟩
    obtain ⟨h1, h2, h3⟩ := drop_step hr
    have ih := fun fd lo hi => within_lo l need hl K rest k (i + 1) fd lo hi h2 (by omega)
    have em := manyF_fst s.f0 l 0 0
    simp only [agree_Within.l0]
    rw [if_pos (by omega), if_pos (by omega), if_pos (by omega), rdS h3, many_f l _ k (by omega) hl]
    simp only [Option.bind_some]
    rw [em, Int.zero_add, wrap_in (n := (i : Int) + 1) (by omega) (by omega), show (i : Int) + 1 = ((i + 1 : Nat) : Int) from by omega]
    by_cases c : cnt s.f0 l ≥ need
    · rw [if_pos c]
      have go : ∀ hi', ∃ (fd' : Bool) (lo' : Int) (k' : Nat), K ≤ k' ∧ agree_Within.l0 k l need true l l.length ((i + 1 : Nat) : Int) s.f0 hi' = (if fd' = true then agree_Within.l1 k' l need l l.length 0 lo' lo' else some (0, 0, 6)) ∧ fd' = true ∧
          (lo' = s.f0 ∨ ∃ x ∈ rest, need ≤ cnt x.f0 l ∧ lo' = x.f0) ∧ lo' ≤ s.f0 ∧ ∀ x ∈ rest, need ≤ cnt x.f0 l → lo' ≤ x.f0 := by
        intro hi'
        obtain ⟨fd', lo', k', g0, g1, g2, g3, g4, g5⟩ := ih true s.f0 hi'
        have hf : fd' = true := g2.2 (.inl rfl)
        exact ⟨fd', lo', k', g0, g1, hf, (g3 hf).imp (fun z => z.2) (fun z => z), g4 rfl, g5⟩
      have pack : ∀ (fd' : Bool) (lo' : Int), fd' = true → (lo' = s.f0 ∨ ∃ x ∈ rest, need ≤ cnt x.f0 l ∧ lo' = x.f0) → lo' ≤ s.f0 → (∀ x ∈ rest, need ≤ cnt x.f0 l → lo' ≤ x.f0) → (fd = true → lo' ≤ lo) →
          (fd' = true ↔ fd = true ∨ ∃ x ∈ s :: rest, need ≤ cnt x.f0 l) ∧ (fd' = true → (fd = true ∧ lo' = lo) ∨ ∃ x ∈ s :: rest, need ≤ cnt x.f0 l ∧ lo' = x.f0) ∧ (fd = true → lo' ≤ lo) ∧ ∀ x ∈ s :: rest, need ≤ cnt x.f0 l → lo' ≤ x.f0 := by
        intro fd' lo' e1 e2 e3 e4 e5
        refine ⟨⟨fun _ => .inr ⟨s, List.mem_cons_self .., c⟩, fun _ => e1⟩, fun _ => .inr ?_, e5, fun x hx hc => ?_⟩
        · rcases e2 with e | ⟨x, hx, hc, e⟩
          · exact ⟨s, List.mem_cons_self .., c, e⟩
          · exact ⟨x, List.mem_cons_of_mem _ hx, hc, e⟩
        · rcases List.mem_cons.1 hx with e | e
          · subst e; exact e3
          · exact e4 x e hc
      by_cases cf : fd = true
      · rw [if_pos cf]
        by_cases cl : s.f0 < lo
        · rw [if_pos cl]
          obtain ⟨fd', lo', k', g0, g1, g2, g3, g4, g5⟩ := go hi
          exact ⟨fd', lo', k', g0, g1, pack fd' lo' g2 g3 g4 g5 (fun _ => by omega)⟩
        · rw [if_neg cl]
          obtain ⟨fd', lo', k', g0, g1, g2, g3, g4, g5⟩ := ih fd lo hi
          have hf : fd' = true := g2.2 (.inl cf)
          refine ⟨fd', lo', k', g0, g1, ⟨fun _ => .inl cf, fun _ => hf⟩, fun _ => ?_, g4, fun x hx hc => ?_⟩
          · rcases g3 hf with e | ⟨x, hx, e⟩
            · exact .inl e
            · exact .inr ⟨x, List.mem_cons_of_mem _ hx, e⟩
          · rcases List.mem_cons.1 hx with e | e
            · subst e; have := g4 cf; omega
            · exact g5 x e hc
      · rw [if_neg cf]
        obtain ⟨fd', lo', k', g0, g1, g2, g3, g4, g5⟩ := go hi
        exact ⟨fd', lo', k', g0, g1, pack fd' lo' g2 g3 g4 g5 (fun h => absurd h cf)⟩
    · rw [if_neg c]
      obtain ⟨fd', lo', k', g0, g1, g2, g3, g4, g5⟩ := ih fd lo hi
      refine ⟨fd', lo', k', g0, g1, ⟨fun hf => ?_, fun hf => ?_⟩, fun hf => ?_, g4, fun x hx hc => ?_⟩
      · exact (g2.1 hf).imp id (fun ⟨x, hx, hc⟩ => ⟨x, List.mem_cons_of_mem _ hx, hc⟩)
      · refine g2.2 (hf.imp id (fun ⟨x, hx, hc⟩ => ?_))
        rcases List.mem_cons.1 hx with e | e
        · subst e; exact absurd hc c
        · exact ⟨x, e, hc⟩
      · rcases g3 hf with e | ⟨x, hx, e⟩
        · exact .inl e
        · exact .inr ⟨x, List.mem_cons_of_mem _ hx, e⟩
      · rcases List.mem_cons.1 hx with e | e
        · subst e; exact absurd hc c
        · exact g5 x e hc

theorem within_hi (l : List Sp) (need lo : Int) (hl : l.length ≤ 40) : ∀ (rest : List Sp) (k i : Nat) (hi : Int), l.drop i = rest → rest.length + 2 * l.length + 2 ≤ k →
    ∃ hi' : Int, agree_Within.l1 k l need l l.length i lo hi = some (lo, hi', 0) ∧ (hi' = hi ∨ ∃ s ∈ rest, need ≤ cnt s.f1 l ∧ hi' = s.f1) ∧ hi ≤ hi' ∧ ∀ s ∈ rest, need ≤ cnt s.f1 l → s.f1 ≤ hi'
  | [], k, i, hi, hr, hk => by
    obtain ⟨k, rfl⟩ : ∃ m, k = m + 1 := ⟨k - 1, by omega⟩
    have := drop_end hr
    refine ⟨hi, ?_, .inl rfl, Int.le_refl _, (fun s hs => by cases hs)⟩
    simp only [agree_Within.l1]
    rw [if_neg (by omega)]
  | s :: rest, k, i, hi, hr, hk => by
    have hlen : (s :: rest).length = rest.length + 1 := rfl
    obtain ⟨k, rfl⟩ : ∃ m, k = m + 1 := ⟨k - 1, by omega⟩
    obtain ⟨h1, h2, h3⟩ := drop_step hr
    have ih := fun hi => within_hi l need lo hl rest k (i + 1) hi h2 (by omega)
    have em := manyF_fst s.f1 l 0 0
    simp only [agree_Within.l1]
    rw [if_pos (by omega), if_pos (by omega), if_pos (by omega), rdS h3, many_f l _ k (by omega) hl]
    simp only [Option.bind_some]
    rw [em, Int.zero_add, wrap_in (n := (i : Int) + 1) (by omega) (by omega), show (i : Int) + 1 = ((i + 1 : Nat) : Int) from by omega]
    have hmx : mx hi s.f1 = max hi s.f1 := by unfold mx; omega
    by_cases c : cnt s.f1 l ≥ need
    · rw [if_pos c, hmx]
      obtain ⟨hi', g1, g2, g3, g4⟩ := ih (max hi s.f1)
      refine ⟨hi', g1, ?_, by omega, fun x hx hc => ?_⟩
      · rcases g2 with e | ⟨x, hx, hc, e⟩
        · rcases Int.lt_or_le hi s.f1 with z | z
          · exact .inr ⟨s, List.mem_cons_self .., c, by omega⟩
          · exact .inl (by omega)
        · exact .inr ⟨x, List.mem_cons_of_mem _ hx, hc, e⟩
      · rcases List.mem_cons.1 hx with e | e
        · subst e; omega
        · exact g4 x e hc
    · rw [if_neg c]
      obtain ⟨hi', g1, g2, g3, g4⟩ := ih hi
      refine ⟨hi', g1, g2.imp id (fun ⟨x, hx, hc⟩ => ⟨x, List.mem_cons_of_mem _ hx, hc⟩), g3, fun x hx hc => ?_⟩
      rcases List.mem_cons.1 hx with e | e
      · subst e; exact absurd hc c
      · exact g4 x e hc

/-- what agree.Within tells: no number is in that many intervals; or the least and the greatest bound that is -/
def WithinIs (l : List Sp) (need lo hi e : Int) : Prop :=
  (e = 6 ∧ lo = 0 ∧ hi = 0 ∧ ∀ s ∈ l, cnt s.f0 l < need) ∨
  (e = 0 ∧ (∃ s ∈ l, need ≤ cnt s.f0 l ∧ lo = s.f0) ∧ (∀ s ∈ l, need ≤ cnt s.f0 l → lo ≤ s.f0) ∧ (hi = lo ∨ ∃ s ∈ l, need ≤ cnt s.f1 l ∧ hi = s.f1) ∧ lo ≤ hi ∧ ∀ s ∈ l, need ≤ cnt s.f1 l → s.f1 ≤ hi)

theorem within_f (l : List Sp) (need : Int) (k : Nat) (ho : ∀ s ∈ l, okS s) (h0 : l ≠ []) (hl : l.length ≤ 40) (hn : 1 ≤ need) (hn' : need ≤ l.length) (hk : 300 ≤ k) :
    ∃ lo hi e, agree_Within.f k l need = some (lo, hi, e) ∧ WithinIs l need lo hi e := by
  obtain ⟨k, rfl⟩ : ∃ m, k = m + 1 := ⟨k - 1, by omega⟩
  unfold agree_Within.f
  rw [acheck_f l _ ho h0 hl (by omega)]
  simp only [Option.bind_some, if_true]
  rw [if_neg (by omega), decide_eq_false (by omega)]
  simp only [agree_Within.j0, Bool.false_eq_true, if_false]
  obtain ⟨fd, lo, k', g0, g1, g2, g3, _, g5⟩ := within_lo l need hl 140 l k 0 false 0 0 rfl (by omega)
  rw [show ((0 : Nat) : Int) = 0 from rfl] at g1
  rw [g1]
  cases fd with
  | false =>
    refine ⟨0, 0, 6, by simp, .inl ⟨rfl, rfl, rfl, fun s hs => ?_⟩⟩
    rcases Int.lt_or_le (cnt s.f0 l) need with h | h
    · exact h
    · exact absurd (g2.2 (.inr ⟨s, hs, h⟩)) (by decide)
  | true =>
    obtain ⟨hi, q1, q2, q3, q4⟩ := within_hi l need lo hl l k' 0 lo rfl (by omega)
    rw [show ((0 : Nat) : Int) = 0 from rfl] at q1
    rw [if_pos rfl, q1]
    refine ⟨lo, hi, 0, rfl, .inr ⟨rfl, ?_, g5, q2, q3, q4⟩⟩
    rcases g3 rfl with ⟨h, _⟩ | h
    · cases h
    · exact h

end Go.Proofs.Ytoecglgbmhhdnaa.JD
