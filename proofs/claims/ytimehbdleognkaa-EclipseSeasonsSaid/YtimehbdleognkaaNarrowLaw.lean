/- series.Narrow over a sign that is told by a growing number. No condition on a program. -/
import Derived.Test.YtimehbdleognkaaJEx1
import Derived.Test.YtimehbdleognkaaSkyReal
namespace Go.Proofs.Ytimehbdleognkaa.JE
open Go.Proofs.Ytimehbdleognkaa.Own Go.Proofs.Ytimehbdleognkaa.Tp Go.RowKit Go.Proofs.YtimehbdleognkaaW.PrintWords Go.Proofs.YtimehbdleognkaaW.PrintLast

/-- a sign S that follows a number e, undecided only within W of 0; e grows by c at least, but for B -/
structure Sgn (sg : Nat → Int → Option Int) (S : Int → Int) (e : Int → Rat) (K0 : Nat) (LO HI : Int) (W c B : Rat) : Prop where
  val : ∀ k, K0 ≤ k → ∀ t, LO ≤ t → t ≤ HI → sg k t = some (S t)
  up : ∀ t, LO ≤ t → t ≤ HI → ¬ S t < 0 → -W ≤ e t
  dn : ∀ t, LO ≤ t → t ≤ HI → ¬ 0 < S t → e t ≤ W
  grow : ∀ t d, LO ≤ t → t + d ≤ HI → 0 ≤ d → c * (d : Rat) - B ≤ e (t + d) - e t

theorem half_b {a b : Int} (h : 1 < b - a) (h1 : -4000000000000000000 ≤ a) (h2 : b ≤ 4000000000000000000) : wrap64 (a + wrap64 (Int.tdiv (wrap64 (b - a)) 2)) = a + (b - a) / 2 ∧ a < a + (b - a) / 2 ∧ a + (b - a) / 2 < b := by
  rw [wrap_in (n := b - a) (by omega) (by omega), tdiv_nn (by omega), wrap_in (n := (b - a) / 2) (by omega) (by omega), wrap_in (by omega) (by omega)]
  omega

section
variable {sg : Nat → Int → Option Int} {S : Int → Int} {e : Int → Rat} {K0 : Nat} {LO HI : Int} {W c B : Rat}

theorem narrow_l2 (H : Sgn sg S e K0 LO HI W c B) (b1 : -4000000000000000000 ≤ LO) (b2 : HI ≤ 4000000000000000000) {x0 x2 x3 : Int} : ∀ (n : Nat) (hi op : Int), (hi - op).toNat ≤ n → LO ≤ x0 → x0 ≤ op → op < hi → hi ≤ HI → ¬ 0 < S op → 0 < S hi →
    ∃ hi' op', op' < hi' ∧ hi' - op' ≤ 1 ∧ x0 ≤ op' ∧ hi' ≤ hi ∧ ¬ 0 < S op' ∧ 0 < S hi' ∧ ∀ k, K0 + n + 1 ≤ k → series_Narrow.l2 sg k x0 hi x2 x3 op = if wrap64 (hi' - x0) > x2 then some (0, 0, 11) else some (x0, hi', 0) := by
  intro n
  induction n with
  | zero => intro hi op hn _ _ ho _ _ _; omega
  | succ n ih =>
    intro hi op hn h0 hx ho hh s1 s2
    by_cases c1 : 1 < hi - op
    · have hb := half_b c1 (by omega) (by omega)
      by_cases s : 0 < S (op + (hi - op) / 2)
      · obtain ⟨hi', op', a1, a2, a3, a4, a5, a6, a7⟩ := ih (op + (hi - op) / 2) op (by omega) h0 hx (by omega) (by omega) s1 s
        refine ⟨hi', op', a1, a2, by omega, by omega, a5, a6, fun k hk => ?_⟩
        obtain ⟨k, rfl⟩ : ∃ m, k = m + 1 := ⟨k - 1, by omega⟩
        simp only [series_Narrow.l2]
        rw [hb.1, wrap_in (n := hi - op) (by omega) (by omega), if_pos (by omega), H.val k (by omega) _ (by omega) (by omega)]
        simp only [Option.bind_some]
        rw [if_pos (by omega)]
        exact a7 k (by omega)
      · obtain ⟨hi', op', a1, a2, a3, a4, a5, a6, a7⟩ := ih hi (op + (hi - op) / 2) (by omega) h0 (by omega) (by omega) hh s s2
        refine ⟨hi', op', a1, a2, by omega, by omega, a5, a6, fun k hk => ?_⟩
        obtain ⟨k, rfl⟩ : ∃ m, k = m + 1 := ⟨k - 1, by omega⟩
        simp only [series_Narrow.l2]
        rw [hb.1, wrap_in (n := hi - op) (by omega) (by omega), if_pos (by omega), H.val k (by omega) _ (by omega) (by omega)]
        simp only [Option.bind_some]
        rw [if_neg (by omega)]
        exact a7 k (by omega)
    · refine ⟨hi, op, ho, by omega, hx, Int.le_refl _, s1, s2, fun k hk => ?_⟩
      obtain ⟨k, rfl⟩ : ∃ m, k = m + 1 := ⟨k - 1, by omega⟩
      simp only [series_Narrow.l2]
      rw [wrap_in (n := hi - op) (by omega) (by omega), if_neg (by omega)]

theorem narrow_l1 (H : Sgn sg S e K0 LO HI W c B) (b1 : -4000000000000000000 ≤ LO) (b2 : HI ≤ 4000000000000000000) {x1 x2 x3 x10 : Int} : ∀ (n : Nat) (lo op : Int), (op - lo).toNat ≤ n → LO ≤ lo → lo < op → op ≤ HI → S lo < 0 → ¬ S op < 0 →
    ∃ lo' op', lo' < op' ∧ op' - lo' ≤ 1 ∧ lo ≤ lo' ∧ op' ≤ op ∧ S lo' < 0 ∧ ¬ S op' < 0 ∧ ∀ k, K0 + n + 1 ≤ k → ∃ k', k ≤ k' + n + 1 ∧ series_Narrow.l1 sg k lo x1 x2 x3 x10 op = series_Narrow.l2 sg k' lo' x1 x2 x3 x10 := by
  intro n
  induction n with
  | zero => intro lo op hn _ ho _ _ _; omega
  | succ n ih =>
    intro lo op hn h0 ho hh s1 s2
    by_cases c1 : 1 < op - lo
    · have hb := half_b c1 (by omega) (by omega)
      by_cases s : S (lo + (op - lo) / 2) < 0
      · obtain ⟨lo', op', a1, a2, a3, a4, a5, a6, a7⟩ := ih (lo + (op - lo) / 2) op (by omega) (by omega) (by omega) hh s s2
        refine ⟨lo', op', a1, a2, by omega, a4, a5, a6, fun k hk => ?_⟩
        obtain ⟨k, rfl⟩ : ∃ m, k = m + 1 := ⟨k - 1, by omega⟩
        obtain ⟨k', g1, g2⟩ := a7 k (by omega)
        refine ⟨k', by omega, ?_⟩
        simp only [series_Narrow.l1]
        rw [hb.1, wrap_in (n := op - lo) (by omega) (by omega), if_pos (by omega), H.val k (by omega) _ (by omega) (by omega)]
        simp only [Option.bind_some]
        rw [if_pos (by omega)]
        exact g2
      · obtain ⟨lo', op', a1, a2, a3, a4, a5, a6, a7⟩ := ih lo (lo + (op - lo) / 2) (by omega) h0 (by omega) (by omega) s1 s
        refine ⟨lo', op', a1, a2, a3, by omega, a5, a6, fun k hk => ?_⟩
        obtain ⟨k, rfl⟩ : ∃ m, k = m + 1 := ⟨k - 1, by omega⟩
        obtain ⟨k', g1, g2⟩ := a7 k (by omega)
        refine ⟨k', by omega, ?_⟩
        simp only [series_Narrow.l1]
        rw [hb.1, wrap_in (n := op - lo) (by omega) (by omega), if_pos (by omega), H.val k (by omega) _ (by omega) (by omega)]
        simp only [Option.bind_some]
        rw [if_neg (by omega)]
        exact g2
    · refine ⟨lo, op, ho, by omega, Int.le_refl _, Int.le_refl _, s1, s2, fun k hk => ?_⟩
      obtain ⟨k, rfl⟩ : ∃ m, k = m + 1 := ⟨k - 1, by omega⟩
      refine ⟨k, by omega, ?_⟩
      simp only [series_Narrow.l1]
      rw [wrap_in (n := op - lo) (by omega) (by omega), if_neg (by omega)]

/-- the interval that Narrow finds -/
theorem narrow_f (H : Sgn sg S e K0 LO HI W c B) (b1 : -4000000000000000000 ≤ LO) (b2 : HI ≤ 4000000000000000000) {x2 : Int} (x3 : Int) (hc : 0 < c) (w0 : 2 ≤ x2) (hw : 2 * W + B ≤ c * ((x2 : Rat) - 2)) : ∀ (n : Nat) (lo hi : Int), (hi - lo).toNat ≤ n → LO ≤ lo → lo < hi → hi ≤ HI → S lo < 0 → 0 < S hi →
    ∃ L R, lo ≤ L ∧ L < R ∧ R ≤ hi ∧ S L < 0 ∧ 0 < S R ∧ R - L ≤ x2 ∧ ∀ k, K0 + n + n + n + 10 ≤ k → series_Narrow.f sg k lo hi x2 x3 = some (L, R, 0) := by
  intro n
  induction n with
  | zero => intro lo hi hn _ ho _ _ _; omega
  | succ n ih =>
    intro lo hi hn h0 ho hh s1 s2
    by_cases c1 : x2 < hi - lo
    · have hb := half_b (a := lo) (b := hi) (by omega) (by omega) (by omega)
      by_cases s : S (lo + (hi - lo) / 2) < 0
      · obtain ⟨L, R, a1, a2, a3, a4, a5, a6, a7⟩ := ih (lo + (hi - lo) / 2) hi (by omega) (by omega) (by omega) hh s s2
        refine ⟨L, R, by omega, a2, a3, a4, a5, a6, fun k hk => ?_⟩
        obtain ⟨k, rfl⟩ : ∃ m, k = m + 1 := ⟨k - 1, by omega⟩
        have := a7 k (by omega)
        unfold series_Narrow.f at this ⊢
        simp only [series_Narrow.l0]
        rw [hb.1, wrap_in (n := hi - lo) (by omega) (by omega), if_pos (by omega), H.val k (by omega) _ (by omega) (by omega)]
        simp only [Option.bind_some]
        rw [if_pos (by omega)]
        exact this
      · by_cases s' : 0 < S (lo + (hi - lo) / 2)
        · obtain ⟨L, R, a1, a2, a3, a4, a5, a6, a7⟩ := ih lo (lo + (hi - lo) / 2) (by omega) h0 (by omega) (by omega) s1 s'
          refine ⟨L, R, a1, a2, by omega, a4, a5, a6, fun k hk => ?_⟩
          obtain ⟨k, rfl⟩ : ∃ m, k = m + 1 := ⟨k - 1, by omega⟩
          have := a7 k (by omega)
          unfold series_Narrow.f at this ⊢
          simp only [series_Narrow.l0]
          rw [hb.1, wrap_in (n := hi - lo) (by omega) (by omega), if_pos (by omega), H.val k (by omega) _ (by omega) (by omega)]
          simp only [Option.bind_some]
          rw [if_neg (by omega), if_pos (by omega)]
          exact this
        · obtain ⟨lo', op, a1, a2, a3, a4, a5, a6, a7⟩ := narrow_l1 H b1 b2 (x1 := hi) (x2 := x2) (x3 := x3) (x10 := lo + (hi - lo) / 2) (n + 1) lo (lo + (hi - lo) / 2) (by omega) h0 (by omega) (by omega) s1 s
          obtain ⟨hi', op', d1, d2, d3, d4, d5, d6, d7⟩ := narrow_l2 H b1 b2 (x0 := lo') (x2 := x2) (x3 := x3) (n + 1) hi (lo + (hi - lo) / 2) (by omega) (by omega) (by omega) (by omega) hh s' s2
          -- the width
          have u := H.up op (by omega) (by omega) a6
          have v := H.dn op' (by omega) (by omega) d5
          have wd : hi' - lo' ≤ x2 := by
            rcases Int.lt_or_le op' op with g | g
            · omega
            · have gr := H.grow op (op' - op) (by omega) (by omega) (by omega)
              rw [show op + (op' - op) = op' by omega] at gr
              have key : c * (((op' - op : Int) : Rat)) ≤ c * ((x2 : Rat) - 2) := by grind
              have k2 : ((op' - op : Int) : Rat) ≤ (x2 : Rat) - 2 := div_le hc key
              have c2 : ((2 : Int) : Rat) = 2 := by decide +kernel
              rw [← c2, ← Rat.intCast_sub] at k2
              have := ci k2
              omega
          refine ⟨lo', hi', a3, by omega, by omega, a5, d6, wd, fun k hk => ?_⟩
          obtain ⟨k, rfl⟩ : ∃ m, k = m + 1 := ⟨k - 1, by omega⟩
          obtain ⟨k', g1, g2⟩ := a7 k (by omega)
          have g3 := d7 k' (by omega)
          unfold series_Narrow.f
          simp only [series_Narrow.l0]
          rw [hb.1, wrap_in (n := hi - lo) (by omega) (by omega), if_pos (by omega), H.val k (by omega) _ (by omega) (by omega)]
          simp only [Option.bind_some]
          rw [if_neg (by omega), if_neg (by omega), g2, g3, wrap_in (n := hi' - lo') (by omega) (by omega), if_neg (by omega)]
    · refine ⟨lo, hi, Int.le_refl _, ho, Int.le_refl _, s1, s2, by omega, fun k hk => ?_⟩
      obtain ⟨k, rfl⟩ : ∃ m, k = m + 1 := ⟨k - 1, by omega⟩
      unfold series_Narrow.f
      simp only [series_Narrow.l0]
      rw [wrap_in (n := hi - lo) (by omega) (by omega), if_neg (by omega)]

/-- Narrow ends, whatever the width -/
theorem narrow_any (H : Sgn sg S e K0 LO HI W c B) (b1 : -4000000000000000000 ≤ LO) (b2 : HI ≤ 4000000000000000000) {x2 : Int} (x3 : Int) (w0 : 1 ≤ x2) : ∀ (n : Nat) (lo hi : Int), (hi - lo).toNat ≤ n → LO ≤ lo → lo < hi → hi ≤ HI → S lo < 0 → 0 < S hi →
    ∃ r : Int × Int × Int, (r = (0, 0, 11) ∨ (lo ≤ r.1 ∧ r.1 < r.2.1 ∧ r.2.1 ≤ hi ∧ r.2.2 = 0)) ∧ ∀ k, K0 + n + n + n + 10 ≤ k → series_Narrow.f sg k lo hi x2 x3 = some r := by
  intro n
  induction n with
  | zero => intro lo hi hn _ ho _ _ _; omega
  | succ n ih =>
    intro lo hi hn h0 ho hh s1 s2
    by_cases c1 : x2 < hi - lo
    · have hb := half_b (a := lo) (b := hi) (by omega) (by omega) (by omega)
      by_cases s : S (lo + (hi - lo) / 2) < 0
      · obtain ⟨r, a1, a7⟩ := ih (lo + (hi - lo) / 2) hi (by omega) (by omega) (by omega) hh s s2
        refine ⟨r, ?_, fun k hk => ?_⟩
        · rcases a1 with a1 | ⟨a1, a2, a3, a4⟩
          · exact Or.inl a1
          · exact Or.inr ⟨by omega, a2, a3, a4⟩
        obtain ⟨k, rfl⟩ : ∃ m, k = m + 1 := ⟨k - 1, by omega⟩
        have := a7 k (by omega)
        unfold series_Narrow.f at this ⊢
        simp only [series_Narrow.l0]
        rw [hb.1, wrap_in (n := hi - lo) (by omega) (by omega), if_pos (by omega), H.val k (by omega) _ (by omega) (by omega)]
        simp only [Option.bind_some]
        rw [if_pos (by omega)]
        exact this
      · by_cases s' : 0 < S (lo + (hi - lo) / 2)
        · obtain ⟨r, a1, a7⟩ := ih lo (lo + (hi - lo) / 2) (by omega) h0 (by omega) (by omega) s1 s'
          refine ⟨r, ?_, fun k hk => ?_⟩
          · rcases a1 with a1 | ⟨a1, a2, a3, a4⟩
            · exact Or.inl a1
            · exact Or.inr ⟨a1, a2, by omega, a4⟩
          obtain ⟨k, rfl⟩ : ∃ m, k = m + 1 := ⟨k - 1, by omega⟩
          have := a7 k (by omega)
          unfold series_Narrow.f at this ⊢
          simp only [series_Narrow.l0]
          rw [hb.1, wrap_in (n := hi - lo) (by omega) (by omega), if_pos (by omega), H.val k (by omega) _ (by omega) (by omega)]
          simp only [Option.bind_some]
          rw [if_neg (by omega), if_pos (by omega)]
          exact this
        · obtain ⟨lo', op, a1, a2, a3, a4, a5, a6, a7⟩ := narrow_l1 H b1 b2 (x1 := hi) (x2 := x2) (x3 := x3) (x10 := lo + (hi - lo) / 2) (n + 1) lo (lo + (hi - lo) / 2) (by omega) h0 (by omega) (by omega) s1 s
          obtain ⟨hi', op', d1, d2, d3, d4, d5, d6, d7⟩ := narrow_l2 H b1 b2 (x0 := lo') (x2 := x2) (x3 := x3) (n + 1) hi (lo + (hi - lo) / 2) (by omega) (by omega) (by omega) (by omega) hh s' s2
          refine ⟨if wrap64 (hi' - lo') > x2 then (0, 0, 11) else (lo', hi', 0), ?_, fun k hk => ?_⟩
          · split
            · exact Or.inl rfl
            · exact Or.inr ⟨a3, show lo' < hi' by omega, show hi' ≤ hi by omega, rfl⟩
          obtain ⟨k, rfl⟩ : ∃ m, k = m + 1 := ⟨k - 1, by omega⟩
          obtain ⟨k', g1, g2⟩ := a7 k (by omega)
          have g3 := d7 k' (by omega)
          unfold series_Narrow.f
          simp only [series_Narrow.l0]
          rw [hb.1, wrap_in (n := hi - lo) (by omega) (by omega), if_pos (by omega), H.val k (by omega) _ (by omega) (by omega)]
          simp only [Option.bind_some]
          rw [if_neg (by omega), if_neg (by omega), g2, g3]
          split <;> rfl
    · refine ⟨(lo, hi, 0), Or.inr ⟨Int.le_refl _, ho, Int.le_refl _, rfl⟩, fun k hk => ?_⟩
      obtain ⟨k, rfl⟩ : ∃ m, k = m + 1 := ⟨k - 1, by omega⟩
      unfold series_Narrow.f
      simp only [series_Narrow.l0]
      rw [wrap_in (n := hi - lo) (by omega) (by omega), if_neg (by omega)]
end
end Go.Proofs.Ytimehbdleognkaa.JE
