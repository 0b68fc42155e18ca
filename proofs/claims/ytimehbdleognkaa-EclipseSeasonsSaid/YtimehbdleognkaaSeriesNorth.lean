/- The eclipse's facts: what eclipse.Find computes about the sun. No condition on a program. -/
import Derived.Test.YtimehbdleognkaaJEx1
import Derived.Test.YtimehbdleognkaaPhaseLaw
import Derived.Test.YtimehbdleognkaaSumLaw
namespace Go.Proofs.Ytimehbdleognkaa.JE
open Go.Proofs.Ytimehbdleognkaa.Own Go.Proofs.Ytimehbdleognkaa.Tp Go.RowKit Go.Proofs.YtimehbdleognkaaW.PrintWords Go.Proofs.YtimehbdleognkaaW.PrintLast

def northL : List S51 := [⟨14244783, 648500531, 36748195111111⟩, ⟨779450, 747884547, 73039842194444⟩, ⟨771369, 450883485, (-456548027778)⟩]
theorem northL_ok : ∀ x ∈ northL, tok x := by decide +kernel

theorem slope_north : ∃ v1 v2 : Int, (-1000000000000 ≤ v1 ∧ v1 ≤ 1000000000000 ∧ 0 ≤ v2 ∧ v2 ≤ 1000000000000) ∧ ∃ K1, ∀ k, K1 ≤ k → series_Slope.f k 0 0 northL 20000 = some (v1, v2, 0) := by
  obtain ⟨v, hv⟩ : ∃ v, series_Slope.f 60 0 0 northL 20000 = some v ∧ (-1000000000000 ≤ v.1 ∧ v.1 ≤ 1000000000000 ∧ 0 ≤ v.2.1 ∧ v.2.1 ≤ 1000000000000) ∧ v.2.2 = 0 := by
    have : (series_Slope.f 60 0 0 northL 20000).any (fun v => decide (-1000000000000 ≤ v.1 ∧ v.1 ≤ 1000000000000 ∧ 0 ≤ v.2.1 ∧ v.2.1 ≤ 1000000000000) && decide (v.2.2 = 0)) = true := by decide +kernel
    cases hs : series_Slope.f 60 0 0 northL 20000 with
    | none => rw [hs] at this; simp at this
    | some v =>
      rw [hs] at this
      simp only [Option.any_some, Bool.and_eq_true, decide_eq_true_eq] at this
      exact ⟨v, rfl, this.1, this.2⟩
  obtain ⟨v1, v2, v3⟩ := v
  obtain ⟨h1, h2, h3⟩ := hv
  simp only at h2 h3
  subst h3
  exact ⟨v1, v2, h2, of_mono (series_Slope.mono _ _ _ _) h1⟩

theorem ceil_e {a b : Int} (hb : 0 < b) (hb' : b ≤ 9000000000000000000) (ha : -9000000000000000000 ≤ a) (ha' : a ≤ 9000000000000000000) (h : -9000000000000000000 ≤ (-a) / b ∧ (-a) / b ≤ 9000000000000000000) : interval_Ceil.f a b = some (-((-a) / b)) := by
  unfold interval_Ceil.f
  rw [wrap_in (n := -a) (by omega) (by omega), sfloor_ hb hb' (by omega) (by omega)]
  simp only [Option.bind_some]
  rw [wrap_in (by omega) (by omega)]

theorem esize_f {a b : Int} (h : a ≤ b) (h1 : -100000000000 ≤ a) (h2 : b ≤ 100000000000) : ∃ s1 s2, 0 ≤ s1 ∧ s1 ≤ s2 ∧ s2 ≤ 100000000000 ∧ (-s2 ≤ a ∧ b ≤ s2) ∧ (0 < s1 → s1 ≤ a ∨ b ≤ -s1) ∧ eclipse_size.f a b = some (s1, s2) := by
  unfold eclipse_size.f
  by_cases c : a ≥ 0
  · exact ⟨a, b, by omega, h, h2, by omega, fun _ => Or.inl (Int.le_refl _), if_pos c⟩
  · rw [if_neg c]
    by_cases d : b ≤ 0
    · refine ⟨-b, -a, by omega, by omega, by omega, by omega, fun _ => Or.inr (by omega), ?_⟩
      rw [if_pos d, wrap_in (n := -b) (by omega) (by omega), wrap_in (n := -a) (by omega) (by omega)]
    · refine ⟨0, mx (-a) b, Int.le_refl _, ?_, ?_, ?_, fun h => absurd h (by decide), ?_⟩
      · simp only [mx]; split <;> omega
      · simp only [mx]; split <;> omega
      · simp only [mx]; split <;> omega
      · rw [if_neg d, wrap_in (n := -a) (by omega) (by omega)]

theorem lat_f {t : Int} (h3 : -345600000000000 ≤ t) (h4 : t < 345600086400000) : ∃ a b : Int, a ≤ b ∧ -4000000000 ≤ a ∧ b ≤ 4000000000 ∧ ((a : Rat) ≤ rl northL t ∧ rl northL t ≤ (b : Rat)) ∧ ∀ k, 53 ≤ k → moon_Latitude.f k t = some (a, b, 0) := by
  have s := sl_b northL_ok t
  have ln : ((northL.length : Nat) : Int) = 3 := rfl
  rw [ln] at s
  have r := sl_rl northL t
  refine ⟨0 - 20000 + (sl northL t).1, 0 + 20000 + (sl northL t).2, by omega, by omega, by omega, ⟨Rat.le_trans (ic (show 0 - 20000 + (sl northL t).1 ≤ (sl northL t).1 by omega)) r.1, Rat.le_trans r.2 (ic (show (sl northL t).2 ≤ 0 + 20000 + (sl northL t).2 by omega))⟩, fun k hk => ?_⟩
  unfold moon_Latitude.f moon_North.f
  simp only [Option.bind_some]
  have v := value_f (l := northL) (by decide) northL_ok h3 h4 (mean := 0) (rate := 0) (rest := 20000) (by omega) (by omega) (by omega) (by omega) (by omega) (by omega) k hk
  unfold northL at v ⊢
  rw [v]
  rfl

/-- what Find tells of an eclipse of the sun -/
def eout (L R a b s1 s2 t : Int) : Int × Int × Int × Int × Int × Int × Int × Int :=
  if s1 > 4100000 then (0, L, R, a, b, 0, 0, 0) else if s2 < 2500000 then (2, L, R, a, b, wrap64 (Int.tdiv (wrap64 (wrap64 (4100000 - s2) * 1000)) 4100000), t, 0) else
  if s1 > 2500000 then (if s2 < 4100000 then (1, L, R, a, b, wrap64 (Int.tdiv (wrap64 (wrap64 (4100000 - s2) * 1000)) 4100000), t, 0) else (0, 0, 0, 0, 0, 0, 0, 11)) else (0, 0, 0, 0, 0, 0, 0, 11)

theorem efind_r {l : Int} (h1 : -100000 ≤ l) (h2 : l ≤ 100000) : ∃ (r : Int × Int × Int × Int × Int × Int × Int × Int) (K1 : Nat) (L R : Int), ((r.2.2.2.2.2.2.2 = 0 ∨ r.2.2.2.2.2.2.2 = 11) ∧ (r.1 = 2 → 391 ≤ r.2.2.2.2.2.2.1) ∧ (r.1 = 1 → r.2.2.2.2.2.1 ≤ 390) ∧ ∀ k, K1 ≤ k → eclipse_Find.f k l 0 = some r) ∧
    (pmid l 0 - 172800000 ≤ L ∧ L < R ∧ R ≤ pmid l 0 + 172800000 ∧ R - L ≤ 600000 ∧ pe l 0 L < 0 ∧ 0 < pe l 0 R) ∧ (r.1 = 2 → -2500000 ≤ rl northL L ∧ rl northL L ≤ 2500000) ∧ (r.1 = 0 → r.2.2.2.2.2.2.2 = 0 → rl northL L < -4100000 ∨ 4100000 < rl northL L) := by
  obtain ⟨L, R, K1, b1, b2, b3, b4, b6, b7, f1⟩ := pfind_f (k := l) (q := 0) h1 h2 (by omega) (by omega)
  have rg : -300000000000000 ≤ pmid l 0 - 172800000 ∧ pmid l 0 + 172800000 ≤ 300000000000000 := by unfold pmid; omega
  obtain ⟨a, b, ab, a1, b5, ⟨ra, rb⟩, la⟩ := lat_f (t := L) (by omega) (by omega)
  obtain ⟨v1, v2, vb, K2, sp⟩ := slope_north
  have hM : ∃ M, mx (wrap64 (-v1)) v2 = M ∧ 0 ≤ M ∧ M ≤ 1000000000000 := by
    rw [wrap_in (n := -v1) (by omega) (by omega)]
    refine ⟨_, rfl, ?_, ?_⟩ <;> (simp only [mx]; split <;> omega)
  obtain ⟨M, hM, M0, M1⟩ := hM
  have p0 : 0 ≤ M * (R - L) ∧ M * (R - L) ≤ 1000000000000 * 600000 := ⟨Int.mul_nonneg M0 (by omega), Int.mul_le_mul M1 b4 (by omega) (by omega)⟩
  have wp : wrap64 (M * wrap64 (R - L)) = M * (R - L) := by rw [wrap_in (n := R - L) (by omega) (by omega), wrap_in (by omega) (by omega)]
  generalize M * (R - L) = P at *
  have hc : interval_Ceil.f P 86400000 = some (-((-P) / 86400000)) := ceil_e (by omega) (by omega) (by omega) (by omega) (by omega)
  obtain ⟨e, he⟩ : ∃ e, e = -((-P) / 86400000) := ⟨_, rfl⟩
  have eb : 0 ≤ e ∧ e ≤ 7000000000 := by omega
  rw [← he] at hc
  obtain ⟨s1, s2, s0, s12, s3, sab, sfar, hs⟩ := esize_f (a := a - e) (b := b + e) (by omega) (by omega) (by omega)
  have wc : wrap64 (wrap64 (4100000 - s1) * 1000) = (4100000 - s1) * 1000 := by rw [wrap_in (n := 4100000 - s1) (by omega) (by omega), wrap_in (by omega) (by omega)]
  have ht : interval_Ceil.f ((4100000 - s1) * 1000) 4100000 = some (-((-((4100000 - s1) * 1000)) / 4100000)) := ceil_e (by omega) (by omega) (by omega) (by omega) (by omega)
  obtain ⟨t, tt⟩ : ∃ t, t = -((-((4100000 - s1) * 1000)) / 4100000) := ⟨_, rfl⟩
  rw [← tt] at ht
  refine ⟨eout L R (a - e) (b + e) s1 s2 t, K1 + K2 + 60, L, R, ⟨?_, ?_, ?_, fun k hk => ?_⟩, ⟨b1, b2, b3, b4, b6, b7⟩, ?_, ?_⟩
  rotate_right
  · have big : (eout L R (a - e) (b + e) s1 s2 t).1 = 0 → (eout L R (a - e) (b + e) s1 s2 t).2.2.2.2.2.2.2 = 0 → s1 > 4100000 := by
      unfold eout
      split
      · intro _ _; assumption
      · split
        · intro h; simp at h
        · split
          · split
            · intro h; simp at h
            · intro _ h; simp at h
          · intro _ h; simp at h
    intro h g
    have := big h g
    have c1 : ((-4100000 : Int) : Rat) = -4100000 := by decide +kernel
    have c2 : ((4100000 : Int) : Rat) = 4100000 := by decide +kernel
    have one : ((1 : Int) : Rat) = 1 := by decide +kernel
    rcases sfar (by omega) with q | q
    · refine Or.inr ?_
      have q1 := ic (show 4100000 + 1 ≤ a by omega)
      rw [Rat.intCast_add, c2, one] at q1
      grind
    · refine Or.inl ?_
      have q1 := ic (show b + 1 ≤ -4100000 by omega)
      rw [Rat.intCast_add, c1, one] at q1
      grind
  rotate_right
  · have big : (eout L R (a - e) (b + e) s1 s2 t).1 = 2 → s2 < 2500000 := by
      unfold eout
      split
      · intro h; simp at h
      · split
        · intro _; assumption
        · split
          · split
            · intro h; simp at h
            · intro h; simp at h
          · intro h; simp at h
    intro h
    have := big h
    have q1 := ic (show -2500000 ≤ a by omega)
    have q2 := ic (show b ≤ 2500000 by omega)
    have c1 : ((-2500000 : Int) : Rat) = -2500000 := by decide +kernel
    have c2 : ((2500000 : Int) : Rat) = 2500000 := by decide +kernel
    rw [c1] at q1
    rw [c2] at q2
    exact ⟨Rat.le_trans q1 ra, Rat.le_trans rb q2⟩
  · unfold eout
    split
    · exact Or.inl rfl
    · split
      · exact Or.inl rfl
      · split
        · split
          · exact Or.inl rfl
          · exact Or.inr rfl
        · exact Or.inr rfl
  · unfold eout
    split
    · intro h; simp at h
    · split
      · intro _; show 391 ≤ t; omega
      · split
        · split
          · intro h; simp at h
          · intro h; simp at h
        · intro h; simp at h
  · unfold eout
    split
    · intro h; simp at h
    · split
      · intro h; simp at h
      · split
        · split
          · intro _
            show wrap64 (Int.tdiv (wrap64 (wrap64 (4100000 - s2) * 1000)) 4100000) ≤ 390
            rw [wrap_in (n := 4100000 - s2) (by omega) (by omega), wrap_in (n := (4100000 - s2) * 1000) (by omega) (by omega), tdiv_nn (by omega), wrap_in (by omega) (by omega)]
            omega
          · intro h; simp at h
        · intro h; simp at h
  · obtain ⟨k, rfl⟩ : ∃ m, k = m + 1 := ⟨k - 1, by omega⟩
    unfold eclipse_Find.f
    rw [if_pos rfl]
    simp only [eclipse_Find.j0]
    have np : moon_North.f = some (0, 0, northL, 20000) := rfl
    have lp : eclipse_Limits.f 0 = some (2500000, 4100000) := rfl
    rw [if_neg (by decide), f1 k (by omega)]
    simp only [Option.bind_some, if_true]
    rw [la k (by omega), np]
    simp only [Option.bind_some]
    rw [sp k (by omega)]
    simp only [Option.bind_some]
    rw [hM, wp, hc, lp]
    simp only [Option.bind_some]
    rw [wrap_in (n := a - e) (by omega) (by omega), wrap_in (n := b + e) (by omega) (by omega), hs]
    simp only [Option.bind_some]
    rw [wc, ht]
    simp only [Option.bind_some]
    have nz : ¬ (4100000 : Int) = 0 := by decide
    simp only [if_neg nz]
    unfold eout
    split
    · rfl
    · split
      · rfl
      · split
        · split <;> rfl
        · rfl
theorem efind_f {l : Int} (h1 : -100000 ≤ l) (h2 : l ≤ 100000) : ∃ (r : Int × Int × Int × Int × Int × Int × Int × Int) (K1 : Nat), (r.2.2.2.2.2.2.2 = 0 ∨ r.2.2.2.2.2.2.2 = 11) ∧ (r.1 = 2 → 391 ≤ r.2.2.2.2.2.2.1) ∧ (r.1 = 1 → r.2.2.2.2.2.1 ≤ 390) ∧ ∀ k, K1 ≤ k → eclipse_Find.f k l 0 = some r := by
  obtain ⟨r, K1, _, _, h, _⟩ := efind_r h1 h2
  exact ⟨r, K1, h⟩
end Go.Proofs.Ytimehbdleognkaa.JE
