/- The law TopSmear: a smeared clock goes on without a step, and far from leaps it is the one with leaps. No condition. -/
import Derived.Test.YtfmjlglkleinmaaSmearCore
import Derived.Test.YtfmjlglkleinmaaJEx2
namespace Go.Proofs.Ytfmjlglkleinmaa.Pure
open Go.Proofs.Ytfmjlglkleinmaa.JE Go.Proofs.Ytfmjlglkleinmaa.Own Go.RowKit Go.Proofs.YtfmjlglkleinmaaW.PrintWords Go.Proofs.YtfmjlglkleinmaaW.PrintLast

theorem sat_f {a m : Int} (h : 0 < m) (h' : m ≤ 4000000000000000000) : ephemeristop_sAt.f a m = some (a % m) := by
  unfold ephemeristop_sAt.f
  rw [if_neg (by omega), at_val h h']

/-- in a window twice the way is the most -/
theorem win_end {c h L f : Int} (h0 : 1000 ≤ h) (hf : f = 1 ∨ f = -1) (hL : L = 2 * h + f * 1000) (c0 : 0 ≤ c) : c * 2 * h / L ≤ 2 * c := by
  refine Int.ediv_le_of_le_mul (by omega) ?_
  have e : c * 2 * h = 2 * c * h := by rw [Int.mul_comm c 2]
  rw [e]
  exact Int.mul_le_mul_of_nonneg_left (by omega) (by omega)
theorem win_step {c d h L f : Int} (h0 : 1000 ≤ h) (hf : f = 1 ∨ f = -1) (hL : L = 2 * h + f * 1000) (cd : c ≤ d) : d * 2 * h / L ≤ c * 2 * h / L + 2 * (d - c) := by
  have Lp : 0 < L := by omega
  rw [← Int.add_mul_ediv_right _ _ (show L ≠ 0 by omega)]
  refine Int.ediv_le_ediv Lp ?_
  have e1 : d * 2 * h = c * 2 * h + 2 * (d - c) * h := by grind
  rw [e1]
  have := Int.mul_le_mul_of_nonneg_left (show h ≤ L by omega) (show 0 ≤ 2 * (d - c) by omega)
  omega
theorem win_all {h L : Int} (Lp : 0 < L) : L * 2 * h / L = 2 * h := by
  rw [Int.mul_assoc, Int.mul_ediv_cancel_left _ (by omega)]

/-- from a place ahead of the first window on -/
theorem sm_up0 {h y : Int} (hh : 1000 ≤ h) (hh' : h ≤ 43200000) : ∀ {l : List Lp} {p n x : Int}, okL p l → x - n * 1000 ≤ (p + 1) * 86400000 + h → x ≤ y → sm h y n l ≤ x - n * 1000 + 2 * (y - x)
  | [], p, n, x, _, _, hxy => by simp only [sm]; omega
  | s :: r, p, n, x, ⟨o1, o2, o3, o4⟩, hx, hxy => by
    have ih := sm_up0 (y := y) hh hh' (n := n + s.f1) (x := (s.f0 + 1) * 86400000 - h + 2 * h + (n + s.f1) * 1000) o4
    simp only [sm]
    split
    · omega
    · split
      · rename_i g1 g2
        have w := win_end (c := y - n * 1000 - ((s.f0 + 1) * 86400000 - h)) (L := 2 * h + s.f1 * 1000) hh o3 rfl (by omega)
        omega
      · have := ih (by omega) (by omega)
        rcases o3 with e | e <;> rw [e] at this ⊢ <;> omega

theorem sm_up {h x y : Int} (hh : 1000 ≤ h) (hh' : h ≤ 43200000) (hxy : x ≤ y) : ∀ {l : List Lp} {p n : Int}, okL p l → sm h y n l ≤ sm h x n l + 2 * (y - x)
  | [], p, n, _ => by simp only [sm]; omega
  | s :: r, p, n, ⟨o1, o2, o3, o4⟩ => by
    have ih := sm_up hh hh' hxy (n := n + s.f1) o4
    have up := sm_up0 (y := y) hh hh' (n := n + s.f1) (x := (s.f0 + 1) * 86400000 - h + 2 * h + (n + s.f1) * 1000) o4
    simp only [sm]
    by_cases a1 : x - n * 1000 < (s.f0 + 1) * 86400000 - h
    · rw [if_pos a1]
      split
      · omega
      · split
        · have w := win_end (c := y - n * 1000 - ((s.f0 + 1) * 86400000 - h)) (L := 2 * h + s.f1 * 1000) hh o3 rfl (by omega)
          omega
        · have := up (by omega) (by omega)
          rcases o3 with e | e <;> rw [e] at this ⊢ <;> omega
    · rw [if_neg a1]
      by_cases a2 : x - n * 1000 - ((s.f0 + 1) * 86400000 - h) < 2 * h + s.f1 * 1000
      · rw [if_pos a2, if_neg (by omega)]
        split
        · have w := win_step (c := x - n * 1000 - ((s.f0 + 1) * 86400000 - h)) (d := y - n * 1000 - ((s.f0 + 1) * 86400000 - h)) (L := 2 * h + s.f1 * 1000) hh o3 rfl (by omega)
          omega
        · have w := win_step (c := x - n * 1000 - ((s.f0 + 1) * 86400000 - h)) (d := 2 * h + s.f1 * 1000) (L := 2 * h + s.f1 * 1000) hh o3 rfl (by omega)
          rw [win_all (h := h) (L := 2 * h + s.f1 * 1000) (by omega)] at w
          have := up (by omega) (by omega)
          generalize (x - n * 1000 - ((s.f0 + 1) * 86400000 - h)) * 2 * h / (2 * h + s.f1 * 1000) = q at *
          rcases o3 with e | e <;> rw [e] at this w ⊢ <;> omega
      · rw [if_neg a2, if_neg (by omega), if_neg (by omega)]
        exact ih

theorem sm_zero {h : Int} (hh : 1000 ≤ h) (hh' : h ≤ 43200000) : ∀ {l : List Lp}, okL 0 l → sm h 0 0 l = 0
  | [], _ => by simp only [sm]; omega
  | s :: r, ⟨o1, o2, o3, o4⟩ => by
    simp only [sm]
    rw [if_pos (by omega)]; omega

theorem gap_day (day : Int) : ∀ l : List Lp, gap (day * 86400000) day l = false
  | [] => rfl
  | s :: r => by
    simp only [gap, Bool.or_eq_false_iff, decide_eq_false_iff_not]
    exact ⟨fun h => by omega, gap_day day r⟩

theorem top_loop {h0 a b : Int} (xs : List Int) (hx : xs.length ≤ 9223372036854775807)
    (H : ∀ (T : List Lp), okL 0 T → T.length ≤ 12 → ∃ k0, ∀ k, k0 ≤ k → ∀ d, ephemeristop_TopSmear.l0 (k + 1) h0 a b T d xs xs.length (xs.length : Int) = some true) :
    ∀ (rest : List Int) (i : Nat) (acc : List Lp) (d : Int), xs.drop i = rest → acc.length ≤ i → acc.length ≤ 12 → (i < 12 → acc.length = i) → 10 ≤ d → d ≤ 10 + 301 * acc.length →
    (∀ r : List Lp, okL d r → okL 0 (acc ++ r)) → ∃ k0, ∀ k, k0 ≤ k → ephemeristop_TopSmear.l0 k h0 a b acc d xs xs.length (i : Int) = some true
  | [], i, acc, d, hr, ha, h12, hi, d0, d1, ho => by
    have e := List.drop_eq_nil_iff.1 hr
    obtain ⟨k0, h⟩ := H acc (by have := ho [] trivial; rwa [List.append_nil] at this) h12
    refine ⟨k0 + 1, fun k hk => ?_⟩
    obtain ⟨k, rfl⟩ : ∃ m, k = m + 1 := ⟨k - 1, by omega⟩
    have hh := h k (by omega) d
    simp only [ephemeristop_TopSmear.l0] at hh ⊢
    rw [if_neg (by omega)] at hh ⊢
    exact hh
  | x :: rest, i, acc, d, hr, ha, h12, hi, d0, d1, ho => by
    obtain ⟨g1, g2, g3⟩ := drop_step hr
    have hrd : rd xs (i : Int) = x := by unfold rd; rw [Int.toNat_natCast]; exact g3 _
    by_cases c : i < 12
    · have ea := hi c
      have x1 : 0 ≤ x % 300 ∧ x % 300 < 300 := by omega
      have x2 : 0 ≤ x % 3 ∧ x % 3 < 3 := by omega
      obtain ⟨k0, h⟩ := top_loop xs hx H rest (i + 1) (acc ++ [⟨d + (2 + x % 300), 1 - 2 * (x % 3 / 2)⟩]) (d + (2 + x % 300)) g2 (by simp; omega) (by simp; omega) (fun _ => by simp; omega) (by omega) (by simp; omega) (fun r hr => by
        rw [List.append_assoc]
        refine ho _ ⟨?_, ?_, ?_, hr⟩ <;> dsimp only <;> omega)
      refine ⟨k0 + 1, fun k hk => ?_⟩
      obtain ⟨k, rfl⟩ : ∃ m, k = m + 1 := ⟨k - 1, by omega⟩
      simp only [ephemeristop_TopSmear.l0]
      rw [if_pos (by omega), if_pos (by omega), if_pos (by omega), if_pos (by omega), hrd, sat_f (by omega) (by omega), sat_f (by omega) (by omega)]
      simp only [Option.bind_some]
      rw [if_pos (by omega), tdiv_nn x2.1, wrap_in (n := x % 3 / 2) (by omega) (by omega), wrap_in (n := 2 + x % 300) (by omega) (by omega), wrap_in (n := d + (2 + x % 300)) (by omega) (by omega), wrap_in (n := 2 * (x % 3 / 2)) (by omega) (by omega), wrap_in (n := 1 - 2 * (x % 3 / 2)) (by omega) (by omega), wrap_in (n := (i : Int) + 1) (by omega) (by omega)]
      exact h k (by omega)
    · obtain ⟨k0, h⟩ := top_loop xs hx H rest (i + 1) acc d g2 (by omega) h12 (fun h => by omega) d0 d1 ho
      refine ⟨k0 + 1, fun k hk => ?_⟩
      obtain ⟨k, rfl⟩ : ∃ m, k = m + 1 := ⟨k - 1, by omega⟩
      simp only [ephemeristop_TopSmear.l0]
      rw [if_pos (by omega), if_pos (by omega), if_pos (by omega), if_neg (by omega), wrap_in (n := (i : Int) + 1) (by omega) (by omega)]
      exact h k (by omega)

theorem TopSmear : ephemeristop_TopSmear.Pure := by
  intro xs h0 a b hl _ _ _ _ _
  unfold maxLen at hl
  have key : ∀ (T : List Lp), okL 0 T → T.length ≤ 12 → ∃ k0, ∀ k, k0 ≤ k → ∀ d, ephemeristop_TopSmear.l0 (k + 1) h0 a b T d xs xs.length (xs.length : Int) = some true := by
    intro T ho hlen
    refine ⟨200, fun k hk d => ?_⟩
    simp only [ephemeristop_TopSmear.l0]
    rw [if_neg (by omega), sat_f (by omega) (by omega), sat_f (by omega) (by omega), sat_f (by omega) (by omega)]
    simp only [Option.bind_some]
    have hh : 0 ≤ h0 % 43199001 ∧ h0 % 43199001 < 43199001 := by omega
    have hc : 0 ≤ a % 345600000000 ∧ a % 345600000000 < 345600000000 := by omega
    have hm : 0 ≤ b % 1000000 ∧ b % 1000000 < 1000000 := by omega
    generalize h0 % 43199001 = h at *
    generalize a % 345600000000 = c at *
    generalize b % 1000000 = m at *
    rw [wrap_in (n := 1000 + h) (by omega) (by omega), wrap_in (n := c + m) (by omega) (by omega)]
    have g1 := sm_mono (h := 1000 + h) (x := c) (y := c + m) (by omega) (by omega) (by omega) (n := 0) ho
    have g2 := sm_inst (h := 1000 + h) (x := c) (by omega) (by omega) (n := 0) ho
    have g3 := sm_up (h := 1000 + h) (x := c) (y := c + m) (by omega) (by omega) (by omega) (n := 0) ho
    have g4 := sm_mono (h := 1000 + h) (x := 0) (y := c) (by omega) (by omega) (by omega) (n := 0) ho
    have g6 := sm_up (h := 1000 + h) (x := 0) (y := c) (by omega) (by omega) (by omega) (n := 0) ho
    rw [sm_zero (by omega) (by omega) ho] at g4 g6
    have b1 := inst_bd (x := c) (n := 0) ho (by omega) (by omega) (by omega) (by omega) (by omega)
    rw [smear_f T _ _ _ ho (by omega) (by omega) (by omega) (by omega) (by omega) (by omega), smear_f T _ _ _ ho (by omega) (by omega) (by omega) (by omega) (by omega) (by omega), instant_f T _ _ ho (by omega) (by omega) (by omega) (by omega)]
    simp only [Option.bind_some, if_true]
    generalize sm (1000 + h) c 0 T = u at *
    generalize sm (1000 + h) (c + m) 0 T = v at *
    have tm : Int.tmod u 86400000 = u % 86400000 := tmod_nn g4
    rw [tm, wrap_in (n := u - u % 86400000) (by omega) (by omega), show u - u % 86400000 = u / 86400000 * 86400000 by omega]
    generalize hq : u / 86400000 = q at *
    have q0 : 0 ≤ q ∧ q ≤ 8010 := by omega
    have sb := sumB_bd q ho
    have back := inst_back (q * 86400000) q (by omega) (by omega) (n := 0) ho (gap_day q T)
    rw [Int.zero_add] at back
    rw [count_f T (q * 86400000) _ ho (by omega) (by omega) (by omega) (by omega), show q * 86400000 / 86400000 = q by omega, gap_day]
    simp only [Bool.false_eq_true, if_false, Option.bind_some, if_true]
    rw [instant_f T _ _ ho (by omega) (by omega) (by omega) (by omega), back]
    simp only [Option.bind_some, if_true]
    rw [if_pos g1, wrap_in (n := v - u) (by omega) (by omega), wrap_in (n := 2 * m) (by omega) (by omega), wrap_in (n := 2 * m + 2) (by omega) (by omega), if_pos (by omega), wrap_in (n := u - (inst c 0 T).1) (by omega) (by omega), if_pos g2.1, wrap_in (n := (inst c 0 T).1 - u) (by omega) (by omega), if_pos g2.2]
    simp
  obtain ⟨k0, h⟩ := top_loop xs (by omega) key xs 0 [] 10 rfl (Nat.le_refl _) (by simp) (fun _ => rfl) (by omega) (by simp) (fun r hr => okL_mono (by omega) hr)
  refine ⟨k0 + 400, ?_⟩
  unfold ephemeristop_TopSmear.f
  have hw : ephemeristop_sClocks.f (k0 + 400) = some true :=
    at_rounds (fun k => ephemeristop_sClocks.mono k) (k := 400) (by omega) (by decide +kernel)
  rw [hw]
  simp only [Option.bind_some, if_true]
  exact h _ (by omega)

end Go.Proofs.Ytfmjlglkleinmaa.Pure
