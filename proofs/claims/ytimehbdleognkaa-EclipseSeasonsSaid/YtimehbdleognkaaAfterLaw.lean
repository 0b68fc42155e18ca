/- What series.After computes. No condition on a program. -/
import Derived.Test.YtimehbdleognkaaJEx1
import Derived.Test.YtimehbdleognkaaSkyLaw
namespace Go.Proofs.Ytimehbdleognkaa.JE
open Go.Proofs.Ytimehbdleognkaa.Own Go.Proofs.Ytimehbdleognkaa.Tp Go.RowKit Go.Proofs.YtimehbdleognkaaW.PrintWords Go.Proofs.YtimehbdleognkaaW.PrintLast

/-- the sign of an angle against a target, as the code tells it -/
def af (p q g : Int) : Int :=
  if 0 < (p - g + 500000000) % 1000000000 - 500000000 ∧ q - p + ((p - g + 500000000) % 1000000000 - 500000000) < 500000000 then 1
  else if q - p + ((p - g + 500000000) % 1000000000 - 500000000) < 0 ∧ -500000000 < (p - g + 500000000) % 1000000000 - 500000000 then -1 else 0
theorem after_f {p q g : Int} (h1 : 0 ≤ p) (h2 : p < 1000000000) (h3 : p ≤ q) (h4 : q ≤ 3000000000) (h5 : 0 ≤ g) (h6 : g < 1000000000) (k : Nat) (hk : 1 ≤ k) : series_After.f k p q g = some (af p q g) := by
  obtain ⟨k, rfl⟩ : ∃ m, k = m + 1 := ⟨k - 1, by omega⟩
  unfold series_After.f
  rw [wrap_in (n := p - g) (by omega) (by omega), wrap_in (n := q - g) (by omega) (by omega), wrap_in (n := p - g + 500000000) (by omega) (by omega), sfloor_ (by omega) (by omega) (by omega) (by omega)]
  simp only [Option.bind_some]
  rw [wrap_in (n := (p - g + 500000000) / 1000000000 * 1000000000) (by omega) (by omega), wrap_in (n := p - g - (p - g + 500000000) / 1000000000 * 1000000000) (by omega) (by omega), wrap_in (n := q - g - (p - g + 500000000) / 1000000000 * 1000000000) (by omega) (by omega)]
  have e1 : p - g - (p - g + 500000000) / 1000000000 * 1000000000 = (p - g + 500000000) % 1000000000 - 500000000 := by omega
  have e2 : q - g - (p - g + 500000000) / 1000000000 * 1000000000 = q - p + ((p - g + 500000000) % 1000000000 - 500000000) := by omega
  rw [e1, e2]
  unfold af
  generalize (p - g + 500000000) % 1000000000 - 500000000 = x
  simp only [series_After.j0]
  have fin : (if x + (q - p) < 0 then (if -500000000 < x then some (-1 : Int) else some 0) else some 0) = some (if x + (q - p) < 0 ∧ -500000000 < x then -1 else 0) := by
    by_cases c3 : x + (q - p) < 0
    · by_cases c4 : -500000000 < x
      · rw [if_pos c3, if_pos c4, if_pos ⟨c3, c4⟩]
      · rw [if_pos c3, if_neg c4, if_neg (fun h => c4 h.2)]
    · rw [if_neg c3, if_neg (fun h => c3 h.1)]
  rw [show q - p + x = x + (q - p) by omega]
  by_cases c1 : 0 < x
  · rw [if_pos c1]
    by_cases c2 : x + (q - p) < 500000000
    · rw [decide_eq_true c2]
      simp only [if_true]
      rw [if_pos ⟨c1, c2⟩]
    · rw [decide_eq_false c2]
      simp only [Bool.false_eq_true, if_false]
      rw [if_neg (c := 0 < x ∧ x + (q - p) < 500000000) (fun h => c2 h.2)]
      exact fin
  · rw [if_neg c1, if_neg (c := 0 < x ∧ x + (q - p) < 500000000) (fun h => c1 h.1)]
    exact fin

/-- the sign follows the true number, where it is within half a turn -/
theorem af_true {p q g K w : Int} {R E : Rat} (a : Ang p q R w) (hw : w ≤ 1000000) (hE : E = R - (g : Rat) - 1000000000 * (K : Rat)) (e1 : -480000000 ≤ E) (e2 : E ≤ 480000000) :
    (¬ af p q g < 0 → -(w : Rat) ≤ E) ∧ (¬ 0 < af p q g → E ≤ (w : Rat)) ∧ (af p q g < 0 → E < 0) ∧ (0 < af p q g → 0 < E) := by
  obtain ⟨p0, p1, pq, hwd, j, b1, b2⟩ := a
  have cT : ((1000000000 : Int) : Rat) = 1000000000 := by decide +kernel
  have c1 : ((-481000000 : Int) : Rat) = -481000000 := by decide +kernel
  have c2 : ((481000000 : Int) : Rat) = 481000000 := by decide +kernel
  have cM : ((1000000 : Int) : Rat) = 1000000 := by decide +kernel
  have z0 : ((0 : Int) : Rat) = 0 := by decide +kernel
  have hw' := ic hw
  have wd' := ic hwd
  rw [cM] at hw'
  rw [Rat.intCast_sub] at wd'
  -- x is the lower bound less the target, by whole turns
  obtain ⟨x, hx⟩ : ∃ x : Int, x = p - g + 1000000000 * (j - K) := ⟨_, rfl⟩
  have xr : (x : Rat) = (p : Rat) - (g : Rat) + 1000000000 * ((j : Rat) - (K : Rat)) := by
    rw [hx, Rat.intCast_add, Rat.intCast_sub, Rat.intCast_mul, cT, Rat.intCast_sub]
  have x1 : (x : Rat) ≤ E := by rw [xr, hE]; grind
  have x2 : E ≤ (x : Rat) + (w : Rat) := by rw [xr, hE]; grind
  have x3 : E ≤ (x : Rat) + ((q - p : Int) : Rat) := by rw [xr, hE, Rat.intCast_sub]; grind
  have l1 : -481000000 ≤ x := by apply ci; rw [c1]; grind
  have l2 : x ≤ 481000000 := by apply ci; rw [c2]; grind
  have en : (p - g + 500000000) % 1000000000 - 500000000 = x := by omega
  unfold af
  rw [en]
  refine ⟨fun h => ?_, fun h => ?_, fun h => ?_, fun h => ?_⟩
  · have : 0 ≤ q - p + x := by
      rcases Int.lt_or_le (q - p + x) 0 with f | f
      · exfalso; apply h; rw [if_neg (by omega), if_pos ⟨f, by omega⟩]; decide
      · exact f
    have := ic this
    rw [Rat.intCast_add, Rat.intCast_sub, z0] at this
    grind
  · have : x ≤ 0 := by
      rcases Int.lt_or_le 0 x with f | f
      · exfalso; apply h; rw [if_pos ⟨f, by omega⟩]; decide
      · exact f
    have := ic this
    rw [z0] at this
    grind
  · have : q - p + x < 0 := by
      rcases Int.lt_or_le (q - p + x) 0 with f | f
      · exact f
      · exfalso
        rw [if_neg (c := q - p + x < 0 ∧ -500000000 < x) (by omega)] at h
        split at h <;> omega
    have := Rat.intCast_lt_intCast.2 this
    rw [Rat.intCast_add, z0] at this
    grind
  · have : 0 < x := by
      rcases Int.lt_or_le 0 x with f | f
      · exact f
      · exfalso
        rw [if_neg (by omega)] at h
        split at h <;> omega
    have := Rat.intCast_lt_intCast.2 this
    rw [z0] at this
    grind
end Go.Proofs.Ytimehbdleognkaa.JE
