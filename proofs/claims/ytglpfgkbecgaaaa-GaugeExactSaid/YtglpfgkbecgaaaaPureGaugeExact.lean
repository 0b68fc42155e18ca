/- The law GaugeExact: factors are found again from heights that they make. No condition. -/
import Derived.Test.YtglpfgkbecgaaaaJUx1
import Derived.Test.YtglpfgkbecgaaaaGaugeTwo
namespace Go.Proofs.Ytglpfgkbecgaaaa.Pure
open Go.Proofs.Ytglpfgkbecgaaaa.JU Go.Proofs.Ytglpfgkbecgaaaa.Own Go.RowKit Go.Proofs.YtglpfgkbecgaaaaW.PrintWords Go.Proofs.YtglpfgkbecgaaaaW.PrintLast

def hx (R : Mx) (P Q : Int) : List Int := R.map fun r => rd r 0 * P + rd r 1 * Q
theorem hx_sums : ∀ (R : Mx) (P Q : Int), T2 R (hx R P Q) 0 = SS R 0 0 * P + SS R 0 1 * Q ∧ T2 R (hx R P Q) 1 = SS R 0 1 * P + SS R 1 1 * Q ∧ HH (hx R P Q) = P * T2 R (hx R P Q) 0 + Q * T2 R (hx R P Q) 1
  | [], P, Q => by simp [hx, T2, Go.Proofs.Ytglpfgkbecgaaaa.JU.ST, SS, HH]
  | r :: R, P, Q => by
    obtain ⟨h1, h2, h3⟩ := hx_sums R P Q
    have e : hx (r :: R) P Q = (rd r 0 * P + rd r 1 * Q) :: hx R P Q := rfl
    rw [e, SS_cons, SS_cons, SS_cons, ST_cons, ST_cons, HH_cons, h3, h1, h2]
    generalize rd r 0 = x
    generalize rd r 1 = y
    generalize SS R 0 0 = a
    generalize SS R 0 1 = b
    generalize SS R 1 1 = d
    refine ⟨?_, ?_, ?_⟩ <;> grind


theorem exact_end {R : Mx} {P Q a0 a1 : Int} (hP : Int.tmod a0 50 = P) (hQ : Int.tmod a1 50 = Q) (bP : -49 ≤ P ∧ P ≤ 49) (bQ : -49 ≤ Q ∧ Q ≤ 49) (h6 : R.length ≤ 6) (hR : ∀ r ∈ R, okR 2 r) (hh : sm 1000 (hx R P Q)) :
    Goes (fun k => ephemeriskeep2_GaugeExact.l0 k R (hx R P Q) R R.length R.length a0 a1) true := by
  have hl : (hx R P Q).length = R.length := by simp [hx]
  have E : ∀ {nums : List Int} {den e : Int} {n d e' : Int}, Goes (fun k => gauge_Fit.f k R (hx R P Q)) (nums, den, e) → Goes (fun k => gauge_Residual.f k R (hx R P Q)) (n, d, e') →
      ((e = 0 ∧ e' = 0 ∧ n = 0 ∧ d = 1 ∧ den = 1 ∧ nums = [P, Q]) ∨ (e = 6 ∧ e' = 6) ∨ (e = 8 ∧ e' = 8 ∧ R.length = 0)) → Goes (fun k => ephemeriskeep2_GaugeExact.l0 k R (hx R P Q) R R.length R.length a0 a1) true := by
    intro nums den e n d e' F G hc
    refine Goes.step (g := fun k => (gauge_Fit.f k R (hx R P Q)).bind fun bt223 => ((gauge_Residual.f k R (hx R P Q)).bind fun bt229 => (if bt223.2.2 = 0 then (if bt229.2.2 = 0 then (if bt229.1 = 0 then (if bt229.2.1 = 1 then (if bt223.2.1 = 1 then (if (bt223.1.length : Int) = 2 then (if 0 < (bt223.1.length : Int) then (if (rd bt223.1 0) = P then (if 1 < (bt223.1.length : Int) then (some ((rd bt223.1 1) == Q)) else (none)) else (none)) else (none)) else (none)) else (none)) else (none)) else (none)) else (none)) else (if bt229.2.2 = bt223.2.2 then (if bt223.2.2 = 6 then (some true) else (if bt223.2.2 = 8 then (some ((R.length : Int) == 0)) else (none))) else (none))))) (fun k => ?_) ?_
    · simp only [ephemeriskeep2_GaugeExact.l0]
      rw [if_neg (by omega), hP, hQ]
    · refine Goes.bind F (Goes.bind G (Goes.of (fun k => ?_)))
      rcases hc with ⟨rfl, rfl, rfl, rfl, rfl, rfl⟩ | ⟨rfl, rfl⟩ | ⟨rfl, rfl, h0⟩
      · simp [rd, List.getD]
      · simp
      · simp [h0]
  by_cases c : R = []
  · subst c
    exact E fit_nil (res_err (by omega) fit_nil) (.inr (.inr ⟨rfl, rfl, rfl⟩))
  obtain ⟨s0, s1, s2⟩ := hx_sums R P Q
  have ba := SS_b (R := R) 0 0 hR
  have bb := SS_b (R := R) 0 1 hR
  have bd := SS_b (R := R) 1 1 hR
  have bp := ST_b (R := R) (hs := hx R P Q) 0 hR hh
  have bq := ST_b (R := R) (hs := hx R P Q) 1 hR hh
  have gm := gram (R := R) (hs := hx R P Q) hl
  have cf := check_f (K := 2) (by omega) (by omega) c hl h6 hR hh
  have nf := normal_two c hl h6 hR hh
  have en : N2 R (hx R P Q) = [[SS R 0 0, SS R 0 1, T2 R (hx R P Q) 0], [SS R 0 1, SS R 1 1, T2 R (hx R P Q) 1]] := by unfold N2; rw [SS_comm]
  rw [en] at nf
  generalize SS R 0 0 = a at *
  generalize SS R 0 1 = b at *
  generalize SS R 1 1 = d at *
  generalize T2 R (hx R P Q) 0 = p at *
  generalize T2 R (hx R P Q) 1 = q at *
  by_cases c0 : a * d - b * b = 0
  · have F := fit_m cf nf (fit_none (by omega) (by omega) (by omega) (by omega) (by omega) c0)
    exact E F (res_err (by omega) F) (.inr (.inl ⟨rfl, rfl⟩))
  · obtain ⟨g, n0, n1, D', hg, k1, k2, k3, k4, k5⟩ := fit_two (a := a) (b := b) (d := d) (p := p) (q := q) (by omega) (by omega) (by omega) (by omega) (by omega) (by omega)
    have F := fit_m cf nf k5
    have m0 : p * d - b * q = P * (a * d - b * b) := by rw [s0, s1]; grind
    have m1 : a * q - p * b = Q * (a * d - b * b) := by rw [s0, s1]; grind
    rw [m0] at k2 k4
    rw [m1] at k3 k4
    generalize hD : a * d - b * b = D at *
    have eg : g = D := by
      rw [Int.natAbs_mul, Int.natAbs_mul, Nat.gcd_eq_left (Nat.dvd_mul_left _ _), Nat.gcd_eq_left (Nat.dvd_mul_left _ _)] at k4
      omega
    subst eg
    have d1 : D' = 1 := by
      have : g * D' = g * 1 := by omega
      exact Int.eq_of_mul_eq_mul_left (by omega) this
    have e0 : n0 = P := by
      have : g * n0 = g * P := by rw [← k2]; exact Int.mul_comm _ _
      exact Int.eq_of_mul_eq_mul_left (by omega) this
    have e1 : n1 = Q := by
      have : g * n1 = g * Q := by rw [← k3]; exact Int.mul_comm _ _
      exact Int.eq_of_mul_eq_mul_left (by omega) this
    subst d1 e0 e1
    obtain ⟨g2, n, e, f1, f2, f3, f4, f5⟩ := res_two (by omega) (by omega) (by omega) (by omega) (by omega) (by omega) hh F nf
    have z : 1 * HH (hx R n0 n1) - n0 * p - n1 * q = 0 := by rw [s2]; omega
    rw [z] at f2 f4
    have g1 : g2 = 1 := by simp at f4; omega
    subst g1
    exact E F f5 (.inl ⟨rfl, rfl, by omega, by omega, rfl, rfl⟩)

theorem exact_loop {R : Mx} {P Q a0 a1 : Int} (hP : Int.tmod a0 50 = P) (hQ : Int.tmod a1 50 = Q) (bP : -49 ≤ P ∧ P ≤ 49) (bQ : -49 ≤ Q ∧ Q ≤ 49) (h6 : R.length ≤ 6) (hR : ∀ r ∈ R, okR 2 r) (hh : sm 1000 (hx R P Q)) :
    ∀ (rest : Mx) (i : Nat) (acc : List Int), R.drop i = rest → i + rest.length = R.length → acc.length ≤ 6 → acc ++ hx rest P Q = hx R P Q → Goes (fun k => ephemeriskeep2_GaugeExact.l0 k R acc R R.length i a0 a1) true
  | [], i, acc, hr, hi, ha, he => by
    have e : i = R.length := by simpa using hi
    have e2 : acc = hx R P Q := by simpa [hx] using he
    rw [e, e2]
    exact exact_end hP hQ bP bQ h6 hR hh
  | r :: rest, i, acc, hr, hi, ha, he => by
    have hle : (r :: rest).length = rest.length + 1 := rfl
    obtain ⟨e1, e2, e3⟩ := drop_cons_ hr
    have hm := hR r (List.mem_of_getElem? e3)
    have b0 := okR_rd hm 0
    have b1 := okR_rd hm 1
    have m0 := mul_b b0.1 b0.2 bP.1 bP.2
    have m1 := mul_b b1.1 b1.2 bQ.1 bQ.2
    have hl2 : r.length = 2 := hm.1
    have ll : acc.length + (r :: rest).length = R.length := by
      have := congrArg List.length he
      simpa [hx] using this
    refine Goes.step (fun k => ?_) (exact_loop (a0 := a0) (a1 := a1) hP hQ bP bQ h6 hR hh rest (i + 1) (acc ++ [rd r 0 * P + rd r 1 * Q]) e2 (by omega) (by simp; omega) (by rw [List.append_assoc]; exact he))
    simp only [ephemeriskeep2_GaugeExact.l0]
    rw [if_pos (by omega), if_pos (by omega), if_pos (by omega), rdL e3, if_pos (by omega), if_pos (by omega), if_pos (by omega), hP, hQ, wrap_in (n := rd r 0 * P) (by omega) (by omega), wrap_in (n := rd r 1 * Q) (by omega) (by omega), wrap_in (n := rd r 0 * P + rd r 1 * Q) (by omega) (by omega), wrap_in (n := (i : Int) + 1) (by omega) (by omega)]
    rfl

theorem GaugeExact : ephemeriskeep2_GaugeExact.Pure := by
  intro l0 a0 a1 hl _ _ _
  have hl' : l0.length ≤ 9223372036854775807 := by unfold maxLen at hl; omega
  obtain ⟨R, hr, h6, hR⟩ := readings_f (K := 2) (by omega) hl'
  have b0 := tmod_lt (a := a0) (m := 50) (by omega)
  have b1 := tmod_lt (a := a1) (m := 50) (by omega)
  have hh : sm 1000 (hx R (Int.tmod a0 50) (Int.tmod a1 50)) := by
    intro z hz
    obtain ⟨r, hr, rfl⟩ := List.mem_map.1 hz
    have c0 := okR_rd (hR r hr) 0
    have c1 := okR_rd (hR r hr) 1
    have m0 := mul_b (A := 10) (B := 49) c0.1 c0.2 (b := Int.tmod a0 50) (by omega) (by omega)
    have m1 := mul_b (A := 10) (B := 49) c1.1 c1.2 (b := Int.tmod a1 50) (by omega) (by omega)
    omega
  have G : Goes (fun k => ephemeriskeep2_GaugeExact.f k l0 a0 a1) true := by
    refine Goes.bind gauge_works ?_
    simp only [if_true]
    refine Goes.bind hr ?_
    exact exact_loop rfl rfl (by omega) (by omega) h6 hR hh R 0 [] rfl (by omega) (by simp) (by simp)
  obtain ⟨k0, h0⟩ := G
  exact ⟨k0, h0 k0 (Nat.le_refl _)⟩
end Go.Proofs.Ytglpfgkbecgaaaa.Pure
