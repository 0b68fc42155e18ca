/- The law GaugeLeast: no other factors have a lesser sum of squares. No condition. -/
import Derived.Test.YtglpfgkbecgaaaaJUx1
import Derived.Test.YtglpfgkbecgaaaaGaugeTwo
namespace Go.Proofs.Ytglpfgkbecgaaaa.Pure
open Go.Proofs.Ytglpfgkbecgaaaa.JU Go.Proofs.Ytglpfgkbecgaaaa.Own Go.RowKit Go.Proofs.YtglpfgkbecgaaaaW.PrintWords Go.Proofs.YtglpfgkbecgaaaaW.PrintLast

/-- the numbers at the end: n / e is at most s -/
theorem least_num {D HHs p q N0 N1 g D' n0 n1 g2 n e s : Int} (hg : 0 < g) (hg2 : 0 < g2) (hD : D = g * D') (h0 : N0 = g * n0) (h1 : N1 = g * n1) (hn : D' * HHs - n0 * p - n1 * q = g2 * n) (he : D' = g2 * e) (hDp : 0 < D)
    (hpos : 0 ≤ D * HHs - N0 * p - N1 * q) (hle : D * HHs - N0 * p - N1 * q ≤ D * s) : 0 ≤ n ∧ 0 < e ∧ n ≤ e * s := by
  have k1 : D * HHs - N0 * p - N1 * q = (g * g2) * n := by
    rw [hD, h0, h1, Int.mul_assoc g g2 n, ← hn]; grind
  have k2 : D = (g * g2) * e := by rw [hD, he, Int.mul_assoc]
  have hG : 0 < g * g2 := Int.mul_pos hg hg2
  rw [k1] at hpos hle
  rw [k2] at hle
  have hle2 : (g * g2) * n ≤ (g * g2) * (e * s) := by rw [← Int.mul_assoc (g * g2) e s]; exact hle
  rw [k2] at hDp
  refine ⟨?_, ?_, Int.le_of_mul_le_mul_left hle2 hG⟩
  · have : (g * g2) * 0 ≤ (g * g2) * n := by omega
    exact Int.le_of_mul_le_mul_left this hG
  · have : (g * g2) * 0 < (g * g2) * e := by omega
    exact Int.lt_of_mul_lt_mul_left this (by omega)
theorem least_div {n e s : Int} (h0 : 0 ≤ n) (h1 : 0 < e) (h2 : n ≤ e * s) : Int.tdiv n e ≤ s ∧ (Int.tmod n e = 0 ∨ Int.tdiv n e < s) := by
  rw [Int.tdiv_eq_ediv_of_nonneg h0, Int.tmod_eq_emod_of_nonneg h0]
  have a := Int.emod_add_mul_ediv n e
  have b := Int.emod_nonneg n (b := e) (by omega)
  constructor
  · have := Int.ediv_le_ediv h1 h2
    rw [Int.mul_ediv_cancel_left s (by omega)] at this
    exact this
  · by_cases c : n % e = 0
    · exact .inl c
    · right
      have : e * (n / e) < e * s := by omega
      exact Int.lt_of_mul_lt_mul_left this (by omega)

theorem least_ineq {a b d p q HHs P Q E : Int} (hE : E = HHs - 2 * (P * p + Q * q) + a * P * P + 2 * b * P * Q + d * Q * Q) (hD : 0 < a * d - b * b)
    (q1 : 0 ≤ (a * d - b * b) * (a * d - b * b) * HHs - 2 * (a * d - b * b) * ((p * d - b * q) * p + (a * q - p * b) * q) + a * (p * d - b * q) * (p * d - b * q) + 2 * b * (p * d - b * q) * (a * q - p * b) + d * (a * q - p * b) * (a * q - p * b))
    (q2 : 0 ≤ a * ((a * d - b * b) * P - (p * d - b * q)) * ((a * d - b * b) * P - (p * d - b * q)) + 2 * b * ((a * d - b * b) * P - (p * d - b * q)) * ((a * d - b * b) * Q - (a * q - p * b)) + d * ((a * d - b * b) * Q - (a * q - p * b)) * ((a * d - b * b) * Q - (a * q - p * b))) :
    0 ≤ (a * d - b * b) * HHs - (p * d - b * q) * p - (a * q - p * b) * q ∧ (a * d - b * b) * HHs - (p * d - b * q) * p - (a * q - p * b) * q ≤ (a * d - b * b) * E := by
  have i0 : a * (p * d - b * q) + b * (a * q - p * b) = p * (a * d - b * b) := by grind
  have i1 : b * (p * d - b * q) + d * (a * q - p * b) = q * (a * d - b * b) := by grind
  generalize p * d - b * q = N0 at *
  generalize a * q - p * b = N1 at *
  generalize a * d - b * b = D at *
  have e1 : D * D * HHs - 2 * D * (N0 * p + N1 * q) + a * N0 * N0 + 2 * b * N0 * N1 + d * N1 * N1 = D * (D * HHs - N0 * p - N1 * q) := by
    have x1 : a * N0 * N0 + 2 * b * N0 * N1 + d * N1 * N1 = N0 * (a * N0 + b * N1) + N1 * (b * N0 + d * N1) := by grind
    rw [i0, i1] at x1
    grind
  have e2 : a * (D * P - N0) * (D * P - N0) + 2 * b * (D * P - N0) * (D * Q - N1) + d * (D * Q - N1) * (D * Q - N1) = D * (D * E - (D * HHs - N0 * p - N1 * q)) := by
    have x1 : a * N0 * N0 + 2 * b * N0 * N1 + d * N1 * N1 = N0 * (a * N0 + b * N1) + N1 * (b * N0 + d * N1) := by grind
    have x2 : a * (D * P - N0) * (D * P - N0) + 2 * b * (D * P - N0) * (D * Q - N1) + d * (D * Q - N1) * (D * Q - N1) = D * D * (a * P * P + 2 * b * P * Q + d * Q * Q) - 2 * D * (P * (a * N0 + b * N1) + Q * (b * N0 + d * N1)) + (a * N0 * N0 + 2 * b * N0 * N1 + d * N1 * N1) := by grind
    rw [x2, x1, i0, i1, hE]
    grind
  rw [e1] at q1
  rw [e2] at q2
  constructor
  · have : D * 0 ≤ D * (D * HHs - N0 * p - N1 * q) := by omega
    exact Int.le_of_mul_le_mul_left this hD
  · have : D * 0 ≤ D * (D * E - (D * HHs - N0 * p - N1 * q)) := by omega
    have := Int.le_of_mul_le_mul_left this hD
    omega

theorem EE_b : ∀ {R : Mx} {hs : List Int} {P Q : Int}, (-99 ≤ P ∧ P ≤ 99) → (-99 ≤ Q ∧ Q ≤ 99) → (∀ r ∈ R, okR 2 r) → sm 1000 hs → 0 ≤ EE R hs P Q ∧ EE R hs P Q ≤ 10000000 * (R.length : Int)
  | [], hs, P, Q, _, _, _, _ => by simp [EE]
  | r :: R, [], P, Q, _, _, _, _ => by simp [EE]; omega
  | r :: R, h :: hs, P, Q, hP, hQ, hr, hh => by
    have ih := EE_b (R := R) (hs := hs) hP hQ (fun x hx => hr x (List.mem_cons_of_mem _ hx)) (fun x hx => hh x (List.mem_cons_of_mem _ hx))
    have b0 := okR_rd (hr r (by simp)) 0
    have b1 := okR_rd (hr r (by simp)) 1
    have m0 := mul_b b0.1 b0.2 hP.1 hP.2
    have m1 := mul_b b1.1 b1.2 hQ.1 hQ.2
    have b := hh h (by simp)
    have e : EE (r :: R) (h :: hs) P Q = (h - rd r 0 * P - rd r 1 * Q) * (h - rd r 0 * P - rd r 1 * Q) + EE R hs P Q := by simp [EE]
    generalize hx : h - rd r 0 * P - rd r 1 * Q = x at *
    have s := sq_nn x
    have s2 := mul_b (A := 3000) (B := 3000) (a := x) (b := x) (by omega) (by omega) (by omega) (by omega)
    rw [e, List.length_cons]
    omega
theorem EE_snoc {R : Mx} {hs : List Int} {r : List Int} {h P Q : Int} (hl : hs.length = R.length) : EE (R ++ [r]) (hs ++ [h]) P Q = EE R hs P Q + (h - rd r 0 * P - rd r 1 * Q) * (h - rd r 0 * P - rd r 1 * Q) := by
  unfold EE
  rw [List.zipWith_append hl.symm, List.sum_append]
  simp

theorem least_end {R : Mx} {hs l1 : List Int} {P Q a0 a1 : Int} (bP : -99 ≤ P ∧ P ≤ 99) (bQ : -99 ≤ Q ∧ Q ≤ 99) (h6 : R.length ≤ 6) (hR : ∀ r ∈ R, okR 2 r) (hh : sm 1000 hs) (hl : hs.length = R.length) :
    Goes (fun k => ephemeriskeep2_GaugeLeast.l0 k R l1 hs (EE R hs P Q) R R.length R.length a0 a1) true := by
  have E : ∀ {n d e' : Int}, Goes (fun k => gauge_Residual.f k R hs) (n, d, e') →
      ((e' = 0 ∧ 0 ≤ n ∧ 0 < d ∧ n ≤ d * EE R hs P Q) ∨ (e' ≠ 0 ∧ n = 0 ∧ d = 0)) → Goes (fun k => ephemeriskeep2_GaugeLeast.l0 k R l1 hs (EE R hs P Q) R R.length R.length a0 a1) true := by
    intro n d e' G hc
    refine Goes.step (g := fun k => (gauge_Residual.f k R hs).bind fun bt251 => (if bt251.2.2 = 0 then (if bt251.1 ≥ 0 then (if bt251.2.1 > 0 then (if bt251.2.1 = 0 then (none) else (if (wrap64 (Int.tdiv bt251.1 bt251.2.1)) ≤ EE R hs P Q then (if (Int.tmod bt251.1 bt251.2.1) = 0 then (some true) else (some (decide ((wrap64 (Int.tdiv bt251.1 bt251.2.1)) < EE R hs P Q)))) else (none))) else (none)) else (none)) else (if bt251.1 = 0 then (some (bt251.2.1 == 0)) else (none)))) (fun k => ?_) ?_
    · simp only [ephemeriskeep2_GaugeLeast.l0]
      rw [if_neg (by omega)]
    · refine Goes.bind G (Goes.of (fun k => ?_))
      rcases hc with ⟨rfl, c1, c2, c3⟩ | ⟨c0, rfl, rfl⟩
      · obtain ⟨d1, d2⟩ := least_div c1 c2 c3
        have be := EE_b (R := R) (hs := hs) bP bQ hR hh
        have dn : 0 ≤ Int.tdiv n d := Int.tdiv_nonneg c1 (by omega)
        simp only [if_true]
        rw [if_pos c1, if_pos c2, if_neg (by omega), wrap_in (by omega) (by omega), if_pos d1]
        by_cases c : Int.tmod n d = 0
        · rw [if_pos c]
        · rw [if_neg c, decide_eq_true (d2.resolve_left c)]
      · simp only
        rw [if_neg c0, if_pos (by trivial)]
        rfl
  by_cases c : R = []
  · subst c
    have : hs = [] := List.length_eq_zero_iff.1 hl
    subst this
    exact E (res_err (by omega) fit_nil) (.inr ⟨by omega, rfl, rfl⟩)
  have ba := SS_b (R := R) 0 0 hR
  have bb := SS_b (R := R) 0 1 hR
  have bd := SS_b (R := R) 1 1 hR
  have bp := ST_b (R := R) (hs := hs) 0 hR hh
  have bq := ST_b (R := R) (hs := hs) 1 hR hh
  have gm := gram (R := R) (hs := hs) hl
  have cf := check_f (K := 2) (by omega) (by omega) c hl h6 hR hh
  have nf := normal_two c hl h6 hR hh
  have en : N2 R hs = [[SS R 0 0, SS R 0 1, T2 R hs 0], [SS R 0 1, SS R 1 1, T2 R hs 1]] := by unfold N2; rw [SS_comm]
  have ee := EE_eq (R := R) (hs := hs) P Q hl
  have qq := fun l P Q => quad3 (R := R) (hs := hs) l P Q hl
  rw [en] at nf
  generalize SS R 0 0 = a at *
  generalize SS R 0 1 = b at *
  generalize SS R 1 1 = d at *
  generalize T2 R hs 0 = p at *
  generalize T2 R hs 1 = q at *
  by_cases c0 : a * d - b * b = 0
  · have F := fit_m cf nf (fit_none (by omega) (by omega) (by omega) (by omega) (by omega) c0)
    exact E (res_err (by omega) F) (.inr ⟨by omega, rfl, rfl⟩)
  · have hD : 0 < a * d - b * b := by omega
    obtain ⟨d1, d2, d3, x1, x2, x3⟩ := det2 (a := a) (b := b) (c := b) (d := d) (p := p) (q := q) (by omega) (by omega) (by omega) (by omega) (by omega) (by omega)
    obtain ⟨g, n0, n1, D', hg, k1, k2, k3, k4, k5⟩ := fit_two (a := a) (b := b) (d := d) (p := p) (q := q) (by omega) (by omega) (by omega) (by omega) (by omega) hD
    have F := fit_m cf nf k5
    have q1 := qq (a * d - b * b) (p * d - b * q) (a * q - p * b)
    have q2 := qq 0 ((a * d - b * b) * P - (p * d - b * q)) ((a * d - b * b) * Q - (a * q - p * b))
    have li := least_ineq ee hD q1 (by
      simp only [Int.zero_mul, Int.mul_zero, Int.sub_zero, Int.zero_add] at q2
      exact q2)
    have y0 := dvd_b hg k1
    have y1 := dvd_b hg k2
    have y2 := dvd_b hg k3
    have hD' : 0 < D' := by
      have : g * 0 < g * D' := by omega
      exact Int.lt_of_mul_lt_mul_left this (by omega)
    obtain ⟨g2, n, e, f1, f2, f3, f4, f5⟩ := res_two (p := p) (q := q) (by omega) (by omega) (by omega) (by omega) (by omega) (by omega) hh F nf
    have r := least_num hg f1 k1 k2 k3 f2 f3 hD li.1 li.2
    exact E f5 (.inl ⟨rfl, r.1, r.2.1, r.2.2⟩)

theorem least_loop {R : Mx} {l1 : List Int} {P Q a0 a1 : Int} (hP : Int.tmod a0 100 = P) (hQ : Int.tmod a1 100 = Q) (bP : -99 ≤ P ∧ P ≤ 99) (bQ : -99 ≤ Q ∧ Q ≤ 99) (h6 : R.length ≤ 6) (hR : ∀ r ∈ R, okR 2 r) :
    ∀ (n i : Nat) (hs : List Int), i + n = R.length → hs.length = R.length → sm 1000 hs → Goes (fun k => ephemeriskeep2_GaugeLeast.l0 k R l1 hs (EE (R.take i) (hs.take i) P Q) R R.length i a0 a1) true
  | 0, i, hs, hi, hl, hh => by
    have e : i = R.length := by omega
    subst e
    rw [List.take_length, List.take_of_length_le (by omega)]
    exact least_end bP bQ h6 hR hh hl
  | n + 1, i, hs, hi, hl, hh => by
    have hlt : i < R.length := by omega
    have e3 : R[i]? = some R[i] := List.getElem?_eq_getElem hlt
    have hm := hR R[i] (List.getElem_mem hlt)
    have et : R.take (i + 1) = R.take i ++ [R[i]] := by rw [List.take_add_one, e3]; rfl
    generalize hr : R[i] = r at *
    have b0 := okR_rd hm 0
    have b1 := okR_rd hm 1
    have m0 := mul_b b0.1 b0.2 bP.1 bP.2
    have m1 := mul_b b1.1 b1.2 bQ.1 bQ.2
    have hl2 : r.length = 2 := hm.1
    have be := EE_b (R := R.take i) (hs := hs.take i) bP bQ (fun x hx => hR x (List.mem_of_mem_take hx)) (fun x hx => hh x (List.mem_of_mem_take hx))
    have hli : (R.take i).length = i := by simp; omega
    have key : ∀ hs2 : List Int, hs2.length = R.length → sm 1000 hs2 → hs2.take i = hs.take i → ∀ v, rd hs2 (i : Int) = v →
        wrap64 (EE (R.take i) (hs.take i) P Q + wrap64 (wrap64 (wrap64 (v - wrap64 (rd r 0 * P)) - wrap64 (rd r 1 * Q)) * wrap64 (wrap64 (v - wrap64 (rd r 0 * P)) - wrap64 (rd r 1 * Q)))) = EE (R.take (i + 1)) (hs2.take (i + 1)) P Q := by
      intro hs2 h2 h3 h4 v hv
      have hv2 : hs2[i]? = some v := by
        have hlt2 : i < hs2.length := by omega
        rw [List.getElem?_eq_getElem hlt2]
        simp [rd, List.getD, hlt2] at hv
        rw [hv]
      have bv := h3 v (List.mem_of_getElem? hv2)
      have et2 : hs2.take (i + 1) = hs2.take i ++ [v] := by rw [List.take_add_one, hv2]; rfl
      rw [et, et2, h4, EE_snoc (by simp; omega), wrap_in (n := rd r 0 * P) (by omega) (by omega), wrap_in (n := rd r 1 * Q) (by omega) (by omega), wrap_in (n := v - rd r 0 * P) (by omega) (by omega), wrap_in (n := v - rd r 0 * P - rd r 1 * Q) (by omega) (by omega)]
      generalize hx : v - rd r 0 * P - rd r 1 * Q = x at *
      have s := sq_nn x
      have s2 := mul_b (A := 3000) (B := 3000) (a := x) (b := x) (by omega) (by omega) (by omega) (by omega)
      rw [wrap_in (n := x * x) (by omega) (by omega), wrap_in (by omega) (by omega)]
    by_cases c : (i : Int) < l1.length
    · have b := tmod_lt (a := rd l1 i) (m := 1001) (by omega)
      have h2 : (hs.set (i : Int).toNat (Int.tmod (rd l1 i) 1001)).length = R.length := by rw [List.length_set]; exact hl
      have h3 : sm 1000 (hs.set (i : Int).toNat (Int.tmod (rd l1 i) 1001)) := sm_set hh (by omega)
      have h4 : (hs.set (i : Int).toNat (Int.tmod (rd l1 i) 1001)).take i = hs.take i := by rw [Int.toNat_natCast, List.take_set_of_le (by omega)]
      refine Goes.step (fun k => ?_) (least_loop (l1 := l1) (a0 := a0) (a1 := a1) hP hQ bP bQ h6 hR n (i + 1) (hs.set (i : Int).toNat (Int.tmod (rd l1 i) 1001)) (by omega) h2 h3)
      simp only [ephemeriskeep2_GaugeLeast.l0]
      rw [if_pos (by omega), if_pos (by omega), if_pos (by omega), if_pos c, if_pos (by omega)]
      simp only [Option.bind_some]
      rw [rdL e3, if_pos (by omega), if_pos (by omega), hP, hQ, key _ h2 h3 h4 _ rfl, wrap_in (n := (i : Int) + 1) (by omega) (by omega)]
      rfl
    · refine Goes.step (fun k => ?_) (least_loop (l1 := l1) (a0 := a0) (a1 := a1) hP hQ bP bQ h6 hR n (i + 1) hs (by omega) hl hh)
      simp only [ephemeriskeep2_GaugeLeast.l0]
      rw [if_pos (by omega), if_pos (by omega), if_pos (by omega), if_neg c, if_pos (by omega), rdL e3, if_pos (by omega), if_pos (by omega), hP, hQ, key _ hl hh rfl _ rfl, wrap_in (n := (i : Int) + 1) (by omega) (by omega)]
      rfl

theorem GaugeLeast : ephemeriskeep2_GaugeLeast.Pure := by
  intro l0 l1 a0 a1 hl _ _ _ _ _ _
  have hl' : l0.length ≤ 9223372036854775807 := by unfold maxLen at hl; omega
  obtain ⟨R, hr, h6, hR⟩ := readings_f (K := 2) (by omega) hl'
  have b0 := tmod_lt (a := a0) (m := 100) (by omega)
  have b1 := tmod_lt (a := a1) (m := 100) (by omega)
  have G : Goes (fun k => ephemeriskeep2_GaugeLeast.f k l0 l1 a0 a1) true := by
    refine Goes.bind gauge_works ?_
    simp only [if_true]
    refine Goes.bind hr ?_
    have o := least_loop (R := R) (l1 := l1) (a0 := a0) (a1 := a1) rfl rfl (by omega) (by omega) h6 hR R.length 0 (List.replicate R.length 0) (by omega) (by simp) (fun z hz => by rw [(List.mem_replicate.1 hz).2]; omega)
    refine Goes.congr (fun k => ?_) o
    rw [if_pos (by omega), if_pos (by omega)]
    simp [EE]
  obtain ⟨k0, h0⟩ := G
  exact ⟨k0, h0 k0 (Nat.le_refl _)⟩
end Go.Proofs.Ytglpfgkbecgaaaa.Pure
