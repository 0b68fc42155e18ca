/- Least squares with two columns: what gauge.Fit and gauge.Residual compute, and the sums' inequalities. No condition on a program. -/
import Derived.Test.YtglpfgkbecgaaaaJUx1
import Derived.Test.YtglpfgkbecgaaaaGaugeFit
namespace Go.Proofs.Ytglpfgkbecgaaaa.JU
open Go.Proofs.Ytglpfgkbecgaaaa.Own Go.RowKit Go.Proofs.YtglpfgkbecgaaaaW.PrintWords Go.Proofs.YtglpfgkbecgaaaaW.PrintLast
set_option maxRecDepth 100000

theorem sq_nn (x : Int) : 0 ≤ x * x := by
  rcases Int.le_total 0 x with h | h
  · exact Int.mul_nonneg h h
  · exact Int.mul_nonneg_of_nonpos_of_nonpos h h
def HH (hs : List Int) : Int := (hs.map fun h => h * h).sum
abbrev T2 (R : Mx) (hs : List Int) (i : Int) : Int := Go.Proofs.Ytglpfgkbecgaaaa.JU.ST R hs i
theorem SS_cons (r : List Int) (R : Mx) (i j : Int) : SS (r :: R) i j = rd r i * rd r j + SS R i j := by simp [SS]
theorem ST_cons (r : List Int) (R : Mx) (h : Int) (hs : List Int) (i : Int) : T2 (r :: R) (h :: hs) i = rd r i * h + T2 R hs i := by simp [T2, Go.Proofs.Ytglpfgkbecgaaaa.JU.ST]
theorem HH_cons (h : Int) (hs : List Int) : HH (h :: hs) = h * h + HH hs := by simp [HH]
/-- the sum of the squares of the differences -/
def EE (R : Mx) (hs : List Int) (P Q : Int) : Int := (List.zipWith (fun r h => (h - rd r 0 * P - rd r 1 * Q) * (h - rd r 0 * P - rd r 1 * Q)) R hs).sum
theorem EE_eq : ∀ {R : Mx} {hs : List Int} (P Q : Int), hs.length = R.length → EE R hs P Q = HH hs - 2 * (P * T2 R hs 0 + Q * T2 R hs 1) + SS R 0 0 * P * P + 2 * SS R 0 1 * P * Q + SS R 1 1 * Q * Q
  | [], [], P, Q, _ => by simp [EE, HH, T2, Go.Proofs.Ytglpfgkbecgaaaa.JU.ST, SS]
  | r :: R, h :: hs, P, Q, hl => by
    have ih := EE_eq (R := R) (hs := hs) P Q (by simpa using hl)
    have e : EE (r :: R) (h :: hs) P Q = (h - rd r 0 * P - rd r 1 * Q) * (h - rd r 0 * P - rd r 1 * Q) + EE R hs P Q := by simp [EE]
    rw [e, ih, SS_cons, SS_cons, SS_cons, ST_cons, ST_cons, HH_cons]
    generalize rd r 0 = x
    generalize rd r 1 = y
    generalize SS R 0 0 = a
    generalize SS R 0 1 = b
    generalize SS R 1 1 = d
    generalize T2 R hs 0 = p
    generalize T2 R hs 1 = q
    generalize HH hs = z
    grind
theorem quad3 : ∀ {R : Mx} {hs : List Int} (l P Q : Int), hs.length = R.length → 0 ≤ l * l * HH hs - 2 * l * (P * T2 R hs 0 + Q * T2 R hs 1) + SS R 0 0 * P * P + 2 * SS R 0 1 * P * Q + SS R 1 1 * Q * Q
  | [], [], l, P, Q, _ => by simp [HH, T2, Go.Proofs.Ytglpfgkbecgaaaa.JU.ST, SS]
  | r :: R, h :: hs, l, P, Q, hl => by
    have ih := quad3 (R := R) (hs := hs) l P Q (by simpa using hl)
    have s := sq_nn (l * h - rd r 0 * P - rd r 1 * Q)
    rw [SS_cons, SS_cons, SS_cons, ST_cons, ST_cons, HH_cons]
    generalize rd r 0 = x at *
    generalize rd r 1 = y at *
    generalize SS R 0 0 = a at *
    generalize SS R 0 1 = b at *
    generalize SS R 1 1 = d at *
    generalize T2 R hs 0 = p at *
    generalize T2 R hs 1 = q at *
    generalize HH hs = z at *
    have e : l * l * (h * h + z) - 2 * l * (P * (x * h + p) + Q * (y * h + q)) + (x * x + a) * P * P + 2 * (x * y + b) * P * Q + (y * y + d) * Q * Q = (l * h - x * P - y * Q) * (l * h - x * P - y * Q) + (l * l * z - 2 * l * (P * p + Q * q) + a * P * P + 2 * b * P * Q + d * Q * Q) := by grind
    rw [e]
    omega

theorem gram {R : Mx} {hs : List Int} (hl : hs.length = R.length) : 0 ≤ SS R 0 0 * SS R 1 1 - SS R 0 1 * SS R 0 1 := by
  have q := fun P Q => quad3 (R := R) (hs := hs) 0 P Q hl
  generalize SS R 0 0 = a at *
  generalize SS R 0 1 = b at *
  generalize SS R 1 1 = d at *
  have qa := q 1 0
  have qd := q 0 1
  have q1 := q b (-a)
  have q2 := q (-(d + 1) * b) 1
  clear q
  simp only [Int.zero_mul, Int.mul_zero, Int.sub_zero, Int.mul_one, Int.add_zero, Int.zero_add] at qa qd q1 q2
  rcases Int.lt_or_eq_of_le qa with h | h
  · have e : a * b * b + 2 * b * b * -a + d * -a * -a = a * (a * d - b * b) := by grind
    rw [e] at q1
    rcases Int.lt_or_le (a * d - b * b) 0 with h1 | h1
    · have := Int.mul_neg_of_pos_of_neg h h1
      omega
    · exact h1
  · subst h
    rcases Int.lt_trichotomy b 0 with hb | hb | hb
    · exfalso
      have s : 1 ≤ b * b := by have := Int.mul_le_mul (a := 1) (b := 1) (c := -b) (d := -b) (by omega) (by omega) (by omega) (by omega); rw [Int.neg_mul_neg] at this; omega
      have e : 0 * (-(d + 1) * b) * (-(d + 1) * b) + 2 * b * (-(d + 1) * b) + d = d - 2 * ((d + 1) * (b * b)) := by grind
      have e' : (d + 1) ≤ (d + 1) * (b * b) := by have := Int.mul_le_mul_of_nonneg_left s (show 0 ≤ d + 1 by omega); omega
      simp only [Int.zero_mul] at e q2
      omega
    · subst hb; simp
    · exfalso
      have s : 1 ≤ b * b := by have := Int.mul_le_mul (a := 1) (b := 1) (c := b) (d := b) (by omega) (by omega) (by omega) (by omega); omega
      have e : 0 * (-(d + 1) * b) * (-(d + 1) * b) + 2 * b * (-(d + 1) * b) + d = d - 2 * ((d + 1) * (b * b)) := by grind
      have e' : (d + 1) ≤ (d + 1) * (b * b) := by have := Int.mul_le_mul_of_nonneg_left s (show 0 ≤ d + 1 by omega); omega
      simp only [Int.zero_mul] at e q2
      omega

theorem SS_comm (R : Mx) : SS R 1 0 = SS R 0 1 := by
  unfold SS
  congr 1
  exact List.map_congr_left (fun r _ => Int.mul_comm _ _)
theorem SS_b : ∀ {R : Mx} (i j : Int), (∀ r ∈ R, okR 2 r) → -(100 * (R.length : Int)) ≤ SS R i j ∧ SS R i j ≤ 100 * (R.length : Int)
  | [], i, j, _ => by simp [SS]
  | r :: R, i, j, h => by
    have ih := SS_b (R := R) i j (fun x hx => h x (List.mem_cons_of_mem _ hx))
    have a := okR_rd (h r (by simp)) i
    have b := okR_rd (h r (by simp)) j
    have m := mul_b a.1 a.2 b.1 b.2
    rw [SS_cons, List.length_cons]
    omega
theorem ST_b : ∀ {R : Mx} {hs : List Int} (i : Int), (∀ r ∈ R, okR 2 r) → sm 1000 hs → -(10000 * (R.length : Int)) ≤ T2 R hs i ∧ T2 R hs i ≤ 10000 * (R.length : Int)
  | [], hs, i, _, _ => by simp [T2, Go.Proofs.Ytglpfgkbecgaaaa.JU.ST]
  | r :: R, [], i, _, _ => by simp [T2, Go.Proofs.Ytglpfgkbecgaaaa.JU.ST]; omega
  | r :: R, h :: hs, i, hr, hh => by
    have ih := ST_b (R := R) (hs := hs) i (fun x hx => hr x (List.mem_cons_of_mem _ hx)) (fun x hx => hh x (List.mem_cons_of_mem _ hx))
    have a := okR_rd (hr r (by simp)) i
    have b := hh h (by simp)
    have m := mul_b a.1 a.2 b.1 b.2
    rw [ST_cons, List.length_cons]
    omega

theorem dvd_b {N g n : Int} (hg : 0 < g) (h : N = g * n) : n.natAbs ≤ N.natAbs := by
  rw [h, Int.natAbs_mul]
  exact Nat.le_mul_of_pos_left _ (by omega)
theorem tdiv_g {g n : Int} (hg : 0 < g) : Int.tdiv (g * n) g = n := Int.mul_tdiv_cancel_left n (by omega)

theorem det2 {a b p c d q : Int} (ha : -600 ≤ a ∧ a ≤ 600) (hb : -600 ≤ b ∧ b ≤ 600) (hc : -600 ≤ c ∧ c ≤ 600) (hd : -600 ≤ d ∧ d ≤ 600) (hp : -60000 ≤ p ∧ p ≤ 60000) (hq : -60000 ≤ q ∧ q ≤ 60000) :
    gauge_det.f [[a, b, p], [c, d, q]] (-1) = some (a * d - b * c) ∧ gauge_det.f [[a, b, p], [c, d, q]] 0 = some (p * d - b * q) ∧ gauge_det.f [[a, b, p], [c, d, q]] 1 = some (a * q - p * c) ∧
    (-720000 ≤ a * d - b * c ∧ a * d - b * c ≤ 720000) ∧ (-72000000 ≤ p * d - b * q ∧ p * d - b * q ≤ 72000000) ∧ (-72000000 ≤ a * q - p * c ∧ a * q - p * c ≤ 72000000) := by
  have m1 := mul_b ha.1 ha.2 hd.1 hd.2
  have m2 := mul_b hb.1 hb.2 hc.1 hc.2
  have m3 := mul_b hp.1 hp.2 hd.1 hd.2
  have m4 := mul_b hb.1 hb.2 hq.1 hq.2
  have m5 := mul_b ha.1 ha.2 hq.1 hq.2
  have m6 := mul_b hp.1 hp.2 hc.1 hc.2
  refine ⟨?_, ?_, ?_, by omega, by omega, by omega⟩
  · have e : gauge_det.f [[a, b, p], [c, d, q]] (-1) = some (wrap64 (wrap64 (a * d) - wrap64 (b * c))) := by simp [gauge_det.f, gauge_det.at, rd_L1, rd]
    rw [e, wrap_in (n := a * d) (by omega) (by omega), wrap_in (n := b * c) (by omega) (by omega), wrap_in (by omega) (by omega)]
  · have e : gauge_det.f [[a, b, p], [c, d, q]] 0 = some (wrap64 (wrap64 (p * d) - wrap64 (b * q))) := by simp [gauge_det.f, gauge_det.at, rd_L1, rd]
    rw [e, wrap_in (n := p * d) (by omega) (by omega), wrap_in (n := b * q) (by omega) (by omega), wrap_in (by omega) (by omega)]
  · have e : gauge_det.f [[a, b, p], [c, d, q]] 1 = some (wrap64 (wrap64 (a * q) - wrap64 (p * c))) := by simp [gauge_det.f, gauge_det.at, rd_L1, rd]
    rw [e, wrap_in (n := a * q) (by omega) (by omega), wrap_in (n := p * c) (by omega) (by omega), wrap_in (by omega) (by omega)]

/-- one factor more -/
theorem fit_step {m : Mx} {n i : Nat} {g t a g' Den : Int} {acc : List Int} {v : List Int × Int × Int} (hi : i < n) (hn : n ≤ 10) (ha : acc.length = i) (ht : gauge_det.f m i = some t) (h1 : gauge_abs.f t = some a) (q1 : Goes (fun k => gauge_gcd.f k g a) g') (hv : Goes (fun k => gauge_Fit.l0 k m g' n ((i + 1 : Nat) : Int) (acc ++ [t]) Den) v) :
    Goes (fun k => gauge_Fit.l0 k m g n i acc Den) v := by
  have er : rd (acc ++ [t]) (i : Int) = t := by subst ha; simp [rd, List.getD]
  refine Goes.step (g := fun k => (gauge_gcd.f k g a).bind fun t145 => gauge_Fit.l0 k m t145 n ((i + 1 : Nat) : Int) (acc ++ [t]) Den) (fun k => ?_) (Goes.bind q1 hv)
  simp only [gauge_Fit.l0]
  rw [if_pos (by omega), ht]
  simp only [Option.bind_some]
  rw [if_pos (by omega), if_pos (by omega), if_pos (by simp; omega), er, h1, wrap_in (n := (i : Int) + 1) (by omega) (by omega)]
  rfl

theorem fit_two {a b p d q : Int} (ha : -600 ≤ a ∧ a ≤ 600) (hb : -600 ≤ b ∧ b ≤ 600) (hd : -600 ≤ d ∧ d ≤ 600) (hp : -60000 ≤ p ∧ p ≤ 60000) (hq : -60000 ≤ q ∧ q ≤ 60000) (hD : 0 < a * d - b * b) :
    ∃ g n0 n1 D' : Int, 0 < g ∧ a * d - b * b = g * D' ∧ p * d - b * q = g * n0 ∧ a * q - p * b = g * n1 ∧ g.natAbs = Nat.gcd (Nat.gcd (a * d - b * b).natAbs (p * d - b * q).natAbs) (a * q - p * b).natAbs ∧ Goes (fitM [[a, b, p], [b, d, q]]) ([n0, n1], D', 0) := by
  obtain ⟨d1, d2, d3, e1, e2, e3⟩ := det2 ha hb hb hd hp hq
  generalize a * d - b * b = D at *
  generalize p * d - b * q = N0 at *
  generalize a * q - p * b = N1 at *
  obtain ⟨g1, r1, r2, r3⟩ := gcd_f D (N0.natAbs : Int)
  obtain ⟨g, s1, s2, s3⟩ := gcd_f g1 (N1.natAbs : Int)
  have p1 : 0 ≤ g1 := r3 (by omega) (by omega)
  have p2 : 0 ≤ g := s3 p1 (by omega)
  simp only [Int.natAbs_natCast] at r2 s2
  rw [r2] at s2
  have hg0 : g ≠ 0 := by
    intro h0
    rw [h0] at s2
    have a1 := Nat.gcd_pos_of_pos_left N0.natAbs (m := D.natAbs) (by omega)
    have a2 := Nat.gcd_pos_of_pos_left N1.natAbs (m := Nat.gcd D.natAbs N0.natAbs) a1
    simp at s2; omega
  have hg : 0 < g := by omega
  have v1 : g ∣ D := by
    apply Int.natAbs_dvd_natAbs.1; rw [s2]
    exact Nat.dvd_trans (Nat.gcd_dvd_left _ _) (Nat.gcd_dvd_left _ _)
  have v2 : g ∣ N0 := by
    apply Int.natAbs_dvd_natAbs.1; rw [s2]
    exact Nat.dvd_trans (Nat.gcd_dvd_left _ _) (Nat.gcd_dvd_right _ _)
  have v3 : g ∣ N1 := by
    apply Int.natAbs_dvd_natAbs.1; rw [s2]
    exact Nat.gcd_dvd_right _ _
  obtain ⟨D', hD'⟩ := v1
  obtain ⟨n0, hn0⟩ := v2
  obtain ⟨n1, hn1⟩ := v3
  have hgD : g.natAbs ≤ D.natAbs := by rw [s2]; exact Nat.le_trans (Nat.gcd_le_left _ (Nat.gcd_pos_of_pos_left _ (by omega))) (Nat.gcd_le_left _ (by omega))
  refine ⟨g, n0, n1, D', hg, hD', hn0, hn1, s2, ?_⟩
  have b0 := dvd_b hg hD'
  have b1 := dvd_b hg hn0
  have b2 := dvd_b hg hn1
  have fe := fit_end (g := g) (Den := D) hg0 (by omega) [N0, N1] (by simp)
  rw [if_neg (by omega)] at fe
  simp only [List.map_cons, List.map_nil] at fe
  rw [show Int.tdiv N0 g = n0 by rw [hn0]; exact tdiv_g hg, show Int.tdiv N1 g = n1 by rw [hn1]; exact tdiv_g hg, show Int.tdiv D g = D' by rw [hD']; exact tdiv_g hg, wrap_in (n := n0) (by omega) (by omega), wrap_in (n := n1) (by omega) (by omega), wrap_in (n := D') (by omega) (by omega)] at fe
  have f2 : Goes (fun k => gauge_Fit.l0 k [[a, b, p], [b, d, q]] g 2 (2 : Nat) [N0, N1] D) ([n0, n1], D', 0) := by
    refine Goes.step (fun k => ?_) fe
    simp only [gauge_Fit.l0]
    rw [if_neg (by omega)]
  have f1 := fit_step (n := 2) (i := 1) (by omega) (by omega) (acc := [N0]) rfl d3 (abs_f (by omega) (by omega)) s1 f2
  have f0 := fit_step (n := 2) (i := 0) (by omega) (by omega) (acc := []) rfl d2 (abs_f (by omega) (by omega)) r1 f1
  refine Goes.congr (fun k => ?_) f0
  unfold fitM
  rw [d1]
  simp only [Option.bind_some]
  rw [if_neg (by omega), abs_f (by omega) (by omega), Int.natAbs_of_nonneg (by omega)]
  rfl
theorem fit_none {a b p d q : Int} (ha : -600 ≤ a ∧ a ≤ 600) (hb : -600 ≤ b ∧ b ≤ 600) (hd : -600 ≤ d ∧ d ≤ 600) (hp : -60000 ≤ p ∧ p ≤ 60000) (hq : -60000 ≤ q ∧ q ≤ 60000) (hD : a * d - b * b = 0) : Goes (fitM [[a, b, p], [b, d, q]]) ([], 0, 6) := by
  obtain ⟨d1, _⟩ := det2 ha hb hb hd hp hq
  refine Goes.of (fun k => ?_)
  unfold fitM
  rw [d1]
  simp only [Option.bind_some]
  rw [if_pos hD]

theorem res_l0 {m : Mx} {hs nums : List Int} {den : Int} {z : Int × Int × Int} (hd : 0 ≤ den ∧ den ≤ 720000) (h6 : hs.length ≤ 6) (hh : sm 1000 hs) : ∀ (rest : List Int) (i : Nat) (s : Int), hs.drop i = rest → i + rest.length = hs.length → 0 ≤ s → s ≤ 720000000000 * (i : Int) →
    Goes (fun k => gauge_Residual.l1 k m (s + den * HH rest) nums nums.length 0 nums den) z → Goes (fun k => gauge_Residual.l0 k m s hs hs.length i nums den) z
  | [], i, s, hr, hi, h0, h1, g => by
    refine Goes.step (fun k => ?_) g
    have : i = hs.length := by simpa using hi
    simp only [gauge_Residual.l0]
    rw [if_neg (by omega)]
    simp [HH]
  | h :: rest, i, s, hr, hi, h0, h1, g => by
    have hle : (h :: rest).length = rest.length + 1 := rfl
    obtain ⟨e1, e2, e3⟩ := drop_cons_ hr
    have hb := hh h (List.mem_of_getElem? e3)
    have m1 := mul_b (A := 720000) (a := den) (by omega) hd.2 hb.1 hb.2
    have s1 := sq_nn h
    have s2 := mul_b hb.1 hb.2 hb.1 hb.2
    have m2 : 0 ≤ den * (h * h) := Int.mul_nonneg hd.1 s1
    have m3 := mul_b (A := 720000) (a := den) (B := 1000000) (b := h * h) (by omega) hd.2 (by omega) (by omega)
    have e4 : den * h * h = den * (h * h) := Int.mul_assoc _ _ _
    refine Goes.step (fun k => ?_) (res_l0 (m := m) (nums := nums) hd h6 hh rest (i + 1) (s + den * (h * h)) e2 (by omega) (by omega) (by omega) ?_)
    · simp only [gauge_Residual.l0]
      rw [if_pos (by omega), if_pos (by omega), if_pos (by omega), rdI e3, wrap_in (n := den * h) (by omega) (by omega), e4, wrap_in (n := den * (h * h)) (by omega) (by omega), wrap_in (n := s + den * (h * h)) (by omega) (by omega), wrap_in (n := (i : Int) + 1) (by omega) (by omega)]
      rfl
    · have e5 : s + den * (h * h) + den * HH rest = s + den * HH (h :: rest) := by rw [HH_cons]; grind
      rw [e5]; exact g

theorem HH_b : ∀ {hs : List Int}, sm 1000 hs → 0 ≤ HH hs ∧ HH hs ≤ 1000000 * (hs.length : Int)
  | [], _ => by simp [HH]
  | h :: hs, hh => by
    have ih := HH_b (hs := hs) (fun x hx => hh x (List.mem_cons_of_mem _ hx))
    have hb := hh h (by simp)
    have s1 := sq_nn h
    have s2 := mul_b hb.1 hb.2 hb.1 hb.2
    rw [HH_cons, List.length_cons]
    omega

theorem res_two {R : Mx} {hs : List Int} {a b p d q n0 n1 D : Int} (hp : -60000 ≤ p ∧ p ≤ 60000) (hq : -60000 ≤ q ∧ q ≤ 60000) (hD : 0 < D ∧ D ≤ 720000) (hn0 : -72000000 ≤ n0 ∧ n0 ≤ 72000000) (hn1 : -72000000 ≤ n1 ∧ n1 ≤ 72000000) (h6 : hs.length ≤ 6) (hh : sm 1000 hs)
    (F : Goes (fun k => gauge_Fit.f k R hs) ([n0, n1], D, 0)) (hN : Goes (fun k => gauge_normal.f k R hs) [[a, b, p], [b, d, q]]) :
    ∃ g n e : Int, 0 < g ∧ D * HH hs - n0 * p - n1 * q = g * n ∧ D = g * e ∧ g.natAbs = Nat.gcd D.natAbs (D * HH hs - n0 * p - n1 * q).natAbs ∧ Goes (fun k => gauge_Residual.f k R hs) (n, e, 0) := by
  have bH := HH_b hh
  have m0 := mul_b (A := 720000) (a := D) (B := 6000000) (b := HH hs) (by omega) hD.2 (by omega) (by omega)
  have m1 := mul_b hn0.1 hn0.2 hp.1 hp.2
  have m2 := mul_b hn1.1 hn1.2 hq.1 hq.2
  generalize hX : D * HH hs - n0 * p - n1 * q = X
  obtain ⟨g, r1, r2, r3⟩ := gcd_f D (X.natAbs : Int)
  have p1 : 0 ≤ g := r3 (by omega) (by omega)
  simp only [Int.natAbs_natCast] at r2
  have hg0 : g ≠ 0 := by
    intro h0
    rw [h0] at r2
    have a1 := Nat.gcd_pos_of_pos_left X.natAbs (m := D.natAbs) (by omega)
    simp at r2; omega
  have hg : 0 < g := by omega
  obtain ⟨e, he⟩ : g ∣ D := by
    apply Int.natAbs_dvd_natAbs.1; rw [r2]
    exact Nat.gcd_dvd_left _ _
  obtain ⟨n, hn⟩ : g ∣ X := by
    apply Int.natAbs_dvd_natAbs.1; rw [r2]
    exact Nat.gcd_dvd_right _ _
  refine ⟨g, n, e, hg, hn, he, r2, ?_⟩
  have b0 := dvd_b hg he
  have b1 := dvd_b hg hn
  have hl1 : Goes (fun k => gauge_Residual.l1 k [[a, b, p], [b, d, q]] (0 + D * HH hs) [n0, n1] 2 0 [n0, n1] D) (n, e, 0) := by
    refine Goes.step (g := fun k => gauge_Residual.l1 k [[a, b, p], [b, d, q]] (D * HH hs - n0 * p) [n0, n1] 2 1 [n0, n1] D) (fun k => ?_) ?_
    · simp only [gauge_Residual.l1]
      rw [if_pos (by omega), if_pos (by omega), if_pos (by simp), if_pos (by simp), if_pos (by simp), if_pos (by simp [rd_L1]), show rd [n0, n1] 0 = n0 from rfl, show rd (rd_L1 [[a, b, p], [b, d, q]] 0) ((([[a, b, p], [b, d, q]] : Mx).length : Int)) = p from rfl, wrap_in (n := n0 * p) (by omega) (by omega), Int.zero_add, wrap_in (n := D * HH hs - n0 * p) (by omega) (by omega), show wrap64 ((0 : Int) + 1) = 1 from by decide +kernel]
    refine Goes.step (g := fun k => gauge_Residual.l1 k [[a, b, p], [b, d, q]] X [n0, n1] 2 2 [n0, n1] D) (fun k => ?_) ?_
    · simp only [gauge_Residual.l1]
      rw [if_pos (by omega), if_pos (by omega), if_pos (by simp), if_pos (by simp), if_pos (by simp), if_pos (by simp [rd_L1]), show rd [n0, n1] 1 = n1 from rfl, show rd (rd_L1 [[a, b, p], [b, d, q]] 1) ((([[a, b, p], [b, d, q]] : Mx).length : Int)) = q from rfl, wrap_in (n := n1 * q) (by omega) (by omega), wrap_in (n := D * HH hs - n0 * p - n1 * q) (by omega) (by omega), hX, show wrap64 ((1 : Int) + 1) = 2 from by decide +kernel]
    refine Goes.step (g := fun k => (gauge_gcd.f k D (X.natAbs : Int)).bind fun t162 => (if t162 = 0 then (none) else (some (wrap64 (Int.tdiv X t162), wrap64 (Int.tdiv D t162), 0)))) (fun k => ?_) ?_
    · simp only [gauge_Residual.l1]
      rw [if_neg (by omega), abs_f (by omega) (by omega)]
      rfl
    · refine Goes.bind r1 (Goes.of (fun k => ?_))
      rw [if_neg hg0, show Int.tdiv X g = n by rw [hn]; exact tdiv_g hg, show Int.tdiv D g = e by rw [he]; exact tdiv_g hg, wrap_in (n := n) (by omega) (by omega), wrap_in (n := e) (by omega) (by omega)]
  have hl0 := res_l0 (m := [[a, b, p], [b, d, q]]) (nums := [n0, n1]) (den := D) (z := (n, e, 0)) (by omega) h6 hh hs 0 0 rfl (by omega) (by omega) (by omega) hl1
  refine Goes.congr (g := fun k => (gauge_Fit.f k R hs).bind fun bt148 => (if bt148.2.2 = 0 then ((gauge_normal.f k R hs).bind fun t154 => (gauge_Residual.l0 k t154 0 hs (hs.length : Int) 0 bt148.1 bt148.2.1)) else (some (0, 0, bt148.2.2)))) (fun k => rfl) ?_
  refine Goes.bind F ?_
  simp only [if_true]
  exact Goes.bind hN hl0
theorem res_err {R : Mx} {hs l : List Int} {x e : Int} (he : e ≠ 0) (F : Goes (fun k => gauge_Fit.f k R hs) (l, x, e)) : Goes (fun k => gauge_Residual.f k R hs) (0, 0, e) := by
  refine Goes.congr (g := fun k => (gauge_Fit.f k R hs).bind fun bt148 => (if bt148.2.2 = 0 then ((gauge_normal.f k R hs).bind fun t154 => (gauge_Residual.l0 k t154 0 hs (hs.length : Int) 0 bt148.1 bt148.2.1)) else (some (0, 0, bt148.2.2)))) (fun k => rfl) ?_
  refine Goes.bind F (Goes.of (fun k => ?_))
  rw [if_neg he]
end Go.Proofs.Ytglpfgkbecgaaaa.JU
