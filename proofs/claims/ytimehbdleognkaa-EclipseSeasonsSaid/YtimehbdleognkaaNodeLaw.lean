/- New moons: the elongation's departure there, and why a node isn't leapt over. No condition on a program. -/
import Derived.Test.YtimehbdleognkaaRareLaw
namespace Go.Proofs.Ytimehbdleognkaa.JE
open Go.Proofs.Ytimehbdleognkaa.Own Go.Proofs.Ytimehbdleognkaa.Tp Go.RowKit Go.Proofs.YtimehbdleognkaaW.PrintWords Go.Proofs.YtimehbdleognkaaW.PrintLast
/-- the parts of the elongation's departure at a new moon: what is left of it but the main terms is small -/
theorem pp_alg {P M c S S2 C2 F2 T2 e y a : Rat}
    (hP : P = 17468817 * M + 3538964 * (S2 * c - C2 * M) + 1828650 * S2 + 1186766 * (M * c) - 5832550 * S - 317589 * F2 - 55536 * T2 + e)
    (e1 : -3 ≤ e) (e2 : e ≤ 3) (M1 : -(1000000001 / 1000000000) ≤ M) (M2 : M ≤ 1000000001 / 1000000000) (c1 : -(1000000001 / 1000000000) ≤ c) (c2 : c ≤ 1000000001 / 1000000000)
    (S1 : -(1000000001 / 1000000000) ≤ S) (S2' : S ≤ 1000000001 / 1000000000) (F1 : -(1000000001 / 1000000000) ≤ F2) (F2' : F2 ≤ 1000000001 / 1000000000) (T1 : -(1000000001 / 1000000000) ≤ T2) (T2' : T2 ≤ 1000000001 / 1000000000)
    (m1 : -(500001 / 1000000) ≤ M * c) (m2 : M * c ≤ 500001 / 1000000) (p1 : -29720000 ≤ P) (p2 : P ≤ 29720000) (y1 : -562000 ≤ y + 2 * P) (y2 : y + 2 * P ≤ 562000)
    (ha : a = y * (7244019458077122842 / 1152921504606846976000000000))
    (h : ∀ B : Rat, 0 ≤ B → B ≤ 1 / 2 → -B ≤ a → a ≤ B → (-B ≤ S2 ∧ S2 ≤ B) ∧ (-(B * B * B / 6) ≤ S2 - a ∧ S2 - a ≤ B * B * B / 6) ∧ (-(1 / 1000000000) ≤ 1 - C2 ∧ 1 - C2 ≤ B * B / 2)) :
    ∃ e' : Rat, -431000 ≤ e' ∧ e' ≤ 431000 ∧ P = 13609751 * M - 5698521 * S + 567277 * (M * c) + 259385 * (S * c) - 317589 * F2 + e' := by
  have hP' : P = 13929853 * M - 5832550 * S + 3538964 * ((1 - C2) * M) + 3538964 * (S2 * c) + 1828650 * S2 + 1186766 * (M * c) - 317589 * F2 - 55536 * T2 + e := by grind
  clear hP
  obtain ⟨⟨a1, a2⟩, -, d1, d2⟩ := h (3771 / 10000) (by decide +kernel) (by decide +kernel) (by grind) (by grind)
  have W1 := mul_ab (u := 1 - C2) (v := M) (A := 3771 / 10000 * (3771 / 10000) / 2) (B := 1000000001 / 1000000000) (by grind) d2 M1 M2
  have V1 := mul_ab (u := S2) (v := c) (A := 3771 / 10000) (B := 1000000001 / 1000000000) a1 a2 c1 c2
  have P1 : -23010000 ≤ P ∧ P ≤ 23010000 := by
    generalize (1 - C2) * M = W at *
    generalize S2 * c = V at *
    generalize M * c = X at *
    constructor <;> grind
  clear p1 p2 a1 a2 d1 d2 W1 V1
  obtain ⟨⟨a1, a2⟩, ⟨b1, b2⟩, d1, d2⟩ := h (2927 / 10000) (by decide +kernel) (by decide +kernel) (by grind) (by grind)
  clear h
  have W1 := mul_ab (u := 1 - C2) (v := M) (A := 2927 / 10000 * (2927 / 10000) / 2) (B := 1000000001 / 1000000000) (by grind) d2 M1 M2
  have V1 := mul_ab (u := S2) (v := c) (A := 2927 / 10000) (B := 1000000001 / 1000000000) a1 a2 c1 c2
  have R1 : -2690000 ≤ P - (13929853 * M - 5832550 * S) ∧ P - (13929853 * M - 5832550 * S) ≤ 2690000 := by
    generalize (1 - C2) * M = W at *
    generalize S2 * c = V at *
    generalize M * c = X at *
    constructor <;> grind
  have G : -(4153 / 100000) ≤ S2 + 175048 / 1000000 * M - 73294 / 1000000 * S ∧ S2 + 175048 / 1000000 * M - 73294 / 1000000 * S ≤ 4153 / 100000 := by
    clear hP' W1 V1 m1 m2 d1 d2 a1 a2 P1
    constructor <;> grind
  clear a1 a2 b1 b2 d1 d2 V1 R1 P1 y1 y2 ha
  have Z1 := mul_ab G.1 G.2 c1 c2
  have id : S2 * c = (S2 + 175048 / 1000000 * M - 73294 / 1000000 * S) * c - 175048 / 1000000 * (M * c) + 73294 / 1000000 * (S * c) := by grind
  rw [id] at hP'
  refine ⟨P - (13609751 * M - 5698521 * S + 567277 * (M * c) + 259385 * (S * c) - 317589 * F2), ?_, ?_, by grind⟩
  all_goals
    have q1 := mul_ab S1 S2' c1 c2
    generalize (S2 + 175048 / 1000000 * M - 73294 / 1000000 * S) * c = Z at *
    obtain ⟨σ, hσ⟩ : ∃ σ, S2 + 175048 / 1000000 * M - 73294 / 1000000 * S = σ := ⟨_, rfl⟩
    rw [hσ] at G
    have hs : S2 = σ - 175048 / 1000000 * M + 73294 / 1000000 * S := by grind
    rw [hs] at hP'
    clear id hs hσ
    generalize (1 - C2) * M = W at *
    generalize M * c = X at *
    generalize S * c = Y at *
    grind
theorem sn_3 {x : Rat} (x0 : 0 ≤ x) (x1 : x ≤ 4 / 5) : x - x * (x * x) / 6 ≤ sn x ∧ sn x ≤ x := by
  have q0 := Rat.mul_nonneg x0 x0
  have q1 : x * x ≤ 16 / 25 := by
    have := Rat.mul_nonneg (show 0 ≤ 4 / 5 - x by grind) (show 0 ≤ 4 / 5 + x by grind); grind
  have e : sn x = x * (1 - x * x / 6 * (1 - x * x / 20 * (1 - x * x / 42 * (1 - x * x / 72 * (1 - x * x / 110 * (1 - x * x / 156 * (1 - x * x / 210 * (1 - x * x / 272 * (1 - x * x / 342 * 1))))))))) := by
    unfold sn SC; simp only [sm]; simp [fac]; grind
  generalize hq : x * x = q at *
  have q1' : q ≤ 1 := by grind
  have b1 := br q0 q1' (show (1 : Rat) ≤ 342 by decide +kernel) (show (0 : Rat) ≤ 1 by decide +kernel) (show (1 : Rat) ≤ 1 by decide +kernel)
  have b2 := br q0 q1' (show (1 : Rat) ≤ 272 by decide +kernel) b1.1 b1.2
  have b3 := br q0 q1' (show (1 : Rat) ≤ 210 by decide +kernel) b2.1 b2.2
  have b4 := br q0 q1' (show (1 : Rat) ≤ 156 by decide +kernel) b3.1 b3.2
  have b5 := br q0 q1' (show (1 : Rat) ≤ 110 by decide +kernel) b4.1 b4.2
  have b6 := br q0 q1' (show (1 : Rat) ≤ 72 by decide +kernel) b5.1 b5.2
  have b7 := br q0 q1' (show (1 : Rat) ≤ 42 by decide +kernel) b6.1 b6.2
  have b8 := br q0 q1' (show (1 : Rat) ≤ 20 by decide +kernel) b7.1 b7.2
  rw [e]
  generalize 1 - q / 20 * _ = b at *
  have m1 := Rat.mul_nonneg q0 b8.1
  have m2 := Rat.mul_nonneg q0 (show 0 ≤ 1 - b by grind)
  have y1 : 1 - q / 6 ≤ 1 - q / 6 * b := by grind
  have y2 : 1 - q / 6 * b ≤ 1 := by grind
  generalize 1 - q / 6 * b = y at *
  have n1 := Rat.mul_nonneg x0 (show 0 ≤ y - (1 - q / 6) by grind)
  have n2 := Rat.mul_nonneg x0 (show 0 ≤ 1 - y by grind)
  constructor <;> grind
/-- sine and cosine of a small angle -/
theorem z_small {y : Int} (h1 : -124999999 ≤ y) (h2 : y ≤ 124999999) {B : Rat} (b0 : 0 ≤ B) (a1 : -B ≤ arc y) (a2 : arc y ≤ B) : (-B ≤ zs y ∧ zs y ≤ B) ∧ (-(B * B * B / 6) ≤ zs y - arc y ∧ zs y - arc y ≤ B * B * B / 6) ∧ (-(1 / 1000000000) ≤ 1 - zc y ∧ 1 - zc y ≤ B * B / 2) := by
  obtain ⟨e1, e2⟩ := z_q0 (a := y) (by omega) (by omega)
  have b := arc_b (a := y) (by omega) (by omega)
  have z := z_one (z := zc y) (w := zs y) (by have := (z_pyth y).2; grind)
  have ep : eps = 1 / 10000000000000 := rfl
  rw [ep] at z
  have sq : arc y * arc y ≤ B * B := by
    have := Rat.mul_nonneg (show 0 ≤ B - arc y by grind) (show 0 ≤ B + arc y by grind); grind
  have c := (cn_b b.1 b.2).1
  rw [← e2] at c
  have key : ∀ x : Rat, 0 ≤ x → x ≤ B → x * (x * x) ≤ B * B * B := by
    intro x x0 xB
    have p1 := Rat.mul_nonneg (show 0 ≤ B - x by grind) (Rat.mul_nonneg x0 x0)
    have p2 := Rat.mul_nonneg b0 (show 0 ≤ B * B - x * x by have := Rat.mul_nonneg (show 0 ≤ B - x by grind) (show 0 ≤ B + x by grind); grind)
    grind
  rw [e1]
  refine ⟨?_, ?_, by grind, by grind⟩
  · rcases (Rat.le_total (a := 0) (b := arc y)) with k | k
    · have s := sn_b k b.2
      constructor <;> grind
    · have s := sn_b (x := -(arc y)) (by grind) (by grind)
      rw [sn_neg] at s
      constructor <;> grind
  · rcases (Rat.le_total (a := 0) (b := arc y)) with k | k
    · have s := sn_3 k b.2
      have t := key (arc y) k a2
      constructor <;> grind
    · have s := sn_3 (x := -(arc y)) (by grind) (by grind)
      have t := key (-(arc y)) (by grind) (by grind)
      rw [sn_neg] at s
      constructor <;> grind
theorem sqn (x : Rat) : 0 ≤ x * x := by
  rcases (Rat.le_total (a := 0) (b := x)) with c | c
  · exact Rat.mul_nonneg c c
  · have := Rat.mul_nonneg (show 0 ≤ -x by grind) (show 0 ≤ -x by grind); grind
/-- a node isn't leapt over: the algebra -/
theorem flip_alg {sa ca sb cb MA MB X xl yy f : Rat} (hA : 14244783 * sa + 1550819 * (ca * MA) ≤ -4091917) (hB : 4091917 ≤ 14244783 * sb + 1550819 * (cb * MB))
    (a0 : 0 ≤ ca) (b0 : 0 ≤ cb) (a1 : ca ≤ 101 / 100) (b1 : cb ≤ 101 / 100) (hs : sb * ca - cb * sa ≤ f) (x0 : 0 ≤ xl) (hx : 2 * xl ≤ ca + cb) (hy : (ca - cb) * (ca - cb) ≤ 4 * yy) (hD : MB - MA ≤ X) (X1 : X ≤ 1)
    (num : (0 ≤ X ∧ 14244783 * f + 1550819 * (X * (xl * xl)) < 8183834 * xl) ∨ (X ≤ 0 ∧ 14244783 * f + 1550819 * (X * (xl * xl - yy)) < 8183834 * xl)) : False := by
  have p1 := Rat.mul_nonneg a0 (show 0 ≤ 14244783 * sb + 1550819 * (cb * MB) - 4091917 by grind)
  have p2 := Rat.mul_nonneg b0 (show 0 ≤ -4091917 - (14244783 * sa + 1550819 * (ca * MA)) by grind)
  have T0 := Rat.mul_nonneg a0 b0
  have p3 := Rat.mul_nonneg T0 (show 0 ≤ X - (MB - MA) by grind)
  have main : 4091917 * (ca + cb) ≤ 14244783 * f + 1550819 * (ca * cb * X) := by grind
  clear p1 p2 p3 hA hB hs hD
  obtain ⟨x, hxx⟩ : ∃ x, ca + cb = 2 * x := ⟨(ca + cb) / 2, by grind⟩
  have T : ca * cb = x * x - (ca - cb) * (ca - cb) / 4 := by
    have : (ca + cb) * (ca + cb) = 4 * (x * x) := by rw [hxx]; grind
    grind
  have q := sqn (ca - cb)
  have xx : xl ≤ x := by grind
  have xu : x ≤ 101 / 100 := by grind
  have d := Rat.mul_nonneg (show 0 ≤ x - xl by grind) (show 0 ≤ x + xl by grind)
  rcases num with ⟨n0, n⟩ | ⟨n0, n⟩
  · have m1 := Rat.mul_nonneg n0 (show 0 ≤ x * x - ca * cb by grind)
    have m2 := Rat.mul_nonneg (show 0 ≤ x - xl by grind) (Rat.mul_nonneg n0 (show 0 ≤ 202 / 100 - (x + xl) by grind))
    have m3 := Rat.mul_nonneg (show 0 ≤ x - xl by grind) (show 0 ≤ 1 - X by grind)
    grind
  · have m1 := Rat.mul_nonneg (show 0 ≤ -X by grind) (show 0 ≤ ca * cb - (xl * xl - yy) by grind)
    grind
theorem zc_quarter (a : Int) : zc (a + 250000000) = -(zs a) := by
  have e1 : qd (a + 250000000) = qd a + 1 := by unfold qd; omega
  have e2 : dl (a + 250000000) = dl a := by unfold dl; rw [e1]; omega
  have k := k_add (qd a) 1
  have k1 : kc 1 = 0 ∧ ks 1 = 1 := by decide +kernel
  unfold zs zc
  rw [e1, e2, k.1, k.2, k1.1, k1.2]; grind
theorem z_half (a : Int) : zs (a + 500000000) = -(zs a) ∧ zc (a + 500000000) = -(zc a) := by
  have e : a + 500000000 = a + 250000000 + 250000000 := by omega
  rw [e, z_quarter, zc_quarter, zc_quarter, z_quarter]
  exact ⟨rfl, rfl⟩
theorem zs_nn {d : Int} (h1 : 0 ≤ d) (h2 : d ≤ 500000000) : 0 ≤ zs d := by
  rcases (by omega : d ≤ 125000000 ∨ (125000001 ≤ d ∧ d ≤ 375000000) ∨ 375000001 ≤ d) with c | c | c
  · have e := (z_q0 (a := d) (by omega) c).1
    have m := arc_mono h1
    have z0 : arc 0 = 0 := by decide +kernel
    have b := arc_b (a := d) (by omega) c
    have s := sn_b (x := arc d) (by grind) b.2
    rw [e]; grind
  · have e := (z_q1 c.1 c.2).1
    have b := arc_b (a := d - 250000000) (by omega) (by omega)
    have s := (cn_b b.1 b.2).2.2
    rw [e]; grind
  · have e := (z_q2 (a := d) c (by omega)).1
    have n : arc (d - 500000000) = -(arc (500000000 - d)) := by rw [← arc_neg, Int.neg_sub]
    have z0 : arc 0 = 0 := by decide +kernel
    have b := arc_b (a := 500000000 - d) (by omega) (by omega)
    have m := arc_mono (show 0 ≤ 500000000 - d by omega)
    have s := sn_b (x := arc (500000000 - d)) (by grind) b.2
    rw [e, n, sn_neg]; grind
theorem zs_np {d : Int} (h1 : -500000000 ≤ d) (h2 : d ≤ 0) : zs d ≤ 0 := by
  have h := zs_nn (d := d + 500000000) (by omega) (by omega)
  have z := (z_half d).1
  rw [z] at h
  grind
theorem zc_neg_small {y : Int} (h1 : -124999999 ≤ y) (h2 : y ≤ 124999999) : 2 / 3 ≤ zc y := by
  rw [(z_q0 (a := y) (by omega) (by omega)).2]
  have b := arc_b (a := y) (by omega) (by omega)
  exact (cn_b b.1 b.2).2.2
/-- a node isn't leapt over in a step from f0 to f1 -/
theorem flip_core {a b f0 f1 : Int} {MA MB X : Rat} (F0 : 40000000 ≤ f0) (F1 : f1 ≤ 104000000) (k : Int) (g1 : f0 ≤ b - a - 1000000000 * k) (g2 : b - a - 1000000000 * k ≤ f1) (fp : 60000000 ≤ f1)
    (ma : -(101 / 100) ≤ MA ∧ MA ≤ 101 / 100 ∧ -(10000001 / 10000000) ≤ MA ∧ MA ≤ 10000001 / 10000000) (mb : -(10000001 / 10000000) ≤ MB ∧ MB ≤ 10000001 / 10000000)
    (hA : 14244783 * zs a + 1550819 * (zc a * MA) ≤ -4091917) (hB : 4091917 ≤ 14244783 * zs b + 1550819 * (zc b * MB)) (hD : MB - MA ≤ X) (X1 : X ≤ 1) {xl yy f : Rat}
    (hf : zs f0 + lip (f1 - f0) + 100 * eps ≤ f) (hx : xl + 1 / 100000000 ≤ (1 - arc (f1 / 2 - 28379998) * arc (f1 / 2 - 28379998) / 2) * (1 - arc (f1 / 2 + 1) * arc (f1 / 2 + 1) / 2)) (x0 : 0 ≤ xl)
    (hy : (arc (f1 / 2 - 28379998) * arc (f1 / 2 + 1) + 1 / 100000000) * (arc (f1 / 2 - 28379998) * arc (f1 / 2 + 1) + 1 / 100000000) ≤ yy)
    (num : (0 ≤ X ∧ 14244783 * f + 1550819 * (X * (xl * xl)) < 8183834 * xl) ∨ (X ≤ 0 ∧ 14244783 * f + 1550819 * (X * (xl * xl - yy)) < 8183834 * xl)) : False := by
  have ep : eps = 1 / 10000000000000 := rfl
  -- both angles about the node
  obtain ⟨j, hj⟩ : ∃ j : Int, j = (a + 500000000) / 1000000000 := ⟨_, rfl⟩
  obtain ⟨p, hp⟩ : ∃ p : Int, p = a - 1000000000 * j := ⟨_, rfl⟩
  obtain ⟨q, hq⟩ : ∃ q : Int, q = b - 1000000000 * (j + k) := ⟨_, rfl⟩
  have pa := z_per p j
  have pb := z_per q (j + k)
  rw [show p + 1000000000 * j = a by omega] at pa
  rw [show q + 1000000000 * (j + k) = b by omega] at pb
  rw [pa.1, pa.2] at hA
  rw [pb.1, pb.2] at hB
  have pr : -500000000 ≤ p ∧ p < 500000000 := by omega
  have st : f0 ≤ q - p ∧ q - p ≤ f1 := by omega
  clear pa pb g1 g2 hj hp hq
  have o1 := z_one (z := zc p) (w := zs p) (by have := (z_pyth p).2; grind)
  have o2 := z_one (z := zc q) (w := zs q) (by have := (z_pyth q).2; grind)
  have w1 := mul_ab o1.1 o1.2 ma.2.2.1 ma.2.2.2
  have w2 := mul_ab o2.1 o2.2 mb.1 mb.2
  rw [ep] at w1 w2
  have n0 : arc 28380000 ≤ 17835 / 100000 := by decide +kernel
  have up : zs p ≤ -(17837 / 100000) := by
    generalize zc p * MA = Y at *
    grind
  have uq : 17837 / 100000 ≤ zs q := by
    generalize zc q * MB = Y at *
    grind
  have p1 : p < -28380000 := by
    rcases (by omega : p < -28380000 ∨ (-28380000 ≤ p ∧ p ≤ 0) ∨ 0 ≤ p) with c | c | c
    · exact c
    · have s := z_small (y := p) (by omega) (by omega) (B := arc 28380000) (by decide +kernel) (by rw [← arc_neg]; exact arc_mono (by omega)) (arc_mono (by omega))
      have := s.1.1
      exfalso; grind
    · have := zs_nn (d := p) c (by omega)
      exfalso; grind
  have q1 : 28380000 < q := by
    rcases (by omega : 28380000 < q ∨ (0 ≤ q ∧ q ≤ 28380000) ∨ q ≤ 0) with c | c | c
    · exact c
    · have s := z_small (y := q) (by omega) (by omega) (B := arc 28380000) (by decide +kernel) (by rw [← arc_neg]; exact arc_mono (by omega)) (arc_mono (by omega))
      have := s.1.2
      exfalso; grind
    · have := zs_np (d := q) (by omega) c
      exfalso; grind
  clear up uq w1 w2 n0
  -- the middle
  obtain ⟨h, hh⟩ : ∃ h : Int, h = (q - p) / 2 := ⟨_, rfl⟩
  obtain ⟨m, hm⟩ : ∃ m : Int, m = p + h := ⟨_, rfl⟩
  have mr : -(f1 / 2 - 28379998) ≤ m ∧ m ≤ f1 / 2 - 28379998 := by omega
  have hr : 0 ≤ h ∧ h ≤ f1 / 2 + 1 := by omega
  have z0 : arc 0 = 0 := by decide +kernel
  have am0 : 0 ≤ arc (f1 / 2 - 28379998) := by rw [← z0]; exact arc_mono (by omega)
  have ah0 : 0 ≤ arc (f1 / 2 + 1) := by rw [← z0]; exact arc_mono (by omega)
  have sm := z_small (y := m) (by omega) (by omega) am0 (by rw [← arc_neg]; exact arc_mono mr.1) (arc_mono mr.2)
  have sh := z_small (y := h) (by omega) (by omega) ah0 (by have := arc_mono hr.1; grind) (arc_mono hr.2)
  have cm := zc_neg_small (y := m) (by omega) (by omega)
  have ch := zc_neg_small (y := h) (by omega) (by omega)
  have cp := zc_neg_small (y := p) (by omega) (by omega)
  have cq := zc_neg_small (y := q) (by omega) (by omega)
  -- the cosines of both
  have e1 := z_add p h
  rw [show p + h = m by omega] at e1
  have e2 := z_add m h
  have py := z_pyth h
  have oh := z_one (z := zs h) (w := zc h) py.2
  have oc := z_one (z := zc h) (w := zs h) (by have := py.2; grind)
  have ca : -(1 / 1000000000) ≤ zc p - (zc m * zc h + zs m * zs h) ∧ zc p - (zc m * zc h + zs m * zs h) ≤ 1 / 1000000000 := by
    have t1 := mul_ab (u := zs p * zc h + zc p * zs h - zs m) (v := zs h) e1.1.1 e1.1.2 oh.1 oh.2
    have t2 := mul_ab (u := zc p * zc h - zs p * zs h - zc m) (v := zc h) e1.2.1 e1.2.2 oc.1 oc.2
    have t3 := mul_ab (u := zc p) (v := zs h * zs h + zc h * zc h - 1) (A := 1 + eps) (B := eps) o1.1 o1.2 (by grind) (by grind)
    have id : zc p - (zc m * zc h + zs m * zs h) = (zs p * zc h + zc p * zs h - zs m) * zs h + (zc p * zc h - zs p * zs h - zc m) * zc h - zc p * (zs h * zs h + zc h * zc h - 1) := by grind
    rw [id]
    rw [ep] at t1 t2 t3
    generalize (zs p * zc h + zc p * zs h - zs m) * zs h = T1 at *
    generalize (zc p * zc h - zs p * zs h - zc m) * zc h = T2 at *
    generalize zc p * (zs h * zs h + zc h * zc h - 1) = T3 at *
    constructor <;> grind
  have cb : -(1 / 100000000) ≤ zc q - (zc m * zc h - zs m * zs h) ∧ zc q - (zc m * zc h - zs m * zs h) ≤ 1 / 100000000 := by
    have l := zlip (m + h + 250000000) (d := q - m - h) (by omega)
    rw [show m + h + 250000000 + (q - m - h) = q + 250000000 by omega, z_quarter, z_quarter] at l
    have l1 := lip_mono (show q - m - h ≤ 1 by omega)
    have n1 : lip 1 ≤ 63 / 10000000000 := by decide +kernel
    have e2c := e2.2
    rw [ep] at e2c
    constructor <;> grind
  have sx : (1 - arc (f1 / 2 - 28379998) * arc (f1 / 2 - 28379998) / 2) * (1 - arc (f1 / 2 + 1) * arc (f1 / 2 + 1) / 2) ≤ zc m * zc h := by
    have bm := arc_b (a := f1 / 2 - 28379998) (by omega) (by omega)
    have bh := arc_b (a := f1 / 2 + 1) (by omega) (by omega)
    have u1 : 0 ≤ 1 - arc (f1 / 2 - 28379998) * arc (f1 / 2 - 28379998) / 2 := by
      have := Rat.mul_nonneg (show 0 ≤ 1 - arc (f1 / 2 - 28379998) by grind) (show 0 ≤ 1 + arc (f1 / 2 - 28379998) by grind); grind
    have t1 := Rat.mul_nonneg u1 (show 0 ≤ zc h - (1 - arc (f1 / 2 + 1) * arc (f1 / 2 + 1) / 2) by have := sh.2.2.2; grind)
    have t2 := Rat.mul_nonneg (show 0 ≤ zc m - (1 - arc (f1 / 2 - 28379998) * arc (f1 / 2 - 28379998) / 2) by have := sm.2.2.2; grind) (show 0 ≤ zc h by grind)
    grind
  have sy := mul_ab sm.1.1 sm.1.2 sh.1.1 sh.1.2
  have yb : (zc p - zc q) * (zc p - zc q) ≤ 4 * yy := by
    generalize arc (f1 / 2 - 28379998) * arc (f1 / 2 + 1) = Z at *
    have r1 : -(2 * (Z + 1 / 100000000)) ≤ zc p - zc q := by grind
    have r2 : zc p - zc q ≤ 2 * (Z + 1 / 100000000) := by grind
    have := Rat.mul_nonneg (show 0 ≤ 2 * (Z + 1 / 100000000) - (zc p - zc q) by grind) (show 0 ≤ 2 * (Z + 1 / 100000000) + (zc p - zc q) by grind)
    grind
  have hs : zs q * zc p - zc q * zs p ≤ f := by
    have s := z_sub q p
    have l := zlip f0 (d := q - p - f0) (by omega)
    rw [show f0 + (q - p - f0) = q - p by omega] at l
    have lm := lip_mono (show q - p - f0 ≤ f1 - f0 by omega)
    grind
  rw [ep] at o1 o2
  exact flip_alg hA hB (by grind) (by grind) (by grind) (by grind) hs x0 (by grind) yb hD X1 num
end Go.Proofs.Ytimehbdleognkaa.JE
