/- What gauge.normal computes for readings of two and of three columns. No condition on a program. -/
import Derived.Test.YtglpfgkbecgaaaaJUx1
import Derived.Test.YtglpfgkbecgaaaaJUx1
import Derived.Test.YtglpfgkbecgaaaaJUx1
import Derived.Test.YtglpfgkbecgaaaaAbase
namespace Go.Proofs.Ytglpfgkbecgaaaa.JU
open Go.Proofs.Ytglpfgkbecgaaaa.Own Go.RowKit Go.Proofs.YtglpfgkbecgaaaaW.PrintWords Go.Proofs.YtglpfgkbecgaaaaW.PrintLast
set_option maxRecDepth 100000
abbrev Mx := List (List Int)
/-- with enough rounds -/
def Goes {α : Type} (f : Nat → Option α) (r : α) : Prop := ∃ k0, ∀ k, k0 ≤ k → f k = some r
theorem Goes.step {α : Type} {f g : Nat → Option α} {r : α} (h : ∀ k, f (k + 1) = g k) (hg : Goes g r) : Goes f r := by
  obtain ⟨k0, h0⟩ := hg
  refine ⟨k0 + 1, fun k hk => ?_⟩
  obtain ⟨m, rfl⟩ : ∃ m, k = m + 1 := ⟨k - 1, by omega⟩
  rw [h]; exact h0 m (by omega)
theorem Goes.of {α : Type} {f : Nat → Option α} {r : α} (h : ∀ k, f k = some r) : Goes f r := ⟨0, fun k _ => h k⟩
theorem Goes.congr {α : Type} {f g : Nat → Option α} {r : α} (h : ∀ k, f k = g k) (hg : Goes g r) : Goes f r := by
  obtain ⟨k0, h0⟩ := hg
  exact ⟨k0, fun k hk => by rw [h]; exact h0 k hk⟩
theorem Goes.bind {α β : Type} {f : Nat → Option α} {g : Nat → α → Option β} {a : α} {b : β} (hf : Goes f a) (hg : Goes (fun k => g k a) b) : Goes (fun k => (f k).bind (g k)) b := by
  obtain ⟨k0, h0⟩ := hf
  obtain ⟨k1, h1⟩ := hg
  refine ⟨k0 + k1, fun k hk => ?_⟩
  show (f k).bind (g k) = some b
  rw [h0 k (by omega)]
  exact h1 k (by omega)
theorem Goes.one {α : Type} {f : Nat → Option α} {r : α} (h : ∀ k, f (k + 1) = some r) : Goes f r := Goes.step (g := fun _ => some r) h (Goes.of fun _ => rfl)

theorem rdset {x6 : Mx} {i : Int} {v : List Int} (h0 : 0 ≤ i) (h : i < x6.length) : rd_L1 (x6.set i.toNat v) i = v := by
  have : i.toNat < x6.length := by omega
  unfold rd_L1
  simp [List.getD, this]
theorem lenset {x6 : Mx} {i : Nat} {v : List Int} : (x6.set i v).length = x6.length := List.length_set
theorem mul_b {a b A B : Int} (h1 : -A ≤ a) (h2 : a ≤ A) (h3 : -B ≤ b) (h4 : b ≤ B) : -(A * B) ≤ a * b ∧ a * b ≤ A * B := by
  have hA : 0 ≤ A := by omega
  have hB : 0 ≤ B := by omega
  have e1 : 0 ≤ (A - a) * (B - b) := Int.mul_nonneg (by omega) (by omega)
  have e2 : 0 ≤ (A + a) * (B + b) := Int.mul_nonneg (by omega) (by omega)
  have e3 : 0 ≤ (A - a) * (B + b) := Int.mul_nonneg (by omega) (by omega)
  have e4 : 0 ≤ (A + a) * (B - b) := Int.mul_nonneg (by omega) (by omega)
  constructor <;> grind
/-- sums over the readings -/
def SS (R : Mx) (i j : Int) : Int := (R.map fun r => rd r i * rd r j).sum
def ST (R : Mx) (hs : List Int) (i : Int) : Int := (List.zipWith (fun r h => rd r i * h) R hs).sum
def okR (K : Nat) (r : List Int) : Prop := r.length = K ∧ ∀ z ∈ r, -10 ≤ z ∧ z ≤ 10
theorem okR_rd {K : Nat} {r : List Int} (h : okR K r) (i : Int) : -10 ≤ rd r i ∧ rd r i ≤ 10 := by
  unfold rd
  rcases Nat.lt_or_ge i.toNat r.length with c | c
  · rw [List.getD_eq_getElem?_getD, List.getElem?_eq_getElem c]
    exact h.2 _ (List.getElem_mem c)
  · rw [List.getD_eq_getElem?_getD, List.getElem?_eq_none c]; simp
theorem drop_cons_ {α : Type} {l : List α} {p : Nat} {x : α} {r : List α} (h : l.drop p = x :: r) : p < l.length ∧ l.drop (p + 1) = r ∧ l[p]? = some x := by
  have h1 : p < l.length := by
    rcases Nat.lt_or_ge p l.length with h1 | h1
    · exact h1
    · rw [List.drop_eq_nil_iff.mpr h1] at h; cases h
  refine ⟨h1, ?_, ?_⟩
  · rw [← List.drop_drop, h]; rfl
  · have := congrArg (fun z => z[0]?) h
    simpa using this
theorem rdL {R : Mx} {p : Nat} {r : List Int} (h : R[p]? = some r) : rd_L1 R (p : Int) = r := by simp [rd_L1, List.getD, h]
theorem rdI {R : List Int} {p : Nat} {r : Int} (h : R[p]? = some r) : rd R (p : Int) = r := by simp [rd, List.getD, h]
theorem l2_two {x0 x6 x28 : Mx} {x1 : List Int} {i n a0 a1 a2 u0 u1 h ri x18 x19 x29 x30 : Int} {z : Mx} (h0 : 0 ≤ i) (h1 : i < 2) (hl : i < x6.length) (hn : 0 ≤ n) (hn' : n < x1.length) (hh : rd x1 n = h) (hr : rd [u0, u1] i = ri) (b0 : -1000000 ≤ a0 ∧ a0 ≤ 1000000) (b1 : -1000000 ≤ a1 ∧ a1 ≤ 1000000) (b2 : -1000000 ≤ a2 ∧ a2 ≤ 1000000) (c0 : -100 ≤ ri * u0 ∧ ri * u0 ≤ 100) (c1 : -100 ≤ ri * u1 ∧ ri * u1 ≤ 100) (ch : -10000 ≤ ri * h ∧ ri * h ≤ 10000)
    (g : Goes (fun k => gauge_normal.l1 k x0 x1 2 (x6.set i.toNat [a0 + ri * u0, a1 + ri * u1, a2 + ri * h]) i x18 x19 x28 x29 (wrap64 (x30 + 1))) z) :
    Goes (fun k => gauge_normal.l2 k x0 x1 2 (x6.set i.toNat [a0, a1, a2]) i n [u0, u1] x18 x19 x28 x29 x30 2 0) z := by
  refine Goes.step (g := fun k => gauge_normal.l2 k x0 x1 2 (x6.set i.toNat [a0 + ri * u0, a1, a2]) i n [u0, u1] x18 x19 x28 x29 x30 2 1) (fun k => ?_) ?_
  · simp only [gauge_normal.l2]
    rw [if_pos (by omega), if_pos h0, if_pos (by rw [lenset]; exact hl), if_pos (by omega), rdset h0 hl, if_pos (by simp), if_pos (by simpa using h1), if_pos (by simp), hr, show rd [u0, u1] 0 = u0 from rfl, show rd [a0, a1, a2] 0 = a0 from rfl, wrap_in (n := ri * u0) (by omega) (by omega), wrap_in (n := a0 + ri * u0) (by omega) (by omega), List.set_set, show wrap64 ((0 : Int) + 1) = 1 from by decide +kernel]
    rfl
  refine Goes.step (g := fun k => gauge_normal.l2 k x0 x1 2 (x6.set i.toNat [a0 + ri * u0, a1 + ri * u1, a2]) i n [u0, u1] x18 x19 x28 x29 x30 2 2) (fun k => ?_) ?_
  · simp only [gauge_normal.l2]
    rw [if_pos (by omega), if_pos h0, if_pos (by rw [lenset]; exact hl), if_pos (by omega), rdset h0 hl, if_pos (by simp), if_pos (by simpa using h1), if_pos (by simp), hr, show rd [u0, u1] 1 = u1 from rfl, show rd [a0 + ri * u0, a1, a2] 1 = a1 from rfl, wrap_in (n := ri * u1) (by omega) (by omega), wrap_in (n := a1 + ri * u1) (by omega) (by omega), List.set_set, show wrap64 ((1 : Int) + 1) = 2 from by decide +kernel]
    rfl
  refine Goes.step (fun k => ?_) g
  simp only [gauge_normal.l2]
  rw [if_neg (by omega), if_pos h0, if_pos (by rw [lenset]; exact hl), if_pos (by omega), rdset h0 hl, if_pos (by simp), if_pos (by simpa using h1), if_pos hn, if_pos hn', hr, hh, show rd [a0 + ri * u0, a1 + ri * u1, a2] 2 = a2 from rfl, wrap_in (n := ri * h) (by omega) (by omega), wrap_in (n := a2 + ri * h) (by omega) (by omega), List.set_set]
  rfl
theorem l1_two {R x6 : Mx} {hs : List Int} {i x18 x19 : Int} {z : Mx} (h0 : 0 ≤ i) (h1 : i < 2) (hl : i < x6.length) (hlen : hs.length = R.length) (h6 : R.length ≤ 6) (hR : ∀ r ∈ R, okR 2 r) (hh : ∀ h ∈ hs, -1000 ≤ h ∧ h ≤ 1000) :
    ∀ (rest : Mx) (p : Nat) (a0 a1 a2 : Int), R.drop p = rest → p + rest.length = R.length → -(100 * (p : Int)) ≤ a0 ∧ a0 ≤ 100 * (p : Int) → -(100 * (p : Int)) ≤ a1 ∧ a1 ≤ 100 * (p : Int) → -(10000 * (p : Int)) ≤ a2 ∧ a2 ≤ 10000 * (p : Int) →
    Goes (fun k => gauge_normal.l0 k R hs 2 (x6.set i.toNat [a0 + SS rest i 0, a1 + SS rest i 1, a2 + ST rest (hs.drop p) i]) x18 (wrap64 (x19 + 1))) z →
    Goes (fun k => gauge_normal.l1 k R hs 2 (x6.set i.toNat [a0, a1, a2]) i x18 x19 R R.length p) z
  | [], p, a0, a1, a2, hr, hp, b0, b1, b2, g => by
    have e : p = R.length := by simpa using hp
    refine Goes.step (fun k => ?_) g
    simp only [gauge_normal.l1]
    rw [if_neg (by omega)]
    simp [SS, ST]
  | r :: rest, p, a0, a1, a2, hr, hp, b0, b1, b2, g => by
    have hle : (r :: rest).length = rest.length + 1 := rfl
    obtain ⟨e1, e2, e3⟩ := drop_cons_ hr
    have hm := hR r (List.mem_of_getElem? e3)
    have hp1 : p < hs.length := by omega
    have e4 : hs[p]? = some hs[p] := List.getElem?_eq_getElem hp1
    have hb := hh hs[p] (List.getElem_mem hp1)
    have ed : hs.drop p = hs[p] :: hs.drop (p + 1) := List.drop_eq_getElem_cons hp1
    generalize hs[p] = h at *
    obtain ⟨u0, u1, rfl⟩ : ∃ u0 u1, r = [u0, u1] := by
      have := hm.1
      match r, this with
      | [u0, u1], _ => exact ⟨_, _, rfl⟩
    have q := okR_rd hm i
    have ri_ : rd [u0, u1] i = rd [u0, u1] i := rfl
    generalize hri : rd [u0, u1] i = ri at *
    have w0 := hm.2 u0 (by simp)
    have m0 := mul_b q.1 q.2 w0.1 w0.2
    have w1 := hm.2 u1 (by simp)
    have m1 := mul_b q.1 q.2 w1.1 w1.2
    have mh := mul_b q.1 q.2 hb.1 hb.2
    refine Goes.step (g := fun k => gauge_normal.l2 k R hs 2 (x6.set i.toNat [a0, a1, a2]) i p [u0, u1] x18 x19 R R.length p 2 0) (fun k => ?_) ?_
    · simp only [gauge_normal.l1]
      rw [if_pos (by omega), if_pos (by omega), if_pos (by omega), rdL e3]
    · refine l2_two h0 h1 hl (by omega) (by omega) (rdI e4) hri (by omega) (by omega) (by omega) (by omega) (by omega) (by omega) ?_
      rw [wrap_in (n := (p : Int) + 1) (by omega) (by omega), show (p : Int) + 1 = ((p + 1 : Nat) : Int) from by omega]
      refine l1_two h0 h1 hl hlen h6 hR hh rest (p + 1) _ _ _ e2 (by omega) (by omega) (by omega) (by omega) ?_
      have E : [a0 + SS ([u0, u1] :: rest) i 0, a1 + SS ([u0, u1] :: rest) i 1, a2 + ST ([u0, u1] :: rest) (hs.drop p) i] = [a0 + ri * u0 + SS rest i 0, a1 + ri * u1 + SS rest i 1, a2 + ri * h + ST rest (hs.drop (p + 1)) i] := by
        simp only [SS, ST, ed, List.map_cons, List.sum_cons, List.zipWith_cons_cons, hri]
        rw [show rd [u0, u1] 0 = u0 from rfl]; rw [show rd [u0, u1] 1 = u1 from rfl]
        simp only [Int.add_assoc]
      rw [← E]
      exact g
/-- the matrix of two columns -/
def N2 (R : Mx) (hs : List Int) : Mx := [[SS R 0 0, SS R 0 1, ST R hs 0], [SS R 1 0, SS R 1 1, ST R hs 1]]
theorem normal_two {R : Mx} {hs : List Int} (hne : R ≠ []) (hlen : hs.length = R.length) (h6 : R.length ≤ 6) (hR : ∀ r ∈ R, okR 2 r) (hh : ∀ h ∈ hs, -1000 ≤ h ∧ h ≤ 1000) : Goes (fun k => gauge_normal.f k R hs) (N2 R hs) := by
  have hpos : 0 < R.length := List.length_pos_iff.mpr hne
  have hf : ((rd_L1 R 0).length : Int) = 2 := by
    match R, hne with
    | r :: R, _ => have := (hR r (by simp)).1; simp [rd_L1, this]
  have Z : ∀ i : Int, ∀ rest, R.drop 0 = rest → 0 + rest.length = R.length := fun _ rest e => by rw [← e]; simp
  refine Goes.congr (g := fun k => gauge_normal.l0 k R hs 2 ([[], []] : Mx) 2 0) (fun k => ?_) ?_
  · unfold gauge_normal.f
    rw [if_pos (by omega), hf, if_pos (by omega), if_pos (by decide +kernel)]
    rfl
  refine Goes.step (g := fun k => gauge_normal.l1 k R hs 2 (([[], []] : Mx).set (0 : Int).toNat [0, 0, 0]) 0 2 0 R R.length (0 : Nat)) (fun k => ?_) ?_
  · simp only [gauge_normal.l0]
    rw [if_pos (by omega), if_pos (by decide +kernel), if_pos (by decide +kernel), if_pos (by omega), if_pos (by simp), show wrap64 ((2 : Int) + 1) = 3 from by decide +kernel]
    rfl
  refine l1_two (by omega) (by omega) (by simp) hlen h6 hR hh R 0 0 0 0 rfl (by simp) (by omega) (by omega) (by omega) ?_
  refine Goes.congr (g := fun k => gauge_normal.l0 k R hs 2 ([[SS R 0 0, SS R 0 1, ST R hs 0], []] : Mx) 2 1) (fun k => ?_) ?_
  · rw [show wrap64 ((0 : Int) + 1) = 1 from by decide +kernel]
    simp only [List.drop_zero, Int.zero_add]
    rfl
  refine Goes.step (g := fun k => gauge_normal.l1 k R hs 2 (([[SS R 0 0, SS R 0 1, ST R hs 0], []] : Mx).set (1 : Int).toNat [0, 0, 0]) 1 2 1 R R.length (0 : Nat)) (fun k => ?_) ?_
  · simp only [gauge_normal.l0]
    rw [if_pos (by omega), if_pos (by decide +kernel), if_pos (by decide +kernel), if_pos (by omega), if_pos (by simp), show wrap64 ((2 : Int) + 1) = 3 from by decide +kernel]
    rfl
  refine l1_two (by omega) (by omega) (by simp) hlen h6 hR hh R 0 0 0 0 rfl (by simp) (by omega) (by omega) (by omega) ?_
  refine Goes.congr (g := fun k => gauge_normal.l0 k R hs 2 ([[SS R 0 0, SS R 0 1, ST R hs 0], [SS R 1 0, SS R 1 1, ST R hs 1]] : Mx) 2 2) (fun k => ?_) ?_
  · rw [show wrap64 ((1 : Int) + 1) = 2 from by decide +kernel]
    simp only [List.drop_zero, Int.zero_add]
    rfl
  exact Goes.one (fun k => by simp only [gauge_normal.l0]; rw [if_neg (by omega)]; rfl)

theorem l2_three {x0 x6 x28 : Mx} {x1 : List Int} {i n a0 a1 a2 a3 u0 u1 u2 h ri x18 x19 x29 x30 : Int} {z : Mx} (h0 : 0 ≤ i) (h1 : i < 3) (hl : i < x6.length) (hn : 0 ≤ n) (hn' : n < x1.length) (hh : rd x1 n = h) (hr : rd [u0, u1, u2] i = ri) (b0 : -1000000 ≤ a0 ∧ a0 ≤ 1000000) (b1 : -1000000 ≤ a1 ∧ a1 ≤ 1000000) (b2 : -1000000 ≤ a2 ∧ a2 ≤ 1000000) (b3 : -1000000 ≤ a3 ∧ a3 ≤ 1000000) (c0 : -100 ≤ ri * u0 ∧ ri * u0 ≤ 100) (c1 : -100 ≤ ri * u1 ∧ ri * u1 ≤ 100) (c2 : -100 ≤ ri * u2 ∧ ri * u2 ≤ 100) (ch : -10000 ≤ ri * h ∧ ri * h ≤ 10000)
    (g : Goes (fun k => gauge_normal.l1 k x0 x1 3 (x6.set i.toNat [a0 + ri * u0, a1 + ri * u1, a2 + ri * u2, a3 + ri * h]) i x18 x19 x28 x29 (wrap64 (x30 + 1))) z) :
    Goes (fun k => gauge_normal.l2 k x0 x1 3 (x6.set i.toNat [a0, a1, a2, a3]) i n [u0, u1, u2] x18 x19 x28 x29 x30 3 0) z := by
  refine Goes.step (g := fun k => gauge_normal.l2 k x0 x1 3 (x6.set i.toNat [a0 + ri * u0, a1, a2, a3]) i n [u0, u1, u2] x18 x19 x28 x29 x30 3 1) (fun k => ?_) ?_
  · simp only [gauge_normal.l2]
    rw [if_pos (by omega), if_pos h0, if_pos (by rw [lenset]; exact hl), if_pos (by omega), rdset h0 hl, if_pos (by simp), if_pos (by simpa using h1), if_pos (by simp), hr, show rd [u0, u1, u2] 0 = u0 from rfl, show rd [a0, a1, a2, a3] 0 = a0 from rfl, wrap_in (n := ri * u0) (by omega) (by omega), wrap_in (n := a0 + ri * u0) (by omega) (by omega), List.set_set, show wrap64 ((0 : Int) + 1) = 1 from by decide +kernel]
    rfl
  refine Goes.step (g := fun k => gauge_normal.l2 k x0 x1 3 (x6.set i.toNat [a0 + ri * u0, a1 + ri * u1, a2, a3]) i n [u0, u1, u2] x18 x19 x28 x29 x30 3 2) (fun k => ?_) ?_
  · simp only [gauge_normal.l2]
    rw [if_pos (by omega), if_pos h0, if_pos (by rw [lenset]; exact hl), if_pos (by omega), rdset h0 hl, if_pos (by simp), if_pos (by simpa using h1), if_pos (by simp), hr, show rd [u0, u1, u2] 1 = u1 from rfl, show rd [a0 + ri * u0, a1, a2, a3] 1 = a1 from rfl, wrap_in (n := ri * u1) (by omega) (by omega), wrap_in (n := a1 + ri * u1) (by omega) (by omega), List.set_set, show wrap64 ((1 : Int) + 1) = 2 from by decide +kernel]
    rfl
  refine Goes.step (g := fun k => gauge_normal.l2 k x0 x1 3 (x6.set i.toNat [a0 + ri * u0, a1 + ri * u1, a2 + ri * u2, a3]) i n [u0, u1, u2] x18 x19 x28 x29 x30 3 3) (fun k => ?_) ?_
  · simp only [gauge_normal.l2]
    rw [if_pos (by omega), if_pos h0, if_pos (by rw [lenset]; exact hl), if_pos (by omega), rdset h0 hl, if_pos (by simp), if_pos (by simpa using h1), if_pos (by simp), hr, show rd [u0, u1, u2] 2 = u2 from rfl, show rd [a0 + ri * u0, a1 + ri * u1, a2, a3] 2 = a2 from rfl, wrap_in (n := ri * u2) (by omega) (by omega), wrap_in (n := a2 + ri * u2) (by omega) (by omega), List.set_set, show wrap64 ((2 : Int) + 1) = 3 from by decide +kernel]
    rfl
  refine Goes.step (fun k => ?_) g
  simp only [gauge_normal.l2]
  rw [if_neg (by omega), if_pos h0, if_pos (by rw [lenset]; exact hl), if_pos (by omega), rdset h0 hl, if_pos (by simp), if_pos (by simpa using h1), if_pos hn, if_pos hn', hr, hh, show rd [a0 + ri * u0, a1 + ri * u1, a2 + ri * u2, a3] 3 = a3 from rfl, wrap_in (n := ri * h) (by omega) (by omega), wrap_in (n := a3 + ri * h) (by omega) (by omega), List.set_set]
  rfl
theorem l1_three {R x6 : Mx} {hs : List Int} {i x18 x19 : Int} {z : Mx} (h0 : 0 ≤ i) (h1 : i < 3) (hl : i < x6.length) (hlen : hs.length = R.length) (h6 : R.length ≤ 6) (hR : ∀ r ∈ R, okR 3 r) (hh : ∀ h ∈ hs, -1000 ≤ h ∧ h ≤ 1000) :
    ∀ (rest : Mx) (p : Nat) (a0 a1 a2 a3 : Int), R.drop p = rest → p + rest.length = R.length → -(100 * (p : Int)) ≤ a0 ∧ a0 ≤ 100 * (p : Int) → -(100 * (p : Int)) ≤ a1 ∧ a1 ≤ 100 * (p : Int) → -(100 * (p : Int)) ≤ a2 ∧ a2 ≤ 100 * (p : Int) → -(10000 * (p : Int)) ≤ a3 ∧ a3 ≤ 10000 * (p : Int) →
    Goes (fun k => gauge_normal.l0 k R hs 3 (x6.set i.toNat [a0 + SS rest i 0, a1 + SS rest i 1, a2 + SS rest i 2, a3 + ST rest (hs.drop p) i]) x18 (wrap64 (x19 + 1))) z →
    Goes (fun k => gauge_normal.l1 k R hs 3 (x6.set i.toNat [a0, a1, a2, a3]) i x18 x19 R R.length p) z
  | [], p, a0, a1, a2, a3, hr, hp, b0, b1, b2, b3, g => by
    have e : p = R.length := by simpa using hp
    refine Goes.step (fun k => ?_) g
    simp only [gauge_normal.l1]
    rw [if_neg (by omega)]
    simp [SS, ST]
  | r :: rest, p, a0, a1, a2, a3, hr, hp, b0, b1, b2, b3, g => by
    have hle : (r :: rest).length = rest.length + 1 := rfl
    obtain ⟨e1, e2, e3⟩ := drop_cons_ hr
    have hm := hR r (List.mem_of_getElem? e3)
    have hp1 : p < hs.length := by omega
    have e4 : hs[p]? = some hs[p] := List.getElem?_eq_getElem hp1
    have hb := hh hs[p] (List.getElem_mem hp1)
    have ed : hs.drop p = hs[p] :: hs.drop (p + 1) := List.drop_eq_getElem_cons hp1
    generalize hs[p] = h at *
    obtain ⟨u0, u1, u2, rfl⟩ : ∃ u0 u1 u2, r = [u0, u1, u2] := by
      have := hm.1
      match r, this with
      | [u0, u1, u2], _ => exact ⟨_, _, _, rfl⟩
    have q := okR_rd hm i
    have ri_ : rd [u0, u1, u2] i = rd [u0, u1, u2] i := rfl
    generalize hri : rd [u0, u1, u2] i = ri at *
    have w0 := hm.2 u0 (by simp)
    have m0 := mul_b q.1 q.2 w0.1 w0.2
    have w1 := hm.2 u1 (by simp)
    have m1 := mul_b q.1 q.2 w1.1 w1.2
    have w2 := hm.2 u2 (by simp)
    have m2 := mul_b q.1 q.2 w2.1 w2.2
    have mh := mul_b q.1 q.2 hb.1 hb.2
    refine Goes.step (g := fun k => gauge_normal.l2 k R hs 3 (x6.set i.toNat [a0, a1, a2, a3]) i p [u0, u1, u2] x18 x19 R R.length p 3 0) (fun k => ?_) ?_
    · simp only [gauge_normal.l1]
      rw [if_pos (by omega), if_pos (by omega), if_pos (by omega), rdL e3]
    · refine l2_three h0 h1 hl (by omega) (by omega) (rdI e4) hri (by omega) (by omega) (by omega) (by omega) (by omega) (by omega) (by omega) (by omega) ?_
      rw [wrap_in (n := (p : Int) + 1) (by omega) (by omega), show (p : Int) + 1 = ((p + 1 : Nat) : Int) from by omega]
      refine l1_three h0 h1 hl hlen h6 hR hh rest (p + 1) _ _ _ _ e2 (by omega) (by omega) (by omega) (by omega) (by omega) ?_
      have E : [a0 + SS ([u0, u1, u2] :: rest) i 0, a1 + SS ([u0, u1, u2] :: rest) i 1, a2 + SS ([u0, u1, u2] :: rest) i 2, a3 + ST ([u0, u1, u2] :: rest) (hs.drop p) i] = [a0 + ri * u0 + SS rest i 0, a1 + ri * u1 + SS rest i 1, a2 + ri * u2 + SS rest i 2, a3 + ri * h + ST rest (hs.drop (p + 1)) i] := by
        simp only [SS, ST, ed, List.map_cons, List.sum_cons, List.zipWith_cons_cons, hri]
        rw [show rd [u0, u1, u2] 0 = u0 from rfl]; rw [show rd [u0, u1, u2] 1 = u1 from rfl]; rw [show rd [u0, u1, u2] 2 = u2 from rfl]
        simp only [Int.add_assoc]
      rw [← E]
      exact g
/-- the matrix of three columns -/
def N3 (R : Mx) (hs : List Int) : Mx := [[SS R 0 0, SS R 0 1, SS R 0 2, ST R hs 0], [SS R 1 0, SS R 1 1, SS R 1 2, ST R hs 1], [SS R 2 0, SS R 2 1, SS R 2 2, ST R hs 2]]
theorem normal_three {R : Mx} {hs : List Int} (hne : R ≠ []) (hlen : hs.length = R.length) (h6 : R.length ≤ 6) (hR : ∀ r ∈ R, okR 3 r) (hh : ∀ h ∈ hs, -1000 ≤ h ∧ h ≤ 1000) : Goes (fun k => gauge_normal.f k R hs) (N3 R hs) := by
  have hpos : 0 < R.length := List.length_pos_iff.mpr hne
  have hf : ((rd_L1 R 0).length : Int) = 3 := by
    match R, hne with
    | r :: R, _ => have := (hR r (by simp)).1; simp [rd_L1, this]
  have Z : ∀ i : Int, ∀ rest, R.drop 0 = rest → 0 + rest.length = R.length := fun _ rest e => by rw [← e]; simp
  refine Goes.congr (g := fun k => gauge_normal.l0 k R hs 3 ([[], [], []] : Mx) 3 0) (fun k => ?_) ?_
  · unfold gauge_normal.f
    rw [if_pos (by omega), hf, if_pos (by omega), if_pos (by decide +kernel)]
    rfl
  refine Goes.step (g := fun k => gauge_normal.l1 k R hs 3 (([[], [], []] : Mx).set (0 : Int).toNat [0, 0, 0, 0]) 0 3 0 R R.length (0 : Nat)) (fun k => ?_) ?_
  · simp only [gauge_normal.l0]
    rw [if_pos (by omega), if_pos (by decide +kernel), if_pos (by decide +kernel), if_pos (by omega), if_pos (by simp), show wrap64 ((3 : Int) + 1) = 4 from by decide +kernel]
    rfl
  refine l1_three (by omega) (by omega) (by simp) hlen h6 hR hh R 0 0 0 0 0 rfl (by simp) (by omega) (by omega) (by omega) (by omega) ?_
  refine Goes.congr (g := fun k => gauge_normal.l0 k R hs 3 ([[SS R 0 0, SS R 0 1, SS R 0 2, ST R hs 0], [], []] : Mx) 3 1) (fun k => ?_) ?_
  · rw [show wrap64 ((0 : Int) + 1) = 1 from by decide +kernel]
    simp only [List.drop_zero, Int.zero_add]
    rfl
  refine Goes.step (g := fun k => gauge_normal.l1 k R hs 3 (([[SS R 0 0, SS R 0 1, SS R 0 2, ST R hs 0], [], []] : Mx).set (1 : Int).toNat [0, 0, 0, 0]) 1 3 1 R R.length (0 : Nat)) (fun k => ?_) ?_
  · simp only [gauge_normal.l0]
    rw [if_pos (by omega), if_pos (by decide +kernel), if_pos (by decide +kernel), if_pos (by omega), if_pos (by simp), show wrap64 ((3 : Int) + 1) = 4 from by decide +kernel]
    rfl
  refine l1_three (by omega) (by omega) (by simp) hlen h6 hR hh R 0 0 0 0 0 rfl (by simp) (by omega) (by omega) (by omega) (by omega) ?_
  refine Goes.congr (g := fun k => gauge_normal.l0 k R hs 3 ([[SS R 0 0, SS R 0 1, SS R 0 2, ST R hs 0], [SS R 1 0, SS R 1 1, SS R 1 2, ST R hs 1], []] : Mx) 3 2) (fun k => ?_) ?_
  · rw [show wrap64 ((1 : Int) + 1) = 2 from by decide +kernel]
    simp only [List.drop_zero, Int.zero_add]
    rfl
  refine Goes.step (g := fun k => gauge_normal.l1 k R hs 3 (([[SS R 0 0, SS R 0 1, SS R 0 2, ST R hs 0], [SS R 1 0, SS R 1 1, SS R 1 2, ST R hs 1], []] : Mx).set (2 : Int).toNat [0, 0, 0, 0]) 2 3 2 R R.length (0 : Nat)) (fun k => ?_) ?_
  · simp only [gauge_normal.l0]
    rw [if_pos (by omega), if_pos (by decide +kernel), if_pos (by decide +kernel), if_pos (by omega), if_pos (by simp), show wrap64 ((3 : Int) + 1) = 4 from by decide +kernel]
    rfl
  refine l1_three (by omega) (by omega) (by simp) hlen h6 hR hh R 0 0 0 0 0 rfl (by simp) (by omega) (by omega) (by omega) (by omega) ?_
  refine Goes.congr (g := fun k => gauge_normal.l0 k R hs 3 ([[SS R 0 0, SS R 0 1, SS R 0 2, ST R hs 0], [SS R 1 0, SS R 1 1, SS R 1 2, ST R hs 1], [SS R 2 0, SS R 2 1, SS R 2 2, ST R hs 2]] : Mx) 3 3) (fun k => ?_) ?_
  · rw [show wrap64 ((2 : Int) + 1) = 3 from by decide +kernel]
    simp only [List.drop_zero, Int.zero_add]
    rfl
  exact Goes.one (fun k => by simp only [gauge_normal.l0]; rw [if_neg (by omega)]; rfl)

end Go.Proofs.Ytglpfgkbecgaaaa.JU
