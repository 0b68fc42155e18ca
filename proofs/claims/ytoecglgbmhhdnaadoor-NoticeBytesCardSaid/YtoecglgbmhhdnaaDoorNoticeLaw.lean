/- notice.Check, Sign and Right as plain sums; what a permitted text is. No condition on a program. -/
import Derived.Test.YtoecglgbmhhdnaaDoorAbase
import Derived.Test.YtoecglgbmhhdnaaDoorJBx1
namespace Go.Proofs.YtoecglgbmhhdnaaDoor.JB
open Go.Proofs.YtoecglgbmhhdnaaDoor.Own Go.RowKit Go.Proofs.YtoecglgbmhhdnaaDoorW.PrintWords

/-- with enough rounds -/
def Goes {α : Type} (f : Nat → Option α) (r : α) : Prop := ∃ k0, ∀ k, k0 ≤ k → f k = some r
theorem Goes.step {α : Type} {f g : Nat → Option α} {r : α} (h : ∀ k, f (k + 1) = g k) (hg : Goes g r) : Goes f r := by
  obtain ⟨k0, h0⟩ := hg
  refine ⟨k0 + 1, fun k hk => ?_⟩
  obtain ⟨m, rfl⟩ : ∃ m, k = m + 1 := ⟨k - 1, by omega⟩
  rw [h]; exact h0 m (by omega)
theorem Goes.of {α : Type} {f : Nat → Option α} {r : α} (h : ∀ k, f k = some r) : Goes f r := ⟨0, fun k _ => h k⟩
theorem Goes.congr {α : Type} {f g : Nat → Option α} {r : α} (h : ∀ k, f k = g k) (hg : Goes g r) : Goes f r := by
  obtain ⟨k0, h0⟩ := hg
  exact ⟨k0, fun k hk => by rw [h]; exact h0 k hk⟩
theorem Goes.bind {α β : Type} {f : Nat → Option α} {g : Nat → α → Option β} {a : α} {b : β} (hf : Goes f a) (hg : Goes (fun k => g k a) b) : Goes (fun k => (f k).bind (g k)) b := by
  obtain ⟨k0, h0⟩ := hf
  obtain ⟨k1, h1⟩ := hg
  refine ⟨k0 + k1, fun k hk => ?_⟩
  show (f k).bind (g k) = some b
  rw [h0 k (by omega)]
  exact h1 k (by omega)
theorem Goes.of_mono_ {α : Type} {f : Nat → Option α} {r : α} {k0 : Nat} (h : ∀ k, LeO (f k) (f (k + 1))) (h0 : f k0 = some r) : Goes f r := by
  refine ⟨k0, fun k hk => ?_⟩
  induction k with
  | zero => obtain rfl : k0 = 0 := by omega
            exact h0
  | succ k ih =>
    rcases Nat.lt_or_ge k k0 with c | c
    · obtain rfl : k0 = k + 1 := by omega
      exact h0
    · exact h k r (ih c)

def st_ (h : Int) (b : UInt8) : Int := (h * 257 + b.toNat + 1) % 2147483647
def sm_ (key : Int) (l : List UInt8) : Int := (l.foldl st_ key * 257 + key) % 2147483647
theorem st_b (h : Int) (b : UInt8) : 0 ≤ st_ h b ∧ st_ h b < 2147483647 := by unfold st_; omega
theorem sm_b (key : Int) (l : List UInt8) : 0 ≤ sm_ key l ∧ sm_ key l < 2147483647 := by unfold sm_; omega
theorem bt_get {x : ByteArray} {i : Nat} (h : i < x.size) : ∃ b rest, x.data.toList.drop i = b :: rest ∧ bt x (i : Int) = (b.toNat : Int) ∧ x.data.toList.drop (i + 1) = rest := by
  have hl : i < x.data.toList.length := by simpa using h
  refine ⟨x.data.toList[i], x.data.toList.drop (i + 1), List.drop_eq_getElem_cons hl, ?_, rfl⟩
  have e := bt_at x (i : Int) (by simpa using h)
  rw [← e]
  simp
  rfl
theorem sum_loop {x : ByteArray} {key : Int} (k1 : 0 ≤ key) (k2 : key ≤ 1000000000) (hx : x.size ≤ 1000000) : ∀ (d i : Nat) (h : Int), i + d = x.size → 0 ≤ h → h < 2147483647 →
    Goes (fun k => notice_sum.l0 k key h x (x.size : Int) (i : Int)) (((x.data.toList.drop i).foldl st_ h * 257 + key) % 2147483647)
  | 0, i, h, hi, h0, h1 => by
    have hd : x.data.toList.drop i = [] := List.drop_eq_nil_iff.2 (by simp; omega)
    refine ⟨1, fun k hk => ?_⟩
    obtain ⟨m, rfl⟩ : ∃ m, k = m + 1 := ⟨k - 1, by omega⟩
    simp only [notice_sum.l0]
    rw [if_neg (by omega), hd, List.foldl_nil, wrap_in (n := h * 257) (by omega) (by omega), wrap_in (n := h * 257 + key) (by omega) (by omega), tmod_nn (by omega)]
  | d + 1, i, h, hi, h0, h1 => by
    obtain ⟨b, rest, e1, e2, e3⟩ := bt_get (x := x) (i := i) (by omega)
    have hb : (b.toNat : Int) < 256 := by have := b.toNat_lt; omega
    have s := st_b h b
    have ih := sum_loop k1 k2 hx d (i + 1) (st_ h b) (by omega) s.1 s.2
    rw [e3] at ih
    rw [e1, List.foldl_cons]
    refine Goes.step (fun k => ?_) ih
    simp only [notice_sum.l0]
    rw [if_pos (by omega), if_pos (by omega), if_pos (by omega), e2, wrap_in (n := h * 257) (by omega) (by omega), wrap_in (n := (b.toNat : Int)) (by omega) (by omega), wrap_in (n := h * 257 + b.toNat) (by omega) (by omega), wrap_in (n := h * 257 + b.toNat + 1) (by omega) (by omega), wrap_in (n := (i : Int) + 1) (by omega) (by omega), tmod_nn (by omega)]
    rfl
theorem dig_len : ∀ k n, (dig_ k n).length ≤ k
  | 0, _ => Nat.le_refl _
  | k + 1, n => by
    unfold dig_
    split
    · simp
    · have := dig_len k (n / 10); simp; omega
/-- what is summed -/
def tx_ (a n : Int) (t : ByteArray) : List UInt8 := dig_ 10 a.toNat ++ [32] ++ dig_ 10 n.toNat ++ [32] ++ t.data.toList
theorem sum_goes {key a n s : Int} {t : ByteArray} (k1 : 0 ≤ key) (k2 : key ≤ 1000000000) (a1 : 0 ≤ a) (a2 : a < 10000000000) (n1 : 0 ≤ n) (n2 : n < 10000000000) (ht : t.size ≤ 200) : Goes (fun k => notice_sum.f k key a n t s) (sm_ key (tx_ a n t)) := by
  obtain ⟨A, hA⟩ : ∃ A : ByteArray, A = ⟨(dig_ 10 a.toNat).toArray⟩ := ⟨_, rfl⟩
  obtain ⟨B, hB⟩ : ∃ B : ByteArray, B = ⟨(dig_ 10 n.toNat).toArray⟩ := ⟨_, rfl⟩
  have sA : A.size ≤ 10 := by rw [hA]; show (dig_ 10 a.toNat).toArray.size ≤ 10; have := dig_len 10 a.toNat; simpa using this
  have sB : B.size ≤ 10 := by rw [hB]; show (dig_ 10 n.toNat).toArray.size ≤ 10; have := dig_len 10 n.toNat; simpa using this
  have s1 : (⟨#[32]⟩ : ByteArray).size = 1 := rfl
  have sT : ((((A ++ (⟨#[32]⟩ : ByteArray)) ++ B) ++ (⟨#[32]⟩ : ByteArray)) ++ t).size = A.size + 1 + B.size + 1 + t.size := by simp only [ByteArray.size_append, s1]
  have L := sum_loop (x := (((A ++ (⟨#[32]⟩ : ByteArray)) ++ B) ++ (⟨#[32]⟩ : ByteArray)) ++ t) (key := key) k1 k2 (by omega) _ 0 key (Nat.zero_add _) k1 (by omega)
  rw [List.drop_zero] at L
  have e : ((((A ++ (⟨#[32]⟩ : ByteArray)) ++ B) ++ (⟨#[32]⟩ : ByteArray)) ++ t).data.toList = tx_ a n t := by
    simp only [ByteArray.data_append, Array.toList_append]
    rw [hA, hB]
    simp [tx_]
  rw [e] at L
  refine Goes.congr (fun k => ?_) L
  unfold notice_sum.f strconv_Itoa_25.f
  rw [if_pos ⟨a1, a2⟩, if_pos ⟨n1, n2⟩, ← hA, ← hB]
  simp only [Option.bind_some, ByteArray.size_append, s1]
  rw [if_pos (by omega), if_pos (by omega), if_pos (by omega), if_pos (by omega)]
  rfl

/-- a permitted text -/
def Okt (t : ByteArray) : Prop := t.size ≤ 200 ∧ ∀ b ∈ t.data.toList, 32 ≤ b.toNat ∧ b.toNat ≤ 126
theorem check_loop {a n s : Int} {t : ByteArray} (h : Okt t) : ∀ (d i : Nat), i + d = t.size → Goes (fun k => notice_Check.l0 k (t.size : Int) (i : Int) a n t s) 0
  | 0, i, hi => by
    refine ⟨1, fun k hk => ?_⟩
    obtain ⟨m, rfl⟩ : ∃ m, k = m + 1 := ⟨k - 1, by omega⟩
    simp only [notice_Check.l0]
    rw [if_neg (by omega)]
  | d + 1, i, hi => by
    obtain ⟨b, rest, e1, e2, e3⟩ := bt_get (x := t) (i := i) (by omega)
    have hb := h.2 b (List.mem_of_mem_drop (i := i) (by rw [e1]; simp))
    have h1 := h.1
    refine Goes.step (fun k => ?_) (check_loop (a := a) (n := n) (s := s) h d (i + 1) (by omega))
    simp only [notice_Check.l0]
    rw [if_pos (by omega), if_pos (by omega), if_pos (by omega), e2, if_neg (by omega), if_neg (by omega), wrap_in (n := (i : Int) + 1) (by omega) (by omega)]
    rfl
theorem check_goes {a n s : Int} {t : ByteArray} (h : Okt t) (a1 : 0 ≤ a) (a2 : a < 8) (n1 : 1 ≤ n) (n2 : n ≤ 2147483647) (s1 : 0 ≤ s) (s2 : s < 2147483647) : Goes (fun k => notice_Check.f k a n t s) 0 := by
  have h1 := h.1
  refine Goes.congr (g := fun k => notice_Check.j0 k false a n t s) (fun k => ?_) ?_
  · unfold notice_Check.f
    rw [if_neg (by omega), if_neg (by omega), if_neg (by omega), if_neg (by omega), if_neg (by omega), decide_eq_false (by omega)]
  · refine Goes.step (fun k => ?_) (check_loop (a := a) (n := n) (s := s) h t.size 0 (by omega))
    simp only [notice_Check.j0, Bool.false_eq_true, if_false]
    rw [if_neg (by omega)]
    rfl
theorem sign_goes {key a n s : Int} {t : ByteArray} (h : Okt t) (k1 : 1 ≤ key) (k2 : key ≤ 1000000000) (a1 : 0 ≤ a) (a2 : a < 8) (n1 : 1 ≤ n) (n2 : n ≤ 2147483647) : Goes (fun k => notice_Sign.f k key a n t s) (a, n, t, sm_ key (tx_ a n t), 0) := by
  unfold notice_Sign.f
  refine Goes.bind (check_goes h a1 a2 n1 n2 (by omega) (by omega)) ?_
  simp only [if_true]
  refine Goes.congr (g := fun k => (notice_sum.f k key a n t 0).bind fun z => some (a, n, t, z, 0)) (fun k => ?_) (Goes.bind (sum_goes (by omega) k2 a1 (by omega) (by omega) (by omega) h.1) (Goes.of fun _ => rfl))
  rw [if_neg (by omega), if_neg (by omega)]
theorem right_goes {key a n s : Int} {t : ByteArray} (h : Okt t) (k1 : 1 ≤ key) (k2 : key ≤ 1000000000) (a1 : 0 ≤ a) (a2 : a < 8) (n1 : 1 ≤ n) (n2 : n ≤ 2147483647) (s1 : 0 ≤ s) (s2 : s < 2147483647) : Goes (fun k => notice_Right.f k key a n t s) (s == sm_ key (tx_ a n t), 0) := by
  unfold notice_Right.f
  refine Goes.bind (check_goes h a1 a2 n1 n2 s1 s2) ?_
  simp only [if_true]
  refine Goes.congr (g := fun k => (notice_sum.f k key a n t s).bind fun z => some (s == z, 0)) (fun k => ?_) (Goes.bind (sum_goes (by omega) k2 a1 (by omega) (by omega) (by omega) h.1) (Goes.of fun _ => rfl))
  rw [if_neg (by omega), if_neg (by omega)]
theorem pl_nat_ (b : UInt8) : (pl_ b).toNat = 32 + b.toNat % 95 := by
  unfold pl_
  have h : (b % 95).toNat = b.toNat % 95 := by simp
  have h1 := Nat.mod_lt b.toNat (show 95 > 0 by omega)
  rw [UInt8.toNat_add, h]
  show (32 + b.toNat % 95) % 256 = _
  omega
theorem plain_goes {x : ByteArray} (hx : x.size ≤ 9223372036854775807) : ∃ t, ephemeriskeep2_plain.f x = some t ∧ Okt t := by
  refine ⟨⟨((x.data.toList.map pl_).take 200).toArray⟩, by unfold ephemeriskeep2_plain.f; rw [if_pos hx], ?_, fun b hb => ?_⟩
  · show ((x.data.toList.map pl_).take 200).toArray.size ≤ 200
    simp
    omega
  · have h2 : b ∈ x.data.toList.map pl_ := List.mem_of_mem_take (by simpa using hb)
    obtain ⟨c, _, rfl⟩ := List.mem_map.1 h2
    have := pl_nat_ c
    omega
theorem at_f {a m : Int} (h : 0 < m) (h' : m ≤ 4000000000000000000) : ephemeriskeep2_at.f a m = some (a % m) := by
  unfold ephemeriskeep2_at.f
  rw [if_neg (by omega), at_val h h']
end Go.Proofs.YtoecglgbmhhdnaaDoor.JB
