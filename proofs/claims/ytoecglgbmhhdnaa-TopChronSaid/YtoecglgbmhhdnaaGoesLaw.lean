/- Rounds enough, and rows and matrices of whole numbers. No condition on a program. -/
import Derived.Test.YtoecglgbmhhdnaaAbase
import Derived.Test.YtoecglgbmhhdnaaFwLaw
import Derived.Test.YtoecglgbmhhdnaaJEx0
namespace Go.Proofs.Ytoecglgbmhhdnaa.JE
open Go.Proofs.Ytoecglgbmhhdnaa.Own Go.Proofs.Ytoecglgbmhhdnaa.Fw Go.RowKit Go.Proofs.YtoecglgbmhhdnaaW.PrintWords Go.Proofs.YtoecglgbmhhdnaaW.PrintLast
abbrev Bd := S37
abbrev Sn := S34

/-- with enough rounds -/
def Goes {α : Type} (f : Nat → Option α) (r : α) : Prop := ∃ k0, ∀ k, k0 ≤ k → f k = some r
theorem Goes.step {α : Type} {f g : Nat → Option α} {r : α} (h : ∀ k, f (k + 1) = g k) (hg : Goes g r) : Goes f r := by
  obtain ⟨k0, h0⟩ := hg
  refine ⟨k0 + 1, fun k hk => ?_⟩
  obtain ⟨m, rfl⟩ : ∃ m, k = m + 1 := ⟨k - 1, by omega⟩
  rw [h]; exact h0 m (by omega)
theorem Goes.of {α : Type} {f : Nat → Option α} {r : α} (h : ∀ k, f k = some r) : Goes f r := ⟨0, fun k _ => h k⟩
theorem Goes.congr {α : Type} {f g : Nat → Option α} {r : α} (h : ∀ k, f k = g k) (hg : Goes g r) : Goes f r := by
  obtain ⟨k0, h0⟩ := hg
  exact ⟨k0, fun k hk => by rw [h]; exact h0 k hk⟩
theorem Goes.bind {α β : Type} {f : Nat → Option α} {g : Nat → α → Option β} {a : α} {b : β} (hf : Goes f a) (hg : Goes (fun k => g k a) b) : Goes (fun k => (f k).bind (g k)) b := by
  obtain ⟨k0, h0⟩ := hf
  obtain ⟨k1, h1⟩ := hg
  refine ⟨k0 + k1, fun k hk => ?_⟩
  show (f k).bind (g k) = some b
  rw [h0 k (by omega)]
  exact h1 k (by omega)

/-- a row, a row of rows -/
def row {α : Type} (n : Nat) (g : Nat → α) : List α := (List.range n).map g
theorem row_len {α : Type} (n : Nat) (g : Nat → α) : (row n g).length = n := by simp [row]
theorem row_congr {α : Type} {n : Nat} {g h : Nat → α} (e : ∀ i, i < n → g i = h i) : row n g = row n h := by
  unfold row
  exact List.map_congr_left (fun i hi => e i (List.mem_range.1 hi))
theorem row_getD {α : Type} {n i : Nat} (g : Nat → α) (h : i < n) (z : α) : (row n g).getD i z = g i := by
  unfold row; rw [List.getD_eq_getElem?_getD, List.getElem?_map, List.getElem?_range h]; rfl
theorem row_set {α : Type} {n i : Nat} (g : Nat → α) (v : α) (h : i < n) : (row n g).set i v = row n (fun x => if x = i then v else g x) := by
  apply List.ext_getElem?
  intro k
  unfold row
  rw [List.getElem?_set, List.getElem?_map, List.getElem?_map]
  rcases Nat.lt_or_ge k n with hk | hk
  · rw [List.getElem?_range hk]
    by_cases e : i = k
    · subst e; simp [h]
    · rw [if_neg e]; simp; intro e'; exact absurd e'.symm e
  · rw [List.getElem?_eq_none (by simp; exact hk)]
    rw [if_neg (by omega)]; rfl
theorem row_rep {α : Type} (n : Nat) (v : α) : List.replicate n v = row n (fun _ => v) := by
  unfold row; rw [List.map_const']; simp
theorem row_snoc {α : Type} (n : Nat) (g : Nat → α) : row n g ++ [g n] = row (n + 1) g := by
  unfold row; rw [List.range_succ, List.map_append]; rfl
theorem rd_row {n i : Nat} (g : Nat → Int) (h : i < n) : rd (row n g) (i : Int) = g i := by
  unfold rd; rw [Int.toNat_natCast]; exact row_getD g h 0
theorem rd_rows {n i : Nat} (g : Nat → List Int) (h : i < n) : rd_L2 (row n g) (i : Int) = g i := by
  unfold rd_L2; rw [Int.toNat_natCast]; exact row_getD g h []

end Go.Proofs.Ytoecglgbmhhdnaa.JE
