-- Made by a program of this session (wip/hp.py, over the kit's print) out of the translation. Not trusted: Lean checks it.
import Derived.Test.YtfmjlglkleinmaaJEx0
namespace Go.Proofs.Ytfmjlglkleinmaa.JE
open Go.RowKit Go.Proofs.YtfmjlglkleinmaaW.PrintWords Go.Proofs.YtfmjlglkleinmaaW.PrintLast Go.Proofs.YtfmjlglkleinmaaW.PrintMore
attribute [local go_sem] max2_int min2_int max_two min_two max_three min_three max_four min_four   -- for this text's walks alone
set_option linter.unusedVariables false
set_option linter.unusedSimpArgs false

theorem wrap_in_ {n : Int} (h : -9223372036854775808 ≤ n) (h' : n ≤ 9223372036854775807) : wrap64 n = n := by
  unfold wrap64; omega
/-- within the range of the bounds of intervals -/
def InR (x : Int) : Prop := -1000000000000000000 ≤ x ∧ x ≤ 1000000000000000000
instance (x : Int) : Decidable (InR x) := inferInstanceAs (Decidable (_ ∧ _))
theorem below_setg {B : Nat} {w W : World} {g j : Nat} {v : Value} (h : Below B w W) (hg : B ≤ g) : Below B w (W.setCell ⟨g, j, none⟩ v) := h.setCell hg _

/-! ### the Lean function chron_Check: function 22 -/
mutual
def chron_Check.j0 : Nat → Int → List (S37) → Bool → Option (Int)
  | 0, _, _, _ => none
  | k + 1, x0, x1, x13 => if x13 = true then (some 2) else (if x0 < 1 then (some 8) else (chron_Check.l0 k x0 x1 (x1.length : Int) 0))
def chron_Check.l0 : Nat → Int → List (S37) → Int → Int → Option (Int)
  | 0, _, _, _, _ => none
  | k + 1, x0, x16, x17, x18 => if x18 < x17 then (if 0 ≤ x18 then (if x18 < (x16.length : Int) then (if ((rd_T37 x16 x18).f0) < 0 then (chron_Check.j2 k x0 x16 x17 x18 true ((rd_T37 x16 x18).f0) ((rd_T37 x16 x18).f1) ((rd_T37 x16 x18).f2) ((rd_T37 x16 x18).f3)) else (if ((rd_T37 x16 x18).f0) ≥ x0 then (chron_Check.j2 k x0 x16 x17 x18 true ((rd_T37 x16 x18).f0) ((rd_T37 x16 x18).f1) ((rd_T37 x16 x18).f2) ((rd_T37 x16 x18).f3)) else (if ((rd_T37 x16 x18).f1) < 0 then (chron_Check.j2 k x0 x16 x17 x18 true ((rd_T37 x16 x18).f0) ((rd_T37 x16 x18).f1) ((rd_T37 x16 x18).f2) ((rd_T37 x16 x18).f3)) else (if ((rd_T37 x16 x18).f1) ≥ x0 then (chron_Check.j2 k x0 x16 x17 x18 true ((rd_T37 x16 x18).f0) ((rd_T37 x16 x18).f1) ((rd_T37 x16 x18).f2) ((rd_T37 x16 x18).f3)) else (if ((rd_T37 x16 x18).f2) < (-8000000) then (chron_Check.j2 k x0 x16 x17 x18 true ((rd_T37 x16 x18).f0) ((rd_T37 x16 x18).f1) ((rd_T37 x16 x18).f2) ((rd_T37 x16 x18).f3)) else (chron_Check.j2 k x0 x16 x17 x18 (decide (((rd_T37 x16 x18).f3) > 8000000)) ((rd_T37 x16 x18).f0) ((rd_T37 x16 x18).f1) ((rd_T37 x16 x18).f2) ((rd_T37 x16 x18).f3))))))) else (none)) else (none)) else (some 0)
def chron_Check.j2 : Nat → Int → List (S37) → Int → Int → Bool → Int → Int → Int → Int → Option (Int)
  | 0, _, _, _, _, _, _, _, _, _ => none
  | k + 1, x0, x16, x17, x18, x51, x103000, x103001, x103002, x103003 => if x51 = true then (some 3) else (if x103000 = x103001 then (some 1) else (if x103002 > x103003 then (some 9) else (chron_Check.l0 k x0 x16 x17 (wrap64 (x18 + 1)))))
end
def chron_Check.f (k : Nat) (a0 : Int) (l1 : List (S37)) : Option (Int) := if a0 > 12 then (chron_Check.j0 k a0 l1 true) else (chron_Check.j0 k a0 l1 (decide ((l1.length : Int) > 40)))
theorem chron_Check.mono_l : ∀ k, (∀ y0 y1 y2, LeO (chron_Check.j0 k y0 y1 y2) (chron_Check.j0 (k + 1) y0 y1 y2)) ∧ (∀ y0 y1 y2 y3, LeO (chron_Check.l0 k y0 y1 y2 y3) (chron_Check.l0 (k + 1) y0 y1 y2 y3)) ∧ (∀ y0 y1 y2 y3 y4 y5 y6 y7 y8, LeO (chron_Check.j2 k y0 y1 y2 y3 y4 y5 y6 y7 y8) (chron_Check.j2 (k + 1) y0 y1 y2 y3 y4 y5 y6 y7 y8))
  | 0 => ⟨fun _ _ _ r h => by simp [chron_Check.j0] at h, fun _ _ _ _ r h => by simp [chron_Check.l0] at h, fun _ _ _ _ _ _ _ _ _ r h => by simp [chron_Check.j2] at h⟩
  | k + 1 => by
    obtain ⟨ih0, ih1, ih2⟩ := chron_Check.mono_l k
    refine ⟨?_, ?_, ?_⟩
    · intro y0 y1 y2
      unfold chron_Check.j0
      repeat' first
      | (with_reducible exact ih0 _ _ _)
      | (with_reducible exact ih1 _ _ _ _)
      | (with_reducible exact ih2 _ _ _ _ _ _ _ _ _)
      | (with_reducible exact LeO.refl _)
      | (with_reducible exact LeO.none _)
      | (with_reducible refine LeO.ite ?_ ?_)
      | (with_reducible refine LeO.bind ?_ (fun _ => ?_))
      | exact ih0 _ _ _
      | exact ih1 _ _ _ _
      | exact ih2 _ _ _ _ _ _ _ _ _
      | exact LeO.none _
      | refine LeO.ite ?_ ?_
      | refine LeO.bind ?_ (fun _ => ?_)
    · intro y0 y1 y2 y3
      unfold chron_Check.l0
      repeat' first
      | (with_reducible exact ih0 _ _ _)
      | (with_reducible exact ih1 _ _ _ _)
      | (with_reducible exact ih2 _ _ _ _ _ _ _ _ _)
      | (with_reducible exact LeO.refl _)
      | (with_reducible exact LeO.none _)
      | (with_reducible refine LeO.ite ?_ ?_)
      | (with_reducible refine LeO.bind ?_ (fun _ => ?_))
      | exact ih0 _ _ _
      | exact ih1 _ _ _ _
      | exact ih2 _ _ _ _ _ _ _ _ _
      | exact LeO.none _
      | refine LeO.ite ?_ ?_
      | refine LeO.bind ?_ (fun _ => ?_)
    · intro y0 y1 y2 y3 y4 y5 y6 y7 y8
      unfold chron_Check.j2
      repeat' first
      | (with_reducible exact ih0 _ _ _)
      | (with_reducible exact ih1 _ _ _ _)
      | (with_reducible exact ih2 _ _ _ _ _ _ _ _ _)
      | (with_reducible exact LeO.refl _)
      | (with_reducible exact LeO.none _)
      | (with_reducible refine LeO.ite ?_ ?_)
      | (with_reducible refine LeO.bind ?_ (fun _ => ?_))
      | exact ih0 _ _ _
      | exact ih1 _ _ _ _
      | exact ih2 _ _ _ _ _ _ _ _ _
      | exact LeO.none _
      | refine LeO.ite ?_ ?_
      | refine LeO.bind ?_ (fun _ => ?_)
theorem chron_Check.mono : ∀ a0 a1 k, LeO (chron_Check.f k a0 a1) (chron_Check.f (k + 1) a0 a1) := by
  intro a0 a1 k
  obtain ⟨ih0, ih1, ih2⟩ := chron_Check.mono_l k
  unfold chron_Check.f
  repeat' first
      | (with_reducible exact ih0 _ _ _)
      | (with_reducible exact ih1 _ _ _ _)
      | (with_reducible exact ih2 _ _ _ _ _ _ _ _ _)
      | (with_reducible exact LeO.refl _)
      | (with_reducible exact LeO.none _)
      | (with_reducible refine LeO.ite ?_ ?_)
      | (with_reducible refine LeO.bind ?_ (fun _ => ?_))
      | exact ih0 _ _ _
      | exact ih1 _ _ _ _
      | exact ih2 _ _ _ _ _ _ _ _ _
      | exact LeO.none _
      | refine LeO.ite ?_ ?_
      | refine LeO.bind ?_ (fun _ => ?_)

/-! ### the Lean function chron_most: function 23 -/
mutual
def chron_most.l0 : Nat → Int → List (S37) → List (List Int) → Int → Int → Option ((List (List Int)) × Bool)
  | 0, _, _, _, _, _ => none
  | k + 1, x0, x1, x6, x18, x19 => if x19 < x18 then (if 0 ≤ x0 then (if (x0 : Int).toNat ≤ 35184372088832 then (if 0 ≤ x19 then (if x19 < (x6.length : Int) then ((some (x6.set (x19 : Int).toNat (List.replicate (x0 : Int).toNat 0) : List (List Int))).bind fun y109 => (chron_most.l1 k x0 x1 y109 x19 x18 x19 ((rd_L2 y109 x19).length : Int) 0)) else (none)) else (none)) else (none)) else (none)) else (chron_most.l2 k x0 x6 x1 (x1.length : Int) 0)
def chron_most.l1 : Nat → Int → List (S37) → List (List Int) → Int → Int → Int → Int → Int → Option ((List (List Int)) × Bool)
  | 0, _, _, _, _, _, _, _, _ => none
  | k + 1, x0, x1, x6, x7, x18, x19, x31, x32 => if x32 < x31 then (if x7 = x32 then (chron_most.l1 k x0 x1 x6 x7 x18 x19 x31 (wrap64 (x32 + 1))) else (if 0 ≤ x7 then (if x7 < (x6.length : Int) then (if 0 ≤ x32 then (if x32 < ((rd_L2 x6 x7).length : Int) then (chron_most.l1 k x0 x1 (x6.set (x7 : Int).toNat ((rd_L2 x6 x7).set (x32 : Int).toNat 1000000000)) x7 x18 x19 x31 (wrap64 (x32 + 1))) else (none)) else (none)) else (none)) else (none))) else (chron_most.l0 k x0 x1 x6 x18 (wrap64 (x19 + 1)))
def chron_most.l2 : Nat → Int → List (List Int) → List (S37) → Int → Int → Option ((List (List Int)) × Bool)
  | 0, _, _, _, _, _ => none
  | k + 1, x0, x6, x46, x47, x48 => if x48 < x47 then (if 0 ≤ x48 then (if x48 < (x46.length : Int) then (if 0 ≤ ((rd_T37 x46 x48).f0) then (if ((rd_T37 x46 x48).f0) < (x6.length : Int) then (if 0 ≤ ((rd_T37 x46 x48).f1) then (if ((rd_T37 x46 x48).f1) < ((rd_L2 x6 ((rd_T37 x46 x48).f0)).length : Int) then ((some (x6.set (((rd_T37 x46 x48).f0) : Int).toNat ((rd_L2 x6 ((rd_T37 x46 x48).f0)).set (((rd_T37 x46 x48).f1) : Int).toNat (mn (rd (rd_L2 x6 ((rd_T37 x46 x48).f0)) ((rd_T37 x46 x48).f1)) ((rd_T37 x46 x48).f3))) : List (List Int))).bind fun y122 => (if ((rd_T37 x46 x48).f1) < (x6.length : Int) then (if ((rd_T37 x46 x48).f0) < ((rd_L2 y122 ((rd_T37 x46 x48).f1)).length : Int) then (chron_most.l2 k x0 (y122.set (((rd_T37 x46 x48).f1) : Int).toNat ((rd_L2 y122 ((rd_T37 x46 x48).f1)).set (((rd_T37 x46 x48).f0) : Int).toNat (mn (rd (rd_L2 y122 ((rd_T37 x46 x48).f1)) ((rd_T37 x46 x48).f0)) (wrap64 (-((rd_T37 x46 x48).f2)))))) x46 x47 (wrap64 (x48 + 1))) else (none)) else (none))) else (none)) else (none)) else (none)) else (none)) else (none)) else (none)) else (chron_most.l3 k x0 x6 x0 0)
def chron_most.l3 : Nat → Int → List (List Int) → Int → Int → Option ((List (List Int)) × Bool)
  | 0, _, _, _, _ => none
  | k + 1, x0, x6, x94, x95 => if x95 < x94 then (chron_most.l4 k x0 x6 x95 x94 x95 x0 0) else (some (x6, true))
def chron_most.l4 : Nat → Int → List (List Int) → Int → Int → Int → Int → Int → Option ((List (List Int)) × Bool)
  | 0, _, _, _, _, _, _, _ => none
  | k + 1, x0, x6, x11, x94, x95, x98, x99 => if x99 < x98 then (chron_most.l5 k x0 x6 x11 x99 x94 x95 x98 x99 x0 0) else (chron_most.l6 k x0 x6 x94 x95 x0 0)
def chron_most.l5 : Nat → Int → List (List Int) → Int → Int → Int → Int → Int → Int → Int → Int → Option ((List (List Int)) × Bool)
  | 0, _, _, _, _, _, _, _, _, _, _ => none
  | k + 1, x0, x6, x11, x12, x94, x95, x98, x99, x102, x103 => if x103 < x102 then (if 0 ≤ x12 then (if x12 < (x6.length : Int) then (if 0 ≤ x11 then (if x11 < ((rd_L2 x6 x12).length : Int) then (if (rd (rd_L2 x6 x12) x11) < 1000000000 then (if x11 < (x6.length : Int) then (if 0 ≤ x103 then (if x103 < ((rd_L2 x6 x11).length : Int) then (if (rd (rd_L2 x6 x11) x103) < 1000000000 then (if x103 < ((rd_L2 x6 x12).length : Int) then (chron_most.l5 k x0 (x6.set (x12 : Int).toNat ((rd_L2 x6 x12).set (x103 : Int).toNat (mn (rd (rd_L2 x6 x12) x103) (wrap64 ((rd (rd_L2 x6 x12) x11) + (rd (rd_L2 x6 x11) x103)))))) x11 x12 x94 x95 x98 x99 x102 (wrap64 (x103 + 1))) else (none)) else (chron_most.l5 k x0 x6 x11 x12 x94 x95 x98 x99 x102 (wrap64 (x103 + 1)))) else (none)) else (none)) else (none)) else (chron_most.l5 k x0 x6 x11 x12 x94 x95 x98 x99 x102 (wrap64 (x103 + 1)))) else (none)) else (none)) else (none)) else (none)) else (chron_most.l4 k x0 x6 x11 x94 x95 x98 (wrap64 (x99 + 1)))
def chron_most.l6 : Nat → Int → List (List Int) → Int → Int → Int → Int → Option ((List (List Int)) × Bool)
  | 0, _, _, _, _, _, _ => none
  | k + 1, x0, x6, x94, x95, x155, x156 => if x156 < x155 then (if 0 ≤ x156 then (if x156 < (x6.length : Int) then (if x156 < ((rd_L2 x6 x156).length : Int) then (if (rd (rd_L2 x6 x156) x156) < 0 then (some (([] : List (List Int)), false)) else (chron_most.l6 k x0 x6 x94 x95 x155 (wrap64 (x156 + 1)))) else (none)) else (none)) else (none)) else (chron_most.l3 k x0 x6 x94 (wrap64 (x95 + 1)))
end
def chron_most.f (k : Nat) (a0 : Int) (l1 : List (S37)) : Option ((List (List Int)) × Bool) := if 0 ≤ a0 then (if (a0 : Int).toNat ≤ 11728124029610 then ((some (List.replicate (a0 : Int).toNat [] : List (List Int))).bind fun y103 => (chron_most.l0 k a0 l1 y103 (y103.length : Int) 0)) else (none)) else (none)
theorem chron_most.mono_l : ∀ k, (∀ y0 y1 y2 y3 y4, LeO (chron_most.l0 k y0 y1 y2 y3 y4) (chron_most.l0 (k + 1) y0 y1 y2 y3 y4)) ∧ (∀ y0 y1 y2 y3 y4 y5 y6 y7, LeO (chron_most.l1 k y0 y1 y2 y3 y4 y5 y6 y7) (chron_most.l1 (k + 1) y0 y1 y2 y3 y4 y5 y6 y7)) ∧ (∀ y0 y1 y2 y3 y4, LeO (chron_most.l2 k y0 y1 y2 y3 y4) (chron_most.l2 (k + 1) y0 y1 y2 y3 y4)) ∧ (∀ y0 y1 y2 y3, LeO (chron_most.l3 k y0 y1 y2 y3) (chron_most.l3 (k + 1) y0 y1 y2 y3)) ∧ (∀ y0 y1 y2 y3 y4 y5 y6, LeO (chron_most.l4 k y0 y1 y2 y3 y4 y5 y6) (chron_most.l4 (k + 1) y0 y1 y2 y3 y4 y5 y6)) ∧ (∀ y0 y1 y2 y3 y4 y5 y6 y7 y8 y9, LeO (chron_most.l5 k y0 y1 y2 y3 y4 y5 y6 y7 y8 y9) (chron_most.l5 (k + 1) y0 y1 y2 y3 y4 y5 y6 y7 y8 y9)) ∧ (∀ y0 y1 y2 y3 y4 y5, LeO (chron_most.l6 k y0 y1 y2 y3 y4 y5) (chron_most.l6 (k + 1) y0 y1 y2 y3 y4 y5))
  | 0 => ⟨fun _ _ _ _ _ r h => by simp [chron_most.l0] at h, fun _ _ _ _ _ _ _ _ r h => by simp [chron_most.l1] at h, fun _ _ _ _ _ r h => by simp [chron_most.l2] at h, fun _ _ _ _ r h => by simp [chron_most.l3] at h, fun _ _ _ _ _ _ _ r h => by simp [chron_most.l4] at h, fun _ _ _ _ _ _ _ _ _ _ r h => by simp [chron_most.l5] at h, fun _ _ _ _ _ _ r h => by simp [chron_most.l6] at h⟩
  | k + 1 => by
    obtain ⟨ih0, ih1, ih2, ih3, ih4, ih5, ih6⟩ := chron_most.mono_l k
    refine ⟨?_, ?_, ?_, ?_, ?_, ?_, ?_⟩
    · intro y0 y1 y2 y3 y4
      unfold chron_most.l0
      repeat' first
      | (with_reducible exact ih0 _ _ _ _ _)
      | (with_reducible exact ih1 _ _ _ _ _ _ _ _)
      | (with_reducible exact ih2 _ _ _ _ _)
      | (with_reducible exact ih3 _ _ _ _)
      | (with_reducible exact ih4 _ _ _ _ _ _ _)
      | (with_reducible exact ih5 _ _ _ _ _ _ _ _ _ _)
      | (with_reducible exact ih6 _ _ _ _ _ _)
      | (with_reducible exact LeO.refl _)
      | (with_reducible exact LeO.none _)
      | (with_reducible refine LeO.ite ?_ ?_)
      | (with_reducible refine LeO.bind ?_ (fun _ => ?_))
      | exact ih0 _ _ _ _ _
      | exact ih1 _ _ _ _ _ _ _ _
      | exact ih2 _ _ _ _ _
      | exact ih3 _ _ _ _
      | exact ih4 _ _ _ _ _ _ _
      | exact ih5 _ _ _ _ _ _ _ _ _ _
      | exact ih6 _ _ _ _ _ _
      | exact LeO.none _
      | refine LeO.ite ?_ ?_
      | refine LeO.bind ?_ (fun _ => ?_)
    · intro y0 y1 y2 y3 y4 y5 y6 y7
      unfold chron_most.l1
      repeat' first
      | (with_reducible exact ih0 _ _ _ _ _)
      | (with_reducible exact ih1 _ _ _ _ _ _ _ _)
      | (with_reducible exact ih2 _ _ _ _ _)
      | (with_reducible exact ih3 _ _ _ _)
      | (with_reducible exact ih4 _ _ _ _ _ _ _)
      | (with_reducible exact ih5 _ _ _ _ _ _ _ _ _ _)
      | (with_reducible exact ih6 _ _ _ _ _ _)
      | (with_reducible exact LeO.refl _)
      | (with_reducible exact LeO.none _)
      | (with_reducible refine LeO.ite ?_ ?_)
      | (with_reducible refine LeO.bind ?_ (fun _ => ?_))
      | exact ih0 _ _ _ _ _
      | exact ih1 _ _ _ _ _ _ _ _
      | exact ih2 _ _ _ _ _
      | exact ih3 _ _ _ _
      | exact ih4 _ _ _ _ _ _ _
      | exact ih5 _ _ _ _ _ _ _ _ _ _
      | exact ih6 _ _ _ _ _ _
      | exact LeO.none _
      | refine LeO.ite ?_ ?_
      | refine LeO.bind ?_ (fun _ => ?_)
    · intro y0 y1 y2 y3 y4
      unfold chron_most.l2
      repeat' first
      | (with_reducible exact ih0 _ _ _ _ _)
      | (with_reducible exact ih1 _ _ _ _ _ _ _ _)
      | (with_reducible exact ih2 _ _ _ _ _)
      | (with_reducible exact ih3 _ _ _ _)
      | (with_reducible exact ih4 _ _ _ _ _ _ _)
      | (with_reducible exact ih5 _ _ _ _ _ _ _ _ _ _)
      | (with_reducible exact ih6 _ _ _ _ _ _)
      | (with_reducible exact LeO.refl _)
      | (with_reducible exact LeO.none _)
      | (with_reducible refine LeO.ite ?_ ?_)
      | (with_reducible refine LeO.bind ?_ (fun _ => ?_))
      | exact ih0 _ _ _ _ _
      | exact ih1 _ _ _ _ _ _ _ _
      | exact ih2 _ _ _ _ _
      | exact ih3 _ _ _ _
      | exact ih4 _ _ _ _ _ _ _
      | exact ih5 _ _ _ _ _ _ _ _ _ _
      | exact ih6 _ _ _ _ _ _
      | exact LeO.none _
      | refine LeO.ite ?_ ?_
      | refine LeO.bind ?_ (fun _ => ?_)
    · intro y0 y1 y2 y3
      unfold chron_most.l3
      repeat' first
      | (with_reducible exact ih0 _ _ _ _ _)
      | (with_reducible exact ih1 _ _ _ _ _ _ _ _)
      | (with_reducible exact ih2 _ _ _ _ _)
      | (with_reducible exact ih3 _ _ _ _)
      | (with_reducible exact ih4 _ _ _ _ _ _ _)
      | (with_reducible exact ih5 _ _ _ _ _ _ _ _ _ _)
      | (with_reducible exact ih6 _ _ _ _ _ _)
      | (with_reducible exact LeO.refl _)
      | (with_reducible exact LeO.none _)
      | (with_reducible refine LeO.ite ?_ ?_)
      | (with_reducible refine LeO.bind ?_ (fun _ => ?_))
      | exact ih0 _ _ _ _ _
      | exact ih1 _ _ _ _ _ _ _ _
      | exact ih2 _ _ _ _ _
      | exact ih3 _ _ _ _
      | exact ih4 _ _ _ _ _ _ _
      | exact ih5 _ _ _ _ _ _ _ _ _ _
      | exact ih6 _ _ _ _ _ _
      | exact LeO.none _
      | refine LeO.ite ?_ ?_
      | refine LeO.bind ?_ (fun _ => ?_)
    · intro y0 y1 y2 y3 y4 y5 y6
      unfold chron_most.l4
      repeat' first
      | (with_reducible exact ih0 _ _ _ _ _)
      | (with_reducible exact ih1 _ _ _ _ _ _ _ _)
      | (with_reducible exact ih2 _ _ _ _ _)
      | (with_reducible exact ih3 _ _ _ _)
      | (with_reducible exact ih4 _ _ _ _ _ _ _)
      | (with_reducible exact ih5 _ _ _ _ _ _ _ _ _ _)
      | (with_reducible exact ih6 _ _ _ _ _ _)
      | (with_reducible exact LeO.refl _)
      | (with_reducible exact LeO.none _)
      | (with_reducible refine LeO.ite ?_ ?_)
      | (with_reducible refine LeO.bind ?_ (fun _ => ?_))
      | exact ih0 _ _ _ _ _
      | exact ih1 _ _ _ _ _ _ _ _
      | exact ih2 _ _ _ _ _
      | exact ih3 _ _ _ _
      | exact ih4 _ _ _ _ _ _ _
      | exact ih5 _ _ _ _ _ _ _ _ _ _
      | exact ih6 _ _ _ _ _ _
      | exact LeO.none _
      | refine LeO.ite ?_ ?_
      | refine LeO.bind ?_ (fun _ => ?_)
    · intro y0 y1 y2 y3 y4 y5 y6 y7 y8 y9
      unfold chron_most.l5
      repeat' first
      | (with_reducible exact ih0 _ _ _ _ _)
      | (with_reducible exact ih1 _ _ _ _ _ _ _ _)
      | (with_reducible exact ih2 _ _ _ _ _)
      | (with_reducible exact ih3 _ _ _ _)
      | (with_reducible exact ih4 _ _ _ _ _ _ _)
      | (with_reducible exact ih5 _ _ _ _ _ _ _ _ _ _)
      | (with_reducible exact ih6 _ _ _ _ _ _)
      | (with_reducible exact LeO.refl _)
      | (with_reducible exact LeO.none _)
      | (with_reducible refine LeO.ite ?_ ?_)
      | (with_reducible refine LeO.bind ?_ (fun _ => ?_))
      | exact ih0 _ _ _ _ _
      | exact ih1 _ _ _ _ _ _ _ _
      | exact ih2 _ _ _ _ _
      | exact ih3 _ _ _ _
      | exact ih4 _ _ _ _ _ _ _
      | exact ih5 _ _ _ _ _ _ _ _ _ _
      | exact ih6 _ _ _ _ _ _
      | exact LeO.none _
      | refine LeO.ite ?_ ?_
      | refine LeO.bind ?_ (fun _ => ?_)
    · intro y0 y1 y2 y3 y4 y5
      unfold chron_most.l6
      repeat' first
      | (with_reducible exact ih0 _ _ _ _ _)
      | (with_reducible exact ih1 _ _ _ _ _ _ _ _)
      | (with_reducible exact ih2 _ _ _ _ _)
      | (with_reducible exact ih3 _ _ _ _)
      | (with_reducible exact ih4 _ _ _ _ _ _ _)
      | (with_reducible exact ih5 _ _ _ _ _ _ _ _ _ _)
      | (with_reducible exact ih6 _ _ _ _ _ _)
      | (with_reducible exact LeO.refl _)
      | (with_reducible exact LeO.none _)
      | (with_reducible refine LeO.ite ?_ ?_)
      | (with_reducible refine LeO.bind ?_ (fun _ => ?_))
      | exact ih0 _ _ _ _ _
      | exact ih1 _ _ _ _ _ _ _ _
      | exact ih2 _ _ _ _ _
      | exact ih3 _ _ _ _
      | exact ih4 _ _ _ _ _ _ _
      | exact ih5 _ _ _ _ _ _ _ _ _ _
      | exact ih6 _ _ _ _ _ _
      | exact LeO.none _
      | refine LeO.ite ?_ ?_
      | refine LeO.bind ?_ (fun _ => ?_)
theorem chron_most.mono : ∀ a0 a1 k, LeO (chron_most.f k a0 a1) (chron_most.f (k + 1) a0 a1) := by
  intro a0 a1 k
  obtain ⟨ih0, ih1, ih2, ih3, ih4, ih5, ih6⟩ := chron_most.mono_l k
  unfold chron_most.f
  repeat' first
      | (with_reducible exact ih0 _ _ _ _ _)
      | (with_reducible exact ih1 _ _ _ _ _ _ _ _)
      | (with_reducible exact ih2 _ _ _ _ _)
      | (with_reducible exact ih3 _ _ _ _)
      | (with_reducible exact ih4 _ _ _ _ _ _ _)
      | (with_reducible exact ih5 _ _ _ _ _ _ _ _ _ _)
      | (with_reducible exact ih6 _ _ _ _ _ _)
      | (with_reducible exact LeO.refl _)
      | (with_reducible exact LeO.none _)
      | (with_reducible refine LeO.ite ?_ ?_)
      | (with_reducible refine LeO.bind ?_ (fun _ => ?_))
      | exact ih0 _ _ _ _ _
      | exact ih1 _ _ _ _ _ _ _ _
      | exact ih2 _ _ _ _ _
      | exact ih3 _ _ _ _
      | exact ih4 _ _ _ _ _ _ _
      | exact ih5 _ _ _ _ _ _ _ _ _ _
      | exact ih6 _ _ _ _ _ _
      | exact LeO.none _
      | refine LeO.ite ?_ ?_
      | refine LeO.bind ?_ (fun _ => ?_)

/-! ### the Lean function chron_Tightest: function 10 -/
mutual
def chron_Tightest.l0 : Nat → Int → List (List Int) → List (List (S34)) → Int → Int → Option ((List (List (S34))) × Int)
  | 0, _, _, _, _, _ => none
  | k + 1, x0, x7, x9, x29, x30 => if x30 < x29 then (chron_Tightest.l1 k x0 x7 x9 x30 x29 x30 x0 0) else (some (x9, 0))
def chron_Tightest.l1 : Nat → Int → List (List Int) → List (List (S34)) → Int → Int → Int → Int → Int → Option ((List (List (S34))) × Int)
  | 0, _, _, _, _, _, _, _, _ => none
  | k + 1, x0, x7, x9, x10, x29, x30, x33, x34 => if x34 < x33 then (if 0 ≤ x10 then (if x10 < (x9.length : Int) then (if 0 ≤ x34 then (if x34 < (x7.length : Int) then (if x10 < ((rd_L2 x7 x34).length : Int) then (if x10 < (x7.length : Int) then (if x34 < ((rd_L2 x7 x10).length : Int) then (if (rd_L4 x9 x10).length < 8796093022208 then (chron_Tightest.l1 k x0 x7 (x9.set (x10 : Int).toNat ((rd_L4 x9 x10) ++ [(⟨wrap64 (-(rd (rd_L2 x7 x34) x10)), rd (rd_L2 x7 x10) x34⟩ : S34)])) x10 x29 x30 x33 (wrap64 (x34 + 1))) else (none)) else (none)) else (none)) else (none)) else (none)) else (none)) else (none)) else (none)) else (chron_Tightest.l0 k x0 x7 x9 x29 (wrap64 (x30 + 1)))
end
def chron_Tightest.f (k : Nat) (a0 : Int) (l1 : List (S37)) : Option ((List (List (S34))) × Int) := (chron_Check.f k a0 l1).bind fun t146 => (if t146 = 0 then ((chron_most.f k a0 l1).bind fun bt147 => (if bt147.2 = true then (if 0 ≤ a0 then (if (a0 : Int).toNat ≤ 11728124029610 then ((some (List.replicate (a0 : Int).toNat [] : List (List (S34)))).bind fun y151 => (chron_Tightest.l0 k a0 bt147.1 y151 (y151.length : Int) 0)) else (none)) else (none)) else (some (([] : List (List (S34))), 10)))) else (some (([] : List (List (S34))), t146)))
theorem chron_Tightest.mono_l : ∀ k, (∀ y0 y1 y2 y3 y4, LeO (chron_Tightest.l0 k y0 y1 y2 y3 y4) (chron_Tightest.l0 (k + 1) y0 y1 y2 y3 y4)) ∧ (∀ y0 y1 y2 y3 y4 y5 y6 y7, LeO (chron_Tightest.l1 k y0 y1 y2 y3 y4 y5 y6 y7) (chron_Tightest.l1 (k + 1) y0 y1 y2 y3 y4 y5 y6 y7))
  | 0 => ⟨fun _ _ _ _ _ r h => by simp [chron_Tightest.l0] at h, fun _ _ _ _ _ _ _ _ r h => by simp [chron_Tightest.l1] at h⟩
  | k + 1 => by
    obtain ⟨ih0, ih1⟩ := chron_Tightest.mono_l k
    refine ⟨?_, ?_⟩
    · intro y0 y1 y2 y3 y4
      unfold chron_Tightest.l0
      repeat' first
      | (with_reducible exact ih0 _ _ _ _ _)
      | (with_reducible exact ih1 _ _ _ _ _ _ _ _)
      | (with_reducible exact chron_Check.mono _ _ _)
      | (with_reducible exact chron_most.mono _ _ _)
      | (with_reducible exact LeO.refl _)
      | (with_reducible exact LeO.none _)
      | (with_reducible refine LeO.ite ?_ ?_)
      | (with_reducible refine LeO.bind ?_ (fun _ => ?_))
      | exact ih0 _ _ _ _ _
      | exact ih1 _ _ _ _ _ _ _ _
      | exact chron_Check.mono _ _ _
      | exact chron_most.mono _ _ _
      | exact LeO.none _
      | refine LeO.ite ?_ ?_
      | refine LeO.bind ?_ (fun _ => ?_)
    · intro y0 y1 y2 y3 y4 y5 y6 y7
      unfold chron_Tightest.l1
      repeat' first
      | (with_reducible exact ih0 _ _ _ _ _)
      | (with_reducible exact ih1 _ _ _ _ _ _ _ _)
      | (with_reducible exact chron_Check.mono _ _ _)
      | (with_reducible exact chron_most.mono _ _ _)
      | (with_reducible exact LeO.refl _)
      | (with_reducible exact LeO.none _)
      | (with_reducible refine LeO.ite ?_ ?_)
      | (with_reducible refine LeO.bind ?_ (fun _ => ?_))
      | exact ih0 _ _ _ _ _
      | exact ih1 _ _ _ _ _ _ _ _
      | exact chron_Check.mono _ _ _
      | exact chron_most.mono _ _ _
      | exact LeO.none _
      | refine LeO.ite ?_ ?_
      | refine LeO.bind ?_ (fun _ => ?_)
theorem chron_Tightest.mono : ∀ a0 a1 k, LeO (chron_Tightest.f k a0 a1) (chron_Tightest.f (k + 1) a0 a1) := by
  intro a0 a1 k
  obtain ⟨ih0, ih1⟩ := chron_Tightest.mono_l k
  unfold chron_Tightest.f
  repeat' first
      | (with_reducible exact ih0 _ _ _ _ _)
      | (with_reducible exact ih1 _ _ _ _ _ _ _ _)
      | (with_reducible exact chron_Check.mono _ _ _)
      | (with_reducible exact chron_most.mono _ _ _)
      | (with_reducible exact LeO.refl _)
      | (with_reducible exact LeO.none _)
      | (with_reducible refine LeO.ite ?_ ?_)
      | (with_reducible refine LeO.bind ?_ (fun _ => ?_))
      | exact ih0 _ _ _ _ _
      | exact ih1 _ _ _ _ _ _ _ _
      | exact chron_Check.mono _ _ _
      | exact chron_most.mono _ _ _
      | exact LeO.none _
      | refine LeO.ite ?_ ?_
      | refine LeO.bind ?_ (fun _ => ?_)

/-! ### the Lean function ephemeristop_sChron: function 7 -/
def ephemeristop_sChron.f (k : Nat)  : Option (Bool) := (chron_Tightest.f k 2 (([(⟨0, 1, 10, 20⟩ : S37)] : List (S37)))).bind fun bt166 => (if bt166.2 = 0 then (if (bt166.1.length : Int) = 2 then (if 0 < (bt166.1.length : Int) then (if ((rd_L4 bt166.1 0).length : Int) = 2 then (if 1 < ((rd_L4 bt166.1 0).length : Int) then (some (((rd_T34 (rd_L4 bt166.1 0) 1).f0) == 10 && (((rd_T34 (rd_L4 bt166.1 0) 1).f1) == 20))) else (none)) else (some false)) else (none)) else (some false)) else (some false))
theorem ephemeristop_sChron.mono : ∀ k, LeO (ephemeristop_sChron.f k ) (ephemeristop_sChron.f (k + 1) ) := by
  intro  k
  unfold ephemeristop_sChron.f
  repeat' first
      | (with_reducible exact chron_Tightest.mono _ _ _)
      | (with_reducible exact LeO.refl _)
      | (with_reducible exact LeO.none _)
      | (with_reducible refine LeO.ite ?_ ?_)
      | (with_reducible refine LeO.bind ?_ (fun _ => ?_))
      | exact chron_Tightest.mono _ _ _
      | exact LeO.none _
      | refine LeO.ite ?_ ?_
      | refine LeO.bind ?_ (fun _ => ?_)

/-! ### the Lean function ephemeristop_sAt: function 9 -/
def ephemeristop_sAt.f (a0 : Int) (a1 : Int) : Option (Int) := if a1 = 0 then (none) else (some (Int.tmod (wrap64 ((Int.tmod a0 a1) + a1)) a1))

/-! ### the Lean function ephemeristop_sEvents: function 8 -/
mutual
def ephemeristop_sEvents.l0 : Nat → List Int → Int → List (S37) → List (S37) → Int → Int → Option (Int × (List (S37)))
  | 0, _, _, _, _, _, _ => none
  | k + 1, x0, x6, x7, x16, x17, x18 => if x18 < x17 then (if 0 ≤ x18 then (if x18 < (x16.length : Int) then (if x18 = 20 then (ephemeristop_sEvents.j1 k x0 x6 x7 x16 x17 x18 true ((rd_T37 x16 x18).f0) ((rd_T37 x16 x18).f1) ((rd_T37 x16 x18).f2) ((rd_T37 x16 x18).f3)) else (ephemeristop_sEvents.j1 k x0 x6 x7 x16 x17 x18 (decide (x6 < 2)) ((rd_T37 x16 x18).f0) ((rd_T37 x16 x18).f1) ((rd_T37 x16 x18).f2) ((rd_T37 x16 x18).f3))) else (none)) else (none)) else (some (x6, x7))
def ephemeristop_sEvents.j1 : Nat → List Int → Int → List (S37) → List (S37) → Int → Int → Bool → Int → Int → Int → Int → Option (Int × (List (S37)))
  | 0, _, _, _, _, _, _, _, _, _, _, _ => none
  | k + 1, x0, x6, x7, x16, x17, x18, x28, x175000, x175001, x175002, x175003 => if x28 = true then (some (x6, x7)) else ((ephemeristop_sAt.f x175000 x6).bind fun t175 => ((ephemeristop_sAt.f x175001 (wrap64 (x6 - 1))).bind fun t176 => (if x6 = 0 then (none) else (if 0 ≤ (Int.tmod (wrap64 ((wrap64 (t175 + 1)) + t176)) x6) then (if (Int.tmod (wrap64 ((wrap64 (t175 + 1)) + t176)) x6) < (x0.length : Int) then (if 0 ≤ t175 then (if t175 < (x0.length : Int) then ((ephemeristop_sAt.f x175002 50).bind fun t179 => ((ephemeristop_sAt.f x175003 50).bind fun t180 => (if x7.length < 4398046511104 then (ephemeristop_sEvents.l0 k x0 x6 (x7 ++ [(⟨t175, Int.tmod (wrap64 ((wrap64 (t175 + 1)) + t176)) x6, wrap64 ((wrap64 ((Int.tmod (rd x0 (Int.tmod (wrap64 ((wrap64 (t175 + 1)) + t176)) x6)) 10000) - (Int.tmod (rd x0 t175) 10000))) - t179), wrap64 ((wrap64 ((Int.tmod (rd x0 (Int.tmod (wrap64 ((wrap64 (t175 + 1)) + t176)) x6)) 10000) - (Int.tmod (rd x0 t175) 10000))) + t180)⟩ : S37)]) x16 x17 (wrap64 (x18 + 1))) else (none)))) else (none)) else (none)) else (none)) else (none)))))
end
def ephemeristop_sEvents.f (k : Nat) (l0 : List Int) (l1 : List (S37)) : Option (Int × (List (S37))) := ephemeristop_sEvents.l0 k l0 (mn (l0.length : Int) 8) ([] : List (S37)) l1 (l1.length : Int) 0
theorem ephemeristop_sEvents.mono_l : ∀ k, (∀ y0 y1 y2 y3 y4 y5, LeO (ephemeristop_sEvents.l0 k y0 y1 y2 y3 y4 y5) (ephemeristop_sEvents.l0 (k + 1) y0 y1 y2 y3 y4 y5)) ∧ (∀ y0 y1 y2 y3 y4 y5 y6 y7 y8 y9 y10, LeO (ephemeristop_sEvents.j1 k y0 y1 y2 y3 y4 y5 y6 y7 y8 y9 y10) (ephemeristop_sEvents.j1 (k + 1) y0 y1 y2 y3 y4 y5 y6 y7 y8 y9 y10))
  | 0 => ⟨fun _ _ _ _ _ _ r h => by simp [ephemeristop_sEvents.l0] at h, fun _ _ _ _ _ _ _ _ _ _ _ r h => by simp [ephemeristop_sEvents.j1] at h⟩
  | k + 1 => by
    obtain ⟨ih0, ih1⟩ := ephemeristop_sEvents.mono_l k
    refine ⟨?_, ?_⟩
    · intro y0 y1 y2 y3 y4 y5
      unfold ephemeristop_sEvents.l0
      repeat' first
      | (with_reducible exact ih0 _ _ _ _ _ _)
      | (with_reducible exact ih1 _ _ _ _ _ _ _ _ _ _ _)
      | (with_reducible exact LeO.refl _)
      | (with_reducible exact LeO.none _)
      | (with_reducible refine LeO.ite ?_ ?_)
      | (with_reducible refine LeO.bind ?_ (fun _ => ?_))
      | exact ih0 _ _ _ _ _ _
      | exact ih1 _ _ _ _ _ _ _ _ _ _ _
      | exact LeO.none _
      | refine LeO.ite ?_ ?_
      | refine LeO.bind ?_ (fun _ => ?_)
    · intro y0 y1 y2 y3 y4 y5 y6 y7 y8 y9 y10
      unfold ephemeristop_sEvents.j1
      repeat' first
      | (with_reducible exact ih0 _ _ _ _ _ _)
      | (with_reducible exact ih1 _ _ _ _ _ _ _ _ _ _ _)
      | (with_reducible exact LeO.refl _)
      | (with_reducible exact LeO.none _)
      | (with_reducible refine LeO.ite ?_ ?_)
      | (with_reducible refine LeO.bind ?_ (fun _ => ?_))
      | exact ih0 _ _ _ _ _ _
      | exact ih1 _ _ _ _ _ _ _ _ _ _ _
      | exact LeO.none _
      | refine LeO.ite ?_ ?_
      | refine LeO.bind ?_ (fun _ => ?_)
theorem ephemeristop_sEvents.mono : ∀ a0 a1 k, LeO (ephemeristop_sEvents.f k a0 a1) (ephemeristop_sEvents.f (k + 1) a0 a1) := by
  intro a0 a1 k
  obtain ⟨ih0, ih1⟩ := ephemeristop_sEvents.mono_l k
  unfold ephemeristop_sEvents.f
  repeat' first
      | (with_reducible exact ih0 _ _ _ _ _ _)
      | (with_reducible exact ih1 _ _ _ _ _ _ _ _ _ _ _)
      | (with_reducible exact LeO.refl _)
      | (with_reducible exact LeO.none _)
      | (with_reducible refine LeO.ite ?_ ?_)
      | (with_reducible refine LeO.bind ?_ (fun _ => ?_))
      | exact ih0 _ _ _ _ _ _
      | exact ih1 _ _ _ _ _ _ _ _ _ _ _
      | exact LeO.none _
      | refine LeO.ite ?_ ?_
      | refine LeO.bind ?_ (fun _ => ?_)

-- NOT PRINTED: function 3 (ephemeristop_TopChron)

/-! ### the Lean function series_Valid: function 27 -/
def series_Valid.f (a0 : Int) : Option (Bool) := if a0 ≥ (-345600000000000) then (some (decide (a0 < 345600086400000))) else (some false)

/-! ### the Lean function leap_Check: function 28 -/
mutual
def leap_Check.l0 : Nat → List (S41) → List (S41) → Int → Int → Option (Int)
  | 0, _, _, _, _ => none
  | k + 1, x0, x8, x9, x10 => if x10 < x9 then (if 0 ≤ x10 then (if x10 < (x8.length : Int) then (if ((rd_T41 x8 x10).f0) < (-3999998) then (leap_Check.j1 k x0 x10 x8 x9 x10 true ((rd_T41 x8 x10).f0) ((rd_T41 x8 x10).f1)) else (leap_Check.j1 k x0 x10 x8 x9 x10 (decide (((rd_T41 x8 x10).f0) > 3999998)) ((rd_T41 x8 x10).f0) ((rd_T41 x8 x10).f1))) else (none)) else (none)) else (some 0)
def leap_Check.j1 : Nat → List (S41) → Int → List (S41) → Int → Int → Bool → Int → Int → Option (Int)
  | 0, _, _, _, _, _, _, _, _ => none
  | k + 1, x0, x3, x8, x9, x10, x22, x201000, x201001 => if x22 = true then (some 3) else (if x201001 = 1 then (leap_Check.j2 k x0 x3 x8 x9 x10 false x201000 x201001) else (leap_Check.j2 k x0 x3 x8 x9 x10 (x201001 != (-1)) x201000 x201001))
def leap_Check.j2 : Nat → List (S41) → Int → List (S41) → Int → Int → Bool → Int → Int → Option (Int)
  | 0, _, _, _, _, _, _, _, _ => none
  | k + 1, x0, x3, x8, x9, x10, x30, x201000, x201001 => if x30 = true then (some 1) else (if x3 > 0 then (if 0 ≤ (wrap64 (x3 - 1)) then (if (wrap64 (x3 - 1)) < (x0.length : Int) then (if x201000 < (wrap64 (((rd_T41 x0 (wrap64 (x3 - 1))).f0) + 2)) then (some 9) else (leap_Check.l0 k x0 x8 x9 (wrap64 (x10 + 1)))) else (none)) else (none)) else (leap_Check.l0 k x0 x8 x9 (wrap64 (x10 + 1))))
end
def leap_Check.f (k : Nat) (l0 : List (S41)) : Option (Int) := if (l0.length : Int) > 60 then (some 2) else (leap_Check.l0 k l0 l0 (l0.length : Int) 0)
theorem leap_Check.mono_l : ∀ k, (∀ y0 y1 y2 y3, LeO (leap_Check.l0 k y0 y1 y2 y3) (leap_Check.l0 (k + 1) y0 y1 y2 y3)) ∧ (∀ y0 y1 y2 y3 y4 y5 y6 y7, LeO (leap_Check.j1 k y0 y1 y2 y3 y4 y5 y6 y7) (leap_Check.j1 (k + 1) y0 y1 y2 y3 y4 y5 y6 y7)) ∧ (∀ y0 y1 y2 y3 y4 y5 y6 y7, LeO (leap_Check.j2 k y0 y1 y2 y3 y4 y5 y6 y7) (leap_Check.j2 (k + 1) y0 y1 y2 y3 y4 y5 y6 y7))
  | 0 => ⟨fun _ _ _ _ r h => by simp [leap_Check.l0] at h, fun _ _ _ _ _ _ _ _ r h => by simp [leap_Check.j1] at h, fun _ _ _ _ _ _ _ _ r h => by simp [leap_Check.j2] at h⟩
  | k + 1 => by
    obtain ⟨ih0, ih1, ih2⟩ := leap_Check.mono_l k
    refine ⟨?_, ?_, ?_⟩
    · intro y0 y1 y2 y3
      unfold leap_Check.l0
      repeat' first
      | (with_reducible exact ih0 _ _ _ _)
      | (with_reducible exact ih1 _ _ _ _ _ _ _ _)
      | (with_reducible exact ih2 _ _ _ _ _ _ _ _)
      | (with_reducible exact LeO.refl _)
      | (with_reducible exact LeO.none _)
      | (with_reducible refine LeO.ite ?_ ?_)
      | (with_reducible refine LeO.bind ?_ (fun _ => ?_))
      | exact ih0 _ _ _ _
      | exact ih1 _ _ _ _ _ _ _ _
      | exact ih2 _ _ _ _ _ _ _ _
      | exact LeO.none _
      | refine LeO.ite ?_ ?_
      | refine LeO.bind ?_ (fun _ => ?_)
    · intro y0 y1 y2 y3 y4 y5 y6 y7
      unfold leap_Check.j1
      repeat' first
      | (with_reducible exact ih0 _ _ _ _)
      | (with_reducible exact ih1 _ _ _ _ _ _ _ _)
      | (with_reducible exact ih2 _ _ _ _ _ _ _ _)
      | (with_reducible exact LeO.refl _)
      | (with_reducible exact LeO.none _)
      | (with_reducible refine LeO.ite ?_ ?_)
      | (with_reducible refine LeO.bind ?_ (fun _ => ?_))
      | exact ih0 _ _ _ _
      | exact ih1 _ _ _ _ _ _ _ _
      | exact ih2 _ _ _ _ _ _ _ _
      | exact LeO.none _
      | refine LeO.ite ?_ ?_
      | refine LeO.bind ?_ (fun _ => ?_)
    · intro y0 y1 y2 y3 y4 y5 y6 y7
      unfold leap_Check.j2
      repeat' first
      | (with_reducible exact ih0 _ _ _ _)
      | (with_reducible exact ih1 _ _ _ _ _ _ _ _)
      | (with_reducible exact ih2 _ _ _ _ _ _ _ _)
      | (with_reducible exact LeO.refl _)
      | (with_reducible exact LeO.none _)
      | (with_reducible refine LeO.ite ?_ ?_)
      | (with_reducible refine LeO.bind ?_ (fun _ => ?_))
      | exact ih0 _ _ _ _
      | exact ih1 _ _ _ _ _ _ _ _
      | exact ih2 _ _ _ _ _ _ _ _
      | exact LeO.none _
      | refine LeO.ite ?_ ?_
      | refine LeO.bind ?_ (fun _ => ?_)
theorem leap_Check.mono : ∀ a0 k, LeO (leap_Check.f k a0) (leap_Check.f (k + 1) a0) := by
  intro a0 k
  obtain ⟨ih0, ih1, ih2⟩ := leap_Check.mono_l k
  unfold leap_Check.f
  repeat' first
      | (with_reducible exact ih0 _ _ _ _)
      | (with_reducible exact ih1 _ _ _ _ _ _ _ _)
      | (with_reducible exact ih2 _ _ _ _ _ _ _ _)
      | (with_reducible exact LeO.refl _)
      | (with_reducible exact LeO.none _)
      | (with_reducible refine LeO.ite ?_ ?_)
      | (with_reducible refine LeO.bind ?_ (fun _ => ?_))
      | exact ih0 _ _ _ _
      | exact ih1 _ _ _ _ _ _ _ _
      | exact ih2 _ _ _ _ _ _ _ _
      | exact LeO.none _
      | refine LeO.ite ?_ ?_
      | refine LeO.bind ?_ (fun _ => ?_)

/-! ### the Lean function leap_end: function 29 -/
def leap_end.f (a0_0 : Int) (a0_1 : Int) : Option (Int) := some (wrap64 ((wrap64 (a0_0 + 1)) * 86400000))

/-! ### the Lean function interval_Floor: function 30 -/
def interval_Floor.f (a0 : Int) (a1 : Int) : Option (Int) := if a1 = 0 then (none) else (if (Int.tmod a0 a1) = 0 then (some (wrap64 (Int.tdiv a0 a1))) else (if ((decide (a0 < 0)) != (decide (a1 < 0))) = true then (some (wrap64 ((wrap64 (Int.tdiv a0 a1)) - 1))) else (some (wrap64 (Int.tdiv a0 a1)))))

/-! ### the Lean function leap_Sum: function 31 -/
mutual
def leap_Sum.j0 : Nat → List (S41) → Int → Bool → Option (Int × Int)
  | 0, _, _, _ => none
  | k + 1, x0, x1, x20 => if x20 = true then (some (0, 3)) else (leap_Sum.l0 k x1 0 x0 (x0.length : Int) 0)
def leap_Sum.l0 : Nat → Int → Int → List (S41) → Int → Int → Option (Int × Int)
  | 0, _, _, _, _, _ => none
  | k + 1, x1, x7, x21, x22, x23 => if x23 < x22 then (if 0 ≤ x23 then (if x23 < (x21.length : Int) then (if ((rd_T41 x21 x23).f0) < x1 then (leap_Sum.l0 k x1 (wrap64 (x7 + ((rd_T41 x21 x23).f1))) x21 x22 (wrap64 (x23 + 1))) else (leap_Sum.l0 k x1 x7 x21 x22 (wrap64 (x23 + 1)))) else (none)) else (none)) else (some (x7, 0))
end
def leap_Sum.f (k : Nat) (l0 : List (S41)) (a1 : Int) : Option (Int × Int) := (leap_Check.f k l0).bind fun t203 => (if t203 = 0 then (if a1 < (-4000000) then (leap_Sum.j0 k l0 a1 true) else (leap_Sum.j0 k l0 a1 (decide (a1 > 4000000)))) else (some (0, t203)))
theorem leap_Sum.mono_l : ∀ k, (∀ y0 y1 y2, LeO (leap_Sum.j0 k y0 y1 y2) (leap_Sum.j0 (k + 1) y0 y1 y2)) ∧ (∀ y0 y1 y2 y3 y4, LeO (leap_Sum.l0 k y0 y1 y2 y3 y4) (leap_Sum.l0 (k + 1) y0 y1 y2 y3 y4))
  | 0 => ⟨fun _ _ _ r h => by simp [leap_Sum.j0] at h, fun _ _ _ _ _ r h => by simp [leap_Sum.l0] at h⟩
  | k + 1 => by
    obtain ⟨ih0, ih1⟩ := leap_Sum.mono_l k
    refine ⟨?_, ?_⟩
    · intro y0 y1 y2
      unfold leap_Sum.j0
      repeat' first
      | (with_reducible exact ih0 _ _ _)
      | (with_reducible exact ih1 _ _ _ _ _)
      | (with_reducible exact leap_Check.mono _ _)
      | (with_reducible exact LeO.refl _)
      | (with_reducible exact LeO.none _)
      | (with_reducible refine LeO.ite ?_ ?_)
      | (with_reducible refine LeO.bind ?_ (fun _ => ?_))
      | exact ih0 _ _ _
      | exact ih1 _ _ _ _ _
      | exact leap_Check.mono _ _
      | exact LeO.none _
      | refine LeO.ite ?_ ?_
      | refine LeO.bind ?_ (fun _ => ?_)
    · intro y0 y1 y2 y3 y4
      unfold leap_Sum.l0
      repeat' first
      | (with_reducible exact ih0 _ _ _)
      | (with_reducible exact ih1 _ _ _ _ _)
      | (with_reducible exact leap_Check.mono _ _)
      | (with_reducible exact LeO.refl _)
      | (with_reducible exact LeO.none _)
      | (with_reducible refine LeO.ite ?_ ?_)
      | (with_reducible refine LeO.bind ?_ (fun _ => ?_))
      | exact ih0 _ _ _
      | exact ih1 _ _ _ _ _
      | exact leap_Check.mono _ _
      | exact LeO.none _
      | refine LeO.ite ?_ ?_
      | refine LeO.bind ?_ (fun _ => ?_)
theorem leap_Sum.mono : ∀ a0 a1 k, LeO (leap_Sum.f k a0 a1) (leap_Sum.f (k + 1) a0 a1) := by
  intro a0 a1 k
  obtain ⟨ih0, ih1⟩ := leap_Sum.mono_l k
  unfold leap_Sum.f
  repeat' first
      | (with_reducible exact ih0 _ _ _)
      | (with_reducible exact ih1 _ _ _ _ _)
      | (with_reducible exact leap_Check.mono _ _)
      | (with_reducible exact LeO.refl _)
      | (with_reducible exact LeO.none _)
      | (with_reducible refine LeO.ite ?_ ?_)
      | (with_reducible refine LeO.bind ?_ (fun _ => ?_))
      | exact ih0 _ _ _
      | exact ih1 _ _ _ _ _
      | exact leap_Check.mono _ _
      | exact LeO.none _
      | refine LeO.ite ?_ ?_
      | refine LeO.bind ?_ (fun _ => ?_)

/-! ### the Lean function leap_Count: function 14 -/
def leap_Count.l0 : Nat → List (S41) → Int → Int → List (S41) → Int → Int → Option (Int × Int)
  | 0, _, _, _, _, _, _ => none
  | k + 1, x0, x1, x7, x22, x23, x24 => if x24 < x23 then (if 0 ≤ x24 then (if x24 < (x22.length : Int) then (if ((rd_T41 x22 x24).f0) = x7 then (if ((rd_T41 x22 x24).f1) < 0 then ((leap_end.f ((rd_T41 x22 x24).f0) ((rd_T41 x22 x24).f1)).bind fun t211 => (if x1 ≥ (wrap64 (t211 - 1000)) then (some (0, 15)) else (leap_Count.l0 k x0 x1 x7 x22 x23 (wrap64 (x24 + 1))))) else (leap_Count.l0 k x0 x1 x7 x22 x23 (wrap64 (x24 + 1)))) else (leap_Count.l0 k x0 x1 x7 x22 x23 (wrap64 (x24 + 1)))) else (none)) else (none)) else ((leap_Sum.f k x0 x7).bind fun bt212 => (some (wrap64 (x1 + (wrap64 (bt212.1 * 1000))), 0)))
def leap_Count.f (k : Nat) (l0 : List (S41)) (a1 : Int) : Option (Int × Int) := (leap_Check.f k l0).bind fun t206 => (if t206 = 0 then ((series_Valid.f a1).bind fun t207 => (if t207 = true then ((interval_Floor.f a1 86400000).bind fun t208 => (leap_Count.l0 k l0 a1 t208 l0 (l0.length : Int) 0)) else (some (0, 3)))) else (some (0, t206)))
theorem leap_Count.mono_l : ∀ k, (∀ y0 y1 y2 y3 y4 y5, LeO (leap_Count.l0 k y0 y1 y2 y3 y4 y5) (leap_Count.l0 (k + 1) y0 y1 y2 y3 y4 y5))
  | 0 => fun _ _ _ _ _ _ r h => by simp [leap_Count.l0] at h
  | k + 1 => by
    have ih0 := leap_Count.mono_l k
    · intro y0 y1 y2 y3 y4 y5
      unfold leap_Count.l0
      repeat' first
      | (with_reducible exact ih0 _ _ _ _ _ _)
      | (with_reducible exact leap_Check.mono _ _)
      | (with_reducible exact leap_Sum.mono _ _ _)
      | (with_reducible exact LeO.refl _)
      | (with_reducible exact LeO.none _)
      | (with_reducible refine LeO.ite ?_ ?_)
      | (with_reducible refine LeO.bind ?_ (fun _ => ?_))
      | exact ih0 _ _ _ _ _ _
      | exact leap_Check.mono _ _
      | exact leap_Sum.mono _ _ _
      | exact LeO.none _
      | refine LeO.ite ?_ ?_
      | refine LeO.bind ?_ (fun _ => ?_)
theorem leap_Count.mono : ∀ a0 a1 k, LeO (leap_Count.f k a0 a1) (leap_Count.f (k + 1) a0 a1) := by
  intro a0 a1 k
  have ih0 := leap_Count.mono_l k
  unfold leap_Count.f
  repeat' first
      | (with_reducible exact ih0 _ _ _ _ _ _)
      | (with_reducible exact leap_Check.mono _ _)
      | (with_reducible exact leap_Sum.mono _ _ _)
      | (with_reducible exact LeO.refl _)
      | (with_reducible exact LeO.none _)
      | (with_reducible refine LeO.ite ?_ ?_)
      | (with_reducible refine LeO.bind ?_ (fun _ => ?_))
      | exact ih0 _ _ _ _ _ _
      | exact leap_Check.mono _ _
      | exact leap_Sum.mono _ _ _
      | exact LeO.none _
      | refine LeO.ite ?_ ?_
      | refine LeO.bind ?_ (fun _ => ?_)

/-! ### the Lean function interval_out: function 92 -/
def interval_out.f (a0 : Int) : Option (Bool) := if a0 < (-1000000000000000000) then (some true) else (some (decide (a0 > 1000000000000000000)))

/-! ### the Lean function interval_Check: function 65 -/
def interval_Check.j0 : Nat → Bool → Int → Int → Option (Int)
  | 0, _, _, _ => none
  | k + 1, x10, x215000, x215001 => if x10 = true then (some 3) else (if x215000 > x215001 then (some 9) else (some 0))
def interval_Check.f (k : Nat) (a0_0 : Int) (a0_1 : Int) : Option (Int) := (interval_out.f a0_0).bind fun t215 => (if t215 = true then (interval_Check.j0 k true a0_0 a0_1) else ((interval_out.f a0_1).bind fun t216 => (interval_Check.j0 k t216 a0_0 a0_1)))
theorem interval_Check.mono_l : ∀ k, (∀ y0 y1 y2, LeO (interval_Check.j0 k y0 y1 y2) (interval_Check.j0 (k + 1) y0 y1 y2))
  | 0 => fun _ _ _ r h => by simp [interval_Check.j0] at h
  | k + 1 => by
    have ih0 := interval_Check.mono_l k
    · intro y0 y1 y2
      unfold interval_Check.j0
      repeat' first
      | (with_reducible exact ih0 _ _ _)
      | (with_reducible exact LeO.refl _)
      | (with_reducible exact LeO.none _)
      | (with_reducible refine LeO.ite ?_ ?_)
      | (with_reducible refine LeO.bind ?_ (fun _ => ?_))
      | exact ih0 _ _ _
      | exact LeO.none _
      | refine LeO.ite ?_ ?_
      | refine LeO.bind ?_ (fun _ => ?_)
theorem interval_Check.mono : ∀ a0 a1 k, LeO (interval_Check.f k a0 a1) (interval_Check.f (k + 1) a0 a1) := by
  intro a0 a1 k
  have ih0 := interval_Check.mono_l k
  unfold interval_Check.f
  repeat' first
      | (with_reducible exact ih0 _ _ _)
      | (with_reducible exact LeO.refl _)
      | (with_reducible exact LeO.none _)
      | (with_reducible refine LeO.ite ?_ ?_)
      | (with_reducible refine LeO.bind ?_ (fun _ => ?_))
      | exact ih0 _ _ _
      | exact LeO.none _
      | refine LeO.ite ?_ ?_
      | refine LeO.bind ?_ (fun _ => ?_)

/-! ### the Lean function agree_Check: function 46 -/
def agree_Check.l0 : Nat → List (S34) → Int → Int → Option (Int)
  | 0, _, _, _ => none
  | k + 1, x12, x13, x14 => if x14 < x13 then (if 0 ≤ x14 then (if x14 < (x12.length : Int) then ((interval_Check.f k ((rd_T34 x12 x14).f0) ((rd_T34 x12 x14).f1)).bind fun t219 => (if t219 = 0 then (agree_Check.l0 k x12 x13 (wrap64 (x14 + 1))) else (some t219))) else (none)) else (none)) else (some 0)
def agree_Check.f (k : Nat) (l0 : List (S34)) : Option (Int) := if (l0.length : Int) > 40 then (some 2) else (if (l0.length : Int) = 0 then (some 6) else (agree_Check.l0 k l0 (l0.length : Int) 0))
theorem agree_Check.mono_l : ∀ k, (∀ y0 y1 y2, LeO (agree_Check.l0 k y0 y1 y2) (agree_Check.l0 (k + 1) y0 y1 y2))
  | 0 => fun _ _ _ r h => by simp [agree_Check.l0] at h
  | k + 1 => by
    have ih0 := agree_Check.mono_l k
    · intro y0 y1 y2
      unfold agree_Check.l0
      repeat' first
      | (with_reducible exact ih0 _ _ _)
      | (with_reducible exact interval_Check.mono _ _ _)
      | (with_reducible exact LeO.refl _)
      | (with_reducible exact LeO.none _)
      | (with_reducible refine LeO.ite ?_ ?_)
      | (with_reducible refine LeO.bind ?_ (fun _ => ?_))
      | exact ih0 _ _ _
      | exact interval_Check.mono _ _ _
      | exact LeO.none _
      | refine LeO.ite ?_ ?_
      | refine LeO.bind ?_ (fun _ => ?_)
theorem agree_Check.mono : ∀ a0 k, LeO (agree_Check.f k a0) (agree_Check.f (k + 1) a0) := by
  intro a0 k
  have ih0 := agree_Check.mono_l k
  unfold agree_Check.f
  repeat' first
      | (with_reducible exact ih0 _ _ _)
      | (with_reducible exact interval_Check.mono _ _ _)
      | (with_reducible exact LeO.refl _)
      | (with_reducible exact LeO.none _)
      | (with_reducible refine LeO.ite ?_ ?_)
      | (with_reducible refine LeO.bind ?_ (fun _ => ?_))
      | exact ih0 _ _ _
      | exact interval_Check.mono _ _ _
      | exact LeO.none _
      | refine LeO.ite ?_ ?_
      | refine LeO.bind ?_ (fun _ => ?_)

/-! ### the Lean function agree_many: function 47 -/
mutual
def agree_many.l0 : Nat → Int → Int → Int → List (S34) → Int → Int → Option (Int × Int)
  | 0, _, _, _, _, _, _ => none
  | k + 1, x1, x6, x7, x10, x11, x12 => if x12 < x11 then (if 0 ≤ x12 then (if x12 < (x10.length : Int) then (if ((rd_T34 x10 x12).f0) ≤ x1 then (agree_many.j1 k x1 x6 x7 x10 x11 x12 (decide (x1 ≤ ((rd_T34 x10 x12).f1))) ((rd_T34 x10 x12).f0) ((rd_T34 x10 x12).f1)) else (agree_many.j1 k x1 x6 x7 x10 x11 x12 false ((rd_T34 x10 x12).f0) ((rd_T34 x10 x12).f1))) else (none)) else (none)) else (some (x6, x7))
def agree_many.j1 : Nat → Int → Int → Int → List (S34) → Int → Int → Bool → Int → Int → Option (Int × Int)
  | 0, _, _, _, _, _, _, _, _, _ => none
  | k + 1, x1, x6, x7, x10, x11, x12, x25, x222000, x222001 => if x25 = true then (if x6 = 0 then (agree_many.l0 k x1 (wrap64 (x6 + 1)) x222001 x10 x11 (wrap64 (x12 + 1))) else (if x222001 < x7 then (agree_many.l0 k x1 (wrap64 (x6 + 1)) x222001 x10 x11 (wrap64 (x12 + 1))) else (agree_many.l0 k x1 (wrap64 (x6 + 1)) x7 x10 x11 (wrap64 (x12 + 1))))) else (agree_many.l0 k x1 x6 x7 x10 x11 (wrap64 (x12 + 1)))
end
def agree_many.f (k : Nat) (l0 : List (S34)) (a1 : Int) : Option (Int × Int) := agree_many.l0 k a1 0 0 l0 (l0.length : Int) 0
theorem agree_many.mono_l : ∀ k, (∀ y0 y1 y2 y3 y4 y5, LeO (agree_many.l0 k y0 y1 y2 y3 y4 y5) (agree_many.l0 (k + 1) y0 y1 y2 y3 y4 y5)) ∧ (∀ y0 y1 y2 y3 y4 y5 y6 y7 y8, LeO (agree_many.j1 k y0 y1 y2 y3 y4 y5 y6 y7 y8) (agree_many.j1 (k + 1) y0 y1 y2 y3 y4 y5 y6 y7 y8))
  | 0 => ⟨fun _ _ _ _ _ _ r h => by simp [agree_many.l0] at h, fun _ _ _ _ _ _ _ _ _ r h => by simp [agree_many.j1] at h⟩
  | k + 1 => by
    obtain ⟨ih0, ih1⟩ := agree_many.mono_l k
    refine ⟨?_, ?_⟩
    · intro y0 y1 y2 y3 y4 y5
      unfold agree_many.l0
      repeat' first
      | (with_reducible exact ih0 _ _ _ _ _ _)
      | (with_reducible exact ih1 _ _ _ _ _ _ _ _ _)
      | (with_reducible exact LeO.refl _)
      | (with_reducible exact LeO.none _)
      | (with_reducible refine LeO.ite ?_ ?_)
      | (with_reducible refine LeO.bind ?_ (fun _ => ?_))
      | exact ih0 _ _ _ _ _ _
      | exact ih1 _ _ _ _ _ _ _ _ _
      | exact LeO.none _
      | refine LeO.ite ?_ ?_
      | refine LeO.bind ?_ (fun _ => ?_)
    · intro y0 y1 y2 y3 y4 y5 y6 y7 y8
      unfold agree_many.j1
      repeat' first
      | (with_reducible exact ih0 _ _ _ _ _ _)
      | (with_reducible exact ih1 _ _ _ _ _ _ _ _ _)
      | (with_reducible exact LeO.refl _)
      | (with_reducible exact LeO.none _)
      | (with_reducible refine LeO.ite ?_ ?_)
      | (with_reducible refine LeO.bind ?_ (fun _ => ?_))
      | exact ih0 _ _ _ _ _ _
      | exact ih1 _ _ _ _ _ _ _ _ _
      | exact LeO.none _
      | refine LeO.ite ?_ ?_
      | refine LeO.bind ?_ (fun _ => ?_)
theorem agree_many.mono : ∀ a0 a1 k, LeO (agree_many.f k a0 a1) (agree_many.f (k + 1) a0 a1) := by
  intro a0 a1 k
  obtain ⟨ih0, ih1⟩ := agree_many.mono_l k
  unfold agree_many.f
  repeat' first
      | (with_reducible exact ih0 _ _ _ _ _ _)
      | (with_reducible exact ih1 _ _ _ _ _ _ _ _ _)
      | (with_reducible exact LeO.refl _)
      | (with_reducible exact LeO.none _)
      | (with_reducible refine LeO.ite ?_ ?_)
      | (with_reducible refine LeO.bind ?_ (fun _ => ?_))
      | exact ih0 _ _ _ _ _ _
      | exact ih1 _ _ _ _ _ _ _ _ _
      | exact LeO.none _
      | refine LeO.ite ?_ ?_
      | refine LeO.bind ?_ (fun _ => ?_)

/-! ### the Lean function agree_Within: function 24 -/
mutual
def agree_Within.j0 : Nat → List (S34) → Int → Bool → Option (Int × Int × Int)
  | 0, _, _, _ => none
  | k + 1, x0, x1, x30 => if x30 = true then (some (0, 0, 1)) else (agree_Within.l0 k x0 x1 false x0 (x0.length : Int) 0 0 0)
def agree_Within.l0 : Nat → List (S34) → Int → Bool → List (S34) → Int → Int → Int → Int → Option (Int × Int × Int)
  | 0, _, _, _, _, _, _, _, _ => none
  | k + 1, x0, x1, x7, x33, x34, x35, x225000, x225001 => if x35 < x34 then (if 0 ≤ x35 then (if x35 < (x33.length : Int) then ((agree_many.f k x0 ((rd_T34 x33 x35).f0)).bind fun bt227 => (if bt227.1 ≥ x1 then (if x7 = true then (if ((rd_T34 x33 x35).f0) < x225000 then (agree_Within.l0 k x0 x1 true x33 x34 (wrap64 (x35 + 1)) ((rd_T34 x33 x35).f0) x225001) else (agree_Within.l0 k x0 x1 x7 x33 x34 (wrap64 (x35 + 1)) x225000 x225001)) else (agree_Within.l0 k x0 x1 true x33 x34 (wrap64 (x35 + 1)) ((rd_T34 x33 x35).f0) x225001)) else (agree_Within.l0 k x0 x1 x7 x33 x34 (wrap64 (x35 + 1)) x225000 x225001))) else (none)) else (none)) else (if x7 = true then (agree_Within.l1 k x0 x1 x0 (x0.length : Int) 0 x225000 x225000) else (some (0, 0, 6)))
def agree_Within.l1 : Nat → List (S34) → Int → List (S34) → Int → Int → Int → Int → Option (Int × Int × Int)
  | 0, _, _, _, _, _, _, _ => none
  | k + 1, x0, x1, x70, x71, x72, x225000, x225001 => if x72 < x71 then (if 0 ≤ x72 then (if x72 < (x70.length : Int) then ((agree_many.f k x0 ((rd_T34 x70 x72).f1)).bind fun bt231 => (if bt231.1 ≥ x1 then (agree_Within.l1 k x0 x1 x70 x71 (wrap64 (x72 + 1)) x225000 (mx x225001 ((rd_T34 x70 x72).f1))) else (agree_Within.l1 k x0 x1 x70 x71 (wrap64 (x72 + 1)) x225000 x225001))) else (none)) else (none)) else (some (x225000, x225001, 0))
end
def agree_Within.f (k : Nat) (l0 : List (S34)) (a1 : Int) : Option (Int × Int × Int) := (agree_Check.f k l0).bind fun t223 => (if t223 = 0 then (if a1 < 1 then (agree_Within.j0 k l0 a1 true) else (agree_Within.j0 k l0 a1 (decide (a1 > (l0.length : Int))))) else (some (0, 0, t223)))
theorem agree_Within.mono_l : ∀ k, (∀ y0 y1 y2, LeO (agree_Within.j0 k y0 y1 y2) (agree_Within.j0 (k + 1) y0 y1 y2)) ∧ (∀ y0 y1 y2 y3 y4 y5 y6 y7, LeO (agree_Within.l0 k y0 y1 y2 y3 y4 y5 y6 y7) (agree_Within.l0 (k + 1) y0 y1 y2 y3 y4 y5 y6 y7)) ∧ (∀ y0 y1 y2 y3 y4 y5 y6, LeO (agree_Within.l1 k y0 y1 y2 y3 y4 y5 y6) (agree_Within.l1 (k + 1) y0 y1 y2 y3 y4 y5 y6))
  | 0 => ⟨fun _ _ _ r h => by simp [agree_Within.j0] at h, fun _ _ _ _ _ _ _ _ r h => by simp [agree_Within.l0] at h, fun _ _ _ _ _ _ _ r h => by simp [agree_Within.l1] at h⟩
  | k + 1 => by
    obtain ⟨ih0, ih1, ih2⟩ := agree_Within.mono_l k
    refine ⟨?_, ?_, ?_⟩
    · intro y0 y1 y2
      unfold agree_Within.j0
      repeat' first
      | (with_reducible exact ih0 _ _ _)
      | (with_reducible exact ih1 _ _ _ _ _ _ _ _)
      | (with_reducible exact ih2 _ _ _ _ _ _ _)
      | (with_reducible exact agree_Check.mono _ _)
      | (with_reducible exact agree_many.mono _ _ _)
      | (with_reducible exact LeO.refl _)
      | (with_reducible exact LeO.none _)
      | (with_reducible refine LeO.ite ?_ ?_)
      | (with_reducible refine LeO.bind ?_ (fun _ => ?_))
      | exact ih0 _ _ _
      | exact ih1 _ _ _ _ _ _ _ _
      | exact ih2 _ _ _ _ _ _ _
      | exact agree_Check.mono _ _
      | exact agree_many.mono _ _ _
      | exact LeO.none _
      | refine LeO.ite ?_ ?_
      | refine LeO.bind ?_ (fun _ => ?_)
    · intro y0 y1 y2 y3 y4 y5 y6 y7
      unfold agree_Within.l0
      repeat' first
      | (with_reducible exact ih0 _ _ _)
      | (with_reducible exact ih1 _ _ _ _ _ _ _ _)
      | (with_reducible exact ih2 _ _ _ _ _ _ _)
      | (with_reducible exact agree_Check.mono _ _)
      | (with_reducible exact agree_many.mono _ _ _)
      | (with_reducible exact LeO.refl _)
      | (with_reducible exact LeO.none _)
      | (with_reducible refine LeO.ite ?_ ?_)
      | (with_reducible refine LeO.bind ?_ (fun _ => ?_))
      | exact ih0 _ _ _
      | exact ih1 _ _ _ _ _ _ _ _
      | exact ih2 _ _ _ _ _ _ _
      | exact agree_Check.mono _ _
      | exact agree_many.mono _ _ _
      | exact LeO.none _
      | refine LeO.ite ?_ ?_
      | refine LeO.bind ?_ (fun _ => ?_)
    · intro y0 y1 y2 y3 y4 y5 y6
      unfold agree_Within.l1
      repeat' first
      | (with_reducible exact ih0 _ _ _)
      | (with_reducible exact ih1 _ _ _ _ _ _ _ _)
      | (with_reducible exact ih2 _ _ _ _ _ _ _)
      | (with_reducible exact agree_Check.mono _ _)
      | (with_reducible exact agree_many.mono _ _ _)
      | (with_reducible exact LeO.refl _)
      | (with_reducible exact LeO.none _)
      | (with_reducible refine LeO.ite ?_ ?_)
      | (with_reducible refine LeO.bind ?_ (fun _ => ?_))
      | exact ih0 _ _ _
      | exact ih1 _ _ _ _ _ _ _ _
      | exact ih2 _ _ _ _ _ _ _
      | exact agree_Check.mono _ _
      | exact agree_many.mono _ _ _
      | exact LeO.none _
      | refine LeO.ite ?_ ?_
      | refine LeO.bind ?_ (fun _ => ?_)
theorem agree_Within.mono : ∀ a0 a1 k, LeO (agree_Within.f k a0 a1) (agree_Within.f (k + 1) a0 a1) := by
  intro a0 a1 k
  obtain ⟨ih0, ih1, ih2⟩ := agree_Within.mono_l k
  unfold agree_Within.f
  repeat' first
      | (with_reducible exact ih0 _ _ _)
      | (with_reducible exact ih1 _ _ _ _ _ _ _ _)
      | (with_reducible exact ih2 _ _ _ _ _ _ _)
      | (with_reducible exact agree_Check.mono _ _)
      | (with_reducible exact agree_many.mono _ _ _)
      | (with_reducible exact LeO.refl _)
      | (with_reducible exact LeO.none _)
      | (with_reducible refine LeO.ite ?_ ?_)
      | (with_reducible refine LeO.bind ?_ (fun _ => ?_))
      | exact ih0 _ _ _
      | exact ih1 _ _ _ _ _ _ _ _
      | exact ih2 _ _ _ _ _ _ _
      | exact agree_Check.mono _ _
      | exact agree_many.mono _ _ _
      | exact LeO.none _
      | refine LeO.ite ?_ ?_
      | refine LeO.bind ?_ (fun _ => ?_)

/-! ### the Lean function interval_Ceil: function 48 -/
def interval_Ceil.f (a0 : Int) (a1 : Int) : Option (Int) := (interval_Floor.f (wrap64 (-a0)) a1).bind fun t233 => (some (wrap64 (-t233)))

/-! ### the Lean function oscill_Elapsed: function 25 -/
mutual
def oscill_Elapsed.j0 : Nat → Int → Int → Bool → Option (Int × Int × Int)
  | 0, _, _, _ => none
  | k + 1, x0, x1, x11 => if x11 = true then (some (0, 0, 1)) else (if x1 < 0 then (oscill_Elapsed.j1 k x0 x1 true) else (oscill_Elapsed.j1 k x0 x1 (decide (x1 > 1000000000000))))
def oscill_Elapsed.j1 : Nat → Int → Int → Bool → Option (Int × Int × Int)
  | 0, _, _, _ => none
  | k + 1, x0, x1, x18 => if x18 = true then (some (0, 0, 3)) else ((interval_Floor.f (wrap64 (x1 * 1000000)) (wrap64 (1000000 + x0))).bind fun t235 => ((interval_Ceil.f (wrap64 (x1 * 1000000)) (wrap64 (1000000 - x0))).bind fun t236 => (some (t235, t236, 0))))
end
def oscill_Elapsed.f (k : Nat) (a0 : Int) (a1 : Int) : Option (Int × Int × Int) := if a0 < 0 then (oscill_Elapsed.j0 k a0 a1 true) else (oscill_Elapsed.j0 k a0 a1 (decide (a0 > 100000)))
theorem oscill_Elapsed.mono_l : ∀ k, (∀ y0 y1 y2, LeO (oscill_Elapsed.j0 k y0 y1 y2) (oscill_Elapsed.j0 (k + 1) y0 y1 y2)) ∧ (∀ y0 y1 y2, LeO (oscill_Elapsed.j1 k y0 y1 y2) (oscill_Elapsed.j1 (k + 1) y0 y1 y2))
  | 0 => ⟨fun _ _ _ r h => by simp [oscill_Elapsed.j0] at h, fun _ _ _ r h => by simp [oscill_Elapsed.j1] at h⟩
  | k + 1 => by
    obtain ⟨ih0, ih1⟩ := oscill_Elapsed.mono_l k
    refine ⟨?_, ?_⟩
    · intro y0 y1 y2
      unfold oscill_Elapsed.j0
      repeat' first
      | (with_reducible exact ih0 _ _ _)
      | (with_reducible exact ih1 _ _ _)
      | (with_reducible exact LeO.refl _)
      | (with_reducible exact LeO.none _)
      | (with_reducible refine LeO.ite ?_ ?_)
      | (with_reducible refine LeO.bind ?_ (fun _ => ?_))
      | exact ih0 _ _ _
      | exact ih1 _ _ _
      | exact LeO.none _
      | refine LeO.ite ?_ ?_
      | refine LeO.bind ?_ (fun _ => ?_)
    · intro y0 y1 y2
      unfold oscill_Elapsed.j1
      repeat' first
      | (with_reducible exact ih0 _ _ _)
      | (with_reducible exact ih1 _ _ _)
      | (with_reducible exact LeO.refl _)
      | (with_reducible exact LeO.none _)
      | (with_reducible refine LeO.ite ?_ ?_)
      | (with_reducible refine LeO.bind ?_ (fun _ => ?_))
      | exact ih0 _ _ _
      | exact ih1 _ _ _
      | exact LeO.none _
      | refine LeO.ite ?_ ?_
      | refine LeO.bind ?_ (fun _ => ?_)
theorem oscill_Elapsed.mono : ∀ a0 a1 k, LeO (oscill_Elapsed.f k a0 a1) (oscill_Elapsed.f (k + 1) a0 a1) := by
  intro a0 a1 k
  obtain ⟨ih0, ih1⟩ := oscill_Elapsed.mono_l k
  unfold oscill_Elapsed.f
  repeat' first
      | (with_reducible exact ih0 _ _ _)
      | (with_reducible exact ih1 _ _ _)
      | (with_reducible exact LeO.refl _)
      | (with_reducible exact LeO.none _)
      | (with_reducible refine LeO.ite ?_ ?_)
      | (with_reducible refine LeO.bind ?_ (fun _ => ?_))
      | exact ih0 _ _ _
      | exact ih1 _ _ _
      | exact LeO.none _
      | refine LeO.ite ?_ ?_
      | refine LeO.bind ?_ (fun _ => ?_)

/-! ### the Lean function ephemeristop_sClocks: function 11 -/
def ephemeristop_sClocks.f (k : Nat)  : Option (Bool) := (agree_Within.f k (([(⟨0, 10⟩ : S34), (⟨5, 15⟩ : S34), (⟨8, 20⟩ : S34)] : List (S34))) 2).bind fun bt240 => ((leap_Count.f k (([(⟨100, 1⟩ : S41)] : List (S41))) 8726400000).bind fun bt247 => ((oscill_Elapsed.f k 100 1000000).bind fun bt249 => (if bt240.2.2 = 0 then (if (bt240.1 == 5 && (bt240.2.1 == 15)) = true then (if bt247.2 = 0 then (if bt247.1 = 8726401000 then (if bt249.2.2 = 0 then (some (bt249.1 == 999900 && (bt249.2.1 == 1000101))) else (some false)) else (some false)) else (some false)) else (some false)) else (some false))))
theorem ephemeristop_sClocks.mono : ∀ k, LeO (ephemeristop_sClocks.f k ) (ephemeristop_sClocks.f (k + 1) ) := by
  intro  k
  unfold ephemeristop_sClocks.f
  repeat' first
      | (with_reducible exact agree_Within.mono _ _ _)
      | (with_reducible exact leap_Count.mono _ _ _)
      | (with_reducible exact oscill_Elapsed.mono _ _ _)
      | (with_reducible exact LeO.refl _)
      | (with_reducible exact LeO.none _)
      | (with_reducible refine LeO.ite ?_ ?_)
      | (with_reducible refine LeO.bind ?_ (fun _ => ?_))
      | exact agree_Within.mono _ _ _
      | exact leap_Count.mono _ _ _
      | exact oscill_Elapsed.mono _ _ _
      | exact LeO.none _
      | refine LeO.ite ?_ ?_
      | refine LeO.bind ?_ (fun _ => ?_)

/-! ### the Lean function smear_Check: function 26 -/
def smear_Check.f (k : Nat) (l0 : List (S41)) (a1 : Int) : Option (Int) := (leap_Check.f k l0).bind fun t253 => (if t253 = 0 then (if a1 < 1000 then (some 1) else (if a1 > 43200000 then (some 1) else (some 0))) else (some t253))
theorem smear_Check.mono : ∀ a0 a1 k, LeO (smear_Check.f k a0 a1) (smear_Check.f (k + 1) a0 a1) := by
  intro a0 a1 k
  unfold smear_Check.f
  repeat' first
      | (with_reducible exact leap_Check.mono _ _)
      | (with_reducible exact LeO.refl _)
      | (with_reducible exact LeO.none _)
      | (with_reducible refine LeO.ite ?_ ?_)
      | (with_reducible refine LeO.bind ?_ (fun _ => ?_))
      | exact leap_Check.mono _ _
      | exact LeO.none _
      | refine LeO.ite ?_ ?_
      | refine LeO.bind ?_ (fun _ => ?_)

/-! ### the Lean function smear_Smear: function 12 -/
def smear_Smear.l0 : Nat → Int → Int → Int → List (S41) → Int → Int → Option (Int × Int)
  | 0, _, _, _, _, _, _ => none
  | k + 1, x1, x2, x9, x22, x23, x24 => if x24 < x23 then (if 0 ≤ x24 then (if x24 < (x22.length : Int) then (if (wrap64 ((wrap64 (x2 - (wrap64 ((wrap64 ((wrap64 (((rd_T41 x22 x24).f0) + 1)) * 86400000)) - x1)))) - (wrap64 (x9 * 1000)))) < 0 then ((series_Valid.f (wrap64 (x2 - (wrap64 (x9 * 1000))))).bind fun t258 => (if t258 = true then (some (wrap64 (x2 - (wrap64 (x9 * 1000))), 0)) else (some (0, 3)))) else (if (wrap64 ((wrap64 (x2 - (wrap64 ((wrap64 ((wrap64 (((rd_T41 x22 x24).f0) + 1)) * 86400000)) - x1)))) - (wrap64 (x9 * 1000)))) < (wrap64 ((wrap64 (2 * x1)) + (wrap64 (((rd_T41 x22 x24).f1) * 1000)))) then (if (wrap64 ((wrap64 (2 * x1)) + (wrap64 (((rd_T41 x22 x24).f1) * 1000)))) = 0 then (none) else (some (wrap64 ((wrap64 ((wrap64 ((wrap64 (((rd_T41 x22 x24).f0) + 1)) * 86400000)) - x1)) + (wrap64 (Int.tdiv (wrap64 ((wrap64 ((wrap64 ((wrap64 (x2 - (wrap64 ((wrap64 ((wrap64 (((rd_T41 x22 x24).f0) + 1)) * 86400000)) - x1)))) - (wrap64 (x9 * 1000)))) * 2)) * x1)) (wrap64 ((wrap64 (2 * x1)) + (wrap64 (((rd_T41 x22 x24).f1) * 1000))))))), 0))) else (smear_Smear.l0 k x1 x2 (wrap64 (x9 + ((rd_T41 x22 x24).f1))) x22 x23 (wrap64 (x24 + 1))))) else (none)) else (none)) else ((series_Valid.f (wrap64 (x2 - (wrap64 (x9 * 1000))))).bind fun t255 => (if t255 = true then (some (wrap64 (x2 - (wrap64 (x9 * 1000))), 0)) else (some (0, 3))))
def smear_Smear.f (k : Nat) (l0 : List (S41)) (a1 : Int) (a2 : Int) : Option (Int × Int) := (smear_Check.f k l0 a1).bind fun t254 => (if t254 = 0 then (smear_Smear.l0 k a1 a2 0 l0 (l0.length : Int) 0) else (some (0, t254)))
theorem smear_Smear.mono_l : ∀ k, (∀ y0 y1 y2 y3 y4 y5, LeO (smear_Smear.l0 k y0 y1 y2 y3 y4 y5) (smear_Smear.l0 (k + 1) y0 y1 y2 y3 y4 y5))
  | 0 => fun _ _ _ _ _ _ r h => by simp [smear_Smear.l0] at h
  | k + 1 => by
    have ih0 := smear_Smear.mono_l k
    · intro y0 y1 y2 y3 y4 y5
      unfold smear_Smear.l0
      repeat' first
      | (with_reducible exact ih0 _ _ _ _ _ _)
      | (with_reducible exact smear_Check.mono _ _ _)
      | (with_reducible exact LeO.refl _)
      | (with_reducible exact LeO.none _)
      | (with_reducible refine LeO.ite ?_ ?_)
      | (with_reducible refine LeO.bind ?_ (fun _ => ?_))
      | exact ih0 _ _ _ _ _ _
      | exact smear_Check.mono _ _ _
      | exact LeO.none _
      | refine LeO.ite ?_ ?_
      | refine LeO.bind ?_ (fun _ => ?_)
theorem smear_Smear.mono : ∀ a0 a1 a2 k, LeO (smear_Smear.f k a0 a1 a2) (smear_Smear.f (k + 1) a0 a1 a2) := by
  intro a0 a1 a2 k
  have ih0 := smear_Smear.mono_l k
  unfold smear_Smear.f
  repeat' first
      | (with_reducible exact ih0 _ _ _ _ _ _)
      | (with_reducible exact smear_Check.mono _ _ _)
      | (with_reducible exact LeO.refl _)
      | (with_reducible exact LeO.none _)
      | (with_reducible refine LeO.ite ?_ ?_)
      | (with_reducible refine LeO.bind ?_ (fun _ => ?_))
      | exact ih0 _ _ _ _ _ _
      | exact smear_Check.mono _ _ _
      | exact LeO.none _
      | refine LeO.ite ?_ ?_
      | refine LeO.bind ?_ (fun _ => ?_)

/-! ### the Lean function leap_Instant: function 13 -/
def leap_Instant.l0 : Nat → Int → Int → List (S41) → Int → Int → Option (Int × Bool × Int)
  | 0, _, _, _, _, _ => none
  | k + 1, x1, x8, x16, x17, x18 => if x18 < x17 then (if 0 ≤ x18 then (if x18 < (x16.length : Int) then ((leap_end.f ((rd_T41 x16 x18).f0) ((rd_T41 x16 x18).f1)).bind fun t263 => (if x1 < (wrap64 (t263 + (wrap64 ((wrap64 (x8 + (mn 0 ((rd_T41 x16 x18).f1)))) * 1000)))) then ((series_Valid.f (wrap64 (x1 - (wrap64 (x8 * 1000))))).bind fun t264 => (if t264 = true then (some (wrap64 (x1 - (wrap64 (x8 * 1000))), false, 0)) else (some (0, false, 3)))) else (if ((rd_T41 x16 x18).f1) > 0 then ((leap_end.f ((rd_T41 x16 x18).f0) ((rd_T41 x16 x18).f1)).bind fun t265 => (if x1 < (wrap64 (t265 + (wrap64 ((wrap64 (x8 + 1)) * 1000)))) then ((leap_end.f ((rd_T41 x16 x18).f0) ((rd_T41 x16 x18).f1)).bind fun t266 => (some (wrap64 (t266 - 1), true, 0))) else (leap_Instant.l0 k x1 (wrap64 (x8 + ((rd_T41 x16 x18).f1))) x16 x17 (wrap64 (x18 + 1))))) else (leap_Instant.l0 k x1 (wrap64 (x8 + ((rd_T41 x16 x18).f1))) x16 x17 (wrap64 (x18 + 1)))))) else (none)) else (none)) else ((series_Valid.f (wrap64 (x1 - (wrap64 (x8 * 1000))))).bind fun t260 => (if t260 = true then (some (wrap64 (x1 - (wrap64 (x8 * 1000))), false, 0)) else (some (0, false, 3))))
def leap_Instant.f (k : Nat) (l0 : List (S41)) (a1 : Int) : Option (Int × Bool × Int) := (leap_Check.f k l0).bind fun t259 => (if t259 = 0 then (leap_Instant.l0 k a1 0 l0 (l0.length : Int) 0) else (some (0, false, t259)))
theorem leap_Instant.mono_l : ∀ k, (∀ y0 y1 y2 y3 y4, LeO (leap_Instant.l0 k y0 y1 y2 y3 y4) (leap_Instant.l0 (k + 1) y0 y1 y2 y3 y4))
  | 0 => fun _ _ _ _ _ r h => by simp [leap_Instant.l0] at h
  | k + 1 => by
    have ih0 := leap_Instant.mono_l k
    · intro y0 y1 y2 y3 y4
      unfold leap_Instant.l0
      repeat' first
      | (with_reducible exact ih0 _ _ _ _ _)
      | (with_reducible exact leap_Check.mono _ _)
      | (with_reducible exact LeO.refl _)
      | (with_reducible exact LeO.none _)
      | (with_reducible refine LeO.ite ?_ ?_)
      | (with_reducible refine LeO.bind ?_ (fun _ => ?_))
      | exact ih0 _ _ _ _ _
      | exact leap_Check.mono _ _
      | exact LeO.none _
      | refine LeO.ite ?_ ?_
      | refine LeO.bind ?_ (fun _ => ?_)
theorem leap_Instant.mono : ∀ a0 a1 k, LeO (leap_Instant.f k a0 a1) (leap_Instant.f (k + 1) a0 a1) := by
  intro a0 a1 k
  have ih0 := leap_Instant.mono_l k
  unfold leap_Instant.f
  repeat' first
      | (with_reducible exact ih0 _ _ _ _ _)
      | (with_reducible exact leap_Check.mono _ _)
      | (with_reducible exact LeO.refl _)
      | (with_reducible exact LeO.none _)
      | (with_reducible refine LeO.ite ?_ ?_)
      | (with_reducible refine LeO.bind ?_ (fun _ => ?_))
      | exact ih0 _ _ _ _ _
      | exact leap_Check.mono _ _
      | exact LeO.none _
      | refine LeO.ite ?_ ?_
      | refine LeO.bind ?_ (fun _ => ?_)

/-! ### the Lean function ephemeristop_TopSmear: function 4 -/
def ephemeristop_TopSmear.l0 : Nat → Int → Int → Int → List (S41) → Int → List Int → Int → Int → Option (Bool)
  | 0, _, _, _, _, _, _, _, _ => none
  | k + 1, x1, x2, x3, x9, x10, x27, x28, x29 => if x29 < x28 then (if 0 ≤ x29 then (if x29 < (x27.length : Int) then (if x29 < 12 then ((ephemeristop_sAt.f (rd x27 x29) 300).bind fun t269 => ((ephemeristop_sAt.f (rd x27 x29) 3).bind fun t270 => (if x9.length < 8796093022208 then (ephemeristop_TopSmear.l0 k x1 x2 x3 (x9 ++ [(⟨wrap64 (x10 + (wrap64 (2 + t269))), wrap64 (1 - (wrap64 (2 * (wrap64 (Int.tdiv t270 2)))))⟩ : S41)]) (wrap64 (x10 + (wrap64 (2 + t269)))) x27 x28 (wrap64 (x29 + 1))) else (none)))) else (ephemeristop_TopSmear.l0 k x1 x2 x3 x9 x10 x27 x28 (wrap64 (x29 + 1)))) else (none)) else (none)) else ((ephemeristop_sAt.f x1 43199001).bind fun t274 => ((ephemeristop_sAt.f x2 345600000000).bind fun t275 => ((ephemeristop_sAt.f x3 1000000).bind fun t276 => ((smear_Smear.f k x9 (wrap64 (1000 + t274)) t275).bind fun bt277 => ((smear_Smear.f k x9 (wrap64 (1000 + t274)) (wrap64 (t275 + t276))).bind fun bt279 => ((leap_Instant.f k x9 t275).bind fun bt281 => ((leap_Count.f k x9 (wrap64 (bt277.1 - (Int.tmod bt277.1 86400000)))).bind fun bt284 => ((leap_Instant.f k x9 bt284.1).bind fun bt286 => (if bt277.2 = 0 then (if bt279.2 = 0 then (if bt281.2.2 = 0 then (if bt277.1 ≤ bt279.1 then (if (wrap64 (bt279.1 - bt277.1)) ≤ (wrap64 ((wrap64 (2 * t276)) + 2)) then (if (wrap64 (bt277.1 - bt281.1)) ≤ 1001 then (if (wrap64 (bt281.1 - bt277.1)) ≤ 1001 then (if bt284.2 = 0 then (if bt286.2.2 = 0 then (some (bt286.1 == (wrap64 (bt277.1 - (Int.tmod bt277.1 86400000))))) else (none)) else (none)) else (none)) else (none)) else (none)) else (none)) else (none)) else (none)) else (none))))))))))
def ephemeristop_TopSmear.f (k : Nat) (l0 : List Int) (a1 : Int) (a2 : Int) (a3 : Int) : Option (Bool) := (ephemeristop_sClocks.f k).bind fun t267 => (if t267 = true then (ephemeristop_TopSmear.l0 k a1 a2 a3 ([] : List (S41)) 10 l0 (l0.length : Int) 0) else (none))
theorem ephemeristop_TopSmear.mono_l : ∀ k, (∀ y0 y1 y2 y3 y4 y5 y6 y7, LeO (ephemeristop_TopSmear.l0 k y0 y1 y2 y3 y4 y5 y6 y7) (ephemeristop_TopSmear.l0 (k + 1) y0 y1 y2 y3 y4 y5 y6 y7))
  | 0 => fun _ _ _ _ _ _ _ _ r h => by simp [ephemeristop_TopSmear.l0] at h
  | k + 1 => by
    have ih0 := ephemeristop_TopSmear.mono_l k
    · intro y0 y1 y2 y3 y4 y5 y6 y7
      unfold ephemeristop_TopSmear.l0
      repeat' first
      | (with_reducible exact ih0 _ _ _ _ _ _ _ _)
      | (with_reducible exact ephemeristop_sClocks.mono _)
      | (with_reducible exact leap_Count.mono _ _ _)
      | (with_reducible exact leap_Instant.mono _ _ _)
      | (with_reducible exact smear_Smear.mono _ _ _ _)
      | (with_reducible exact LeO.refl _)
      | (with_reducible exact LeO.none _)
      | (with_reducible refine LeO.ite ?_ ?_)
      | (with_reducible refine LeO.bind ?_ (fun _ => ?_))
      | exact ih0 _ _ _ _ _ _ _ _
      | exact ephemeristop_sClocks.mono _
      | exact leap_Count.mono _ _ _
      | exact leap_Instant.mono _ _ _
      | exact smear_Smear.mono _ _ _ _
      | exact LeO.none _
      | refine LeO.ite ?_ ?_
      | refine LeO.bind ?_ (fun _ => ?_)
theorem ephemeristop_TopSmear.mono : ∀ a0 a1 a2 a3 k, LeO (ephemeristop_TopSmear.f k a0 a1 a2 a3) (ephemeristop_TopSmear.f (k + 1) a0 a1 a2 a3) := by
  intro a0 a1 a2 a3 k
  have ih0 := ephemeristop_TopSmear.mono_l k
  unfold ephemeristop_TopSmear.f
  repeat' first
      | (with_reducible exact ih0 _ _ _ _ _ _ _ _)
      | (with_reducible exact ephemeristop_sClocks.mono _)
      | (with_reducible exact leap_Count.mono _ _ _)
      | (with_reducible exact leap_Instant.mono _ _ _)
      | (with_reducible exact smear_Smear.mono _ _ _ _)
      | (with_reducible exact LeO.refl _)
      | (with_reducible exact LeO.none _)
      | (with_reducible refine LeO.ite ?_ ?_)
      | (with_reducible refine LeO.bind ?_ (fun _ => ?_))
      | exact ih0 _ _ _ _ _ _ _ _
      | exact ephemeristop_sClocks.mono _
      | exact leap_Count.mono _ _ _
      | exact leap_Instant.mono _ _ _
      | exact smear_Smear.mono _ _ _ _
      | exact LeO.none _
      | refine LeO.ite ?_ ?_
      | refine LeO.bind ?_ (fun _ => ?_)
/-- THE ONE PURE STATEMENT of ephemeristop_TopSmear: yours. -/
def ephemeristop_TopSmear.Pure : Prop := ∀ (l0 : List Int) (a1 : Int) (a2 : Int) (a3 : Int), l0.length ≤ maxLen → l0.length * 8 ≤ 140737488351232 → (∀ x ∈ l0, (Lit.int .i64 x).wf = true) → (Lit.int .i64 a1).wf = true → (Lit.int .i64 a2).wf = true → (Lit.int .i64 a3).wf = true → ∃ k, ephemeristop_TopSmear.f k l0 a1 a2 a3 = some true

end Go.Proofs.Ytfmjlglkleinmaa.JE
