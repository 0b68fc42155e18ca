-- Made by a program of this session (wip/hp.py, over the kit's print) out of the translation. Not trusted: Lean checks it.
import Derived.Test.YtglkadgdmdgckaaJBx0
namespace Go.Proofs.Ytglkadgdmdgckaa.JB
open Go.RowKit Go.Proofs.YtglkadgdmdgckaaW.PrintWords Go.Proofs.YtglkadgdmdgckaaW.PrintLast Go.Proofs.YtglkadgdmdgckaaW.PrintMore
attribute [local go_sem] max2_int min2_int max_two min_two max_three min_three max_four min_four   -- for this text's walks alone
set_option linter.unusedVariables false
set_option linter.unusedSimpArgs false

theorem wrap_in_ {n : Int} (h : -9223372036854775808 ≤ n) (h' : n ≤ 9223372036854775807) : wrap64 n = n := by
  unfold wrap64; omega
/-- within the range of the bounds of intervals -/
def InR (x : Int) : Prop := -1000000000000000000 ≤ x ∧ x ≤ 1000000000000000000
instance (x : Int) : Decidable (InR x) := inferInstanceAs (Decidable (_ ∧ _))
theorem below_setg {B : Nat} {w W : World} {g j : Nat} {v : Value} (h : Below B w W) (hg : B ≤ g) : Below B w (W.setCell ⟨g, j, none⟩ v) := h.setCell hg _

/-! ### the Lean function chron_Check: function 28 -/
mutual
def chron_Check.j0 : Nat → Int → List (S44) → Bool → Option (Int)
  | 0, _, _, _ => none
  | k + 1, x0, x1, x13 => if x13 = true then (some 2) else (if x0 < 1 then (some 8) else (chron_Check.l0 k x0 x1 (x1.length : Int) 0))
def chron_Check.l0 : Nat → Int → List (S44) → Int → Int → Option (Int)
  | 0, _, _, _, _ => none
  | k + 1, x0, x16, x17, x18 => if x18 < x17 then (if 0 ≤ x18 then (if x18 < (x16.length : Int) then (if ((rd_T44 x16 x18).f0) < 0 then (chron_Check.j2 k x0 x16 x17 x18 true ((rd_T44 x16 x18).f0) ((rd_T44 x16 x18).f1) ((rd_T44 x16 x18).f2) ((rd_T44 x16 x18).f3)) else (if ((rd_T44 x16 x18).f0) ≥ x0 then (chron_Check.j2 k x0 x16 x17 x18 true ((rd_T44 x16 x18).f0) ((rd_T44 x16 x18).f1) ((rd_T44 x16 x18).f2) ((rd_T44 x16 x18).f3)) else (if ((rd_T44 x16 x18).f1) < 0 then (chron_Check.j2 k x0 x16 x17 x18 true ((rd_T44 x16 x18).f0) ((rd_T44 x16 x18).f1) ((rd_T44 x16 x18).f2) ((rd_T44 x16 x18).f3)) else (if ((rd_T44 x16 x18).f1) ≥ x0 then (chron_Check.j2 k x0 x16 x17 x18 true ((rd_T44 x16 x18).f0) ((rd_T44 x16 x18).f1) ((rd_T44 x16 x18).f2) ((rd_T44 x16 x18).f3)) else (if ((rd_T44 x16 x18).f2) < (-8000000) then (chron_Check.j2 k x0 x16 x17 x18 true ((rd_T44 x16 x18).f0) ((rd_T44 x16 x18).f1) ((rd_T44 x16 x18).f2) ((rd_T44 x16 x18).f3)) else (chron_Check.j2 k x0 x16 x17 x18 (decide (((rd_T44 x16 x18).f3) > 8000000)) ((rd_T44 x16 x18).f0) ((rd_T44 x16 x18).f1) ((rd_T44 x16 x18).f2) ((rd_T44 x16 x18).f3))))))) else (none)) else (none)) else (some 0)
def chron_Check.j2 : Nat → Int → List (S44) → Int → Int → Bool → Int → Int → Int → Int → Option (Int)
  | 0, _, _, _, _, _, _, _, _, _ => none
  | k + 1, x0, x16, x17, x18, x51, x103000, x103001, x103002, x103003 => if x51 = true then (some 3) else (if x103000 = x103001 then (some 1) else (if x103002 > x103003 then (some 9) else (chron_Check.l0 k x0 x16 x17 (wrap64 (x18 + 1)))))
end
def chron_Check.f (k : Nat) (a0 : Int) (l1 : List (S44)) : Option (Int) := if a0 > 12 then (chron_Check.j0 k a0 l1 true) else (chron_Check.j0 k a0 l1 (decide ((l1.length : Int) > 40)))
theorem chron_Check.mono_l : ∀ k, (∀ y0 y1 y2, LeO (chron_Check.j0 k y0 y1 y2) (chron_Check.j0 (k + 1) y0 y1 y2)) ∧ (∀ y0 y1 y2 y3, LeO (chron_Check.l0 k y0 y1 y2 y3) (chron_Check.l0 (k + 1) y0 y1 y2 y3)) ∧ (∀ y0 y1 y2 y3 y4 y5 y6 y7 y8, LeO (chron_Check.j2 k y0 y1 y2 y3 y4 y5 y6 y7 y8) (chron_Check.j2 (k + 1) y0 y1 y2 y3 y4 y5 y6 y7 y8))
  | 0 => ⟨fun _ _ _ r h => by simp [chron_Check.j0] at h, fun _ _ _ _ r h => by simp [chron_Check.l0] at h, fun _ _ _ _ _ _ _ _ _ r h => by simp [chron_Check.j2] at h⟩
  | k + 1 => by
    obtain ⟨ih0, ih1, ih2⟩ := chron_Check.mono_l k
    refine ⟨?_, ?_, ?_⟩
    · intro y0 y1 y2
      unfold chron_Check.j0
      repeat' first
      | (with_reducible exact ih0 _ _ _)
      | (with_reducible exact ih1 _ _ _ _)
      | (with_reducible exact ih2 _ _ _ _ _ _ _ _ _)
      | (with_reducible exact LeO.refl _)
      | (with_reducible exact LeO.none _)
      | (with_reducible refine LeO.ite ?_ ?_)
      | (with_reducible refine LeO.bind ?_ (fun _ => ?_))
      | exact ih0 _ _ _
      | exact ih1 _ _ _ _
      | exact ih2 _ _ _ _ _ _ _ _ _
      | exact LeO.none _
      | refine LeO.ite ?_ ?_
      | refine LeO.bind ?_ (fun _ => ?_)
    · intro y0 y1 y2 y3
      unfold chron_Check.l0
      repeat' first
      | (with_reducible exact ih0 _ _ _)
      | (with_reducible exact ih1 _ _ _ _)
      | (with_reducible exact ih2 _ _ _ _ _ _ _ _ _)
      | (with_reducible exact LeO.refl _)
      | (with_reducible exact LeO.none _)
      | (with_reducible refine LeO.ite ?_ ?_)
      | (with_reducible refine LeO.bind ?_ (fun _ => ?_))
      | exact ih0 _ _ _
      | exact ih1 _ _ _ _
      | exact ih2 _ _ _ _ _ _ _ _ _
      | exact LeO.none _
      | refine LeO.ite ?_ ?_
      | refine LeO.bind ?_ (fun _ => ?_)
    · intro y0 y1 y2 y3 y4 y5 y6 y7 y8
      unfold chron_Check.j2
      repeat' first
      | (with_reducible exact ih0 _ _ _)
      | (with_reducible exact ih1 _ _ _ _)
      | (with_reducible exact ih2 _ _ _ _ _ _ _ _ _)
      | (with_reducible exact LeO.refl _)
      | (with_reducible exact LeO.none _)
      | (with_reducible refine LeO.ite ?_ ?_)
      | (with_reducible refine LeO.bind ?_ (fun _ => ?_))
      | exact ih0 _ _ _
      | exact ih1 _ _ _ _
      | exact ih2 _ _ _ _ _ _ _ _ _
      | exact LeO.none _
      | refine LeO.ite ?_ ?_
      | refine LeO.bind ?_ (fun _ => ?_)
theorem chron_Check.mono : ∀ a0 a1 k, LeO (chron_Check.f k a0 a1) (chron_Check.f (k + 1) a0 a1) := by
  intro a0 a1 k
  obtain ⟨ih0, ih1, ih2⟩ := chron_Check.mono_l k
  unfold chron_Check.f
  repeat' first
      | (with_reducible exact ih0 _ _ _)
      | (with_reducible exact ih1 _ _ _ _)
      | (with_reducible exact ih2 _ _ _ _ _ _ _ _ _)
      | (with_reducible exact LeO.refl _)
      | (with_reducible exact LeO.none _)
      | (with_reducible refine LeO.ite ?_ ?_)
      | (with_reducible refine LeO.bind ?_ (fun _ => ?_))
      | exact ih0 _ _ _
      | exact ih1 _ _ _ _
      | exact ih2 _ _ _ _ _ _ _ _ _
      | exact LeO.none _
      | refine LeO.ite ?_ ?_
      | refine LeO.bind ?_ (fun _ => ?_)

/-! ### the Lean function chron_most: function 29 -/
mutual
def chron_most.l0 : Nat → Int → List (S44) → List (List Int) → Int → Int → Option ((List (List Int)) × Bool)
  | 0, _, _, _, _, _ => none
  | k + 1, x0, x1, x6, x18, x19 => if x19 < x18 then (if 0 ≤ x0 then (if (x0 : Int).toNat ≤ 35184372088832 then (if 0 ≤ x19 then (if x19 < (x6.length : Int) then ((some (x6.set (x19 : Int).toNat (List.replicate (x0 : Int).toNat 0) : List (List Int))).bind fun y109 => (chron_most.l1 k x0 x1 y109 x19 x18 x19 ((rd_L2 y109 x19).length : Int) 0)) else (none)) else (none)) else (none)) else (none)) else (chron_most.l2 k x0 x6 x1 (x1.length : Int) 0)
def chron_most.l1 : Nat → Int → List (S44) → List (List Int) → Int → Int → Int → Int → Int → Option ((List (List Int)) × Bool)
  | 0, _, _, _, _, _, _, _, _ => none
  | k + 1, x0, x1, x6, x7, x18, x19, x31, x32 => if x32 < x31 then (if x7 = x32 then (chron_most.l1 k x0 x1 x6 x7 x18 x19 x31 (wrap64 (x32 + 1))) else (if 0 ≤ x7 then (if x7 < (x6.length : Int) then (if 0 ≤ x32 then (if x32 < ((rd_L2 x6 x7).length : Int) then (chron_most.l1 k x0 x1 (x6.set (x7 : Int).toNat ((rd_L2 x6 x7).set (x32 : Int).toNat 1000000000)) x7 x18 x19 x31 (wrap64 (x32 + 1))) else (none)) else (none)) else (none)) else (none))) else (chron_most.l0 k x0 x1 x6 x18 (wrap64 (x19 + 1)))
def chron_most.l2 : Nat → Int → List (List Int) → List (S44) → Int → Int → Option ((List (List Int)) × Bool)
  | 0, _, _, _, _, _ => none
  | k + 1, x0, x6, x46, x47, x48 => if x48 < x47 then (if 0 ≤ x48 then (if x48 < (x46.length : Int) then (if 0 ≤ ((rd_T44 x46 x48).f0) then (if ((rd_T44 x46 x48).f0) < (x6.length : Int) then (if 0 ≤ ((rd_T44 x46 x48).f1) then (if ((rd_T44 x46 x48).f1) < ((rd_L2 x6 ((rd_T44 x46 x48).f0)).length : Int) then ((some (x6.set (((rd_T44 x46 x48).f0) : Int).toNat ((rd_L2 x6 ((rd_T44 x46 x48).f0)).set (((rd_T44 x46 x48).f1) : Int).toNat (mn (rd (rd_L2 x6 ((rd_T44 x46 x48).f0)) ((rd_T44 x46 x48).f1)) ((rd_T44 x46 x48).f3))) : List (List Int))).bind fun y122 => (if ((rd_T44 x46 x48).f1) < (x6.length : Int) then (if ((rd_T44 x46 x48).f0) < ((rd_L2 y122 ((rd_T44 x46 x48).f1)).length : Int) then (chron_most.l2 k x0 (y122.set (((rd_T44 x46 x48).f1) : Int).toNat ((rd_L2 y122 ((rd_T44 x46 x48).f1)).set (((rd_T44 x46 x48).f0) : Int).toNat (mn (rd (rd_L2 y122 ((rd_T44 x46 x48).f1)) ((rd_T44 x46 x48).f0)) (wrap64 (-((rd_T44 x46 x48).f2)))))) x46 x47 (wrap64 (x48 + 1))) else (none)) else (none))) else (none)) else (none)) else (none)) else (none)) else (none)) else (none)) else (chron_most.l3 k x0 x6 x0 0)
def chron_most.l3 : Nat → Int → List (List Int) → Int → Int → Option ((List (List Int)) × Bool)
  | 0, _, _, _, _ => none
  | k + 1, x0, x6, x94, x95 => if x95 < x94 then (chron_most.l4 k x0 x6 x95 x94 x95 x0 0) else (some (x6, true))
def chron_most.l4 : Nat → Int → List (List Int) → Int → Int → Int → Int → Int → Option ((List (List Int)) × Bool)
  | 0, _, _, _, _, _, _, _ => none
  | k + 1, x0, x6, x11, x94, x95, x98, x99 => if x99 < x98 then (chron_most.l5 k x0 x6 x11 x99 x94 x95 x98 x99 x0 0) else (chron_most.l6 k x0 x6 x94 x95 x0 0)
def chron_most.l5 : Nat → Int → List (List Int) → Int → Int → Int → Int → Int → Int → Int → Int → Option ((List (List Int)) × Bool)
  | 0, _, _, _, _, _, _, _, _, _, _ => none
  | k + 1, x0, x6, x11, x12, x94, x95, x98, x99, x102, x103 => if x103 < x102 then (if 0 ≤ x12 then (if x12 < (x6.length : Int) then (if 0 ≤ x11 then (if x11 < ((rd_L2 x6 x12).length : Int) then (if (rd (rd_L2 x6 x12) x11) < 1000000000 then (if x11 < (x6.length : Int) then (if 0 ≤ x103 then (if x103 < ((rd_L2 x6 x11).length : Int) then (if (rd (rd_L2 x6 x11) x103) < 1000000000 then (if x103 < ((rd_L2 x6 x12).length : Int) then (chron_most.l5 k x0 (x6.set (x12 : Int).toNat ((rd_L2 x6 x12).set (x103 : Int).toNat (mn (rd (rd_L2 x6 x12) x103) (wrap64 ((rd (rd_L2 x6 x12) x11) + (rd (rd_L2 x6 x11) x103)))))) x11 x12 x94 x95 x98 x99 x102 (wrap64 (x103 + 1))) else (none)) else (chron_most.l5 k x0 x6 x11 x12 x94 x95 x98 x99 x102 (wrap64 (x103 + 1)))) else (none)) else (none)) else (none)) else (chron_most.l5 k x0 x6 x11 x12 x94 x95 x98 x99 x102 (wrap64 (x103 + 1)))) else (none)) else (none)) else (none)) else (none)) else (chron_most.l4 k x0 x6 x11 x94 x95 x98 (wrap64 (x99 + 1)))
def chron_most.l6 : Nat → Int → List (List Int) → Int → Int → Int → Int → Option ((List (List Int)) × Bool)
  | 0, _, _, _, _, _, _ => none
  | k + 1, x0, x6, x94, x95, x155, x156 => if x156 < x155 then (if 0 ≤ x156 then (if x156 < (x6.length : Int) then (if x156 < ((rd_L2 x6 x156).length : Int) then (if (rd (rd_L2 x6 x156) x156) < 0 then (some (([] : List (List Int)), false)) else (chron_most.l6 k x0 x6 x94 x95 x155 (wrap64 (x156 + 1)))) else (none)) else (none)) else (none)) else (chron_most.l3 k x0 x6 x94 (wrap64 (x95 + 1)))
end
def chron_most.f (k : Nat) (a0 : Int) (l1 : List (S44)) : Option ((List (List Int)) × Bool) := if 0 ≤ a0 then (if (a0 : Int).toNat ≤ 11728124029610 then ((some (List.replicate (a0 : Int).toNat [] : List (List Int))).bind fun y103 => (chron_most.l0 k a0 l1 y103 (y103.length : Int) 0)) else (none)) else (none)
theorem chron_most.mono_l : ∀ k, (∀ y0 y1 y2 y3 y4, LeO (chron_most.l0 k y0 y1 y2 y3 y4) (chron_most.l0 (k + 1) y0 y1 y2 y3 y4)) ∧ (∀ y0 y1 y2 y3 y4 y5 y6 y7, LeO (chron_most.l1 k y0 y1 y2 y3 y4 y5 y6 y7) (chron_most.l1 (k + 1) y0 y1 y2 y3 y4 y5 y6 y7)) ∧ (∀ y0 y1 y2 y3 y4, LeO (chron_most.l2 k y0 y1 y2 y3 y4) (chron_most.l2 (k + 1) y0 y1 y2 y3 y4)) ∧ (∀ y0 y1 y2 y3, LeO (chron_most.l3 k y0 y1 y2 y3) (chron_most.l3 (k + 1) y0 y1 y2 y3)) ∧ (∀ y0 y1 y2 y3 y4 y5 y6, LeO (chron_most.l4 k y0 y1 y2 y3 y4 y5 y6) (chron_most.l4 (k + 1) y0 y1 y2 y3 y4 y5 y6)) ∧ (∀ y0 y1 y2 y3 y4 y5 y6 y7 y8 y9, LeO (chron_most.l5 k y0 y1 y2 y3 y4 y5 y6 y7 y8 y9) (chron_most.l5 (k + 1) y0 y1 y2 y3 y4 y5 y6 y7 y8 y9)) ∧ (∀ y0 y1 y2 y3 y4 y5, LeO (chron_most.l6 k y0 y1 y2 y3 y4 y5) (chron_most.l6 (k + 1) y0 y1 y2 y3 y4 y5))
  | 0 => ⟨fun _ _ _ _ _ r h => by simp [chron_most.l0] at h, fun _ _ _ _ _ _ _ _ r h => by simp [chron_most.l1] at h, fun _ _ _ _ _ r h => by simp [chron_most.l2] at h, fun _ _ _ _ r h => by simp [chron_most.l3] at h, fun _ _ _ _ _ _ _ r h => by simp [chron_most.l4] at h, fun _ _ _ _ _ _ _ _ _ _ r h => by simp [chron_most.l5] at h, fun _ _ _ _ _ _ r h => by simp [chron_most.l6] at h⟩
  | k + 1 => by
    obtain ⟨ih0, ih1, ih2, ih3, ih4, ih5, ih6⟩ := chron_most.mono_l k
    refine ⟨?_, ?_, ?_, ?_, ?_, ?_, ?_⟩
    · intro y0 y1 y2 y3 y4
      unfold chron_most.l0
      repeat' first
      | (with_reducible exact ih0 _ _ _ _ _)
      | (with_reducible exact ih1 _ _ _ _ _ _ _ _)
      | (with_reducible exact ih2 _ _ _ _ _)
      | (with_reducible exact ih3 _ _ _ _)
      | (with_reducible exact ih4 _ _ _ _ _ _ _)
      | (with_reducible exact ih5 _ _ _ _ _ _ _ _ _ _)
      | (with_reducible exact ih6 _ _ _ _ _ _)
      | (with_reducible exact LeO.refl _)
      | (with_reducible exact LeO.none _)
      | (with_reducible refine LeO.ite ?_ ?_)
      | (with_reducible refine LeO.bind ?_ (fun _ => ?_))
      | exact ih0 _ _ _ _ _
      | exact ih1 _ _ _ _ _ _ _ _
      | exact ih2 _ _ _ _ _
      | exact ih3 _ _ _ _
      | exact ih4 _ _ _ _ _ _ _
      | exact ih5 _ _ _ _ _ _ _ _ _ _
      | exact ih6 _ _ _ _ _ _
      | exact LeO.none _
      | refine LeO.ite ?_ ?_
      | refine LeO.bind ?_ (fun _ => ?_)
    · intro y0 y1 y2 y3 y4 y5 y6 y7
      unfold chron_most.l1
      repeat' first
      | (with_reducible exact ih0 _ _ _ _ _)
      | (with_reducible exact ih1 _ _ _ _ _ _ _ _)
      | (with_reducible exact ih2 _ _ _ _ _)
      | (with_reducible exact ih3 _ _ _ _)
      | (with_reducible exact ih4 _ _ _ _ _ _ _)
      | (with_reducible exact ih5 _ _ _ _ _ _ _ _ _ _)
      | (with_reducible exact ih6 _ _ _ _ _ _)
      | (with_reducible exact LeO.refl _)
      | (with_reducible exact LeO.none _)
      | (with_reducible refine LeO.ite ?_ ?_)
      | (with_reducible refine LeO.bind ?_ (fun _ => ?_))
      | exact ih0 _ _ _ _ _
      | exact ih1 _ _ _ _ _ _ _ _
      | exact ih2 _ _ _ _ _
      | exact ih3 _ _ _ _
      | exact ih4 _ _ _ _ _ _ _
      | exact ih5 _ _ _ _ _ _ _ _ _ _
      | exact ih6 _ _ _ _ _ _
      | exact LeO.none _
      | refine LeO.ite ?_ ?_
      | refine LeO.bind ?_ (fun _ => ?_)
    · intro y0 y1 y2 y3 y4
      unfold chron_most.l2
      repeat' first
      | (with_reducible exact ih0 _ _ _ _ _)
      | (with_reducible exact ih1 _ _ _ _ _ _ _ _)
      | (with_reducible exact ih2 _ _ _ _ _)
      | (with_reducible exact ih3 _ _ _ _)
      | (with_reducible exact ih4 _ _ _ _ _ _ _)
      | (with_reducible exact ih5 _ _ _ _ _ _ _ _ _ _)
      | (with_reducible exact ih6 _ _ _ _ _ _)
      | (with_reducible exact LeO.refl _)
      | (with_reducible exact LeO.none _)
      | (with_reducible refine LeO.ite ?_ ?_)
      | (with_reducible refine LeO.bind ?_ (fun _ => ?_))
      | exact ih0 _ _ _ _ _
      | exact ih1 _ _ _ _ _ _ _ _
      | exact ih2 _ _ _ _ _
      | exact ih3 _ _ _ _
      | exact ih4 _ _ _ _ _ _ _
      | exact ih5 _ _ _ _ _ _ _ _ _ _
      | exact ih6 _ _ _ _ _ _
      | exact LeO.none _
      | refine LeO.ite ?_ ?_
      | refine LeO.bind ?_ (fun _ => ?_)
    · intro y0 y1 y2 y3
      unfold chron_most.l3
      repeat' first
      | (with_reducible exact ih0 _ _ _ _ _)
      | (with_reducible exact ih1 _ _ _ _ _ _ _ _)
      | (with_reducible exact ih2 _ _ _ _ _)
      | (with_reducible exact ih3 _ _ _ _)
      | (with_reducible exact ih4 _ _ _ _ _ _ _)
      | (with_reducible exact ih5 _ _ _ _ _ _ _ _ _ _)
      | (with_reducible exact ih6 _ _ _ _ _ _)
      | (with_reducible exact LeO.refl _)
      | (with_reducible exact LeO.none _)
      | (with_reducible refine LeO.ite ?_ ?_)
      | (with_reducible refine LeO.bind ?_ (fun _ => ?_))
      | exact ih0 _ _ _ _ _
      | exact ih1 _ _ _ _ _ _ _ _
      | exact ih2 _ _ _ _ _
      | exact ih3 _ _ _ _
      | exact ih4 _ _ _ _ _ _ _
      | exact ih5 _ _ _ _ _ _ _ _ _ _
      | exact ih6 _ _ _ _ _ _
      | exact LeO.none _
      | refine LeO.ite ?_ ?_
      | refine LeO.bind ?_ (fun _ => ?_)
    · intro y0 y1 y2 y3 y4 y5 y6
      unfold chron_most.l4
      repeat' first
      | (with_reducible exact ih0 _ _ _ _ _)
      | (with_reducible exact ih1 _ _ _ _ _ _ _ _)
      | (with_reducible exact ih2 _ _ _ _ _)
      | (with_reducible exact ih3 _ _ _ _)
      | (with_reducible exact ih4 _ _ _ _ _ _ _)
      | (with_reducible exact ih5 _ _ _ _ _ _ _ _ _ _)
      | (with_reducible exact ih6 _ _ _ _ _ _)
      | (with_reducible exact LeO.refl _)
      | (with_reducible exact LeO.none _)
      | (with_reducible refine LeO.ite ?_ ?_)
      | (with_reducible refine LeO.bind ?_ (fun _ => ?_))
      | exact ih0 _ _ _ _ _
      | exact ih1 _ _ _ _ _ _ _ _
      | exact ih2 _ _ _ _ _
      | exact ih3 _ _ _ _
      | exact ih4 _ _ _ _ _ _ _
      | exact ih5 _ _ _ _ _ _ _ _ _ _
      | exact ih6 _ _ _ _ _ _
      | exact LeO.none _
      | refine LeO.ite ?_ ?_
      | refine LeO.bind ?_ (fun _ => ?_)
    · intro y0 y1 y2 y3 y4 y5 y6 y7 y8 y9
      unfold chron_most.l5
      repeat' first
      | (with_reducible exact ih0 _ _ _ _ _)
      | (with_reducible exact ih1 _ _ _ _ _ _ _ _)
      | (with_reducible exact ih2 _ _ _ _ _)
      | (with_reducible exact ih3 _ _ _ _)
      | (with_reducible exact ih4 _ _ _ _ _ _ _)
      | (with_reducible exact ih5 _ _ _ _ _ _ _ _ _ _)
      | (with_reducible exact ih6 _ _ _ _ _ _)
      | (with_reducible exact LeO.refl _)
      | (with_reducible exact LeO.none _)
      | (with_reducible refine LeO.ite ?_ ?_)
      | (with_reducible refine LeO.bind ?_ (fun _ => ?_))
      | exact ih0 _ _ _ _ _
      | exact ih1 _ _ _ _ _ _ _ _
      | exact ih2 _ _ _ _ _
      | exact ih3 _ _ _ _
      | exact ih4 _ _ _ _ _ _ _
      | exact ih5 _ _ _ _ _ _ _ _ _ _
      | exact ih6 _ _ _ _ _ _
      | exact LeO.none _
      | refine LeO.ite ?_ ?_
      | refine LeO.bind ?_ (fun _ => ?_)
    · intro y0 y1 y2 y3 y4 y5
      unfold chron_most.l6
      repeat' first
      | (with_reducible exact ih0 _ _ _ _ _)
      | (with_reducible exact ih1 _ _ _ _ _ _ _ _)
      | (with_reducible exact ih2 _ _ _ _ _)
      | (with_reducible exact ih3 _ _ _ _)
      | (with_reducible exact ih4 _ _ _ _ _ _ _)
      | (with_reducible exact ih5 _ _ _ _ _ _ _ _ _ _)
      | (with_reducible exact ih6 _ _ _ _ _ _)
      | (with_reducible exact LeO.refl _)
      | (with_reducible exact LeO.none _)
      | (with_reducible refine LeO.ite ?_ ?_)
      | (with_reducible refine LeO.bind ?_ (fun _ => ?_))
      | exact ih0 _ _ _ _ _
      | exact ih1 _ _ _ _ _ _ _ _
      | exact ih2 _ _ _ _ _
      | exact ih3 _ _ _ _
      | exact ih4 _ _ _ _ _ _ _
      | exact ih5 _ _ _ _ _ _ _ _ _ _
      | exact ih6 _ _ _ _ _ _
      | exact LeO.none _
      | refine LeO.ite ?_ ?_
      | refine LeO.bind ?_ (fun _ => ?_)
theorem chron_most.mono : ∀ a0 a1 k, LeO (chron_most.f k a0 a1) (chron_most.f (k + 1) a0 a1) := by
  intro a0 a1 k
  obtain ⟨ih0, ih1, ih2, ih3, ih4, ih5, ih6⟩ := chron_most.mono_l k
  unfold chron_most.f
  repeat' first
      | (with_reducible exact ih0 _ _ _ _ _)
      | (with_reducible exact ih1 _ _ _ _ _ _ _ _)
      | (with_reducible exact ih2 _ _ _ _ _)
      | (with_reducible exact ih3 _ _ _ _)
      | (with_reducible exact ih4 _ _ _ _ _ _ _)
      | (with_reducible exact ih5 _ _ _ _ _ _ _ _ _ _)
      | (with_reducible exact ih6 _ _ _ _ _ _)
      | (with_reducible exact LeO.refl _)
      | (with_reducible exact LeO.none _)
      | (with_reducible refine LeO.ite ?_ ?_)
      | (with_reducible refine LeO.bind ?_ (fun _ => ?_))
      | exact ih0 _ _ _ _ _
      | exact ih1 _ _ _ _ _ _ _ _
      | exact ih2 _ _ _ _ _
      | exact ih3 _ _ _ _
      | exact ih4 _ _ _ _ _ _ _
      | exact ih5 _ _ _ _ _ _ _ _ _ _
      | exact ih6 _ _ _ _ _ _
      | exact LeO.none _
      | refine LeO.ite ?_ ?_
      | refine LeO.bind ?_ (fun _ => ?_)

/-! ### the Lean function chron_Tightest: function 14 -/
mutual
def chron_Tightest.l0 : Nat → Int → List (List Int) → List (List (S34)) → Int → Int → Option ((List (List (S34))) × Int)
  | 0, _, _, _, _, _ => none
  | k + 1, x0, x7, x9, x29, x30 => if x30 < x29 then (chron_Tightest.l1 k x0 x7 x9 x30 x29 x30 x0 0) else (some (x9, 0))
def chron_Tightest.l1 : Nat → Int → List (List Int) → List (List (S34)) → Int → Int → Int → Int → Int → Option ((List (List (S34))) × Int)
  | 0, _, _, _, _, _, _, _, _ => none
  | k + 1, x0, x7, x9, x10, x29, x30, x33, x34 => if x34 < x33 then (if 0 ≤ x10 then (if x10 < (x9.length : Int) then (if 0 ≤ x34 then (if x34 < (x7.length : Int) then (if x10 < ((rd_L2 x7 x34).length : Int) then (if x10 < (x7.length : Int) then (if x34 < ((rd_L2 x7 x10).length : Int) then (if (rd_L4 x9 x10).length < 8796093022208 then (chron_Tightest.l1 k x0 x7 (x9.set (x10 : Int).toNat ((rd_L4 x9 x10) ++ [(⟨wrap64 (-(rd (rd_L2 x7 x34) x10)), rd (rd_L2 x7 x10) x34⟩ : S34)])) x10 x29 x30 x33 (wrap64 (x34 + 1))) else (none)) else (none)) else (none)) else (none)) else (none)) else (none)) else (none)) else (none)) else (chron_Tightest.l0 k x0 x7 x9 x29 (wrap64 (x30 + 1)))
end
def chron_Tightest.f (k : Nat) (a0 : Int) (l1 : List (S44)) : Option ((List (List (S34))) × Int) := (chron_Check.f k a0 l1).bind fun t146 => (if t146 = 0 then ((chron_most.f k a0 l1).bind fun bt147 => (if bt147.2 = true then (if 0 ≤ a0 then (if (a0 : Int).toNat ≤ 11728124029610 then ((some (List.replicate (a0 : Int).toNat [] : List (List (S34)))).bind fun y151 => (chron_Tightest.l0 k a0 bt147.1 y151 (y151.length : Int) 0)) else (none)) else (none)) else (some (([] : List (List (S34))), 10)))) else (some (([] : List (List (S34))), t146)))
theorem chron_Tightest.mono_l : ∀ k, (∀ y0 y1 y2 y3 y4, LeO (chron_Tightest.l0 k y0 y1 y2 y3 y4) (chron_Tightest.l0 (k + 1) y0 y1 y2 y3 y4)) ∧ (∀ y0 y1 y2 y3 y4 y5 y6 y7, LeO (chron_Tightest.l1 k y0 y1 y2 y3 y4 y5 y6 y7) (chron_Tightest.l1 (k + 1) y0 y1 y2 y3 y4 y5 y6 y7))
  | 0 => ⟨fun _ _ _ _ _ r h => by simp [chron_Tightest.l0] at h, fun _ _ _ _ _ _ _ _ r h => by simp [chron_Tightest.l1] at h⟩
  | k + 1 => by
    obtain ⟨ih0, ih1⟩ := chron_Tightest.mono_l k
    refine ⟨?_, ?_⟩
    · intro y0 y1 y2 y3 y4
      unfold chron_Tightest.l0
      repeat' first
      | (with_reducible exact ih0 _ _ _ _ _)
      | (with_reducible exact ih1 _ _ _ _ _ _ _ _)
      | (with_reducible exact chron_Check.mono _ _ _)
      | (with_reducible exact chron_most.mono _ _ _)
      | (with_reducible exact LeO.refl _)
      | (with_reducible exact LeO.none _)
      | (with_reducible refine LeO.ite ?_ ?_)
      | (with_reducible refine LeO.bind ?_ (fun _ => ?_))
      | exact ih0 _ _ _ _ _
      | exact ih1 _ _ _ _ _ _ _ _
      | exact chron_Check.mono _ _ _
      | exact chron_most.mono _ _ _
      | exact LeO.none _
      | refine LeO.ite ?_ ?_
      | refine LeO.bind ?_ (fun _ => ?_)
    · intro y0 y1 y2 y3 y4 y5 y6 y7
      unfold chron_Tightest.l1
      repeat' first
      | (with_reducible exact ih0 _ _ _ _ _)
      | (with_reducible exact ih1 _ _ _ _ _ _ _ _)
      | (with_reducible exact chron_Check.mono _ _ _)
      | (with_reducible exact chron_most.mono _ _ _)
      | (with_reducible exact LeO.refl _)
      | (with_reducible exact LeO.none _)
      | (with_reducible refine LeO.ite ?_ ?_)
      | (with_reducible refine LeO.bind ?_ (fun _ => ?_))
      | exact ih0 _ _ _ _ _
      | exact ih1 _ _ _ _ _ _ _ _
      | exact chron_Check.mono _ _ _
      | exact chron_most.mono _ _ _
      | exact LeO.none _
      | refine LeO.ite ?_ ?_
      | refine LeO.bind ?_ (fun _ => ?_)
theorem chron_Tightest.mono : ∀ a0 a1 k, LeO (chron_Tightest.f k a0 a1) (chron_Tightest.f (k + 1) a0 a1) := by
  intro a0 a1 k
  obtain ⟨ih0, ih1⟩ := chron_Tightest.mono_l k
  unfold chron_Tightest.f
  repeat' first
      | (with_reducible exact ih0 _ _ _ _ _)
      | (with_reducible exact ih1 _ _ _ _ _ _ _ _)
      | (with_reducible exact chron_Check.mono _ _ _)
      | (with_reducible exact chron_most.mono _ _ _)
      | (with_reducible exact LeO.refl _)
      | (with_reducible exact LeO.none _)
      | (with_reducible refine LeO.ite ?_ ?_)
      | (with_reducible refine LeO.bind ?_ (fun _ => ?_))
      | exact ih0 _ _ _ _ _
      | exact ih1 _ _ _ _ _ _ _ _
      | exact chron_Check.mono _ _ _
      | exact chron_most.mono _ _ _
      | exact LeO.none _
      | refine LeO.ite ?_ ?_
      | refine LeO.bind ?_ (fun _ => ?_)

/-! ### the Lean function chron_Early: function 18 -/
mutual
def chron_Early.j0 : Nat → Int → Int → List (List (S34)) → Bool → Option (List Int × Int)
  | 0, _, _, _, _ => none
  | k + 1, x2, x3, x10, x38 => if x38 = true then (some (([] : List Int), 3)) else (if 0 ≤ x2 then (if x2 < (x10.length : Int) then (chron_Early.l0 k x3 ([] : List Int) (rd_L4 x10 x2) ((rd_L4 x10 x2).length : Int) 0) else (none)) else (none))
def chron_Early.l0 : Nat → Int → List Int → List (S34) → Int → Int → Option (List Int × Int)
  | 0, _, _, _, _, _ => none
  | k + 1, x3, x12, x42, x43, x44 => if x44 < x43 then (if 0 ≤ x44 then (if x44 < (x42.length : Int) then (if ((rd_T34 x42 x44).f0) = (-1000000000) then (some (([] : List Int), 6)) else (if x12.length < 17592186044416 then (chron_Early.l0 k x3 (x12 ++ [wrap64 (x3 + ((rd_T34 x42 x44).f0))]) x42 x43 (wrap64 (x44 + 1))) else (none))) else (none)) else (none)) else (some (x12, 0))
end
def chron_Early.f (k : Nat) (a0 : Int) (l1 : List (S44)) (a2 : Int) (a3 : Int) : Option (List Int × Int) := (chron_Tightest.f k a0 l1).bind fun bt163 => (if bt163.2 = 0 then (if a2 < 0 then (chron_Early.j0 k a2 a3 bt163.1 true) else (if a2 ≥ a0 then (chron_Early.j0 k a2 a3 bt163.1 true) else (if a3 < (-4000000) then (chron_Early.j0 k a2 a3 bt163.1 true) else (chron_Early.j0 k a2 a3 bt163.1 (decide (a3 > 4000000)))))) else (some (([] : List Int), bt163.2)))
theorem chron_Early.mono_l : ∀ k, (∀ y0 y1 y2 y3, LeO (chron_Early.j0 k y0 y1 y2 y3) (chron_Early.j0 (k + 1) y0 y1 y2 y3)) ∧ (∀ y0 y1 y2 y3 y4, LeO (chron_Early.l0 k y0 y1 y2 y3 y4) (chron_Early.l0 (k + 1) y0 y1 y2 y3 y4))
  | 0 => ⟨fun _ _ _ _ r h => by simp [chron_Early.j0] at h, fun _ _ _ _ _ r h => by simp [chron_Early.l0] at h⟩
  | k + 1 => by
    obtain ⟨ih0, ih1⟩ := chron_Early.mono_l k
    refine ⟨?_, ?_⟩
    · intro y0 y1 y2 y3
      unfold chron_Early.j0
      repeat' first
      | (with_reducible exact ih0 _ _ _ _)
      | (with_reducible exact ih1 _ _ _ _ _)
      | (with_reducible exact chron_Tightest.mono _ _ _)
      | (with_reducible exact LeO.refl _)
      | (with_reducible exact LeO.none _)
      | (with_reducible refine LeO.ite ?_ ?_)
      | (with_reducible refine LeO.bind ?_ (fun _ => ?_))
      | exact ih0 _ _ _ _
      | exact ih1 _ _ _ _ _
      | exact chron_Tightest.mono _ _ _
      | exact LeO.none _
      | refine LeO.ite ?_ ?_
      | refine LeO.bind ?_ (fun _ => ?_)
    · intro y0 y1 y2 y3 y4
      unfold chron_Early.l0
      repeat' first
      | (with_reducible exact ih0 _ _ _ _)
      | (with_reducible exact ih1 _ _ _ _ _)
      | (with_reducible exact chron_Tightest.mono _ _ _)
      | (with_reducible exact LeO.refl _)
      | (with_reducible exact LeO.none _)
      | (with_reducible refine LeO.ite ?_ ?_)
      | (with_reducible refine LeO.bind ?_ (fun _ => ?_))
      | exact ih0 _ _ _ _
      | exact ih1 _ _ _ _ _
      | exact chron_Tightest.mono _ _ _
      | exact LeO.none _
      | refine LeO.ite ?_ ?_
      | refine LeO.bind ?_ (fun _ => ?_)
theorem chron_Early.mono : ∀ a0 a1 a2 a3 k, LeO (chron_Early.f k a0 a1 a2 a3) (chron_Early.f (k + 1) a0 a1 a2 a3) := by
  intro a0 a1 a2 a3 k
  obtain ⟨ih0, ih1⟩ := chron_Early.mono_l k
  unfold chron_Early.f
  repeat' first
      | (with_reducible exact ih0 _ _ _ _)
      | (with_reducible exact ih1 _ _ _ _ _)
      | (with_reducible exact chron_Tightest.mono _ _ _)
      | (with_reducible exact LeO.refl _)
      | (with_reducible exact LeO.none _)
      | (with_reducible refine LeO.ite ?_ ?_)
      | (with_reducible refine LeO.bind ?_ (fun _ => ?_))
      | exact ih0 _ _ _ _
      | exact ih1 _ _ _ _ _
      | exact chron_Tightest.mono _ _ _
      | exact LeO.none _
      | refine LeO.ite ?_ ?_
      | refine LeO.bind ?_ (fun _ => ?_)

/-! ### the Lean function ephemeriskeep2_three: function 27 -/
def ephemeriskeep2_three.f  : Option ((List (S44))) := some (([(⟨0, 1, 10, 20⟩ : S44), (⟨1, 2, 5, 5⟩ : S44)] : List (S44)))

/-! ### the Lean function ephemeriskeep2_chronWorks: function 12 -/
def ephemeriskeep2_chronWorks.f (k : Nat)  : Option (Bool) := (ephemeriskeep2_three.f).bind fun t176 => ((chron_Tightest.f k 3 t176).bind fun bt179 => ((ephemeriskeep2_three.f).bind fun t183 => ((chron_Early.f k 3 t183 0 100).bind fun bt186 => (if bt179.2 = 0 then (if (bt179.1.length : Int) = 3 then (if 0 < (bt179.1.length : Int) then (if ((rd_L4 bt179.1 0).length : Int) = 3 then (if 2 < ((rd_L4 bt179.1 0).length : Int) then (if (((rd_T34 (rd_L4 bt179.1 0) 2).f0) == 15 && (((rd_T34 (rd_L4 bt179.1 0) 2).f1) == 25)) = true then (if bt186.2 = 0 then (if (bt186.1.length : Int) = 3 then (if 2 < (bt186.1.length : Int) then (some ((rd bt186.1 2) == 115)) else (none)) else (none)) else (none)) else (none)) else (none)) else (none)) else (none)) else (none)) else (none)))))
theorem ephemeriskeep2_chronWorks.mono : ∀ k, LeO (ephemeriskeep2_chronWorks.f k ) (ephemeriskeep2_chronWorks.f (k + 1) ) := by
  intro  k
  unfold ephemeriskeep2_chronWorks.f
  repeat' first
      | (with_reducible exact chron_Early.mono _ _ _ _ _)
      | (with_reducible exact chron_Tightest.mono _ _ _)
      | (with_reducible exact LeO.refl _)
      | (with_reducible exact LeO.none _)
      | (with_reducible refine LeO.ite ?_ ?_)
      | (with_reducible refine LeO.bind ?_ (fun _ => ?_))
      | exact chron_Early.mono _ _ _ _ _
      | exact chron_Tightest.mono _ _ _
      | exact LeO.none _
      | refine LeO.ite ?_ ?_
      | refine LeO.bind ?_ (fun _ => ?_)

/-! ### the Lean function ephemeriskeep2_at: function 17 -/
def ephemeriskeep2_at.f (a0 : Int) (a1 : Int) : Option (Int) := if a1 = 0 then (none) else (some (Int.tmod (wrap64 ((Int.tmod a0 a1) + a1)) a1))

/-! ### the Lean function ephemeriskeep2_events: function 13 -/
mutual
def ephemeriskeep2_events.l0 : Nat → List Int → Int → List (S44) → List (S44) → Int → Int → Option (Int × (List (S44)))
  | 0, _, _, _, _, _, _ => none
  | k + 1, x0, x6, x7, x16, x17, x18 => if x18 < x17 then (if 0 ≤ x18 then (if x18 < (x16.length : Int) then (if x18 = 20 then (ephemeriskeep2_events.j1 k x0 x6 x7 x16 x17 x18 true ((rd_T44 x16 x18).f0) ((rd_T44 x16 x18).f1) ((rd_T44 x16 x18).f2) ((rd_T44 x16 x18).f3)) else (ephemeriskeep2_events.j1 k x0 x6 x7 x16 x17 x18 (decide (x6 < 2)) ((rd_T44 x16 x18).f0) ((rd_T44 x16 x18).f1) ((rd_T44 x16 x18).f2) ((rd_T44 x16 x18).f3))) else (none)) else (none)) else (some (x6, x7))
def ephemeriskeep2_events.j1 : Nat → List Int → Int → List (S44) → List (S44) → Int → Int → Bool → Int → Int → Int → Int → Option (Int × (List (S44)))
  | 0, _, _, _, _, _, _, _, _, _, _, _ => none
  | k + 1, x0, x6, x7, x16, x17, x18, x28, x196000, x196001, x196002, x196003 => if x28 = true then (some (x6, x7)) else ((ephemeriskeep2_at.f x196000 x6).bind fun t196 => ((ephemeriskeep2_at.f x196001 (wrap64 (x6 - 1))).bind fun t197 => (if x6 = 0 then (none) else (if 0 ≤ (Int.tmod (wrap64 ((wrap64 (t196 + 1)) + t197)) x6) then (if (Int.tmod (wrap64 ((wrap64 (t196 + 1)) + t197)) x6) < (x0.length : Int) then (if 0 ≤ t196 then (if t196 < (x0.length : Int) then ((ephemeriskeep2_at.f x196002 50).bind fun t200 => ((ephemeriskeep2_at.f x196003 50).bind fun t201 => (if x7.length < 4398046511104 then (ephemeriskeep2_events.l0 k x0 x6 (x7 ++ [(⟨t196, Int.tmod (wrap64 ((wrap64 (t196 + 1)) + t197)) x6, wrap64 ((wrap64 ((Int.tmod (rd x0 (Int.tmod (wrap64 ((wrap64 (t196 + 1)) + t197)) x6)) 10000) - (Int.tmod (rd x0 t196) 10000))) - t200), wrap64 ((wrap64 ((Int.tmod (rd x0 (Int.tmod (wrap64 ((wrap64 (t196 + 1)) + t197)) x6)) 10000) - (Int.tmod (rd x0 t196) 10000))) + t201)⟩ : S44)]) x16 x17 (wrap64 (x18 + 1))) else (none)))) else (none)) else (none)) else (none)) else (none)))))
end
def ephemeriskeep2_events.f (k : Nat) (l0 : List Int) (l1 : List (S44)) : Option (Int × (List (S44))) := ephemeriskeep2_events.l0 k l0 (mn (l0.length : Int) 8) ([] : List (S44)) l1 (l1.length : Int) 0
theorem ephemeriskeep2_events.mono_l : ∀ k, (∀ y0 y1 y2 y3 y4 y5, LeO (ephemeriskeep2_events.l0 k y0 y1 y2 y3 y4 y5) (ephemeriskeep2_events.l0 (k + 1) y0 y1 y2 y3 y4 y5)) ∧ (∀ y0 y1 y2 y3 y4 y5 y6 y7 y8 y9 y10, LeO (ephemeriskeep2_events.j1 k y0 y1 y2 y3 y4 y5 y6 y7 y8 y9 y10) (ephemeriskeep2_events.j1 (k + 1) y0 y1 y2 y3 y4 y5 y6 y7 y8 y9 y10))
  | 0 => ⟨fun _ _ _ _ _ _ r h => by simp [ephemeriskeep2_events.l0] at h, fun _ _ _ _ _ _ _ _ _ _ _ r h => by simp [ephemeriskeep2_events.j1] at h⟩
  | k + 1 => by
    obtain ⟨ih0, ih1⟩ := ephemeriskeep2_events.mono_l k
    refine ⟨?_, ?_⟩
    · intro y0 y1 y2 y3 y4 y5
      unfold ephemeriskeep2_events.l0
      repeat' first
      | (with_reducible exact ih0 _ _ _ _ _ _)
      | (with_reducible exact ih1 _ _ _ _ _ _ _ _ _ _ _)
      | (with_reducible exact LeO.refl _)
      | (with_reducible exact LeO.none _)
      | (with_reducible refine LeO.ite ?_ ?_)
      | (with_reducible refine LeO.bind ?_ (fun _ => ?_))
      | exact ih0 _ _ _ _ _ _
      | exact ih1 _ _ _ _ _ _ _ _ _ _ _
      | exact LeO.none _
      | refine LeO.ite ?_ ?_
      | refine LeO.bind ?_ (fun _ => ?_)
    · intro y0 y1 y2 y3 y4 y5 y6 y7 y8 y9 y10
      unfold ephemeriskeep2_events.j1
      repeat' first
      | (with_reducible exact ih0 _ _ _ _ _ _)
      | (with_reducible exact ih1 _ _ _ _ _ _ _ _ _ _ _)
      | (with_reducible exact LeO.refl _)
      | (with_reducible exact LeO.none _)
      | (with_reducible refine LeO.ite ?_ ?_)
      | (with_reducible refine LeO.bind ?_ (fun _ => ?_))
      | exact ih0 _ _ _ _ _ _
      | exact ih1 _ _ _ _ _ _ _ _ _ _ _
      | exact LeO.none _
      | refine LeO.ite ?_ ?_
      | refine LeO.bind ?_ (fun _ => ?_)
theorem ephemeriskeep2_events.mono : ∀ a0 a1 k, LeO (ephemeriskeep2_events.f k a0 a1) (ephemeriskeep2_events.f (k + 1) a0 a1) := by
  intro a0 a1 k
  obtain ⟨ih0, ih1⟩ := ephemeriskeep2_events.mono_l k
  unfold ephemeriskeep2_events.f
  repeat' first
      | (with_reducible exact ih0 _ _ _ _ _ _)
      | (with_reducible exact ih1 _ _ _ _ _ _ _ _ _ _ _)
      | (with_reducible exact LeO.refl _)
      | (with_reducible exact LeO.none _)
      | (with_reducible refine LeO.ite ?_ ?_)
      | (with_reducible refine LeO.bind ?_ (fun _ => ?_))
      | exact ih0 _ _ _ _ _ _
      | exact ih1 _ _ _ _ _ _ _ _ _ _ _
      | exact LeO.none _
      | refine LeO.ite ?_ ?_
      | refine LeO.bind ?_ (fun _ => ?_)

/-! ### the Lean function ephemeriskeep2_holds: function 15 -/
def ephemeriskeep2_holds.f (a0_0 : Int) (a0_1 : Int) (a1_0 : Int) (a1_1 : Int) : Option (Bool) := if a0_0 ≤ a1_0 then (some (decide (a1_1 ≤ a0_1))) else (some false)

/-! ### the Lean function ephemeriskeep2_ChronNarrows: function 3 -/
mutual
def ephemeriskeep2_ChronNarrows.j0 : Nat → Int → List (List (S34)) → List (List (S34)) → Bool → Option (Bool)
  | 0, _, _, _, _ => none
  | k + 1, x5, x6, x8, x56 => if x56 = true then (none) else (ephemeriskeep2_ChronNarrows.l0 k x5 x6 x8 x5 0)
def ephemeriskeep2_ChronNarrows.l0 : Nat → Int → List (List (S34)) → List (List (S34)) → Int → Int → Option (Bool)
  | 0, _, _, _, _, _ => none
  | k + 1, x5, x6, x8, x57, x58 => if x58 < x57 then (ephemeriskeep2_ChronNarrows.l1 k x5 x6 x8 x58 x57 x58 x5 0) else (some true)
def ephemeriskeep2_ChronNarrows.l1 : Nat → Int → List (List (S34)) → List (List (S34)) → Int → Int → Int → Int → Int → Option (Bool)
  | 0, _, _, _, _, _, _, _, _ => none
  | k + 1, x5, x6, x8, x10, x57, x58, x61, x62 => if x62 < x61 then (if 0 ≤ x10 then (if x10 < (x6.length : Int) then (if ((rd_L4 x6 x10).length : Int) = x5 then (if x10 < (x8.length : Int) then (if ((rd_L4 x8 x10).length : Int) = x5 then (if 0 ≤ x62 then (if x62 < ((rd_L4 x6 x10).length : Int) then (if x62 < ((rd_L4 x8 x10).length : Int) then ((ephemeriskeep2_holds.f ((rd_T34 (rd_L4 x6 x10) x62).f0) ((rd_T34 (rd_L4 x6 x10) x62).f1) ((rd_T34 (rd_L4 x8 x10) x62).f0) ((rd_T34 (rd_L4 x8 x10) x62).f1)).bind fun t230 => (if t230 = true then (ephemeriskeep2_ChronNarrows.l1 k x5 x6 x8 x10 x57 x58 x61 (wrap64 (x62 + 1))) else (none))) else (none)) else (none)) else (none)) else (none)) else (none)) else (none)) else (none)) else (none)) else (ephemeriskeep2_ChronNarrows.l0 k x5 x6 x8 x57 (wrap64 (x58 + 1)))
end
def ephemeriskeep2_ChronNarrows.f (k : Nat) (l0 : List Int) (l1 : List (S44)) : Option (Bool) := (ephemeriskeep2_chronWorks.f k).bind fun t207 => (if t207 = true then ((ephemeriskeep2_events.f k l0 l1).bind fun bt208 => (if (bt208.2.length : Int) = 0 then (some true) else (if 0 ≤ (wrap64 ((bt208.2.length : Int) - 1)) then (if (wrap64 ((bt208.2.length : Int) - 1)) ≤ (bt208.2.length : Int) then ((chron_Tightest.f k bt208.1 (bt208.2.take ((wrap64 ((bt208.2.length : Int) - 1)) : Int).toNat)).bind fun bt216 => ((chron_Tightest.f k bt208.1 bt208.2).bind fun bt220 => (if bt216.2 = 0 then (if bt220.2 = 0 then (if (bt216.1.length : Int) = bt208.1 then (ephemeriskeep2_ChronNarrows.j0 k bt208.1 bt216.1 bt220.1 ((bt220.1.length : Int) != bt208.1)) else (ephemeriskeep2_ChronNarrows.j0 k bt208.1 bt216.1 bt220.1 true)) else (ephemeriskeep2_ChronNarrows.j0 k bt208.1 bt216.1 bt220.1 true)) else (ephemeriskeep2_ChronNarrows.j0 k bt208.1 bt216.1 bt220.1 true)))) else (none)) else (none)))) else (none))
theorem ephemeriskeep2_ChronNarrows.mono_l : ∀ k, (∀ y0 y1 y2 y3, LeO (ephemeriskeep2_ChronNarrows.j0 k y0 y1 y2 y3) (ephemeriskeep2_ChronNarrows.j0 (k + 1) y0 y1 y2 y3)) ∧ (∀ y0 y1 y2 y3 y4, LeO (ephemeriskeep2_ChronNarrows.l0 k y0 y1 y2 y3 y4) (ephemeriskeep2_ChronNarrows.l0 (k + 1) y0 y1 y2 y3 y4)) ∧ (∀ y0 y1 y2 y3 y4 y5 y6 y7, LeO (ephemeriskeep2_ChronNarrows.l1 k y0 y1 y2 y3 y4 y5 y6 y7) (ephemeriskeep2_ChronNarrows.l1 (k + 1) y0 y1 y2 y3 y4 y5 y6 y7))
  | 0 => ⟨fun _ _ _ _ r h => by simp [ephemeriskeep2_ChronNarrows.j0] at h, fun _ _ _ _ _ r h => by simp [ephemeriskeep2_ChronNarrows.l0] at h, fun _ _ _ _ _ _ _ _ r h => by simp [ephemeriskeep2_ChronNarrows.l1] at h⟩
  | k + 1 => by
    obtain ⟨ih0, ih1, ih2⟩ := ephemeriskeep2_ChronNarrows.mono_l k
    refine ⟨?_, ?_, ?_⟩
    · intro y0 y1 y2 y3
      unfold ephemeriskeep2_ChronNarrows.j0
      repeat' first
      | (with_reducible exact ih0 _ _ _ _)
      | (with_reducible exact ih1 _ _ _ _ _)
      | (with_reducible exact ih2 _ _ _ _ _ _ _ _)
      | (with_reducible exact chron_Tightest.mono _ _ _)
      | (with_reducible exact ephemeriskeep2_chronWorks.mono _)
      | (with_reducible exact ephemeriskeep2_events.mono _ _ _)
      | (with_reducible exact LeO.refl _)
      | (with_reducible exact LeO.none _)
      | (with_reducible refine LeO.ite ?_ ?_)
      | (with_reducible refine LeO.bind ?_ (fun _ => ?_))
      | exact ih0 _ _ _ _
      | exact ih1 _ _ _ _ _
      | exact ih2 _ _ _ _ _ _ _ _
      | exact chron_Tightest.mono _ _ _
      | exact ephemeriskeep2_chronWorks.mono _
      | exact ephemeriskeep2_events.mono _ _ _
      | exact LeO.none _
      | refine LeO.ite ?_ ?_
      | refine LeO.bind ?_ (fun _ => ?_)
    · intro y0 y1 y2 y3 y4
      unfold ephemeriskeep2_ChronNarrows.l0
      repeat' first
      | (with_reducible exact ih0 _ _ _ _)
      | (with_reducible exact ih1 _ _ _ _ _)
      | (with_reducible exact ih2 _ _ _ _ _ _ _ _)
      | (with_reducible exact chron_Tightest.mono _ _ _)
      | (with_reducible exact ephemeriskeep2_chronWorks.mono _)
      | (with_reducible exact ephemeriskeep2_events.mono _ _ _)
      | (with_reducible exact LeO.refl _)
      | (with_reducible exact LeO.none _)
      | (with_reducible refine LeO.ite ?_ ?_)
      | (with_reducible refine LeO.bind ?_ (fun _ => ?_))
      | exact ih0 _ _ _ _
      | exact ih1 _ _ _ _ _
      | exact ih2 _ _ _ _ _ _ _ _
      | exact chron_Tightest.mono _ _ _
      | exact ephemeriskeep2_chronWorks.mono _
      | exact ephemeriskeep2_events.mono _ _ _
      | exact LeO.none _
      | refine LeO.ite ?_ ?_
      | refine LeO.bind ?_ (fun _ => ?_)
    · intro y0 y1 y2 y3 y4 y5 y6 y7
      unfold ephemeriskeep2_ChronNarrows.l1
      repeat' first
      | (with_reducible exact ih0 _ _ _ _)
      | (with_reducible exact ih1 _ _ _ _ _)
      | (with_reducible exact ih2 _ _ _ _ _ _ _ _)
      | (with_reducible exact chron_Tightest.mono _ _ _)
      | (with_reducible exact ephemeriskeep2_chronWorks.mono _)
      | (with_reducible exact ephemeriskeep2_events.mono _ _ _)
      | (with_reducible exact LeO.refl _)
      | (with_reducible exact LeO.none _)
      | (with_reducible refine LeO.ite ?_ ?_)
      | (with_reducible refine LeO.bind ?_ (fun _ => ?_))
      | exact ih0 _ _ _ _
      | exact ih1 _ _ _ _ _
      | exact ih2 _ _ _ _ _ _ _ _
      | exact chron_Tightest.mono _ _ _
      | exact ephemeriskeep2_chronWorks.mono _
      | exact ephemeriskeep2_events.mono _ _ _
      | exact LeO.none _
      | refine LeO.ite ?_ ?_
      | refine LeO.bind ?_ (fun _ => ?_)
theorem ephemeriskeep2_ChronNarrows.mono : ∀ a0 a1 k, LeO (ephemeriskeep2_ChronNarrows.f k a0 a1) (ephemeriskeep2_ChronNarrows.f (k + 1) a0 a1) := by
  intro a0 a1 k
  obtain ⟨ih0, ih1, ih2⟩ := ephemeriskeep2_ChronNarrows.mono_l k
  unfold ephemeriskeep2_ChronNarrows.f
  repeat' first
      | (with_reducible exact ih0 _ _ _ _)
      | (with_reducible exact ih1 _ _ _ _ _)
      | (with_reducible exact ih2 _ _ _ _ _ _ _ _)
      | (with_reducible exact chron_Tightest.mono _ _ _)
      | (with_reducible exact ephemeriskeep2_chronWorks.mono _)
      | (with_reducible exact ephemeriskeep2_events.mono _ _ _)
      | (with_reducible exact LeO.refl _)
      | (with_reducible exact LeO.none _)
      | (with_reducible refine LeO.ite ?_ ?_)
      | (with_reducible refine LeO.bind ?_ (fun _ => ?_))
      | exact ih0 _ _ _ _
      | exact ih1 _ _ _ _ _
      | exact ih2 _ _ _ _ _ _ _ _
      | exact chron_Tightest.mono _ _ _
      | exact ephemeriskeep2_chronWorks.mono _
      | exact ephemeriskeep2_events.mono _ _ _
      | exact LeO.none _
      | refine LeO.ite ?_ ?_
      | refine LeO.bind ?_ (fun _ => ?_)

/-! ### the Lean function chron_Fits: function 16 -/
mutual
def chron_Fits.l0 : Nat → List (S44) → List Int → List Int → Int → Int → Option (Bool × Int)
  | 0, _, _, _, _, _ => none
  | k + 1, x1, x2, x24, x25, x26 => if x26 < x25 then (if 0 ≤ x26 then (if x26 < (x24.length : Int) then (if (rd x24 x26) < (-1000000000) then (some (false, 3)) else (if (rd x24 x26) > 1000000000 then (some (false, 3)) else (chron_Fits.l0 k x1 x2 x24 x25 (wrap64 (x26 + 1))))) else (none)) else (none)) else (chron_Fits.l1 k x2 x1 (x1.length : Int) 0)
def chron_Fits.l1 : Nat → List Int → List (S44) → Int → Int → Option (Bool × Int)
  | 0, _, _, _, _ => none
  | k + 1, x2, x37, x38, x39 => if x39 < x38 then (if 0 ≤ x39 then (if x39 < (x37.length : Int) then (if 0 ≤ ((rd_T44 x37 x39).f1) then (if ((rd_T44 x37 x39).f1) < (x2.length : Int) then (if 0 ≤ ((rd_T44 x37 x39).f0) then (if ((rd_T44 x37 x39).f0) < (x2.length : Int) then (if (wrap64 ((rd x2 ((rd_T44 x37 x39).f1)) - (rd x2 ((rd_T44 x37 x39).f0)))) < ((rd_T44 x37 x39).f2) then (some (false, 0)) else (if (wrap64 ((rd x2 ((rd_T44 x37 x39).f1)) - (rd x2 ((rd_T44 x37 x39).f0)))) > ((rd_T44 x37 x39).f3) then (some (false, 0)) else (chron_Fits.l1 k x2 x37 x38 (wrap64 (x39 + 1))))) else (none)) else (none)) else (none)) else (none)) else (none)) else (none)) else (some (true, 0))
end
def chron_Fits.f (k : Nat) (a0 : Int) (l1 : List (S44)) (l2 : List Int) : Option (Bool × Int) := (chron_Check.f k a0 l1).bind fun t231 => (if t231 = 0 then (if (l2.length : Int) = a0 then (chron_Fits.l0 k l1 l2 l2 (l2.length : Int) 0) else (some (false, 8))) else (some (false, t231)))
theorem chron_Fits.mono_l : ∀ k, (∀ y0 y1 y2 y3 y4, LeO (chron_Fits.l0 k y0 y1 y2 y3 y4) (chron_Fits.l0 (k + 1) y0 y1 y2 y3 y4)) ∧ (∀ y0 y1 y2 y3, LeO (chron_Fits.l1 k y0 y1 y2 y3) (chron_Fits.l1 (k + 1) y0 y1 y2 y3))
  | 0 => ⟨fun _ _ _ _ _ r h => by simp [chron_Fits.l0] at h, fun _ _ _ _ r h => by simp [chron_Fits.l1] at h⟩
  | k + 1 => by
    obtain ⟨ih0, ih1⟩ := chron_Fits.mono_l k
    refine ⟨?_, ?_⟩
    · intro y0 y1 y2 y3 y4
      unfold chron_Fits.l0
      repeat' first
      | (with_reducible exact ih0 _ _ _ _ _)
      | (with_reducible exact ih1 _ _ _ _)
      | (with_reducible exact chron_Check.mono _ _ _)
      | (with_reducible exact LeO.refl _)
      | (with_reducible exact LeO.none _)
      | (with_reducible refine LeO.ite ?_ ?_)
      | (with_reducible refine LeO.bind ?_ (fun _ => ?_))
      | exact ih0 _ _ _ _ _
      | exact ih1 _ _ _ _
      | exact chron_Check.mono _ _ _
      | exact LeO.none _
      | refine LeO.ite ?_ ?_
      | refine LeO.bind ?_ (fun _ => ?_)
    · intro y0 y1 y2 y3
      unfold chron_Fits.l1
      repeat' first
      | (with_reducible exact ih0 _ _ _ _ _)
      | (with_reducible exact ih1 _ _ _ _)
      | (with_reducible exact chron_Check.mono _ _ _)
      | (with_reducible exact LeO.refl _)
      | (with_reducible exact LeO.none _)
      | (with_reducible refine LeO.ite ?_ ?_)
      | (with_reducible refine LeO.bind ?_ (fun _ => ?_))
      | exact ih0 _ _ _ _ _
      | exact ih1 _ _ _ _
      | exact chron_Check.mono _ _ _
      | exact LeO.none _
      | refine LeO.ite ?_ ?_
      | refine LeO.bind ?_ (fun _ => ?_)
theorem chron_Fits.mono : ∀ a0 a1 a2 k, LeO (chron_Fits.f k a0 a1 a2) (chron_Fits.f (k + 1) a0 a1 a2) := by
  intro a0 a1 a2 k
  obtain ⟨ih0, ih1⟩ := chron_Fits.mono_l k
  unfold chron_Fits.f
  repeat' first
      | (with_reducible exact ih0 _ _ _ _ _)
      | (with_reducible exact ih1 _ _ _ _)
      | (with_reducible exact chron_Check.mono _ _ _)
      | (with_reducible exact LeO.refl _)
      | (with_reducible exact LeO.none _)
      | (with_reducible refine LeO.ite ?_ ?_)
      | (with_reducible refine LeO.bind ?_ (fun _ => ?_))
      | exact ih0 _ _ _ _ _
      | exact ih1 _ _ _ _
      | exact chron_Check.mono _ _ _
      | exact LeO.none _
      | refine LeO.ite ?_ ?_
      | refine LeO.bind ?_ (fun _ => ?_)

/-! ### the Lean function ephemeriskeep2_ChronContains: function 4 -/
mutual
def ephemeriskeep2_ChronContains.l0 : Nat → List (S44) → Int → List Int → List Int → Int → Int → Option (Bool)
  | 0, _, _, _, _, _, _ => none
  | k + 1, x1, x5, x6, x28, x29, x30 => if x30 < x29 then (if 0 ≤ x30 then (if x30 < (x28.length : Int) then (if x6.length < 17592186044416 then (ephemeriskeep2_ChronContains.l0 k x1 x5 (x6 ++ [Int.tmod (rd x28 x30) 10000]) x28 x29 (wrap64 (x30 + 1))) else (none)) else (none)) else (none)) else ((chron_Fits.f k x5 x1 x6).bind fun bt247 => ((chron_Tightest.f k x5 x1).bind fun bt249 => (if bt247.2 = 0 then (if bt249.2 = 0 then (if bt247.1 = true then (ephemeriskeep2_ChronContains.j1 k x5 x6 bt249.1 ((bt249.1.length : Int) != x5)) else (ephemeriskeep2_ChronContains.j1 k x5 x6 bt249.1 true)) else (ephemeriskeep2_ChronContains.j1 k x5 x6 bt249.1 true)) else (ephemeriskeep2_ChronContains.j1 k x5 x6 bt249.1 true))))
def ephemeriskeep2_ChronContains.j1 : Nat → Int → List Int → List (List (S34)) → Bool → Option (Bool)
  | 0, _, _, _, _ => none
  | k + 1, x5, x6, x11, x68 => if x68 = true then (none) else (ephemeriskeep2_ChronContains.l1 k x5 x6 x11 x5 0)
def ephemeriskeep2_ChronContains.l1 : Nat → Int → List Int → List (List (S34)) → Int → Int → Option (Bool)
  | 0, _, _, _, _, _ => none
  | k + 1, x5, x6, x11, x69, x70 => if x70 < x69 then (ephemeriskeep2_ChronContains.l2 k x5 x6 x11 x70 x69 x70 x5 0) else (some true)
def ephemeriskeep2_ChronContains.l2 : Nat → Int → List Int → List (List (S34)) → Int → Int → Int → Int → Int → Option (Bool)
  | 0, _, _, _, _, _, _, _, _ => none
  | k + 1, x5, x6, x11, x13, x69, x70, x73, x74 => if x74 < x73 then (if 0 ≤ x74 then (if x74 < (x6.length : Int) then (if 0 ≤ x13 then (if x13 < (x6.length : Int) then (if x13 < (x11.length : Int) then (if ((rd_L4 x11 x13).length : Int) = x5 then (if x74 < ((rd_L4 x11 x13).length : Int) then (if (wrap64 ((rd x6 x74) - (rd x6 x13))) < ((rd_T34 (rd_L4 x11 x13) x74).f0) then (none) else (if (wrap64 ((rd x6 x74) - (rd x6 x13))) > ((rd_T34 (rd_L4 x11 x13) x74).f1) then (none) else (ephemeriskeep2_ChronContains.l2 k x5 x6 x11 x13 x69 x70 x73 (wrap64 (x74 + 1))))) else (none)) else (none)) else (none)) else (none)) else (none)) else (none)) else (none)) else (ephemeriskeep2_ChronContains.l1 k x5 x6 x11 x69 (wrap64 (x70 + 1)))
end
def ephemeriskeep2_ChronContains.f (k : Nat) (l0 : List Int) (l1 : List (S44)) : Option (Bool) := (ephemeriskeep2_chronWorks.f k).bind fun t237 => (if t237 = true then ((ephemeriskeep2_events.f k l0 l1).bind fun bt238 => (if bt238.1 = 0 then (some true) else (if 0 ≤ bt238.1 then (if bt238.1 ≤ (l0.length : Int) then (ephemeriskeep2_ChronContains.l0 k bt238.2 bt238.1 ([] : List Int) (l0.take (bt238.1 : Int).toNat) ((l0.take (bt238.1 : Int).toNat).length : Int) 0) else (none)) else (none)))) else (none))
theorem ephemeriskeep2_ChronContains.mono_l : ∀ k, (∀ y0 y1 y2 y3 y4 y5, LeO (ephemeriskeep2_ChronContains.l0 k y0 y1 y2 y3 y4 y5) (ephemeriskeep2_ChronContains.l0 (k + 1) y0 y1 y2 y3 y4 y5)) ∧ (∀ y0 y1 y2 y3, LeO (ephemeriskeep2_ChronContains.j1 k y0 y1 y2 y3) (ephemeriskeep2_ChronContains.j1 (k + 1) y0 y1 y2 y3)) ∧ (∀ y0 y1 y2 y3 y4, LeO (ephemeriskeep2_ChronContains.l1 k y0 y1 y2 y3 y4) (ephemeriskeep2_ChronContains.l1 (k + 1) y0 y1 y2 y3 y4)) ∧ (∀ y0 y1 y2 y3 y4 y5 y6 y7, LeO (ephemeriskeep2_ChronContains.l2 k y0 y1 y2 y3 y4 y5 y6 y7) (ephemeriskeep2_ChronContains.l2 (k + 1) y0 y1 y2 y3 y4 y5 y6 y7))
  | 0 => ⟨fun _ _ _ _ _ _ r h => by simp [ephemeriskeep2_ChronContains.l0] at h, fun _ _ _ _ r h => by simp [ephemeriskeep2_ChronContains.j1] at h, fun _ _ _ _ _ r h => by simp [ephemeriskeep2_ChronContains.l1] at h, fun _ _ _ _ _ _ _ _ r h => by simp [ephemeriskeep2_ChronContains.l2] at h⟩
  | k + 1 => by
    obtain ⟨ih0, ih1, ih2, ih3⟩ := ephemeriskeep2_ChronContains.mono_l k
    refine ⟨?_, ?_, ?_, ?_⟩
    · intro y0 y1 y2 y3 y4 y5
      unfold ephemeriskeep2_ChronContains.l0
      repeat' first
      | (with_reducible exact ih0 _ _ _ _ _ _)
      | (with_reducible exact ih1 _ _ _ _)
      | (with_reducible exact ih2 _ _ _ _ _)
      | (with_reducible exact ih3 _ _ _ _ _ _ _ _)
      | (with_reducible exact chron_Fits.mono _ _ _ _)
      | (with_reducible exact chron_Tightest.mono _ _ _)
      | (with_reducible exact ephemeriskeep2_chronWorks.mono _)
      | (with_reducible exact ephemeriskeep2_events.mono _ _ _)
      | (with_reducible exact LeO.refl _)
      | (with_reducible exact LeO.none _)
      | (with_reducible refine LeO.ite ?_ ?_)
      | (with_reducible refine LeO.bind ?_ (fun _ => ?_))
      | exact ih0 _ _ _ _ _ _
      | exact ih1 _ _ _ _
      | exact ih2 _ _ _ _ _
      | exact ih3 _ _ _ _ _ _ _ _
      | exact chron_Fits.mono _ _ _ _
      | exact chron_Tightest.mono _ _ _
      | exact ephemeriskeep2_chronWorks.mono _
      | exact ephemeriskeep2_events.mono _ _ _
      | exact LeO.none _
      | refine LeO.ite ?_ ?_
      | refine LeO.bind ?_ (fun _ => ?_)
    · intro y0 y1 y2 y3
      unfold ephemeriskeep2_ChronContains.j1
      repeat' first
      | (with_reducible exact ih0 _ _ _ _ _ _)
      | (with_reducible exact ih1 _ _ _ _)
      | (with_reducible exact ih2 _ _ _ _ _)
      | (with_reducible exact ih3 _ _ _ _ _ _ _ _)
      | (with_reducible exact chron_Fits.mono _ _ _ _)
      | (with_reducible exact chron_Tightest.mono _ _ _)
      | (with_reducible exact ephemeriskeep2_chronWorks.mono _)
      | (with_reducible exact ephemeriskeep2_events.mono _ _ _)
      | (with_reducible exact LeO.refl _)
      | (with_reducible exact LeO.none _)
      | (with_reducible refine LeO.ite ?_ ?_)
      | (with_reducible refine LeO.bind ?_ (fun _ => ?_))
      | exact ih0 _ _ _ _ _ _
      | exact ih1 _ _ _ _
      | exact ih2 _ _ _ _ _
      | exact ih3 _ _ _ _ _ _ _ _
      | exact chron_Fits.mono _ _ _ _
      | exact chron_Tightest.mono _ _ _
      | exact ephemeriskeep2_chronWorks.mono _
      | exact ephemeriskeep2_events.mono _ _ _
      | exact LeO.none _
      | refine LeO.ite ?_ ?_
      | refine LeO.bind ?_ (fun _ => ?_)
    · intro y0 y1 y2 y3 y4
      unfold ephemeriskeep2_ChronContains.l1
      repeat' first
      | (with_reducible exact ih0 _ _ _ _ _ _)
      | (with_reducible exact ih1 _ _ _ _)
      | (with_reducible exact ih2 _ _ _ _ _)
      | (with_reducible exact ih3 _ _ _ _ _ _ _ _)
      | (with_reducible exact chron_Fits.mono _ _ _ _)
      | (with_reducible exact chron_Tightest.mono _ _ _)
      | (with_reducible exact ephemeriskeep2_chronWorks.mono _)
      | (with_reducible exact ephemeriskeep2_events.mono _ _ _)
      | (with_reducible exact LeO.refl _)
      | (with_reducible exact LeO.none _)
      | (with_reducible refine LeO.ite ?_ ?_)
      | (with_reducible refine LeO.bind ?_ (fun _ => ?_))
      | exact ih0 _ _ _ _ _ _
      | exact ih1 _ _ _ _
      | exact ih2 _ _ _ _ _
      | exact ih3 _ _ _ _ _ _ _ _
      | exact chron_Fits.mono _ _ _ _
      | exact chron_Tightest.mono _ _ _
      | exact ephemeriskeep2_chronWorks.mono _
      | exact ephemeriskeep2_events.mono _ _ _
      | exact LeO.none _
      | refine LeO.ite ?_ ?_
      | refine LeO.bind ?_ (fun _ => ?_)
    · intro y0 y1 y2 y3 y4 y5 y6 y7
      unfold ephemeriskeep2_ChronContains.l2
      repeat' first
      | (with_reducible exact ih0 _ _ _ _ _ _)
      | (with_reducible exact ih1 _ _ _ _)
      | (with_reducible exact ih2 _ _ _ _ _)
      | (with_reducible exact ih3 _ _ _ _ _ _ _ _)
      | (with_reducible exact chron_Fits.mono _ _ _ _)
      | (with_reducible exact chron_Tightest.mono _ _ _)
      | (with_reducible exact ephemeriskeep2_chronWorks.mono _)
      | (with_reducible exact ephemeriskeep2_events.mono _ _ _)
      | (with_reducible exact LeO.refl _)
      | (with_reducible exact LeO.none _)
      | (with_reducible refine LeO.ite ?_ ?_)
      | (with_reducible refine LeO.bind ?_ (fun _ => ?_))
      | exact ih0 _ _ _ _ _ _
      | exact ih1 _ _ _ _
      | exact ih2 _ _ _ _ _
      | exact ih3 _ _ _ _ _ _ _ _
      | exact chron_Fits.mono _ _ _ _
      | exact chron_Tightest.mono _ _ _
      | exact ephemeriskeep2_chronWorks.mono _
      | exact ephemeriskeep2_events.mono _ _ _
      | exact LeO.none _
      | refine LeO.ite ?_ ?_
      | refine LeO.bind ?_ (fun _ => ?_)
theorem ephemeriskeep2_ChronContains.mono : ∀ a0 a1 k, LeO (ephemeriskeep2_ChronContains.f k a0 a1) (ephemeriskeep2_ChronContains.f (k + 1) a0 a1) := by
  intro a0 a1 k
  obtain ⟨ih0, ih1, ih2, ih3⟩ := ephemeriskeep2_ChronContains.mono_l k
  unfold ephemeriskeep2_ChronContains.f
  repeat' first
      | (with_reducible exact ih0 _ _ _ _ _ _)
      | (with_reducible exact ih1 _ _ _ _)
      | (with_reducible exact ih2 _ _ _ _ _)
      | (with_reducible exact ih3 _ _ _ _ _ _ _ _)
      | (with_reducible exact chron_Fits.mono _ _ _ _)
      | (with_reducible exact chron_Tightest.mono _ _ _)
      | (with_reducible exact ephemeriskeep2_chronWorks.mono _)
      | (with_reducible exact ephemeriskeep2_events.mono _ _ _)
      | (with_reducible exact LeO.refl _)
      | (with_reducible exact LeO.none _)
      | (with_reducible refine LeO.ite ?_ ?_)
      | (with_reducible refine LeO.bind ?_ (fun _ => ?_))
      | exact ih0 _ _ _ _ _ _
      | exact ih1 _ _ _ _
      | exact ih2 _ _ _ _ _
      | exact ih3 _ _ _ _ _ _ _ _
      | exact chron_Fits.mono _ _ _ _
      | exact chron_Tightest.mono _ _ _
      | exact ephemeriskeep2_chronWorks.mono _
      | exact ephemeriskeep2_events.mono _ _ _
      | exact LeO.none _
      | refine LeO.ite ?_ ?_
      | refine LeO.bind ?_ (fun _ => ?_)

/-! ### the Lean function ephemeriskeep2_ChronEarliest: function 5 -/
mutual
def ephemeriskeep2_ChronEarliest.j0 : Nat → Int → Int → List Int → List (List (S34)) → Bool → Option (Bool)
  | 0, _, _, _, _, _ => none
  | k + 1, x2, x7, x8, x12, x87 => if x87 = true then (none) else (ephemeriskeep2_ChronEarliest.l0 k x2 x8 x12 x7 0)
def ephemeriskeep2_ChronEarliest.l0 : Nat → Int → List Int → List (List (S34)) → Int → Int → Option (Bool)
  | 0, _, _, _, _, _ => none
  | k + 1, x2, x8, x12, x88, x89 => if x89 < x88 then (if 0 ≤ x89 then (if x89 < (x8.length : Int) then (if 0 ≤ x2 then (if x2 < (x12.length : Int) then (if x89 < ((rd_L4 x12 x2).length : Int) then (if (wrap64 ((rd x8 x89) - 100)) = ((rd_T34 (rd_L4 x12 x2) x89).f0) then (ephemeriskeep2_ChronEarliest.l0 k x2 x8 x12 x88 (wrap64 (x89 + 1))) else (none)) else (none)) else (none)) else (none)) else (none)) else (none)) else (some true)
end
def ephemeriskeep2_ChronEarliest.f (k : Nat) (l0 : List Int) (l1 : List (S44)) (a2 : Int) : Option (Bool) := (ephemeriskeep2_chronWorks.f k).bind fun t260 => (if t260 = true then ((ephemeriskeep2_events.f k l0 l1).bind fun bt261 => (if bt261.1 = 0 then (some true) else ((ephemeriskeep2_at.f a2 bt261.1).bind fun t265 => ((chron_Early.f k bt261.1 bt261.2 t265 100).bind fun bt266 => (if bt266.2 = 0 then ((chron_Fits.f k bt261.1 bt261.2 bt266.1).bind fun bt270 => ((chron_Tightest.f k bt261.1 bt261.2).bind fun bt272 => (if bt270.2 = 0 then (if bt272.2 = 0 then (if bt270.1 = true then (if (bt266.1.length : Int) = bt261.1 then (if (bt272.1.length : Int) = bt261.1 then (if 0 ≤ t265 then (if t265 < (bt272.1.length : Int) then (ephemeriskeep2_ChronEarliest.j0 k t265 bt261.1 bt266.1 bt272.1 (((rd_L4 bt272.1 t265).length : Int) != bt261.1)) else (none)) else (none)) else (ephemeriskeep2_ChronEarliest.j0 k t265 bt261.1 bt266.1 bt272.1 true)) else (ephemeriskeep2_ChronEarliest.j0 k t265 bt261.1 bt266.1 bt272.1 true)) else (ephemeriskeep2_ChronEarliest.j0 k t265 bt261.1 bt266.1 bt272.1 true)) else (ephemeriskeep2_ChronEarliest.j0 k t265 bt261.1 bt266.1 bt272.1 true)) else (ephemeriskeep2_ChronEarliest.j0 k t265 bt261.1 bt266.1 bt272.1 true)))) else (if bt266.2 = 6 then (some ((bt266.1.length : Int) == 0)) else (none))))))) else (none))
theorem ephemeriskeep2_ChronEarliest.mono_l : ∀ k, (∀ y0 y1 y2 y3 y4, LeO (ephemeriskeep2_ChronEarliest.j0 k y0 y1 y2 y3 y4) (ephemeriskeep2_ChronEarliest.j0 (k + 1) y0 y1 y2 y3 y4)) ∧ (∀ y0 y1 y2 y3 y4, LeO (ephemeriskeep2_ChronEarliest.l0 k y0 y1 y2 y3 y4) (ephemeriskeep2_ChronEarliest.l0 (k + 1) y0 y1 y2 y3 y4))
  | 0 => ⟨fun _ _ _ _ _ r h => by simp [ephemeriskeep2_ChronEarliest.j0] at h, fun _ _ _ _ _ r h => by simp [ephemeriskeep2_ChronEarliest.l0] at h⟩
  | k + 1 => by
    obtain ⟨ih0, ih1⟩ := ephemeriskeep2_ChronEarliest.mono_l k
    refine ⟨?_, ?_⟩
    · intro y0 y1 y2 y3 y4
      unfold ephemeriskeep2_ChronEarliest.j0
      repeat' first
      | (with_reducible exact ih0 _ _ _ _ _)
      | (with_reducible exact ih1 _ _ _ _ _)
      | (with_reducible exact chron_Early.mono _ _ _ _ _)
      | (with_reducible exact chron_Fits.mono _ _ _ _)
      | (with_reducible exact chron_Tightest.mono _ _ _)
      | (with_reducible exact ephemeriskeep2_chronWorks.mono _)
      | (with_reducible exact ephemeriskeep2_events.mono _ _ _)
      | (with_reducible exact LeO.refl _)
      | (with_reducible exact LeO.none _)
      | (with_reducible refine LeO.ite ?_ ?_)
      | (with_reducible refine LeO.bind ?_ (fun _ => ?_))
      | exact ih0 _ _ _ _ _
      | exact ih1 _ _ _ _ _
      | exact chron_Early.mono _ _ _ _ _
      | exact chron_Fits.mono _ _ _ _
      | exact chron_Tightest.mono _ _ _
      | exact ephemeriskeep2_chronWorks.mono _
      | exact ephemeriskeep2_events.mono _ _ _
      | exact LeO.none _
      | refine LeO.ite ?_ ?_
      | refine LeO.bind ?_ (fun _ => ?_)
    · intro y0 y1 y2 y3 y4
      unfold ephemeriskeep2_ChronEarliest.l0
      repeat' first
      | (with_reducible exact ih0 _ _ _ _ _)
      | (with_reducible exact ih1 _ _ _ _ _)
      | (with_reducible exact chron_Early.mono _ _ _ _ _)
      | (with_reducible exact chron_Fits.mono _ _ _ _)
      | (with_reducible exact chron_Tightest.mono _ _ _)
      | (with_reducible exact ephemeriskeep2_chronWorks.mono _)
      | (with_reducible exact ephemeriskeep2_events.mono _ _ _)
      | (with_reducible exact LeO.refl _)
      | (with_reducible exact LeO.none _)
      | (with_reducible refine LeO.ite ?_ ?_)
      | (with_reducible refine LeO.bind ?_ (fun _ => ?_))
      | exact ih0 _ _ _ _ _
      | exact ih1 _ _ _ _ _
      | exact chron_Early.mono _ _ _ _ _
      | exact chron_Fits.mono _ _ _ _
      | exact chron_Tightest.mono _ _ _
      | exact ephemeriskeep2_chronWorks.mono _
      | exact ephemeriskeep2_events.mono _ _ _
      | exact LeO.none _
      | refine LeO.ite ?_ ?_
      | refine LeO.bind ?_ (fun _ => ?_)
theorem ephemeriskeep2_ChronEarliest.mono : ∀ a0 a1 a2 k, LeO (ephemeriskeep2_ChronEarliest.f k a0 a1 a2) (ephemeriskeep2_ChronEarliest.f (k + 1) a0 a1 a2) := by
  intro a0 a1 a2 k
  obtain ⟨ih0, ih1⟩ := ephemeriskeep2_ChronEarliest.mono_l k
  unfold ephemeriskeep2_ChronEarliest.f
  repeat' first
      | (with_reducible exact ih0 _ _ _ _ _)
      | (with_reducible exact ih1 _ _ _ _ _)
      | (with_reducible exact chron_Early.mono _ _ _ _ _)
      | (with_reducible exact chron_Fits.mono _ _ _ _)
      | (with_reducible exact chron_Tightest.mono _ _ _)
      | (with_reducible exact ephemeriskeep2_chronWorks.mono _)
      | (with_reducible exact ephemeriskeep2_events.mono _ _ _)
      | (with_reducible exact LeO.refl _)
      | (with_reducible exact LeO.none _)
      | (with_reducible refine LeO.ite ?_ ?_)
      | (with_reducible refine LeO.bind ?_ (fun _ => ?_))
      | exact ih0 _ _ _ _ _
      | exact ih1 _ _ _ _ _
      | exact chron_Early.mono _ _ _ _ _
      | exact chron_Fits.mono _ _ _ _
      | exact chron_Tightest.mono _ _ _
      | exact ephemeriskeep2_chronWorks.mono _
      | exact ephemeriskeep2_events.mono _ _ _
      | exact LeO.none _
      | refine LeO.ite ?_ ?_
      | refine LeO.bind ?_ (fun _ => ?_)

-- NOT PRINTED: function 30 (api_ChronBound_30)

-- NOT PRINTED: function 37 (api_ChronBound_37)

-- NOT PRINTED: function 31 (contradict_without)

-- NOT PRINTED: function 20 (contradict_Least)

-- NOT PRINTED: function 21 (contradict_Implied)

-- NOT PRINTED: function 19 (ephemeriskeep2_contradictWorks)

-- NOT PRINTED: function 6 (ephemeriskeep2_ContradictLoose)

-- NOT PRINTED: function 7 (ephemeriskeep2_ContradictNeeded)

-- NOT PRINTED: function 22 (contradict_Changed)

-- NOT PRINTED: function 8 (ephemeriskeep2_ContradictSpare)

/-! ### the Lean function gauge_Check: function 32 -/
mutual
def gauge_Check.j0 : Nat → List (List Int) → List Int → Bool → Option (Int)
  | 0, _, _, _ => none
  | k + 1, x0, x1, x35 => if x35 = true then (some 8) else (gauge_Check.l0 k x0 x1 x0 (x0.length : Int) 0)
def gauge_Check.l0 : Nat → List (List Int) → List Int → List (List Int) → Int → Int → Option (Int)
  | 0, _, _, _, _, _ => none
  | k + 1, x0, x1, x36, x37, x38 => if x38 < x37 then (if 0 ≤ x38 then (if x38 < (x36.length : Int) then (if 0 < (x0.length : Int) then (if ((rd_L2 x36 x38).length : Int) = ((rd_L2 x0 0).length : Int) then (gauge_Check.l1 k x0 x1 x38 x36 x37 x38 (rd_L2 x36 x38) ((rd_L2 x36 x38).length : Int) 0) else (some 8)) else (none)) else (none)) else (none)) else (some 0)
def gauge_Check.l1 : Nat → List (List Int) → List Int → Int → List (List Int) → Int → Int → List Int → Int → Int → Option (Int)
  | 0, _, _, _, _, _, _, _, _, _ => none
  | k + 1, x0, x1, x5, x36, x37, x38, x50, x51, x52 => if x52 < x51 then (if 0 ≤ x52 then (if x52 < (x50.length : Int) then (if (rd x50 x52) < (-10) then (some 3) else (if (rd x50 x52) > 10 then (some 3) else (gauge_Check.l1 k x0 x1 x5 x36 x37 x38 x50 x51 (wrap64 (x52 + 1))))) else (none)) else (none)) else (if 0 ≤ x5 then (if x5 < (x1.length : Int) then (if (rd x1 x5) < (-1000) then (some 3) else (if (rd x1 x5) > 1000 then (some 3) else (gauge_Check.l0 k x0 x1 x36 x37 (wrap64 (x38 + 1))))) else (none)) else (none))
end
def gauge_Check.f (k : Nat) (l0 : List (List Int)) (l1 : List Int) : Option (Int) := if (l0.length : Int) > 8 then (some 2) else (if (l0.length : Int) = 0 then (gauge_Check.j0 k l0 l1 true) else (if (l0.length : Int) = (l1.length : Int) then (if 0 < (l0.length : Int) then (if ((rd_L2 l0 0).length : Int) < 1 then (gauge_Check.j0 k l0 l1 true) else (gauge_Check.j0 k l0 l1 (decide (((rd_L2 l0 0).length : Int) > 3)))) else (none)) else (gauge_Check.j0 k l0 l1 true)))
theorem gauge_Check.mono_l : ∀ k, (∀ y0 y1 y2, LeO (gauge_Check.j0 k y0 y1 y2) (gauge_Check.j0 (k + 1) y0 y1 y2)) ∧ (∀ y0 y1 y2 y3 y4, LeO (gauge_Check.l0 k y0 y1 y2 y3 y4) (gauge_Check.l0 (k + 1) y0 y1 y2 y3 y4)) ∧ (∀ y0 y1 y2 y3 y4 y5 y6 y7 y8, LeO (gauge_Check.l1 k y0 y1 y2 y3 y4 y5 y6 y7 y8) (gauge_Check.l1 (k + 1) y0 y1 y2 y3 y4 y5 y6 y7 y8))
  | 0 => ⟨fun _ _ _ r h => by simp [gauge_Check.j0] at h, fun _ _ _ _ _ r h => by simp [gauge_Check.l0] at h, fun _ _ _ _ _ _ _ _ _ r h => by simp [gauge_Check.l1] at h⟩
  | k + 1 => by
    obtain ⟨ih0, ih1, ih2⟩ := gauge_Check.mono_l k
    refine ⟨?_, ?_, ?_⟩
    · intro y0 y1 y2
      unfold gauge_Check.j0
      repeat' first
      | (with_reducible exact ih0 _ _ _)
      | (with_reducible exact ih1 _ _ _ _ _)
      | (with_reducible exact ih2 _ _ _ _ _ _ _ _ _)
      | (with_reducible exact LeO.refl _)
      | (with_reducible exact LeO.none _)
      | (with_reducible refine LeO.ite ?_ ?_)
      | (with_reducible refine LeO.bind ?_ (fun _ => ?_))
      | exact ih0 _ _ _
      | exact ih1 _ _ _ _ _
      | exact ih2 _ _ _ _ _ _ _ _ _
      | exact LeO.none _
      | refine LeO.ite ?_ ?_
      | refine LeO.bind ?_ (fun _ => ?_)
    · intro y0 y1 y2 y3 y4
      unfold gauge_Check.l0
      repeat' first
      | (with_reducible exact ih0 _ _ _)
      | (with_reducible exact ih1 _ _ _ _ _)
      | (with_reducible exact ih2 _ _ _ _ _ _ _ _ _)
      | (with_reducible exact LeO.refl _)
      | (with_reducible exact LeO.none _)
      | (with_reducible refine LeO.ite ?_ ?_)
      | (with_reducible refine LeO.bind ?_ (fun _ => ?_))
      | exact ih0 _ _ _
      | exact ih1 _ _ _ _ _
      | exact ih2 _ _ _ _ _ _ _ _ _
      | exact LeO.none _
      | refine LeO.ite ?_ ?_
      | refine LeO.bind ?_ (fun _ => ?_)
    · intro y0 y1 y2 y3 y4 y5 y6 y7 y8
      unfold gauge_Check.l1
      repeat' first
      | (with_reducible exact ih0 _ _ _)
      | (with_reducible exact ih1 _ _ _ _ _)
      | (with_reducible exact ih2 _ _ _ _ _ _ _ _ _)
      | (with_reducible exact LeO.refl _)
      | (with_reducible exact LeO.none _)
      | (with_reducible refine LeO.ite ?_ ?_)
      | (with_reducible refine LeO.bind ?_ (fun _ => ?_))
      | exact ih0 _ _ _
      | exact ih1 _ _ _ _ _
      | exact ih2 _ _ _ _ _ _ _ _ _
      | exact LeO.none _
      | refine LeO.ite ?_ ?_
      | refine LeO.bind ?_ (fun _ => ?_)
theorem gauge_Check.mono : ∀ a0 a1 k, LeO (gauge_Check.f k a0 a1) (gauge_Check.f (k + 1) a0 a1) := by
  intro a0 a1 k
  obtain ⟨ih0, ih1, ih2⟩ := gauge_Check.mono_l k
  unfold gauge_Check.f
  repeat' first
      | (with_reducible exact ih0 _ _ _)
      | (with_reducible exact ih1 _ _ _ _ _)
      | (with_reducible exact ih2 _ _ _ _ _ _ _ _ _)
      | (with_reducible exact LeO.refl _)
      | (with_reducible exact LeO.none _)
      | (with_reducible refine LeO.ite ?_ ?_)
      | (with_reducible refine LeO.bind ?_ (fun _ => ?_))
      | exact ih0 _ _ _
      | exact ih1 _ _ _ _ _
      | exact ih2 _ _ _ _ _ _ _ _ _
      | exact LeO.none _
      | refine LeO.ite ?_ ?_
      | refine LeO.bind ?_ (fun _ => ?_)

/-! ### the Lean function gauge_normal: function 33 -/
mutual
def gauge_normal.l0 : Nat → List (List Int) → List Int → Int → List (List Int) → Int → Int → Option ((List (List Int)))
  | 0, _, _, _, _, _, _ => none
  | k + 1, x0, x1, x5, x6, x18, x19 => if x19 < x18 then (if 0 ≤ (wrap64 (x5 + 1)) then (if (wrap64 (x5 + 1) : Int).toNat ≤ 35184372088832 then (if 0 ≤ x19 then (if x19 < (x6.length : Int) then (gauge_normal.l1 k x0 x1 x5 (x6.set (x19 : Int).toNat (List.replicate (wrap64 (x5 + 1) : Int).toNat 0)) x19 x18 x19 x0 (x0.length : Int) 0) else (none)) else (none)) else (none)) else (none)) else (some x6)
def gauge_normal.l1 : Nat → List (List Int) → List Int → Int → List (List Int) → Int → Int → Int → List (List Int) → Int → Int → Option ((List (List Int)))
  | 0, _, _, _, _, _, _, _, _, _, _ => none
  | k + 1, x0, x1, x5, x6, x7, x18, x19, x28, x29, x30 => if x30 < x29 then (if 0 ≤ x30 then (if x30 < (x28.length : Int) then (gauge_normal.l2 k x0 x1 x5 x6 x7 x30 (rd_L2 x28 x30) x18 x19 x28 x29 x30 x5 0) else (none)) else (none)) else (gauge_normal.l0 k x0 x1 x5 x6 x18 (wrap64 (x19 + 1)))
def gauge_normal.l2 : Nat → List (List Int) → List Int → Int → List (List Int) → Int → Int → List Int → Int → Int → List (List Int) → Int → Int → Int → Int → Option ((List (List Int)))
  | 0, _, _, _, _, _, _, _, _, _, _, _, _, _, _ => none
  | k + 1, x0, x1, x5, x6, x7, x8, x9, x18, x19, x28, x29, x30, x35, x36 => if x36 < x35 then (if 0 ≤ x7 then (if x7 < (x6.length : Int) then (if 0 ≤ x36 then (if x36 < ((rd_L2 x6 x7).length : Int) then (if x7 < (x9.length : Int) then (if x36 < (x9.length : Int) then (gauge_normal.l2 k x0 x1 x5 (x6.set (x7 : Int).toNat ((rd_L2 x6 x7).set (x36 : Int).toNat (wrap64 ((rd (rd_L2 x6 x7) x36) + (wrap64 ((rd x9 x7) * (rd x9 x36))))))) x7 x8 x9 x18 x19 x28 x29 x30 x35 (wrap64 (x36 + 1))) else (none)) else (none)) else (none)) else (none)) else (none)) else (none)) else (if 0 ≤ x7 then (if x7 < (x6.length : Int) then (if 0 ≤ x5 then (if x5 < ((rd_L2 x6 x7).length : Int) then (if x7 < (x9.length : Int) then (if 0 ≤ x8 then (if x8 < (x1.length : Int) then (gauge_normal.l1 k x0 x1 x5 (x6.set (x7 : Int).toNat ((rd_L2 x6 x7).set (x5 : Int).toNat (wrap64 ((rd (rd_L2 x6 x7) x5) + (wrap64 ((rd x9 x7) * (rd x1 x8))))))) x7 x18 x19 x28 x29 (wrap64 (x30 + 1))) else (none)) else (none)) else (none)) else (none)) else (none)) else (none)) else (none))
end
def gauge_normal.f (k : Nat) (l0 : List (List Int)) (l1 : List Int) : Option ((List (List Int))) := if 0 < (l0.length : Int) then (if 0 ≤ ((rd_L2 l0 0).length : Int) then (if (((rd_L2 l0 0).length : Int) : Int).toNat ≤ 11728124029610 then ((some (List.replicate (((rd_L2 l0 0).length : Int) : Int).toNat [] : List (List Int))).bind fun y299 => (gauge_normal.l0 k l0 l1 ((rd_L2 l0 0).length : Int) y299 (y299.length : Int) 0)) else (none)) else (none)) else (none)
theorem gauge_normal.mono_l : ∀ k, (∀ y0 y1 y2 y3 y4 y5, LeO (gauge_normal.l0 k y0 y1 y2 y3 y4 y5) (gauge_normal.l0 (k + 1) y0 y1 y2 y3 y4 y5)) ∧ (∀ y0 y1 y2 y3 y4 y5 y6 y7 y8 y9, LeO (gauge_normal.l1 k y0 y1 y2 y3 y4 y5 y6 y7 y8 y9) (gauge_normal.l1 (k + 1) y0 y1 y2 y3 y4 y5 y6 y7 y8 y9)) ∧ (∀ y0 y1 y2 y3 y4 y5 y6 y7 y8 y9 y10 y11 y12 y13, LeO (gauge_normal.l2 k y0 y1 y2 y3 y4 y5 y6 y7 y8 y9 y10 y11 y12 y13) (gauge_normal.l2 (k + 1) y0 y1 y2 y3 y4 y5 y6 y7 y8 y9 y10 y11 y12 y13))
  | 0 => ⟨fun _ _ _ _ _ _ r h => by simp [gauge_normal.l0] at h, fun _ _ _ _ _ _ _ _ _ _ r h => by simp [gauge_normal.l1] at h, fun _ _ _ _ _ _ _ _ _ _ _ _ _ _ r h => by simp [gauge_normal.l2] at h⟩
  | k + 1 => by
    obtain ⟨ih0, ih1, ih2⟩ := gauge_normal.mono_l k
    refine ⟨?_, ?_, ?_⟩
    · intro y0 y1 y2 y3 y4 y5
      unfold gauge_normal.l0
      repeat' first
      | (with_reducible exact ih0 _ _ _ _ _ _)
      | (with_reducible exact ih1 _ _ _ _ _ _ _ _ _ _)
      | (with_reducible exact ih2 _ _ _ _ _ _ _ _ _ _ _ _ _ _)
      | (with_reducible exact LeO.refl _)
      | (with_reducible exact LeO.none _)
      | (with_reducible refine LeO.ite ?_ ?_)
      | (with_reducible refine LeO.bind ?_ (fun _ => ?_))
      | exact ih0 _ _ _ _ _ _
      | exact ih1 _ _ _ _ _ _ _ _ _ _
      | exact ih2 _ _ _ _ _ _ _ _ _ _ _ _ _ _
      | exact LeO.none _
      | refine LeO.ite ?_ ?_
      | refine LeO.bind ?_ (fun _ => ?_)
    · intro y0 y1 y2 y3 y4 y5 y6 y7 y8 y9
      unfold gauge_normal.l1
      repeat' first
      | (with_reducible exact ih0 _ _ _ _ _ _)
      | (with_reducible exact ih1 _ _ _ _ _ _ _ _ _ _)
      | (with_reducible exact ih2 _ _ _ _ _ _ _ _ _ _ _ _ _ _)
      | (with_reducible exact LeO.refl _)
      | (with_reducible exact LeO.none _)
      | (with_reducible refine LeO.ite ?_ ?_)
      | (with_reducible refine LeO.bind ?_ (fun _ => ?_))
      | exact ih0 _ _ _ _ _ _
      | exact ih1 _ _ _ _ _ _ _ _ _ _
      | exact ih2 _ _ _ _ _ _ _ _ _ _ _ _ _ _
      | exact LeO.none _
      | refine LeO.ite ?_ ?_
      | refine LeO.bind ?_ (fun _ => ?_)
    · intro y0 y1 y2 y3 y4 y5 y6 y7 y8 y9 y10 y11 y12 y13
      unfold gauge_normal.l2
      repeat' first
      | (with_reducible exact ih0 _ _ _ _ _ _)
      | (with_reducible exact ih1 _ _ _ _ _ _ _ _ _ _)
      | (with_reducible exact ih2 _ _ _ _ _ _ _ _ _ _ _ _ _ _)
      | (with_reducible exact LeO.refl _)
      | (with_reducible exact LeO.none _)
      | (with_reducible refine LeO.ite ?_ ?_)
      | (with_reducible refine LeO.bind ?_ (fun _ => ?_))
      | exact ih0 _ _ _ _ _ _
      | exact ih1 _ _ _ _ _ _ _ _ _ _
      | exact ih2 _ _ _ _ _ _ _ _ _ _ _ _ _ _
      | exact LeO.none _
      | refine LeO.ite ?_ ?_
      | refine LeO.bind ?_ (fun _ => ?_)
theorem gauge_normal.mono : ∀ a0 a1 k, LeO (gauge_normal.f k a0 a1) (gauge_normal.f (k + 1) a0 a1) := by
  intro a0 a1 k
  obtain ⟨ih0, ih1, ih2⟩ := gauge_normal.mono_l k
  unfold gauge_normal.f
  repeat' first
      | (with_reducible exact ih0 _ _ _ _ _ _)
      | (with_reducible exact ih1 _ _ _ _ _ _ _ _ _ _)
      | (with_reducible exact ih2 _ _ _ _ _ _ _ _ _ _ _ _ _ _)
      | (with_reducible exact LeO.refl _)
      | (with_reducible exact LeO.none _)
      | (with_reducible refine LeO.ite ?_ ?_)
      | (with_reducible refine LeO.bind ?_ (fun _ => ?_))
      | exact ih0 _ _ _ _ _ _
      | exact ih1 _ _ _ _ _ _ _ _ _ _
      | exact ih2 _ _ _ _ _ _ _ _ _ _ _ _ _ _
      | exact LeO.none _
      | refine LeO.ite ?_ ?_
      | refine LeO.bind ?_ (fun _ => ?_)

-- NOT PRINTED: function 34 (gauge_det)

/-! ### the Lean function gauge_abs: function 35 -/
def gauge_abs.f (a0 : Int) : Option (Int) := if a0 < 0 then (some (wrap64 (-a0))) else (some a0)

/-! ### the Lean function gauge_gcd: function 36 -/
def gauge_gcd.l0 : Nat → Int → Int → Option (Int)
  | 0, _, _ => none
  | k + 1, x0, x1 => if x1 = 0 then (some x0) else (gauge_gcd.l0 k x1 (Int.tmod x0 x1))
def gauge_gcd.f (k : Nat) (a0 : Int) (a1 : Int) : Option (Int) := gauge_gcd.l0 k a0 a1
theorem gauge_gcd.mono_l : ∀ k, (∀ y0 y1, LeO (gauge_gcd.l0 k y0 y1) (gauge_gcd.l0 (k + 1) y0 y1))
  | 0 => fun _ _ r h => by simp [gauge_gcd.l0] at h
  | k + 1 => by
    have ih0 := gauge_gcd.mono_l k
    · intro y0 y1
      unfold gauge_gcd.l0
      repeat' first
      | (with_reducible exact ih0 _ _)
      | (with_reducible exact LeO.refl _)
      | (with_reducible exact LeO.none _)
      | (with_reducible refine LeO.ite ?_ ?_)
      | (with_reducible refine LeO.bind ?_ (fun _ => ?_))
      | exact ih0 _ _
      | exact LeO.none _
      | refine LeO.ite ?_ ?_
      | refine LeO.bind ?_ (fun _ => ?_)
theorem gauge_gcd.mono : ∀ a0 a1 k, LeO (gauge_gcd.f k a0 a1) (gauge_gcd.f (k + 1) a0 a1) := by
  intro a0 a1 k
  have ih0 := gauge_gcd.mono_l k
  unfold gauge_gcd.f
  repeat' first
      | (with_reducible exact ih0 _ _)
      | (with_reducible exact LeO.refl _)
      | (with_reducible exact LeO.none _)
      | (with_reducible refine LeO.ite ?_ ?_)
      | (with_reducible refine LeO.bind ?_ (fun _ => ?_))
      | exact ih0 _ _
      | exact LeO.none _
      | refine LeO.ite ?_ ?_
      | refine LeO.bind ?_ (fun _ => ?_)

-- NOT PRINTED: function 25 (gauge_Fit)

-- NOT PRINTED: function 26 (gauge_Residual)

-- NOT PRINTED: function 23 (ephemeriskeep2_gaugeWorks)

/-! ### the Lean function ephemeriskeep2_readings: function 24 -/
mutual
def ephemeriskeep2_readings.l0 : Nat → Int → List (List Int) → List (List Int) → Int → Int → Option ((List (List Int)))
  | 0, _, _, _, _, _ => none
  | k + 1, x1, x5, x10, x11, x12 => if x12 < x11 then (if 0 ≤ x12 then (if x12 < (x10.length : Int) then (if x12 = 6 then (some x5) else (if 0 ≤ x1 then (if (x1 : Int).toNat ≤ 35184372088832 then ((some (List.replicate (x1 : Int).toNat 0 : List Int)).bind fun y342 => (ephemeriskeep2_readings.l1 k x1 x5 (rd_L2 x10 x12) y342 x10 x11 x12 (y342.length : Int) 0)) else (none)) else (none))) else (none)) else (none)) else (some x5)
def ephemeriskeep2_readings.l1 : Nat → Int → List (List Int) → List Int → List Int → List (List Int) → Int → Int → Int → Int → Option ((List (List Int)))
  | 0, _, _, _, _, _, _, _, _, _ => none
  | k + 1, x1, x5, x7, x8, x10, x11, x12, x22, x23 => if x23 < x22 then (if x23 < (x7.length : Int) then (if 0 ≤ x23 then (if x23 < (x8.length : Int) then (ephemeriskeep2_readings.l1 k x1 x5 x7 (x8.set (x23 : Int).toNat (Int.tmod (rd x7 x23) 11)) x10 x11 x12 x22 (wrap64 (x23 + 1))) else (none)) else (none)) else (ephemeriskeep2_readings.l1 k x1 x5 x7 x8 x10 x11 x12 x22 (wrap64 (x23 + 1)))) else (if x5.length < 5864062014805 then (ephemeriskeep2_readings.l0 k x1 (x5 ++ [x8]) x10 x11 (wrap64 (x12 + 1))) else (none))
end
def ephemeriskeep2_readings.f (k : Nat) (l0 : List (List Int)) (a1 : Int) : Option ((List (List Int))) := ephemeriskeep2_readings.l0 k a1 ([] : List (List Int)) l0 (l0.length : Int) 0
theorem ephemeriskeep2_readings.mono_l : ∀ k, (∀ y0 y1 y2 y3 y4, LeO (ephemeriskeep2_readings.l0 k y0 y1 y2 y3 y4) (ephemeriskeep2_readings.l0 (k + 1) y0 y1 y2 y3 y4)) ∧ (∀ y0 y1 y2 y3 y4 y5 y6 y7 y8, LeO (ephemeriskeep2_readings.l1 k y0 y1 y2 y3 y4 y5 y6 y7 y8) (ephemeriskeep2_readings.l1 (k + 1) y0 y1 y2 y3 y4 y5 y6 y7 y8))
  | 0 => ⟨fun _ _ _ _ _ r h => by simp [ephemeriskeep2_readings.l0] at h, fun _ _ _ _ _ _ _ _ _ r h => by simp [ephemeriskeep2_readings.l1] at h⟩
  | k + 1 => by
    obtain ⟨ih0, ih1⟩ := ephemeriskeep2_readings.mono_l k
    refine ⟨?_, ?_⟩
    · intro y0 y1 y2 y3 y4
      unfold ephemeriskeep2_readings.l0
      repeat' first
      | (with_reducible exact ih0 _ _ _ _ _)
      | (with_reducible exact ih1 _ _ _ _ _ _ _ _ _)
      | (with_reducible exact LeO.refl _)
      | (with_reducible exact LeO.none _)
      | (with_reducible refine LeO.ite ?_ ?_)
      | (with_reducible refine LeO.bind ?_ (fun _ => ?_))
      | exact ih0 _ _ _ _ _
      | exact ih1 _ _ _ _ _ _ _ _ _
      | exact LeO.none _
      | refine LeO.ite ?_ ?_
      | refine LeO.bind ?_ (fun _ => ?_)
    · intro y0 y1 y2 y3 y4 y5 y6 y7 y8
      unfold ephemeriskeep2_readings.l1
      repeat' first
      | (with_reducible exact ih0 _ _ _ _ _)
      | (with_reducible exact ih1 _ _ _ _ _ _ _ _ _)
      | (with_reducible exact LeO.refl _)
      | (with_reducible exact LeO.none _)
      | (with_reducible refine LeO.ite ?_ ?_)
      | (with_reducible refine LeO.bind ?_ (fun _ => ?_))
      | exact ih0 _ _ _ _ _
      | exact ih1 _ _ _ _ _ _ _ _ _
      | exact LeO.none _
      | refine LeO.ite ?_ ?_
      | refine LeO.bind ?_ (fun _ => ?_)
theorem ephemeriskeep2_readings.mono : ∀ a0 a1 k, LeO (ephemeriskeep2_readings.f k a0 a1) (ephemeriskeep2_readings.f (k + 1) a0 a1) := by
  intro a0 a1 k
  obtain ⟨ih0, ih1⟩ := ephemeriskeep2_readings.mono_l k
  unfold ephemeriskeep2_readings.f
  repeat' first
      | (with_reducible exact ih0 _ _ _ _ _)
      | (with_reducible exact ih1 _ _ _ _ _ _ _ _ _)
      | (with_reducible exact LeO.refl _)
      | (with_reducible exact LeO.none _)
      | (with_reducible refine LeO.ite ?_ ?_)
      | (with_reducible refine LeO.bind ?_ (fun _ => ?_))
      | exact ih0 _ _ _ _ _
      | exact ih1 _ _ _ _ _ _ _ _ _
      | exact LeO.none _
      | refine LeO.ite ?_ ?_
      | refine LeO.bind ?_ (fun _ => ?_)

-- NOT PRINTED: function 9 (ephemeriskeep2_GaugeExact)

-- NOT PRINTED: function 10 (ephemeriskeep2_GaugeLeast)

-- NOT PRINTED: function 11 (ephemeriskeep2_GaugeOrder)

/-- THE ONE PURE STATEMENT of ephemeriskeep2_ChronNarrows. -/
def ephemeriskeep2_ChronNarrows.Pure : Prop := ∀ (l0 : List Int) (l1 : List (S44)), l0.length ≤ maxLen → l0.length * 8 ≤ 140737488351232 → (∀ x ∈ l0, (Lit.int .i64 x).wf = true) → l1.length ≤ maxLen → (∀ x ∈ l1, (Lit.int .i64 x.f0).wf = true ∧ (Lit.int .i64 x.f1).wf = true ∧ (Lit.int .i64 x.f2).wf = true ∧ (Lit.int .i64 x.f3).wf = true) → ∃ k, ephemeriskeep2_ChronNarrows.f k l0 l1 = some true

/-- THE ONE PURE STATEMENT of ephemeriskeep2_ChronContains. -/
def ephemeriskeep2_ChronContains.Pure : Prop := ∀ (l0 : List Int) (l1 : List (S44)), l0.length ≤ maxLen → l0.length * 8 ≤ 140737488351232 → (∀ x ∈ l0, (Lit.int .i64 x).wf = true) → l1.length ≤ maxLen → (∀ x ∈ l1, (Lit.int .i64 x.f0).wf = true ∧ (Lit.int .i64 x.f1).wf = true ∧ (Lit.int .i64 x.f2).wf = true ∧ (Lit.int .i64 x.f3).wf = true) → ∃ k, ephemeriskeep2_ChronContains.f k l0 l1 = some true

/-- THE ONE PURE STATEMENT of ephemeriskeep2_ChronEarliest. -/
def ephemeriskeep2_ChronEarliest.Pure : Prop := ∀ (l0 : List Int) (l1 : List (S44)) (a2 : Int), l0.length ≤ maxLen → l0.length * 8 ≤ 140737488351232 → (∀ x ∈ l0, (Lit.int .i64 x).wf = true) → l1.length ≤ maxLen → (∀ x ∈ l1, (Lit.int .i64 x.f0).wf = true ∧ (Lit.int .i64 x.f1).wf = true ∧ (Lit.int .i64 x.f2).wf = true ∧ (Lit.int .i64 x.f3).wf = true) → (Lit.int .i64 a2).wf = true → ∃ k, ephemeriskeep2_ChronEarliest.f k l0 l1 a2 = some true

end Go.Proofs.Ytglkadgdmdgckaa.JB
