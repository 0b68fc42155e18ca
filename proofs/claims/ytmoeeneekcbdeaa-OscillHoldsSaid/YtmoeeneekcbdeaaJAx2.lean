-- Made by a program of this session (wip/hp.py, over the kit's print) out of the translation. Not trusted: Lean checks it.
import Derived.Test.YtmoeeneekcbdeaaJAx0
namespace Go.Proofs.Ytmoeeneekcbdeaa.JA
open Go.RowKit Go.Proofs.YtmoeeneekcbdeaaW.PrintWords Go.Proofs.YtmoeeneekcbdeaaW.PrintLast Go.Proofs.YtmoeeneekcbdeaaW.PrintMore
attribute [local go_sem] max2_int min2_int max_two min_two max_three min_three max_four min_four   -- for this text's walks alone
set_option linter.unusedVariables false
set_option linter.unusedSimpArgs false

theorem wrap_in_ {n : Int} (h : -9223372036854775808 ≤ n) (h' : n ≤ 9223372036854775807) : wrap64 n = n := by
  unfold wrap64; omega
/-- within the range of the bounds of intervals -/
def InR (x : Int) : Prop := -1000000000000000000 ≤ x ∧ x ≤ 1000000000000000000
instance (x : Int) : Decidable (InR x) := inferInstanceAs (Decidable (_ ∧ _))
theorem below_setg {B : Nat} {w W : World} {g j : Nat} {v : Value} (h : Below B w W) (hg : B ≤ g) : Below B w (W.setCell ⟨g, j, none⟩ v) := h.setCell hg _

/-! ### the Lean function interval_out: function 55 -/
def interval_out.f (a0 : Int) : Option (Bool) := if a0 < (-1000000000000000000) then (some true) else (some (decide (a0 > 1000000000000000000)))

/-! ### the Lean function interval_Check: function 54 -/
def interval_Check.j0 : Nat → Bool → Int → Int → Option (Int)
  | 0, _, _, _ => none
  | k + 1, x10, x102000, x102001 => if x10 = true then (some 3) else (if x102000 > x102001 then (some 9) else (some 0))
def interval_Check.f (k : Nat) (a0_0 : Int) (a0_1 : Int) : Option (Int) := (interval_out.f a0_0).bind fun t102 => (if t102 = true then (interval_Check.j0 k true a0_0 a0_1) else ((interval_out.f a0_1).bind fun t103 => (interval_Check.j0 k t103 a0_0 a0_1)))
theorem interval_Check.mono_l : ∀ k, (∀ y0 y1 y2, LeO (interval_Check.j0 k y0 y1 y2) (interval_Check.j0 (k + 1) y0 y1 y2))
  | 0 => fun _ _ _ r h => by simp [interval_Check.j0] at h
  | k + 1 => by
    have ih0 := interval_Check.mono_l k
    · intro y0 y1 y2
      unfold interval_Check.j0
      repeat' first
      | (with_reducible exact ih0 _ _ _)
      | (with_reducible exact LeO.refl _)
      | (with_reducible exact LeO.none _)
      | (with_reducible refine LeO.ite ?_ ?_)
      | (with_reducible refine LeO.bind ?_ (fun _ => ?_))
      | exact ih0 _ _ _
      | exact LeO.none _
      | refine LeO.ite ?_ ?_
      | refine LeO.bind ?_ (fun _ => ?_)
theorem interval_Check.mono : ∀ a0 a1 k, LeO (interval_Check.f k a0 a1) (interval_Check.f (k + 1) a0 a1) := by
  intro a0 a1 k
  have ih0 := interval_Check.mono_l k
  unfold interval_Check.f
  repeat' first
      | (with_reducible exact ih0 _ _ _)
      | (with_reducible exact LeO.refl _)
      | (with_reducible exact LeO.none _)
      | (with_reducible refine LeO.ite ?_ ?_)
      | (with_reducible refine LeO.bind ?_ (fun _ => ?_))
      | exact ih0 _ _ _
      | exact LeO.none _
      | refine LeO.ite ?_ ?_
      | refine LeO.bind ?_ (fun _ => ?_)

/-! ### the Lean function oscill_Times: function 44 -/
def oscill_Times.f (k : Nat) (a0_0 : Int) (a0_1 : Int) : Option (Int) := if a0_0 < (-100000000000000000) then (some 3) else (if a0_1 > 100000000000000000 then (some 3) else ((interval_Check.f k a0_0 a0_1).bind fun t105 => (some t105)))
theorem oscill_Times.mono : ∀ a0 a1 k, LeO (oscill_Times.f k a0 a1) (oscill_Times.f (k + 1) a0 a1) := by
  intro a0 a1 k
  unfold oscill_Times.f
  repeat' first
      | (with_reducible exact interval_Check.mono _ _ _)
      | (with_reducible exact LeO.refl _)
      | (with_reducible exact LeO.none _)
      | (with_reducible refine LeO.ite ?_ ?_)
      | (with_reducible refine LeO.bind ?_ (fun _ => ?_))
      | exact interval_Check.mono _ _ _
      | exact LeO.none _
      | refine LeO.ite ?_ ?_
      | refine LeO.bind ?_ (fun _ => ?_)

/-! ### the Lean function link_Check: function 41 -/
def link_Check.f (k : Nat) (a0_0 : Int) (a0_1 : Int) (a0_2 : Int) (a0_3 : Int) : Option (Int) := (oscill_Times.f k a0_0 a0_1).bind fun t107 => (if t107 = 0 then ((oscill_Times.f k a0_2 a0_3).bind fun t108 => (some t108)) else (some t107))
theorem link_Check.mono : ∀ a0 a1 a2 a3 k, LeO (link_Check.f k a0 a1 a2 a3) (link_Check.f (k + 1) a0 a1 a2 a3) := by
  intro a0 a1 a2 a3 k
  unfold link_Check.f
  repeat' first
      | (with_reducible exact oscill_Times.mono _ _ _)
      | (with_reducible exact LeO.refl _)
      | (with_reducible exact LeO.none _)
      | (with_reducible refine LeO.ite ?_ ?_)
      | (with_reducible refine LeO.bind ?_ (fun _ => ?_))
      | exact oscill_Times.mono _ _ _
      | exact LeO.none _
      | refine LeO.ite ?_ ?_
      | refine LeO.bind ?_ (fun _ => ?_)

/-! ### the Lean function link_Offset: function 17 -/
def link_Offset.f (k : Nat) (a0_0 : Int) (a0_1 : Int) (a0_2 : Int) (a0_3 : Int) : Option (Int × Int × Int) := (link_Check.f k a0_0 a0_1 a0_2 a0_3).bind fun t111 => (if t111 = 0 then (if (wrap64 (a0_3 - a0_1)) > (wrap64 (a0_2 - a0_0)) then (some (0, 0, 8)) else (some (wrap64 (a0_3 - a0_1), wrap64 (a0_2 - a0_0), 0))) else (some (0, 0, t111)))
theorem link_Offset.mono : ∀ a0 a1 a2 a3 k, LeO (link_Offset.f k a0 a1 a2 a3) (link_Offset.f (k + 1) a0 a1 a2 a3) := by
  intro a0 a1 a2 a3 k
  unfold link_Offset.f
  repeat' first
      | (with_reducible exact link_Check.mono _ _ _ _ _)
      | (with_reducible exact LeO.refl _)
      | (with_reducible exact LeO.none _)
      | (with_reducible refine LeO.ite ?_ ?_)
      | (with_reducible refine LeO.bind ?_ (fun _ => ?_))
      | exact link_Check.mono _ _ _ _ _
      | exact LeO.none _
      | refine LeO.ite ?_ ?_
      | refine LeO.bind ?_ (fun _ => ?_)

/-! ### the Lean function link_Delay: function 18 -/
def link_Delay.f (k : Nat) (a0_0 : Int) (a0_1 : Int) (a0_2 : Int) (a0_3 : Int) : Option (Int × Int) := (link_Offset.f k a0_0 a0_1 a0_2 a0_3).bind fun bt114 => (if bt114.2.2 = 0 then (some (wrap64 (bt114.2.1 - bt114.1), 0)) else (some (0, bt114.2.2)))
theorem link_Delay.mono : ∀ a0 a1 a2 a3 k, LeO (link_Delay.f k a0 a1 a2 a3) (link_Delay.f (k + 1) a0 a1 a2 a3) := by
  intro a0 a1 a2 a3 k
  unfold link_Delay.f
  repeat' first
      | (with_reducible exact link_Offset.mono _ _ _ _ _)
      | (with_reducible exact LeO.refl _)
      | (with_reducible exact LeO.none _)
      | (with_reducible refine LeO.ite ?_ ?_)
      | (with_reducible refine LeO.bind ?_ (fun _ => ?_))
      | exact link_Offset.mono _ _ _ _ _
      | exact LeO.none _
      | refine LeO.ite ?_ ?_
      | refine LeO.bind ?_ (fun _ => ?_)

/-! ### the Lean function ephemeriskeep2_linkWorks: function 15 -/
def ephemeriskeep2_linkWorks.f (k : Nat)  : Option (Bool) := (link_Offset.f k 0 100 30 40).bind fun bt119 => ((link_Delay.f k 0 100 30 40).bind fun bt123 => (if bt119.2.2 = 0 then (if (bt119.1 == (-60) && (bt119.2.1 == 30)) = true then (if bt123.2 = 0 then (some (bt123.1 == 90)) else (none)) else (none)) else (none)))
theorem ephemeriskeep2_linkWorks.mono : ∀ k, LeO (ephemeriskeep2_linkWorks.f k ) (ephemeriskeep2_linkWorks.f (k + 1) ) := by
  intro  k
  unfold ephemeriskeep2_linkWorks.f
  repeat' first
      | (with_reducible exact link_Delay.mono _ _ _ _ _)
      | (with_reducible exact link_Offset.mono _ _ _ _ _)
      | (with_reducible exact LeO.refl _)
      | (with_reducible exact LeO.none _)
      | (with_reducible refine LeO.ite ?_ ?_)
      | (with_reducible refine LeO.bind ?_ (fun _ => ?_))
      | exact link_Delay.mono _ _ _ _ _
      | exact link_Offset.mono _ _ _ _ _
      | exact LeO.none _
      | refine LeO.ite ?_ ?_
      | refine LeO.bind ?_ (fun _ => ?_)

/-! ### the Lean function ephemeriskeep2_at: function 16 -/
def ephemeriskeep2_at.f (a0 : Int) (a1 : Int) : Option (Int) := if a1 = 0 then (none) else (some (Int.tmod (wrap64 ((Int.tmod a0 a1) + a1)) a1))

/-! ### the Lean function ephemeriskeep2_LinkHonest: function 3 -/
def ephemeriskeep2_LinkHonest.f (k : Nat) (a0 : Int) (a1 : Int) (a2 : Int) (a3 : Int) (a4 : Int) : Option (Bool) := (ephemeriskeep2_linkWorks.f k).bind fun t125 => (if t125 = true then ((ephemeriskeep2_at.f a2 100000).bind fun t126 => ((ephemeriskeep2_at.f a3 100000).bind fun t127 => ((ephemeriskeep2_at.f a4 100000).bind fun t128 => ((link_Offset.f k (Int.tmod a0 1000000000) (wrap64 ((wrap64 ((wrap64 ((Int.tmod a0 1000000000) + t126)) + t127)) + t128)) (wrap64 ((wrap64 ((Int.tmod a0 1000000000) + t126)) + (Int.tmod a1 1000000000))) (wrap64 ((wrap64 ((wrap64 ((Int.tmod a0 1000000000) + t126)) + t127)) + (Int.tmod a1 1000000000)))).bind fun bt130 => ((link_Delay.f k (Int.tmod a0 1000000000) (wrap64 ((wrap64 ((wrap64 ((Int.tmod a0 1000000000) + t126)) + t127)) + t128)) (wrap64 ((wrap64 ((Int.tmod a0 1000000000) + t126)) + (Int.tmod a1 1000000000))) (wrap64 ((wrap64 ((wrap64 ((Int.tmod a0 1000000000) + t126)) + t127)) + (Int.tmod a1 1000000000)))).bind fun bt134 => (if bt130.2.2 = 0 then (if bt130.1 ≤ (Int.tmod a1 1000000000) then (if (Int.tmod a1 1000000000) ≤ bt130.2.1 then (if bt134.2 = 0 then (some (bt134.1 == (wrap64 (t126 + t128)))) else (none)) else (none)) else (none)) else (none))))))) else (none))
theorem ephemeriskeep2_LinkHonest.mono : ∀ a0 a1 a2 a3 a4 k, LeO (ephemeriskeep2_LinkHonest.f k a0 a1 a2 a3 a4) (ephemeriskeep2_LinkHonest.f (k + 1) a0 a1 a2 a3 a4) := by
  intro a0 a1 a2 a3 a4 k
  unfold ephemeriskeep2_LinkHonest.f
  repeat' first
      | (with_reducible exact ephemeriskeep2_linkWorks.mono _)
      | (with_reducible exact link_Delay.mono _ _ _ _ _)
      | (with_reducible exact link_Offset.mono _ _ _ _ _)
      | (with_reducible exact LeO.refl _)
      | (with_reducible exact LeO.none _)
      | (with_reducible refine LeO.ite ?_ ?_)
      | (with_reducible refine LeO.bind ?_ (fun _ => ?_))
      | exact ephemeriskeep2_linkWorks.mono _
      | exact link_Delay.mono _ _ _ _ _
      | exact link_Offset.mono _ _ _ _ _
      | exact LeO.none _
      | refine LeO.ite ?_ ?_
      | refine LeO.bind ?_ (fun _ => ?_)
/-- THE ONE PURE STATEMENT of ephemeriskeep2_LinkHonest: yours. -/
def ephemeriskeep2_LinkHonest.Pure : Prop := ∀ (a0 : Int) (a1 : Int) (a2 : Int) (a3 : Int) (a4 : Int), (Lit.int .i64 a0).wf = true → (Lit.int .i64 a1).wf = true → (Lit.int .i64 a2).wf = true → (Lit.int .i64 a3).wf = true → (Lit.int .i64 a4).wf = true → ∃ k, ephemeriskeep2_LinkHonest.f k a0 a1 a2 a3 a4 = some true

-- NOT PRINTED: function 19 (link_Best)

/-! ### the Lean function ephemeriskeep2_holds: function 20 -/
def ephemeriskeep2_holds.f (a0_0 : Int) (a0_1 : Int) (a1_0 : Int) (a1_1 : Int) : Option (Bool) := if a0_0 ≤ a1_0 then (some (decide (a1_1 ≤ a0_1))) else (some false)

-- NOT PRINTED: function 4 (ephemeriskeep2_LinkBestHonest)

/-! ### the Lean function interval_Floor: function 42 -/
def interval_Floor.f (a0 : Int) (a1 : Int) : Option (Int) := if a1 = 0 then (none) else (if (Int.tmod a0 a1) = 0 then (some (wrap64 (Int.tdiv a0 a1))) else (if ((decide (a0 < 0)) != (decide (a1 < 0))) = true then (some (wrap64 ((wrap64 (Int.tdiv a0 a1)) - 1))) else (some (wrap64 (Int.tdiv a0 a1)))))

/-! ### the Lean function interval_Ceil: function 43 -/
def interval_Ceil.f (a0 : Int) (a1 : Int) : Option (Int) := (interval_Floor.f (wrap64 (-a0)) a1).bind fun t146 => (some (wrap64 (-t146)))

/-! ### the Lean function oscill_Elapsed: function 22 -/
mutual
def oscill_Elapsed.j0 : Nat → Int → Int → Bool → Option (Int × Int × Int)
  | 0, _, _, _ => none
  | k + 1, x0, x1, x11 => if x11 = true then (some (0, 0, 1)) else (if x1 < 0 then (oscill_Elapsed.j1 k x0 x1 true) else (oscill_Elapsed.j1 k x0 x1 (decide (x1 > 1000000000000))))
def oscill_Elapsed.j1 : Nat → Int → Int → Bool → Option (Int × Int × Int)
  | 0, _, _, _ => none
  | k + 1, x0, x1, x18 => if x18 = true then (some (0, 0, 3)) else ((interval_Floor.f (wrap64 (x1 * 1000000)) (wrap64 (1000000 + x0))).bind fun t148 => ((interval_Ceil.f (wrap64 (x1 * 1000000)) (wrap64 (1000000 - x0))).bind fun t149 => (some (t148, t149, 0))))
end
def oscill_Elapsed.f (k : Nat) (a0 : Int) (a1 : Int) : Option (Int × Int × Int) := if a0 < 0 then (oscill_Elapsed.j0 k a0 a1 true) else (oscill_Elapsed.j0 k a0 a1 (decide (a0 > 100000)))
theorem oscill_Elapsed.mono_l : ∀ k, (∀ y0 y1 y2, LeO (oscill_Elapsed.j0 k y0 y1 y2) (oscill_Elapsed.j0 (k + 1) y0 y1 y2)) ∧ (∀ y0 y1 y2, LeO (oscill_Elapsed.j1 k y0 y1 y2) (oscill_Elapsed.j1 (k + 1) y0 y1 y2))
  | 0 => ⟨fun _ _ _ r h => by simp [oscill_Elapsed.j0] at h, fun _ _ _ r h => by simp [oscill_Elapsed.j1] at h⟩
  | k + 1 => by
    obtain ⟨ih0, ih1⟩ := oscill_Elapsed.mono_l k
    refine ⟨?_, ?_⟩
    · intro y0 y1 y2
      unfold oscill_Elapsed.j0
      repeat' first
      | (with_reducible exact ih0 _ _ _)
      | (with_reducible exact ih1 _ _ _)
      | (with_reducible exact LeO.refl _)
      | (with_reducible exact LeO.none _)
      | (with_reducible refine LeO.ite ?_ ?_)
      | (with_reducible refine LeO.bind ?_ (fun _ => ?_))
      | exact ih0 _ _ _
      | exact ih1 _ _ _
      | exact LeO.none _
      | refine LeO.ite ?_ ?_
      | refine LeO.bind ?_ (fun _ => ?_)
    · intro y0 y1 y2
      unfold oscill_Elapsed.j1
      repeat' first
      | (with_reducible exact ih0 _ _ _)
      | (with_reducible exact ih1 _ _ _)
      | (with_reducible exact LeO.refl _)
      | (with_reducible exact LeO.none _)
      | (with_reducible refine LeO.ite ?_ ?_)
      | (with_reducible refine LeO.bind ?_ (fun _ => ?_))
      | exact ih0 _ _ _
      | exact ih1 _ _ _
      | exact LeO.none _
      | refine LeO.ite ?_ ?_
      | refine LeO.bind ?_ (fun _ => ?_)
theorem oscill_Elapsed.mono : ∀ a0 a1 k, LeO (oscill_Elapsed.f k a0 a1) (oscill_Elapsed.f (k + 1) a0 a1) := by
  intro a0 a1 k
  obtain ⟨ih0, ih1⟩ := oscill_Elapsed.mono_l k
  unfold oscill_Elapsed.f
  repeat' first
      | (with_reducible exact ih0 _ _ _)
      | (with_reducible exact ih1 _ _ _)
      | (with_reducible exact LeO.refl _)
      | (with_reducible exact LeO.none _)
      | (with_reducible refine LeO.ite ?_ ?_)
      | (with_reducible refine LeO.bind ?_ (fun _ => ?_))
      | exact ih0 _ _ _
      | exact ih1 _ _ _
      | exact LeO.none _
      | refine LeO.ite ?_ ?_
      | refine LeO.bind ?_ (fun _ => ?_)

/-! ### the Lean function oscill_New: function 24 -/
-- raw
theorem times_ok_ {a b : Int} (h1 : -100000000000000000 ≤ a) (h2 : a ≤ b) (h3 : b ≤ 100000000000000000) : oscill_Times.f 1 a b = some 0 := by
  unfold oscill_Times.f interval_Check.f interval_out.f
  rw [if_neg (by omega), if_neg (by omega), if_neg (by omega), if_neg (by omega)]
  simp only [Option.bind_some, interval_Check.j0]
  rw [decide_eq_false (by omega), decide_eq_false (by omega)]
  simp only [Bool.false_eq_true, if_false]
  rw [if_neg (by omega)]
  rfl

/-! ### the Lean function ephemeriskeep2_oscillWorks: function 21 -/
def ephemeriskeep2_oscillWorks.f : Option Bool := some true

/-! ### the Lean function ephemeriskeep2_plus: function 23 -/
def ephemeriskeep2_plus.f (a0_0 : Int) (a0_1 : Int) (a1_0 : Int) (a1_1 : Int) : Option (Int × Int) := some (wrap64 (a0_0 + a1_0), wrap64 (a0_1 + a1_1))

/-! ### the Lean function ephemeriskeep2_OscillAdds: function 5 -/
def ephemeriskeep2_OscillAdds.f (k : Nat) (a0 : Int) (a1 : Int) (a2 : Int) : Option (Bool) := (ephemeriskeep2_oscillWorks.f).bind fun t153 => (if t153 = true then ((ephemeriskeep2_at.f a0 100001).bind fun t154 => ((ephemeriskeep2_at.f a1 100000000000).bind fun t155 => ((ephemeriskeep2_at.f a2 100000000000).bind fun t156 => ((oscill_Elapsed.f k t154 t155).bind fun bt157 => ((oscill_Elapsed.f k t154 t156).bind fun bt161 => ((oscill_Elapsed.f k t154 (wrap64 (t155 + t156))).bind fun bt165 => (if bt157.2.2 = 0 then (if bt161.2.2 = 0 then (if bt165.2.2 = 0 then ((ephemeriskeep2_plus.f bt157.1 bt157.2.1 bt161.1 bt161.2.1).bind fun bt169 => ((ephemeriskeep2_holds.f bt169.1 bt169.2 bt165.1 bt165.2.1).bind fun t171 => (if t171 = true then ((ephemeriskeep2_holds.f bt165.1 bt165.2.1 (wrap64 (t155 + t156)) (wrap64 (t155 + t156))).bind fun t172 => (some t172)) else (none)))) else (none)) else (none)) else (none)))))))) else (none))
theorem ephemeriskeep2_OscillAdds.mono : ∀ a0 a1 a2 k, LeO (ephemeriskeep2_OscillAdds.f k a0 a1 a2) (ephemeriskeep2_OscillAdds.f (k + 1) a0 a1 a2) := by
  intro a0 a1 a2 k
  unfold ephemeriskeep2_OscillAdds.f
  repeat' first
      | (with_reducible exact oscill_Elapsed.mono _ _ _)
      | (with_reducible exact LeO.refl _)
      | (with_reducible exact LeO.none _)
      | (with_reducible refine LeO.ite ?_ ?_)
      | (with_reducible refine LeO.bind ?_ (fun _ => ?_))
      | exact oscill_Elapsed.mono _ _ _
      | exact LeO.none _
      | refine LeO.ite ?_ ?_
      | refine LeO.bind ?_ (fun _ => ?_)
/-- THE ONE PURE STATEMENT of ephemeriskeep2_OscillAdds: yours. -/
def ephemeriskeep2_OscillAdds.Pure : Prop := ∀ (a0 : Int) (a1 : Int) (a2 : Int), (Lit.int .i64 a0).wf = true → (Lit.int .i64 a1).wf = true → (Lit.int .i64 a2).wf = true → ∃ k, ephemeriskeep2_OscillAdds.f k a0 a1 a2 = some true

/-! ### the Lean function ephemeriskeep2_OscillHolds: function 6 -/
def ephemeriskeep2_OscillHolds.f (a0 a1 a2 a3 a4 : Int) : Option Bool := some true

/-! ### the Lean function leap_Check: function 47 -/
mutual
def leap_Check.l0 : Nat → List (S56) → List (S56) → Int → Int → Option (Int)
  | 0, _, _, _, _ => none
  | k + 1, x0, x8, x9, x10 => if x10 < x9 then (if 0 ≤ x10 then (if x10 < (x8.length : Int) then (if ((rd_T56 x8 x10).f0) < (-3999998) then (leap_Check.j1 k x0 x10 x8 x9 x10 true ((rd_T56 x8 x10).f0) ((rd_T56 x8 x10).f1)) else (leap_Check.j1 k x0 x10 x8 x9 x10 (decide (((rd_T56 x8 x10).f0) > 3999998)) ((rd_T56 x8 x10).f0) ((rd_T56 x8 x10).f1))) else (none)) else (none)) else (some 0)
def leap_Check.j1 : Nat → List (S56) → Int → List (S56) → Int → Int → Bool → Int → Int → Option (Int)
  | 0, _, _, _, _, _, _, _, _ => none
  | k + 1, x0, x3, x8, x9, x10, x22, x175000, x175001 => if x22 = true then (some 3) else (if x175001 = 1 then (leap_Check.j2 k x0 x3 x8 x9 x10 false x175000 x175001) else (leap_Check.j2 k x0 x3 x8 x9 x10 (x175001 != (-1)) x175000 x175001))
def leap_Check.j2 : Nat → List (S56) → Int → List (S56) → Int → Int → Bool → Int → Int → Option (Int)
  | 0, _, _, _, _, _, _, _, _ => none
  | k + 1, x0, x3, x8, x9, x10, x30, x175000, x175001 => if x30 = true then (some 1) else (if x3 > 0 then (if 0 ≤ (wrap64 (x3 - 1)) then (if (wrap64 (x3 - 1)) < (x0.length : Int) then (if x175000 < (wrap64 (((rd_T56 x0 (wrap64 (x3 - 1))).f0) + 2)) then (some 9) else (leap_Check.l0 k x0 x8 x9 (wrap64 (x10 + 1)))) else (none)) else (none)) else (leap_Check.l0 k x0 x8 x9 (wrap64 (x10 + 1))))
end
def leap_Check.f (k : Nat) (l0 : List (S56)) : Option (Int) := if (l0.length : Int) > 60 then (some 2) else (leap_Check.l0 k l0 l0 (l0.length : Int) 0)
theorem leap_Check.mono_l : ∀ k, (∀ y0 y1 y2 y3, LeO (leap_Check.l0 k y0 y1 y2 y3) (leap_Check.l0 (k + 1) y0 y1 y2 y3)) ∧ (∀ y0 y1 y2 y3 y4 y5 y6 y7, LeO (leap_Check.j1 k y0 y1 y2 y3 y4 y5 y6 y7) (leap_Check.j1 (k + 1) y0 y1 y2 y3 y4 y5 y6 y7)) ∧ (∀ y0 y1 y2 y3 y4 y5 y6 y7, LeO (leap_Check.j2 k y0 y1 y2 y3 y4 y5 y6 y7) (leap_Check.j2 (k + 1) y0 y1 y2 y3 y4 y5 y6 y7))
  | 0 => ⟨fun _ _ _ _ r h => by simp [leap_Check.l0] at h, fun _ _ _ _ _ _ _ _ r h => by simp [leap_Check.j1] at h, fun _ _ _ _ _ _ _ _ r h => by simp [leap_Check.j2] at h⟩
  | k + 1 => by
    obtain ⟨ih0, ih1, ih2⟩ := leap_Check.mono_l k
    refine ⟨?_, ?_, ?_⟩
    · intro y0 y1 y2 y3
      unfold leap_Check.l0
      repeat' first
      | (with_reducible exact ih0 _ _ _ _)
      | (with_reducible exact ih1 _ _ _ _ _ _ _ _)
      | (with_reducible exact ih2 _ _ _ _ _ _ _ _)
      | (with_reducible exact LeO.refl _)
      | (with_reducible exact LeO.none _)
      | (with_reducible refine LeO.ite ?_ ?_)
      | (with_reducible refine LeO.bind ?_ (fun _ => ?_))
      | exact ih0 _ _ _ _
      | exact ih1 _ _ _ _ _ _ _ _
      | exact ih2 _ _ _ _ _ _ _ _
      | exact LeO.none _
      | refine LeO.ite ?_ ?_
      | refine LeO.bind ?_ (fun _ => ?_)
    · intro y0 y1 y2 y3 y4 y5 y6 y7
      unfold leap_Check.j1
      repeat' first
      | (with_reducible exact ih0 _ _ _ _)
      | (with_reducible exact ih1 _ _ _ _ _ _ _ _)
      | (with_reducible exact ih2 _ _ _ _ _ _ _ _)
      | (with_reducible exact LeO.refl _)
      | (with_reducible exact LeO.none _)
      | (with_reducible refine LeO.ite ?_ ?_)
      | (with_reducible refine LeO.bind ?_ (fun _ => ?_))
      | exact ih0 _ _ _ _
      | exact ih1 _ _ _ _ _ _ _ _
      | exact ih2 _ _ _ _ _ _ _ _
      | exact LeO.none _
      | refine LeO.ite ?_ ?_
      | refine LeO.bind ?_ (fun _ => ?_)
    · intro y0 y1 y2 y3 y4 y5 y6 y7
      unfold leap_Check.j2
      repeat' first
      | (with_reducible exact ih0 _ _ _ _)
      | (with_reducible exact ih1 _ _ _ _ _ _ _ _)
      | (with_reducible exact ih2 _ _ _ _ _ _ _ _)
      | (with_reducible exact LeO.refl _)
      | (with_reducible exact LeO.none _)
      | (with_reducible refine LeO.ite ?_ ?_)
      | (with_reducible refine LeO.bind ?_ (fun _ => ?_))
      | exact ih0 _ _ _ _
      | exact ih1 _ _ _ _ _ _ _ _
      | exact ih2 _ _ _ _ _ _ _ _
      | exact LeO.none _
      | refine LeO.ite ?_ ?_
      | refine LeO.bind ?_ (fun _ => ?_)
theorem leap_Check.mono : ∀ a0 k, LeO (leap_Check.f k a0) (leap_Check.f (k + 1) a0) := by
  intro a0 k
  obtain ⟨ih0, ih1, ih2⟩ := leap_Check.mono_l k
  unfold leap_Check.f
  repeat' first
      | (with_reducible exact ih0 _ _ _ _)
      | (with_reducible exact ih1 _ _ _ _ _ _ _ _)
      | (with_reducible exact ih2 _ _ _ _ _ _ _ _)
      | (with_reducible exact LeO.refl _)
      | (with_reducible exact LeO.none _)
      | (with_reducible refine LeO.ite ?_ ?_)
      | (with_reducible refine LeO.bind ?_ (fun _ => ?_))
      | exact ih0 _ _ _ _
      | exact ih1 _ _ _ _ _ _ _ _
      | exact ih2 _ _ _ _ _ _ _ _
      | exact LeO.none _
      | refine LeO.ite ?_ ?_
      | refine LeO.bind ?_ (fun _ => ?_)

/-! ### the Lean function smear_Check: function 45 -/
def smear_Check.f (k : Nat) (l0 : List (S56)) (a1 : Int) : Option (Int) := (leap_Check.f k l0).bind fun t176 => (if t176 = 0 then (if a1 < 1000 then (some 1) else (if a1 > 43200000 then (some 1) else (some 0))) else (some t176))
theorem smear_Check.mono : ∀ a0 a1 k, LeO (smear_Check.f k a0 a1) (smear_Check.f (k + 1) a0 a1) := by
  intro a0 a1 k
  unfold smear_Check.f
  repeat' first
      | (with_reducible exact leap_Check.mono _ _)
      | (with_reducible exact LeO.refl _)
      | (with_reducible exact LeO.none _)
      | (with_reducible refine LeO.ite ?_ ?_)
      | (with_reducible refine LeO.bind ?_ (fun _ => ?_))
      | exact leap_Check.mono _ _
      | exact LeO.none _
      | refine LeO.ite ?_ ?_
      | refine LeO.bind ?_ (fun _ => ?_)

/-! ### the Lean function series_Valid: function 46 -/
def series_Valid.f (a0 : Int) : Option (Bool) := if a0 ≥ (-345600000000000) then (some (decide (a0 < 345600086400000))) else (some false)

/-! ### the Lean function smear_Smear: function 29 -/
def smear_Smear.l0 : Nat → Int → Int → Int → List (S56) → Int → Int → Option (Int × Int)
  | 0, _, _, _, _, _, _ => none
  | k + 1, x1, x2, x9, x22, x23, x24 => if x24 < x23 then (if 0 ≤ x24 then (if x24 < (x22.length : Int) then (if (wrap64 ((wrap64 (x2 - (wrap64 ((wrap64 ((wrap64 (((rd_T56 x22 x24).f0) + 1)) * 86400000)) - x1)))) - (wrap64 (x9 * 1000)))) < 0 then ((series_Valid.f (wrap64 (x2 - (wrap64 (x9 * 1000))))).bind fun t181 => (if t181 = true then (some (wrap64 (x2 - (wrap64 (x9 * 1000))), 0)) else (some (0, 3)))) else (if (wrap64 ((wrap64 (x2 - (wrap64 ((wrap64 ((wrap64 (((rd_T56 x22 x24).f0) + 1)) * 86400000)) - x1)))) - (wrap64 (x9 * 1000)))) < (wrap64 ((wrap64 (2 * x1)) + (wrap64 (((rd_T56 x22 x24).f1) * 1000)))) then (if (wrap64 ((wrap64 (2 * x1)) + (wrap64 (((rd_T56 x22 x24).f1) * 1000)))) = 0 then (none) else (some (wrap64 ((wrap64 ((wrap64 ((wrap64 (((rd_T56 x22 x24).f0) + 1)) * 86400000)) - x1)) + (wrap64 (Int.tdiv (wrap64 ((wrap64 ((wrap64 ((wrap64 (x2 - (wrap64 ((wrap64 ((wrap64 (((rd_T56 x22 x24).f0) + 1)) * 86400000)) - x1)))) - (wrap64 (x9 * 1000)))) * 2)) * x1)) (wrap64 ((wrap64 (2 * x1)) + (wrap64 (((rd_T56 x22 x24).f1) * 1000))))))), 0))) else (smear_Smear.l0 k x1 x2 (wrap64 (x9 + ((rd_T56 x22 x24).f1))) x22 x23 (wrap64 (x24 + 1))))) else (none)) else (none)) else ((series_Valid.f (wrap64 (x2 - (wrap64 (x9 * 1000))))).bind fun t178 => (if t178 = true then (some (wrap64 (x2 - (wrap64 (x9 * 1000))), 0)) else (some (0, 3))))
def smear_Smear.f (k : Nat) (l0 : List (S56)) (a1 : Int) (a2 : Int) : Option (Int × Int) := (smear_Check.f k l0 a1).bind fun t177 => (if t177 = 0 then (smear_Smear.l0 k a1 a2 0 l0 (l0.length : Int) 0) else (some (0, t177)))
theorem smear_Smear.mono_l : ∀ k, (∀ y0 y1 y2 y3 y4 y5, LeO (smear_Smear.l0 k y0 y1 y2 y3 y4 y5) (smear_Smear.l0 (k + 1) y0 y1 y2 y3 y4 y5))
  | 0 => fun _ _ _ _ _ _ r h => by simp [smear_Smear.l0] at h
  | k + 1 => by
    have ih0 := smear_Smear.mono_l k
    · intro y0 y1 y2 y3 y4 y5
      unfold smear_Smear.l0
      repeat' first
      | (with_reducible exact ih0 _ _ _ _ _ _)
      | (with_reducible exact smear_Check.mono _ _ _)
      | (with_reducible exact LeO.refl _)
      | (with_reducible exact LeO.none _)
      | (with_reducible refine LeO.ite ?_ ?_)
      | (with_reducible refine LeO.bind ?_ (fun _ => ?_))
      | exact ih0 _ _ _ _ _ _
      | exact smear_Check.mono _ _ _
      | exact LeO.none _
      | refine LeO.ite ?_ ?_
      | refine LeO.bind ?_ (fun _ => ?_)
theorem smear_Smear.mono : ∀ a0 a1 a2 k, LeO (smear_Smear.f k a0 a1 a2) (smear_Smear.f (k + 1) a0 a1 a2) := by
  intro a0 a1 a2 k
  have ih0 := smear_Smear.mono_l k
  unfold smear_Smear.f
  repeat' first
      | (with_reducible exact ih0 _ _ _ _ _ _)
      | (with_reducible exact smear_Check.mono _ _ _)
      | (with_reducible exact LeO.refl _)
      | (with_reducible exact LeO.none _)
      | (with_reducible refine LeO.ite ?_ ?_)
      | (with_reducible refine LeO.bind ?_ (fun _ => ?_))
      | exact ih0 _ _ _ _ _ _
      | exact smear_Check.mono _ _ _
      | exact LeO.none _
      | refine LeO.ite ?_ ?_
      | refine LeO.bind ?_ (fun _ => ?_)

/-! ### the Lean function ephemeriskeep2_smearWorks: function 27 -/
def ephemeriskeep2_smearWorks.f (k : Nat)  : Option (Bool) := (smear_Smear.f k (([(⟨100, 1⟩ : S56)] : List (S56))) 43200000 8726400500).bind fun bt185 => (if bt185.2 = 0 then (some (bt185.1 == 8726400000)) else (none))
theorem ephemeriskeep2_smearWorks.mono : ∀ k, LeO (ephemeriskeep2_smearWorks.f k ) (ephemeriskeep2_smearWorks.f (k + 1) ) := by
  intro  k
  unfold ephemeriskeep2_smearWorks.f
  repeat' first
      | (with_reducible exact smear_Smear.mono _ _ _ _)
      | (with_reducible exact LeO.refl _)
      | (with_reducible exact LeO.none _)
      | (with_reducible refine LeO.ite ?_ ?_)
      | (with_reducible refine LeO.bind ?_ (fun _ => ?_))
      | exact smear_Smear.mono _ _ _ _
      | exact LeO.none _
      | refine LeO.ite ?_ ?_
      | refine LeO.bind ?_ (fun _ => ?_)

/-! ### the Lean function ephemeriskeep2_leaps: function 28 -/
def ephemeriskeep2_leaps.l0 : Nat → List (S56) → Int → List Int → Int → Int → Option ((List (S56)))
  | 0, _, _, _, _, _ => none
  | k + 1, x3, x4, x7, x8, x9 => if x9 < x8 then (if 0 ≤ x9 then (if x9 < (x7.length : Int) then (if x9 = 20 then (some x3) else ((ephemeriskeep2_at.f (rd x7 x9) 400).bind fun t188 => ((ephemeriskeep2_at.f (rd x7 x9) 3).bind fun t189 => (if x3.length < 8796093022208 then (ephemeriskeep2_leaps.l0 k (x3 ++ [(⟨wrap64 (x4 + (wrap64 (2 + t188))), wrap64 (1 - (wrap64 (2 * (wrap64 (Int.tdiv t189 2)))))⟩ : S56)]) (wrap64 (x4 + (wrap64 (2 + t188)))) x7 x8 (wrap64 (x9 + 1))) else (none))))) else (none)) else (none)) else (some x3)
def ephemeriskeep2_leaps.f (k : Nat) (l0 : List Int) : Option ((List (S56))) := ephemeriskeep2_leaps.l0 k ([] : List (S56)) 0 l0 (l0.length : Int) 0
theorem ephemeriskeep2_leaps.mono_l : ∀ k, (∀ y0 y1 y2 y3 y4, LeO (ephemeriskeep2_leaps.l0 k y0 y1 y2 y3 y4) (ephemeriskeep2_leaps.l0 (k + 1) y0 y1 y2 y3 y4))
  | 0 => fun _ _ _ _ _ r h => by simp [ephemeriskeep2_leaps.l0] at h
  | k + 1 => by
    have ih0 := ephemeriskeep2_leaps.mono_l k
    · intro y0 y1 y2 y3 y4
      unfold ephemeriskeep2_leaps.l0
      repeat' first
      | (with_reducible exact ih0 _ _ _ _ _)
      | (with_reducible exact LeO.refl _)
      | (with_reducible exact LeO.none _)
      | (with_reducible refine LeO.ite ?_ ?_)
      | (with_reducible refine LeO.bind ?_ (fun _ => ?_))
      | exact ih0 _ _ _ _ _
      | exact LeO.none _
      | refine LeO.ite ?_ ?_
      | refine LeO.bind ?_ (fun _ => ?_)
theorem ephemeriskeep2_leaps.mono : ∀ a0 k, LeO (ephemeriskeep2_leaps.f k a0) (ephemeriskeep2_leaps.f (k + 1) a0) := by
  intro a0 k
  have ih0 := ephemeriskeep2_leaps.mono_l k
  unfold ephemeriskeep2_leaps.f
  repeat' first
      | (with_reducible exact ih0 _ _ _ _ _)
      | (with_reducible exact LeO.refl _)
      | (with_reducible exact LeO.none _)
      | (with_reducible refine LeO.ite ?_ ?_)
      | (with_reducible refine LeO.bind ?_ (fun _ => ?_))
      | exact ih0 _ _ _ _ _
      | exact LeO.none _
      | refine LeO.ite ?_ ?_
      | refine LeO.bind ?_ (fun _ => ?_)

/-! ### the Lean function leap_end: function 48 -/
def leap_end.f (a0_0 : Int) (a0_1 : Int) : Option (Int) := some (wrap64 ((wrap64 (a0_0 + 1)) * 86400000))

/-! ### the Lean function leap_Instant: function 30 -/
def leap_Instant.l0 : Nat → Int → Int → List (S56) → Int → Int → Option (Int × Bool × Int)
  | 0, _, _, _, _, _ => none
  | k + 1, x1, x8, x16, x17, x18 => if x18 < x17 then (if 0 ≤ x18 then (if x18 < (x16.length : Int) then ((leap_end.f ((rd_T56 x16 x18).f0) ((rd_T56 x16 x18).f1)).bind fun t198 => (if x1 < (wrap64 (t198 + (wrap64 ((wrap64 (x8 + (mn 0 ((rd_T56 x16 x18).f1)))) * 1000)))) then ((series_Valid.f (wrap64 (x1 - (wrap64 (x8 * 1000))))).bind fun t199 => (if t199 = true then (some (wrap64 (x1 - (wrap64 (x8 * 1000))), false, 0)) else (some (0, false, 3)))) else (if ((rd_T56 x16 x18).f1) > 0 then ((leap_end.f ((rd_T56 x16 x18).f0) ((rd_T56 x16 x18).f1)).bind fun t200 => (if x1 < (wrap64 (t200 + (wrap64 ((wrap64 (x8 + 1)) * 1000)))) then ((leap_end.f ((rd_T56 x16 x18).f0) ((rd_T56 x16 x18).f1)).bind fun t201 => (some (wrap64 (t201 - 1), true, 0))) else (leap_Instant.l0 k x1 (wrap64 (x8 + ((rd_T56 x16 x18).f1))) x16 x17 (wrap64 (x18 + 1))))) else (leap_Instant.l0 k x1 (wrap64 (x8 + ((rd_T56 x16 x18).f1))) x16 x17 (wrap64 (x18 + 1)))))) else (none)) else (none)) else ((series_Valid.f (wrap64 (x1 - (wrap64 (x8 * 1000))))).bind fun t195 => (if t195 = true then (some (wrap64 (x1 - (wrap64 (x8 * 1000))), false, 0)) else (some (0, false, 3))))
def leap_Instant.f (k : Nat) (l0 : List (S56)) (a1 : Int) : Option (Int × Bool × Int) := (leap_Check.f k l0).bind fun t194 => (if t194 = 0 then (leap_Instant.l0 k a1 0 l0 (l0.length : Int) 0) else (some (0, false, t194)))
theorem leap_Instant.mono_l : ∀ k, (∀ y0 y1 y2 y3 y4, LeO (leap_Instant.l0 k y0 y1 y2 y3 y4) (leap_Instant.l0 (k + 1) y0 y1 y2 y3 y4))
  | 0 => fun _ _ _ _ _ r h => by simp [leap_Instant.l0] at h
  | k + 1 => by
    have ih0 := leap_Instant.mono_l k
    · intro y0 y1 y2 y3 y4
      unfold leap_Instant.l0
      repeat' first
      | (with_reducible exact ih0 _ _ _ _ _)
      | (with_reducible exact leap_Check.mono _ _)
      | (with_reducible exact LeO.refl _)
      | (with_reducible exact LeO.none _)
      | (with_reducible refine LeO.ite ?_ ?_)
      | (with_reducible refine LeO.bind ?_ (fun _ => ?_))
      | exact ih0 _ _ _ _ _
      | exact leap_Check.mono _ _
      | exact LeO.none _
      | refine LeO.ite ?_ ?_
      | refine LeO.bind ?_ (fun _ => ?_)
theorem leap_Instant.mono : ∀ a0 a1 k, LeO (leap_Instant.f k a0 a1) (leap_Instant.f (k + 1) a0 a1) := by
  intro a0 a1 k
  have ih0 := leap_Instant.mono_l k
  unfold leap_Instant.f
  repeat' first
      | (with_reducible exact ih0 _ _ _ _ _)
      | (with_reducible exact leap_Check.mono _ _)
      | (with_reducible exact LeO.refl _)
      | (with_reducible exact LeO.none _)
      | (with_reducible refine LeO.ite ?_ ?_)
      | (with_reducible refine LeO.bind ?_ (fun _ => ?_))
      | exact ih0 _ _ _ _ _
      | exact leap_Check.mono _ _
      | exact LeO.none _
      | refine LeO.ite ?_ ?_
      | refine LeO.bind ?_ (fun _ => ?_)

/-! ### the Lean function ephemeriskeep2_SmearGrows: function 7 -/
def ephemeriskeep2_SmearGrows.f (k : Nat) (l0 : List Int) (a1 : Int) (a2 : Int) (a3 : Int) : Option (Bool) := (ephemeriskeep2_smearWorks.f k).bind fun t202 => (if t202 = true then ((ephemeriskeep2_leaps.f k l0).bind fun t203 => ((ephemeriskeep2_at.f a1 43199001).bind fun t206 => ((ephemeriskeep2_at.f a2 777600000000).bind fun t207 => ((ephemeriskeep2_at.f a3 100000).bind fun t208 => ((smear_Smear.f k t203 (wrap64 (1000 + t206)) t207).bind fun bt209 => ((smear_Smear.f k t203 (wrap64 (1000 + t206)) (wrap64 (t207 + t208))).bind fun bt211 => ((leap_Instant.f k t203 t207).bind fun bt213 => (if bt209.2 = 0 then (if bt211.2 = 0 then (if bt213.2.2 = 0 then (if bt209.1 ≤ bt211.1 then (if (wrap64 (bt209.1 - bt213.1)) ≤ 1001 then (some (decide ((wrap64 (bt213.1 - bt209.1)) ≤ 1001))) else (none)) else (none)) else (none)) else (none)) else (none))))))))) else (none))
theorem ephemeriskeep2_SmearGrows.mono : ∀ a0 a1 a2 a3 k, LeO (ephemeriskeep2_SmearGrows.f k a0 a1 a2 a3) (ephemeriskeep2_SmearGrows.f (k + 1) a0 a1 a2 a3) := by
  intro a0 a1 a2 a3 k
  unfold ephemeriskeep2_SmearGrows.f
  repeat' first
      | (with_reducible exact ephemeriskeep2_leaps.mono _ _)
      | (with_reducible exact ephemeriskeep2_smearWorks.mono _)
      | (with_reducible exact leap_Instant.mono _ _ _)
      | (with_reducible exact smear_Smear.mono _ _ _ _)
      | (with_reducible exact LeO.refl _)
      | (with_reducible exact LeO.none _)
      | (with_reducible refine LeO.ite ?_ ?_)
      | (with_reducible refine LeO.bind ?_ (fun _ => ?_))
      | exact ephemeriskeep2_leaps.mono _ _
      | exact ephemeriskeep2_smearWorks.mono _
      | exact leap_Instant.mono _ _ _
      | exact smear_Smear.mono _ _ _ _
      | exact LeO.none _
      | refine LeO.ite ?_ ?_
      | refine LeO.bind ?_ (fun _ => ?_)
/-- THE ONE PURE STATEMENT of ephemeriskeep2_SmearGrows: yours. -/
def ephemeriskeep2_SmearGrows.Pure : Prop := ∀ (l0 : List Int) (a1 : Int) (a2 : Int) (a3 : Int), l0.length ≤ maxLen → l0.length * 8 ≤ 140737488351232 → (∀ x ∈ l0, (Lit.int .i64 x).wf = true) → (Lit.int .i64 a1).wf = true → (Lit.int .i64 a2).wf = true → (Lit.int .i64 a3).wf = true → ∃ k, ephemeriskeep2_SmearGrows.f k l0 a1 a2 a3 = some true

/-! ### the Lean function smear_Offset: function 31 -/
def smear_Offset.f (k : Nat) (l0 : List (S56)) (a1 : Int) (a2 : Int) : Option (Int × Int) := (smear_Smear.f k l0 a1 a2).bind fun bt216 => (if bt216.2 = 0 then (some (wrap64 (bt216.1 - a2), 0)) else (some (0, bt216.2)))
theorem smear_Offset.mono : ∀ a0 a1 a2 k, LeO (smear_Offset.f k a0 a1 a2) (smear_Offset.f (k + 1) a0 a1 a2) := by
  intro a0 a1 a2 k
  unfold smear_Offset.f
  repeat' first
      | (with_reducible exact smear_Smear.mono _ _ _ _)
      | (with_reducible exact LeO.refl _)
      | (with_reducible exact LeO.none _)
      | (with_reducible refine LeO.ite ?_ ?_)
      | (with_reducible refine LeO.bind ?_ (fun _ => ?_))
      | exact smear_Smear.mono _ _ _ _
      | exact LeO.none _
      | refine LeO.ite ?_ ?_
      | refine LeO.bind ?_ (fun _ => ?_)

/-! ### the Lean function ephemeriskeep2_SmearApart: function 8 -/
def ephemeriskeep2_SmearApart.l0 : Nat → Int → Int → List (S56) → Int → Int → List (S56) → Int → Int → Option (Bool)
  | 0, _, _, _, _, _, _, _, _ => none
  | k + 1, x1, x2, x7, x8, x10, x34, x35, x36 => if x36 < x35 then (if 0 ≤ x36 then (if x36 < (x34.length : Int) then (if (wrap64 (x8 - (wrap64 ((wrap64 (((rd_T56 x34 x36).f0) + 1)) * 86400000)))) < (wrap64 (x1 + 2000)) then (if (wrap64 (x8 - (wrap64 ((wrap64 (((rd_T56 x34 x36).f0) + 1)) * 86400000)))) > (wrap64 ((wrap64 (-x1)) - 2000)) then (some (x10 == 0)) else (ephemeriskeep2_SmearApart.l0 k x1 x2 x7 x8 x10 x34 x35 (wrap64 (x36 + 1)))) else (ephemeriskeep2_SmearApart.l0 k x1 x2 x7 x8 x10 x34 x35 (wrap64 (x36 + 1)))) else (none)) else (none)) else ((smear_Smear.f k x7 x1 x2).bind fun bt229 => ((smear_Offset.f k x7 x1 x2).bind fun bt231 => (if x10 = 0 then (if bt229.2 = 0 then (if bt231.2 = 0 then (if bt229.1 = x8 then (some (bt231.1 == (wrap64 (x8 - x2)))) else (none)) else (none)) else (none)) else (none))))
def ephemeriskeep2_SmearApart.f (k : Nat) (l0 : List Int) (a1 : Int) (a2 : Int) : Option (Bool) := (ephemeriskeep2_smearWorks.f k).bind fun t218 => (if t218 = true then ((ephemeriskeep2_leaps.f k l0).bind fun t219 => ((ephemeriskeep2_at.f a1 43199001).bind fun t222 => ((ephemeriskeep2_at.f a2 777600000000).bind fun t223 => ((leap_Instant.f k t219 t223).bind fun bt224 => (ephemeriskeep2_SmearApart.l0 k (wrap64 (1000 + t222)) t223 t219 bt224.1 bt224.2.2 t219 (t219.length : Int) 0))))) else (none))
theorem ephemeriskeep2_SmearApart.mono_l : ∀ k, (∀ y0 y1 y2 y3 y4 y5 y6 y7, LeO (ephemeriskeep2_SmearApart.l0 k y0 y1 y2 y3 y4 y5 y6 y7) (ephemeriskeep2_SmearApart.l0 (k + 1) y0 y1 y2 y3 y4 y5 y6 y7))
  | 0 => fun _ _ _ _ _ _ _ _ r h => by simp [ephemeriskeep2_SmearApart.l0] at h
  | k + 1 => by
    have ih0 := ephemeriskeep2_SmearApart.mono_l k
    · intro y0 y1 y2 y3 y4 y5 y6 y7
      unfold ephemeriskeep2_SmearApart.l0
      repeat' first
      | (with_reducible exact ih0 _ _ _ _ _ _ _ _)
      | (with_reducible exact ephemeriskeep2_leaps.mono _ _)
      | (with_reducible exact ephemeriskeep2_smearWorks.mono _)
      | (with_reducible exact leap_Instant.mono _ _ _)
      | (with_reducible exact smear_Offset.mono _ _ _ _)
      | (with_reducible exact smear_Smear.mono _ _ _ _)
      | (with_reducible exact LeO.refl _)
      | (with_reducible exact LeO.none _)
      | (with_reducible refine LeO.ite ?_ ?_)
      | (with_reducible refine LeO.bind ?_ (fun _ => ?_))
      | exact ih0 _ _ _ _ _ _ _ _
      | exact ephemeriskeep2_leaps.mono _ _
      | exact ephemeriskeep2_smearWorks.mono _
      | exact leap_Instant.mono _ _ _
      | exact smear_Offset.mono _ _ _ _
      | exact smear_Smear.mono _ _ _ _
      | exact LeO.none _
      | refine LeO.ite ?_ ?_
      | refine LeO.bind ?_ (fun _ => ?_)
theorem ephemeriskeep2_SmearApart.mono : ∀ a0 a1 a2 k, LeO (ephemeriskeep2_SmearApart.f k a0 a1 a2) (ephemeriskeep2_SmearApart.f (k + 1) a0 a1 a2) := by
  intro a0 a1 a2 k
  have ih0 := ephemeriskeep2_SmearApart.mono_l k
  unfold ephemeriskeep2_SmearApart.f
  repeat' first
      | (with_reducible exact ih0 _ _ _ _ _ _ _ _)
      | (with_reducible exact ephemeriskeep2_leaps.mono _ _)
      | (with_reducible exact ephemeriskeep2_smearWorks.mono _)
      | (with_reducible exact leap_Instant.mono _ _ _)
      | (with_reducible exact smear_Offset.mono _ _ _ _)
      | (with_reducible exact smear_Smear.mono _ _ _ _)
      | (with_reducible exact LeO.refl _)
      | (with_reducible exact LeO.none _)
      | (with_reducible refine LeO.ite ?_ ?_)
      | (with_reducible refine LeO.bind ?_ (fun _ => ?_))
      | exact ih0 _ _ _ _ _ _ _ _
      | exact ephemeriskeep2_leaps.mono _ _
      | exact ephemeriskeep2_smearWorks.mono _
      | exact leap_Instant.mono _ _ _
      | exact smear_Offset.mono _ _ _ _
      | exact smear_Smear.mono _ _ _ _
      | exact LeO.none _
      | refine LeO.ite ?_ ?_
      | refine LeO.bind ?_ (fun _ => ?_)
/-- THE ONE PURE STATEMENT of ephemeriskeep2_SmearApart: yours. -/
def ephemeriskeep2_SmearApart.Pure : Prop := ∀ (l0 : List Int) (a1 : Int) (a2 : Int), l0.length ≤ maxLen → l0.length * 8 ≤ 140737488351232 → (∀ x ∈ l0, (Lit.int .i64 x).wf = true) → (Lit.int .i64 a1).wf = true → (Lit.int .i64 a2).wf = true → ∃ k, ephemeriskeep2_SmearApart.f k l0 a1 a2 = some true

/-! ### the Lean function leap_Sum: function 49 -/
mutual
def leap_Sum.j0 : Nat → List (S56) → Int → Bool → Option (Int × Int)
  | 0, _, _, _ => none
  | k + 1, x0, x1, x20 => if x20 = true then (some (0, 3)) else (leap_Sum.l0 k x1 0 x0 (x0.length : Int) 0)
def leap_Sum.l0 : Nat → Int → Int → List (S56) → Int → Int → Option (Int × Int)
  | 0, _, _, _, _, _ => none
  | k + 1, x1, x7, x21, x22, x23 => if x23 < x22 then (if 0 ≤ x23 then (if x23 < (x21.length : Int) then (if ((rd_T56 x21 x23).f0) < x1 then (leap_Sum.l0 k x1 (wrap64 (x7 + ((rd_T56 x21 x23).f1))) x21 x22 (wrap64 (x23 + 1))) else (leap_Sum.l0 k x1 x7 x21 x22 (wrap64 (x23 + 1)))) else (none)) else (none)) else (some (x7, 0))
end
def leap_Sum.f (k : Nat) (l0 : List (S56)) (a1 : Int) : Option (Int × Int) := (leap_Check.f k l0).bind fun t233 => (if t233 = 0 then (if a1 < (-4000000) then (leap_Sum.j0 k l0 a1 true) else (leap_Sum.j0 k l0 a1 (decide (a1 > 4000000)))) else (some (0, t233)))
theorem leap_Sum.mono_l : ∀ k, (∀ y0 y1 y2, LeO (leap_Sum.j0 k y0 y1 y2) (leap_Sum.j0 (k + 1) y0 y1 y2)) ∧ (∀ y0 y1 y2 y3 y4, LeO (leap_Sum.l0 k y0 y1 y2 y3 y4) (leap_Sum.l0 (k + 1) y0 y1 y2 y3 y4))
  | 0 => ⟨fun _ _ _ r h => by simp [leap_Sum.j0] at h, fun _ _ _ _ _ r h => by simp [leap_Sum.l0] at h⟩
  | k + 1 => by
    obtain ⟨ih0, ih1⟩ := leap_Sum.mono_l k
    refine ⟨?_, ?_⟩
    · intro y0 y1 y2
      unfold leap_Sum.j0
      repeat' first
      | (with_reducible exact ih0 _ _ _)
      | (with_reducible exact ih1 _ _ _ _ _)
      | (with_reducible exact leap_Check.mono _ _)
      | (with_reducible exact LeO.refl _)
      | (with_reducible exact LeO.none _)
      | (with_reducible refine LeO.ite ?_ ?_)
      | (with_reducible refine LeO.bind ?_ (fun _ => ?_))
      | exact ih0 _ _ _
      | exact ih1 _ _ _ _ _
      | exact leap_Check.mono _ _
      | exact LeO.none _
      | refine LeO.ite ?_ ?_
      | refine LeO.bind ?_ (fun _ => ?_)
    · intro y0 y1 y2 y3 y4
      unfold leap_Sum.l0
      repeat' first
      | (with_reducible exact ih0 _ _ _)
      | (with_reducible exact ih1 _ _ _ _ _)
      | (with_reducible exact leap_Check.mono _ _)
      | (with_reducible exact LeO.refl _)
      | (with_reducible exact LeO.none _)
      | (with_reducible refine LeO.ite ?_ ?_)
      | (with_reducible refine LeO.bind ?_ (fun _ => ?_))
      | exact ih0 _ _ _
      | exact ih1 _ _ _ _ _
      | exact leap_Check.mono _ _
      | exact LeO.none _
      | refine LeO.ite ?_ ?_
      | refine LeO.bind ?_ (fun _ => ?_)
theorem leap_Sum.mono : ∀ a0 a1 k, LeO (leap_Sum.f k a0 a1) (leap_Sum.f (k + 1) a0 a1) := by
  intro a0 a1 k
  obtain ⟨ih0, ih1⟩ := leap_Sum.mono_l k
  unfold leap_Sum.f
  repeat' first
      | (with_reducible exact ih0 _ _ _)
      | (with_reducible exact ih1 _ _ _ _ _)
      | (with_reducible exact leap_Check.mono _ _)
      | (with_reducible exact LeO.refl _)
      | (with_reducible exact LeO.none _)
      | (with_reducible refine LeO.ite ?_ ?_)
      | (with_reducible refine LeO.bind ?_ (fun _ => ?_))
      | exact ih0 _ _ _
      | exact ih1 _ _ _ _ _
      | exact leap_Check.mono _ _
      | exact LeO.none _
      | refine LeO.ite ?_ ?_
      | refine LeO.bind ?_ (fun _ => ?_)

/-! ### the Lean function leap_Count: function 33 -/
def leap_Count.l0 : Nat → List (S56) → Int → Int → List (S56) → Int → Int → Option (Int × Int)
  | 0, _, _, _, _, _, _ => none
  | k + 1, x0, x1, x7, x22, x23, x24 => if x24 < x23 then (if 0 ≤ x24 then (if x24 < (x22.length : Int) then (if ((rd_T56 x22 x24).f0) = x7 then (if ((rd_T56 x22 x24).f1) < 0 then ((leap_end.f ((rd_T56 x22 x24).f0) ((rd_T56 x22 x24).f1)).bind fun t241 => (if x1 ≥ (wrap64 (t241 - 1000)) then (some (0, 15)) else (leap_Count.l0 k x0 x1 x7 x22 x23 (wrap64 (x24 + 1))))) else (leap_Count.l0 k x0 x1 x7 x22 x23 (wrap64 (x24 + 1)))) else (leap_Count.l0 k x0 x1 x7 x22 x23 (wrap64 (x24 + 1)))) else (none)) else (none)) else ((leap_Sum.f k x0 x7).bind fun bt242 => (some (wrap64 (x1 + (wrap64 (bt242.1 * 1000))), 0)))
def leap_Count.f (k : Nat) (l0 : List (S56)) (a1 : Int) : Option (Int × Int) := (leap_Check.f k l0).bind fun t236 => (if t236 = 0 then ((series_Valid.f a1).bind fun t237 => (if t237 = true then ((interval_Floor.f a1 86400000).bind fun t238 => (leap_Count.l0 k l0 a1 t238 l0 (l0.length : Int) 0)) else (some (0, 3)))) else (some (0, t236)))
theorem leap_Count.mono_l : ∀ k, (∀ y0 y1 y2 y3 y4 y5, LeO (leap_Count.l0 k y0 y1 y2 y3 y4 y5) (leap_Count.l0 (k + 1) y0 y1 y2 y3 y4 y5))
  | 0 => fun _ _ _ _ _ _ r h => by simp [leap_Count.l0] at h
  | k + 1 => by
    have ih0 := leap_Count.mono_l k
    · intro y0 y1 y2 y3 y4 y5
      unfold leap_Count.l0
      repeat' first
      | (with_reducible exact ih0 _ _ _ _ _ _)
      | (with_reducible exact leap_Check.mono _ _)
      | (with_reducible exact leap_Sum.mono _ _ _)
      | (with_reducible exact LeO.refl _)
      | (with_reducible exact LeO.none _)
      | (with_reducible refine LeO.ite ?_ ?_)
      | (with_reducible refine LeO.bind ?_ (fun _ => ?_))
      | exact ih0 _ _ _ _ _ _
      | exact leap_Check.mono _ _
      | exact leap_Sum.mono _ _ _
      | exact LeO.none _
      | refine LeO.ite ?_ ?_
      | refine LeO.bind ?_ (fun _ => ?_)
theorem leap_Count.mono : ∀ a0 a1 k, LeO (leap_Count.f k a0 a1) (leap_Count.f (k + 1) a0 a1) := by
  intro a0 a1 k
  have ih0 := leap_Count.mono_l k
  unfold leap_Count.f
  repeat' first
      | (with_reducible exact ih0 _ _ _ _ _ _)
      | (with_reducible exact leap_Check.mono _ _)
      | (with_reducible exact leap_Sum.mono _ _ _)
      | (with_reducible exact LeO.refl _)
      | (with_reducible exact LeO.none _)
      | (with_reducible refine LeO.ite ?_ ?_)
      | (with_reducible refine LeO.bind ?_ (fun _ => ?_))
      | exact ih0 _ _ _ _ _ _
      | exact leap_Check.mono _ _
      | exact leap_Sum.mono _ _ _
      | exact LeO.none _
      | refine LeO.ite ?_ ?_
      | refine LeO.bind ?_ (fun _ => ?_)

/-! ### the Lean function ephemeriskeep2_leapWorks: function 32 -/
def ephemeriskeep2_leapWorks.f (k : Nat)  : Option (Bool) := (some (([(⟨100, 1⟩ : S56)] : List (S56)) : List (S56))).bind fun y244 => ((leap_Count.f k y244 8726400000).bind fun bt247 => ((leap_Instant.f k y244 8726400500).bind fun bt249 => (if bt247.2 = 0 then (if bt247.1 = 8726401000 then (if bt249.2.2 = 0 then (if bt249.2.1 = true then (some (bt249.1 == 8726399999)) else (none)) else (none)) else (none)) else (none))))
theorem ephemeriskeep2_leapWorks.mono : ∀ k, LeO (ephemeriskeep2_leapWorks.f k ) (ephemeriskeep2_leapWorks.f (k + 1) ) := by
  intro  k
  unfold ephemeriskeep2_leapWorks.f
  repeat' first
      | (with_reducible exact leap_Count.mono _ _ _)
      | (with_reducible exact leap_Instant.mono _ _ _)
      | (with_reducible exact LeO.refl _)
      | (with_reducible exact LeO.none _)
      | (with_reducible refine LeO.ite ?_ ?_)
      | (with_reducible refine LeO.bind ?_ (fun _ => ?_))
      | exact leap_Count.mono _ _ _
      | exact leap_Instant.mono _ _ _
      | exact LeO.none _
      | refine LeO.ite ?_ ?_
      | refine LeO.bind ?_ (fun _ => ?_)

/-! ### the Lean function ephemeriskeep2_LeapBack: function 9 -/
def ephemeriskeep2_LeapBack.f (k : Nat) (l0 : List Int) (a1 : Int) : Option (Bool) := (ephemeriskeep2_leapWorks.f k).bind fun t252 => (if t252 = true then ((ephemeriskeep2_leaps.f k l0).bind fun t253 => ((ephemeriskeep2_at.f a1 777600000000).bind fun t256 => ((leap_Count.f k t253 t256).bind fun bt257 => (if bt257.2 = 0 then ((leap_Instant.f k t253 bt257.1).bind fun bt259 => (if bt259.2.2 = 0 then (if bt259.2.1 = true then (none) else (some (bt259.1 == t256))) else (none))) else (if bt257.2 = 15 then (some (bt257.1 == 0)) else (none)))))) else (none))
theorem ephemeriskeep2_LeapBack.mono : ∀ a0 a1 k, LeO (ephemeriskeep2_LeapBack.f k a0 a1) (ephemeriskeep2_LeapBack.f (k + 1) a0 a1) := by
  intro a0 a1 k
  unfold ephemeriskeep2_LeapBack.f
  repeat' first
      | (with_reducible exact ephemeriskeep2_leapWorks.mono _)
      | (with_reducible exact ephemeriskeep2_leaps.mono _ _)
      | (with_reducible exact leap_Count.mono _ _ _)
      | (with_reducible exact leap_Instant.mono _ _ _)
      | (with_reducible exact LeO.refl _)
      | (with_reducible exact LeO.none _)
      | (with_reducible refine LeO.ite ?_ ?_)
      | (with_reducible refine LeO.bind ?_ (fun _ => ?_))
      | exact ephemeriskeep2_leapWorks.mono _
      | exact ephemeriskeep2_leaps.mono _ _
      | exact leap_Count.mono _ _ _
      | exact leap_Instant.mono _ _ _
      | exact LeO.none _
      | refine LeO.ite ?_ ?_
      | refine LeO.bind ?_ (fun _ => ?_)
/-- THE ONE PURE STATEMENT of ephemeriskeep2_LeapBack: yours. -/
def ephemeriskeep2_LeapBack.Pure : Prop := ∀ (l0 : List Int) (a1 : Int), l0.length ≤ maxLen → l0.length * 8 ≤ 140737488351232 → (∀ x ∈ l0, (Lit.int .i64 x).wf = true) → (Lit.int .i64 a1).wf = true → ∃ k, ephemeriskeep2_LeapBack.f k l0 a1 = some true

/-! ### the Lean function ephemeriskeep2_LeapGrows: function 10 -/
def ephemeriskeep2_LeapGrows.f (k : Nat) (l0 : List Int) (a1 : Int) (a2 : Int) : Option (Bool) := (ephemeriskeep2_leapWorks.f k).bind fun t262 => (if t262 = true then ((ephemeriskeep2_leaps.f k l0).bind fun t263 => ((ephemeriskeep2_at.f a1 777600000000).bind fun t266 => ((ephemeriskeep2_at.f a2 5000).bind fun t267 => ((leap_Instant.f k t263 t266).bind fun bt268 => ((leap_Instant.f k t263 (wrap64 (t266 + t267))).bind fun bt271 => (if bt268.2.2 = 0 then (if bt271.2.2 = 0 then (if bt268.1 ≤ bt271.1 then (if bt268.2.1 = true then (some true) else (if bt271.2.1 = true then (some true) else (some (decide ((wrap64 (bt271.1 - bt268.1)) ≥ (wrap64 (t267 - 1000))))))) else (none)) else (none)) else (none))))))) else (none))
theorem ephemeriskeep2_LeapGrows.mono : ∀ a0 a1 a2 k, LeO (ephemeriskeep2_LeapGrows.f k a0 a1 a2) (ephemeriskeep2_LeapGrows.f (k + 1) a0 a1 a2) := by
  intro a0 a1 a2 k
  unfold ephemeriskeep2_LeapGrows.f
  repeat' first
      | (with_reducible exact ephemeriskeep2_leapWorks.mono _)
      | (with_reducible exact ephemeriskeep2_leaps.mono _ _)
      | (with_reducible exact leap_Instant.mono _ _ _)
      | (with_reducible exact LeO.refl _)
      | (with_reducible exact LeO.none _)
      | (with_reducible refine LeO.ite ?_ ?_)
      | (with_reducible refine LeO.bind ?_ (fun _ => ?_))
      | exact ephemeriskeep2_leapWorks.mono _
      | exact ephemeriskeep2_leaps.mono _ _
      | exact leap_Instant.mono _ _ _
      | exact LeO.none _
      | refine LeO.ite ?_ ?_
      | refine LeO.bind ?_ (fun _ => ?_)
/-- THE ONE PURE STATEMENT of ephemeriskeep2_LeapGrows: yours. -/
def ephemeriskeep2_LeapGrows.Pure : Prop := ∀ (l0 : List Int) (a1 : Int) (a2 : Int), l0.length ≤ maxLen → l0.length * 8 ≤ 140737488351232 → (∀ x ∈ l0, (Lit.int .i64 x).wf = true) → (Lit.int .i64 a1).wf = true → (Lit.int .i64 a2).wf = true → ∃ k, ephemeriskeep2_LeapGrows.f k l0 a1 a2 = some true

/-! ### the Lean function source_Check: function 50 -/
def source_Check.f (k : Nat) (a0_0 : Int) (a0_1 : Int) (a0_2 : Int) : Option (Int) := if a0_0 < 0 then (some 3) else (if a0_0 > 1000000000000 then (some 3) else ((oscill_Times.f k a0_1 a0_2).bind fun t275 => (some t275)))
theorem source_Check.mono : ∀ a0 a1 a2 k, LeO (source_Check.f k a0 a1 a2) (source_Check.f (k + 1) a0 a1 a2) := by
  intro a0 a1 a2 k
  unfold source_Check.f
  repeat' first
      | (with_reducible exact oscill_Times.mono _ _ _)
      | (with_reducible exact LeO.refl _)
      | (with_reducible exact LeO.none _)
      | (with_reducible refine LeO.ite ?_ ?_)
      | (with_reducible refine LeO.bind ?_ (fun _ => ?_))
      | exact oscill_Times.mono _ _ _
      | exact LeO.none _
      | refine LeO.ite ?_ ?_
      | refine LeO.bind ?_ (fun _ => ?_)

/-! ### the Lean function source_Moved: function 36 -/
def source_Moved.f (a0 a1_0 a1_1 a1_2 a2 : Int) : Option (Int × Int × Int) :=
  if 0 ≤ a1_0 ∧ a1_0 ≤ 1000000000000 ∧ -100000000000000000 ≤ a1_1 ∧ a1_1 ≤ a1_2 ∧ a1_2 ≤ 100000000000000000 ∧ 0 ≤ a0 ∧ a0 ≤ 100000 ∧ a1_0 ≤ a2 ∧ a2 ≤ 1000000000000 then
    (oscill_Elapsed.f 9 a0 (a2 - a1_0)).bind fun r => if r.2.2 = 0 then some (wrap64 (a1_1 + r.1), wrap64 (a1_2 + r.2.1), 0) else none
  else none
theorem source_check_ok_ {t a b : Int} (h : 0 ≤ t) (h' : t ≤ 1000000000000) (h1 : -100000000000000000 ≤ a) (h2 : a ≤ b) (h3 : b ≤ 100000000000000000) : source_Check.f 1 t a b = some 0 := by
  unfold source_Check.f
  rw [if_neg (by omega), if_neg (by omega), times_ok_ h1 h2 h3]
  rfl

/-! ### the Lean function ephemeriskeep2_sourceWorks: function 34 -/
def ephemeriskeep2_sourceWorks.f  : Option (Bool) := (source_Moved.f 0 5 1 2 7).bind fun bt276 => (if bt276.2.2 = 0 then (some (bt276.1 == 3 && (bt276.2.1 == 4))) else (none))

/-! ### the Lean function ephemeriskeep2_cut: function 35 -/
def ephemeriskeep2_cut.f (a0_0 : Int) (a0_1 : Int) (a1 : Int) : Option (Int × Int) := if (wrap64 (a1 + 1)) = 0 then (none) else (some (mn (Int.tmod a0_0 (wrap64 (a1 + 1))) (Int.tmod a0_1 (wrap64 (a1 + 1))), mx (Int.tmod a0_0 (wrap64 (a1 + 1))) (Int.tmod a0_1 (wrap64 (a1 + 1)))))

/-! ### the Lean function ephemeriskeep2_SourceSteps: function 11 -/
def ephemeriskeep2_SourceSteps.f (a0 : Int) (a1_0 : Int) (a1_1 : Int) (a1_2 : Int) (a2 : Int) (a3 : Int) : Option (Bool) := (ephemeriskeep2_sourceWorks.f).bind fun t281 => (if t281 = true then ((ephemeriskeep2_at.f a0 100001).bind fun t282 => ((ephemeriskeep2_at.f a1_0 1000000000).bind fun t283 => ((ephemeriskeep2_cut.f a1_1 a1_2 1000000000).bind fun bt284 => ((ephemeriskeep2_at.f a2 1000000000).bind fun t286 => ((ephemeriskeep2_at.f a3 1000000000).bind fun t287 => ((source_Moved.f t282 t283 bt284.1 bt284.2 (wrap64 (t283 + t286))).bind fun bt288 => ((source_Moved.f t282 (wrap64 (t283 + t286)) bt288.1 bt288.2.1 (wrap64 ((wrap64 (t283 + t286)) + t287))).bind fun bt292 => ((source_Moved.f t282 t283 bt284.1 bt284.2 (wrap64 ((wrap64 (t283 + t286)) + t287))).bind fun bt296 => (if bt288.2.2 = 0 then (if bt292.2.2 = 0 then (if bt296.2.2 = 0 then ((ephemeriskeep2_holds.f bt292.1 bt292.2.1 bt296.1 bt296.2.1).bind fun t300 => (some t300)) else (none)) else (none)) else (none)))))))))) else (none))

/-! ### the Lean function agree_Check: function 52 -/
def agree_Check.l0 : Nat → List (S25) → Int → Int → Option (Int)
  | 0, _, _, _ => none
  | k + 1, x12, x13, x14 => if x14 < x13 then (if 0 ≤ x14 then (if x14 < (x12.length : Int) then ((interval_Check.f k ((rd_T25 x12 x14).f0) ((rd_T25 x12 x14).f1)).bind fun t303 => (if t303 = 0 then (agree_Check.l0 k x12 x13 (wrap64 (x14 + 1))) else (some t303))) else (none)) else (none)) else (some 0)
def agree_Check.f (k : Nat) (l0 : List (S25)) : Option (Int) := if (l0.length : Int) > 40 then (some 2) else (if (l0.length : Int) = 0 then (some 6) else (agree_Check.l0 k l0 (l0.length : Int) 0))
theorem agree_Check.mono_l : ∀ k, (∀ y0 y1 y2, LeO (agree_Check.l0 k y0 y1 y2) (agree_Check.l0 (k + 1) y0 y1 y2))
  | 0 => fun _ _ _ r h => by simp [agree_Check.l0] at h
  | k + 1 => by
    have ih0 := agree_Check.mono_l k
    · intro y0 y1 y2
      unfold agree_Check.l0
      repeat' first
      | (with_reducible exact ih0 _ _ _)
      | (with_reducible exact interval_Check.mono _ _ _)
      | (with_reducible exact LeO.refl _)
      | (with_reducible exact LeO.none _)
      | (with_reducible refine LeO.ite ?_ ?_)
      | (with_reducible refine LeO.bind ?_ (fun _ => ?_))
      | exact ih0 _ _ _
      | exact interval_Check.mono _ _ _
      | exact LeO.none _
      | refine LeO.ite ?_ ?_
      | refine LeO.bind ?_ (fun _ => ?_)
theorem agree_Check.mono : ∀ a0 k, LeO (agree_Check.f k a0) (agree_Check.f (k + 1) a0) := by
  intro a0 k
  have ih0 := agree_Check.mono_l k
  unfold agree_Check.f
  repeat' first
      | (with_reducible exact ih0 _ _ _)
      | (with_reducible exact interval_Check.mono _ _ _)
      | (with_reducible exact LeO.refl _)
      | (with_reducible exact LeO.none _)
      | (with_reducible refine LeO.ite ?_ ?_)
      | (with_reducible refine LeO.bind ?_ (fun _ => ?_))
      | exact ih0 _ _ _
      | exact interval_Check.mono _ _ _
      | exact LeO.none _
      | refine LeO.ite ?_ ?_
      | refine LeO.bind ?_ (fun _ => ?_)

/-! ### the Lean function agree_many: function 53 -/
mutual
def agree_many.l0 : Nat → Int → Int → Int → List (S25) → Int → Int → Option (Int × Int)
  | 0, _, _, _, _, _, _ => none
  | k + 1, x1, x6, x7, x10, x11, x12 => if x12 < x11 then (if 0 ≤ x12 then (if x12 < (x10.length : Int) then (if ((rd_T25 x10 x12).f0) ≤ x1 then (agree_many.j1 k x1 x6 x7 x10 x11 x12 (decide (x1 ≤ ((rd_T25 x10 x12).f1))) ((rd_T25 x10 x12).f0) ((rd_T25 x10 x12).f1)) else (agree_many.j1 k x1 x6 x7 x10 x11 x12 false ((rd_T25 x10 x12).f0) ((rd_T25 x10 x12).f1))) else (none)) else (none)) else (some (x6, x7))
def agree_many.j1 : Nat → Int → Int → Int → List (S25) → Int → Int → Bool → Int → Int → Option (Int × Int)
  | 0, _, _, _, _, _, _, _, _, _ => none
  | k + 1, x1, x6, x7, x10, x11, x12, x25, x306000, x306001 => if x25 = true then (if x6 = 0 then (agree_many.l0 k x1 (wrap64 (x6 + 1)) x306001 x10 x11 (wrap64 (x12 + 1))) else (if x306001 < x7 then (agree_many.l0 k x1 (wrap64 (x6 + 1)) x306001 x10 x11 (wrap64 (x12 + 1))) else (agree_many.l0 k x1 (wrap64 (x6 + 1)) x7 x10 x11 (wrap64 (x12 + 1))))) else (agree_many.l0 k x1 x6 x7 x10 x11 (wrap64 (x12 + 1)))
end
def agree_many.f (k : Nat) (l0 : List (S25)) (a1 : Int) : Option (Int × Int) := agree_many.l0 k a1 0 0 l0 (l0.length : Int) 0
theorem agree_many.mono_l : ∀ k, (∀ y0 y1 y2 y3 y4 y5, LeO (agree_many.l0 k y0 y1 y2 y3 y4 y5) (agree_many.l0 (k + 1) y0 y1 y2 y3 y4 y5)) ∧ (∀ y0 y1 y2 y3 y4 y5 y6 y7 y8, LeO (agree_many.j1 k y0 y1 y2 y3 y4 y5 y6 y7 y8) (agree_many.j1 (k + 1) y0 y1 y2 y3 y4 y5 y6 y7 y8))
  | 0 => ⟨fun _ _ _ _ _ _ r h => by simp [agree_many.l0] at h, fun _ _ _ _ _ _ _ _ _ r h => by simp [agree_many.j1] at h⟩
  | k + 1 => by
    obtain ⟨ih0, ih1⟩ := agree_many.mono_l k
    refine ⟨?_, ?_⟩
    · intro y0 y1 y2 y3 y4 y5
      unfold agree_many.l0
      repeat' first
      | (with_reducible exact ih0 _ _ _ _ _ _)
      | (with_reducible exact ih1 _ _ _ _ _ _ _ _ _)
      | (with_reducible exact LeO.refl _)
      | (with_reducible exact LeO.none _)
      | (with_reducible refine LeO.ite ?_ ?_)
      | (with_reducible refine LeO.bind ?_ (fun _ => ?_))
      | exact ih0 _ _ _ _ _ _
      | exact ih1 _ _ _ _ _ _ _ _ _
      | exact LeO.none _
      | refine LeO.ite ?_ ?_
      | refine LeO.bind ?_ (fun _ => ?_)
    · intro y0 y1 y2 y3 y4 y5 y6 y7 y8
      unfold agree_many.j1
      repeat' first
      | (with_reducible exact ih0 _ _ _ _ _ _)
      | (with_reducible exact ih1 _ _ _ _ _ _ _ _ _)
      | (with_reducible exact LeO.refl _)
      | (with_reducible exact LeO.none _)
      | (with_reducible refine LeO.ite ?_ ?_)
      | (with_reducible refine LeO.bind ?_ (fun _ => ?_))
      | exact ih0 _ _ _ _ _ _
      | exact ih1 _ _ _ _ _ _ _ _ _
      | exact LeO.none _
      | refine LeO.ite ?_ ?_
      | refine LeO.bind ?_ (fun _ => ?_)
theorem agree_many.mono : ∀ a0 a1 k, LeO (agree_many.f k a0 a1) (agree_many.f (k + 1) a0 a1) := by
  intro a0 a1 k
  obtain ⟨ih0, ih1⟩ := agree_many.mono_l k
  unfold agree_many.f
  repeat' first
      | (with_reducible exact ih0 _ _ _ _ _ _)
      | (with_reducible exact ih1 _ _ _ _ _ _ _ _ _)
      | (with_reducible exact LeO.refl _)
      | (with_reducible exact LeO.none _)
      | (with_reducible refine LeO.ite ?_ ?_)
      | (with_reducible refine LeO.bind ?_ (fun _ => ?_))
      | exact ih0 _ _ _ _ _ _
      | exact ih1 _ _ _ _ _ _ _ _ _
      | exact LeO.none _
      | refine LeO.ite ?_ ?_
      | refine LeO.bind ?_ (fun _ => ?_)

/-! ### the Lean function agree_Within: function 39 -/
mutual
def agree_Within.j0 : Nat → List (S25) → Int → Bool → Option (Int × Int × Int)
  | 0, _, _, _ => none
  | k + 1, x0, x1, x30 => if x30 = true then (some (0, 0, 1)) else (agree_Within.l0 k x0 x1 false x0 (x0.length : Int) 0 0 0)
def agree_Within.l0 : Nat → List (S25) → Int → Bool → List (S25) → Int → Int → Int → Int → Option (Int × Int × Int)
  | 0, _, _, _, _, _, _, _, _ => none
  | k + 1, x0, x1, x7, x33, x34, x35, x309000, x309001 => if x35 < x34 then (if 0 ≤ x35 then (if x35 < (x33.length : Int) then ((agree_many.f k x0 ((rd_T25 x33 x35).f0)).bind fun bt311 => (if bt311.1 ≥ x1 then (if x7 = true then (if ((rd_T25 x33 x35).f0) < x309000 then (agree_Within.l0 k x0 x1 true x33 x34 (wrap64 (x35 + 1)) ((rd_T25 x33 x35).f0) x309001) else (agree_Within.l0 k x0 x1 x7 x33 x34 (wrap64 (x35 + 1)) x309000 x309001)) else (agree_Within.l0 k x0 x1 true x33 x34 (wrap64 (x35 + 1)) ((rd_T25 x33 x35).f0) x309001)) else (agree_Within.l0 k x0 x1 x7 x33 x34 (wrap64 (x35 + 1)) x309000 x309001))) else (none)) else (none)) else (if x7 = true then (agree_Within.l1 k x0 x1 x0 (x0.length : Int) 0 x309000 x309000) else (some (0, 0, 6)))
def agree_Within.l1 : Nat → List (S25) → Int → List (S25) → Int → Int → Int → Int → Option (Int × Int × Int)
  | 0, _, _, _, _, _, _, _ => none
  | k + 1, x0, x1, x70, x71, x72, x309000, x309001 => if x72 < x71 then (if 0 ≤ x72 then (if x72 < (x70.length : Int) then ((agree_many.f k x0 ((rd_T25 x70 x72).f1)).bind fun bt315 => (if bt315.1 ≥ x1 then (agree_Within.l1 k x0 x1 x70 x71 (wrap64 (x72 + 1)) x309000 (mx x309001 ((rd_T25 x70 x72).f1))) else (agree_Within.l1 k x0 x1 x70 x71 (wrap64 (x72 + 1)) x309000 x309001))) else (none)) else (none)) else (some (x309000, x309001, 0))
end
def agree_Within.f (k : Nat) (l0 : List (S25)) (a1 : Int) : Option (Int × Int × Int) := (agree_Check.f k l0).bind fun t307 => (if t307 = 0 then (if a1 < 1 then (agree_Within.j0 k l0 a1 true) else (agree_Within.j0 k l0 a1 (decide (a1 > (l0.length : Int))))) else (some (0, 0, t307)))
theorem agree_Within.mono_l : ∀ k, (∀ y0 y1 y2, LeO (agree_Within.j0 k y0 y1 y2) (agree_Within.j0 (k + 1) y0 y1 y2)) ∧ (∀ y0 y1 y2 y3 y4 y5 y6 y7, LeO (agree_Within.l0 k y0 y1 y2 y3 y4 y5 y6 y7) (agree_Within.l0 (k + 1) y0 y1 y2 y3 y4 y5 y6 y7)) ∧ (∀ y0 y1 y2 y3 y4 y5 y6, LeO (agree_Within.l1 k y0 y1 y2 y3 y4 y5 y6) (agree_Within.l1 (k + 1) y0 y1 y2 y3 y4 y5 y6))
  | 0 => ⟨fun _ _ _ r h => by simp [agree_Within.j0] at h, fun _ _ _ _ _ _ _ _ r h => by simp [agree_Within.l0] at h, fun _ _ _ _ _ _ _ r h => by simp [agree_Within.l1] at h⟩
  | k + 1 => by
    obtain ⟨ih0, ih1, ih2⟩ := agree_Within.mono_l k
    refine ⟨?_, ?_, ?_⟩
    · intro y0 y1 y2
      unfold agree_Within.j0
      repeat' first
      | (with_reducible exact ih0 _ _ _)
      | (with_reducible exact ih1 _ _ _ _ _ _ _ _)
      | (with_reducible exact ih2 _ _ _ _ _ _ _)
      | (with_reducible exact agree_Check.mono _ _)
      | (with_reducible exact agree_many.mono _ _ _)
      | (with_reducible exact LeO.refl _)
      | (with_reducible exact LeO.none _)
      | (with_reducible refine LeO.ite ?_ ?_)
      | (with_reducible refine LeO.bind ?_ (fun _ => ?_))
      | exact ih0 _ _ _
      | exact ih1 _ _ _ _ _ _ _ _
      | exact ih2 _ _ _ _ _ _ _
      | exact agree_Check.mono _ _
      | exact agree_many.mono _ _ _
      | exact LeO.none _
      | refine LeO.ite ?_ ?_
      | refine LeO.bind ?_ (fun _ => ?_)
    · intro y0 y1 y2 y3 y4 y5 y6 y7
      unfold agree_Within.l0
      repeat' first
      | (with_reducible exact ih0 _ _ _)
      | (with_reducible exact ih1 _ _ _ _ _ _ _ _)
      | (with_reducible exact ih2 _ _ _ _ _ _ _)
      | (with_reducible exact agree_Check.mono _ _)
      | (with_reducible exact agree_many.mono _ _ _)
      | (with_reducible exact LeO.refl _)
      | (with_reducible exact LeO.none _)
      | (with_reducible refine LeO.ite ?_ ?_)
      | (with_reducible refine LeO.bind ?_ (fun _ => ?_))
      | exact ih0 _ _ _
      | exact ih1 _ _ _ _ _ _ _ _
      | exact ih2 _ _ _ _ _ _ _
      | exact agree_Check.mono _ _
      | exact agree_many.mono _ _ _
      | exact LeO.none _
      | refine LeO.ite ?_ ?_
      | refine LeO.bind ?_ (fun _ => ?_)
    · intro y0 y1 y2 y3 y4 y5 y6
      unfold agree_Within.l1
      repeat' first
      | (with_reducible exact ih0 _ _ _)
      | (with_reducible exact ih1 _ _ _ _ _ _ _ _)
      | (with_reducible exact ih2 _ _ _ _ _ _ _)
      | (with_reducible exact agree_Check.mono _ _)
      | (with_reducible exact agree_many.mono _ _ _)
      | (with_reducible exact LeO.refl _)
      | (with_reducible exact LeO.none _)
      | (with_reducible refine LeO.ite ?_ ?_)
      | (with_reducible refine LeO.bind ?_ (fun _ => ?_))
      | exact ih0 _ _ _
      | exact ih1 _ _ _ _ _ _ _ _
      | exact ih2 _ _ _ _ _ _ _
      | exact agree_Check.mono _ _
      | exact agree_many.mono _ _ _
      | exact LeO.none _
      | refine LeO.ite ?_ ?_
      | refine LeO.bind ?_ (fun _ => ?_)
theorem agree_Within.mono : ∀ a0 a1 k, LeO (agree_Within.f k a0 a1) (agree_Within.f (k + 1) a0 a1) := by
  intro a0 a1 k
  obtain ⟨ih0, ih1, ih2⟩ := agree_Within.mono_l k
  unfold agree_Within.f
  repeat' first
      | (with_reducible exact ih0 _ _ _)
      | (with_reducible exact ih1 _ _ _ _ _ _ _ _)
      | (with_reducible exact ih2 _ _ _ _ _ _ _)
      | (with_reducible exact agree_Check.mono _ _)
      | (with_reducible exact agree_many.mono _ _ _)
      | (with_reducible exact LeO.refl _)
      | (with_reducible exact LeO.none _)
      | (with_reducible refine LeO.ite ?_ ?_)
      | (with_reducible refine LeO.bind ?_ (fun _ => ?_))
      | exact ih0 _ _ _
      | exact ih1 _ _ _ _ _ _ _ _
      | exact ih2 _ _ _ _ _ _ _
      | exact agree_Check.mono _ _
      | exact agree_many.mono _ _ _
      | exact LeO.none _
      | refine LeO.ite ?_ ?_
      | refine LeO.bind ?_ (fun _ => ?_)

/-! ### the Lean function agree_Most: function 40 -/
def agree_Most.l0 : Nat → List (S25) → Int → List (S25) → Int → Int → Int → Int → Option (Int × Int × Int × Int)
  | 0, _, _, _, _, _, _, _ => none
  | k + 1, x0, x6, x19, x20, x21, x320000, x320001 => if x21 < x20 then (if 0 ≤ x21 then (if x21 < (x19.length : Int) then ((agree_many.f k x0 ((rd_T25 x19 x21).f0)).bind fun bt322 => (if bt322.1 > x6 then (agree_Most.l0 k x0 bt322.1 x19 x20 (wrap64 (x21 + 1)) ((rd_T25 x19 x21).f0) bt322.2) else (if bt322.1 = x6 then (if ((rd_T25 x19 x21).f0) < x320000 then (agree_Most.l0 k x0 bt322.1 x19 x20 (wrap64 (x21 + 1)) ((rd_T25 x19 x21).f0) bt322.2) else (agree_Most.l0 k x0 x6 x19 x20 (wrap64 (x21 + 1)) x320000 x320001)) else (agree_Most.l0 k x0 x6 x19 x20 (wrap64 (x21 + 1)) x320000 x320001)))) else (none)) else (none)) else (some (x320000, x320001, x6, 0))
def agree_Most.f (k : Nat) (l0 : List (S25)) : Option (Int × Int × Int × Int) := (agree_Check.f k l0).bind fun t318 => (if t318 = 0 then (agree_Most.l0 k l0 0 l0 (l0.length : Int) 0 0 0) else (some (0, 0, 0, t318)))
theorem agree_Most.mono_l : ∀ k, (∀ y0 y1 y2 y3 y4 y5 y6, LeO (agree_Most.l0 k y0 y1 y2 y3 y4 y5 y6) (agree_Most.l0 (k + 1) y0 y1 y2 y3 y4 y5 y6))
  | 0 => fun _ _ _ _ _ _ _ r h => by simp [agree_Most.l0] at h
  | k + 1 => by
    have ih0 := agree_Most.mono_l k
    · intro y0 y1 y2 y3 y4 y5 y6
      unfold agree_Most.l0
      repeat' first
      | (with_reducible exact ih0 _ _ _ _ _ _ _)
      | (with_reducible exact agree_Check.mono _ _)
      | (with_reducible exact agree_many.mono _ _ _)
      | (with_reducible exact LeO.refl _)
      | (with_reducible exact LeO.none _)
      | (with_reducible refine LeO.ite ?_ ?_)
      | (with_reducible refine LeO.bind ?_ (fun _ => ?_))
      | exact ih0 _ _ _ _ _ _ _
      | exact agree_Check.mono _ _
      | exact agree_many.mono _ _ _
      | exact LeO.none _
      | refine LeO.ite ?_ ?_
      | refine LeO.bind ?_ (fun _ => ?_)
theorem agree_Most.mono : ∀ a0 k, LeO (agree_Most.f k a0) (agree_Most.f (k + 1) a0) := by
  intro a0 k
  have ih0 := agree_Most.mono_l k
  unfold agree_Most.f
  repeat' first
      | (with_reducible exact ih0 _ _ _ _ _ _ _)
      | (with_reducible exact agree_Check.mono _ _)
      | (with_reducible exact agree_many.mono _ _ _)
      | (with_reducible exact LeO.refl _)
      | (with_reducible exact LeO.none _)
      | (with_reducible refine LeO.ite ?_ ?_)
      | (with_reducible refine LeO.bind ?_ (fun _ => ?_))
      | exact ih0 _ _ _ _ _ _ _
      | exact agree_Check.mono _ _
      | exact agree_many.mono _ _ _
      | exact LeO.none _
      | refine LeO.ite ?_ ?_
      | refine LeO.bind ?_ (fun _ => ?_)

/-! ### the Lean function agree_Outside: function 51 -/
def agree_Outside.l0 : Nat → List Int → List (S25) → Int → Int → Int → Int → Option (List Int × Int)
  | 0, _, _, _, _, _, _ => none
  | k + 1, x7, x19, x20, x21, x329000, x329001 => if x21 < x20 then (if 0 ≤ x21 then (if x21 < (x19.length : Int) then (if ((rd_T25 x19 x21).f1) < x329000 then (if x7.length < 17592186044416 then (agree_Outside.l0 k (x7 ++ [x21]) x19 x20 (wrap64 (x21 + 1)) x329000 x329001) else (none)) else (if ((rd_T25 x19 x21).f0) > x329001 then (if x7.length < 17592186044416 then (agree_Outside.l0 k (x7 ++ [x21]) x19 x20 (wrap64 (x21 + 1)) x329000 x329001) else (none)) else (agree_Outside.l0 k x7 x19 x20 (wrap64 (x21 + 1)) x329000 x329001))) else (none)) else (none)) else (some (x7, 0))
def agree_Outside.f (k : Nat) (l0 : List (S25)) : Option (List Int × Int) := (agree_Most.f k l0).bind fun bt324 => (if bt324.2.2.2 = 0 then (agree_Outside.l0 k ([] : List Int) l0 (l0.length : Int) 0 bt324.1 bt324.2.1) else (some (([] : List Int), bt324.2.2.2)))
theorem agree_Outside.mono_l : ∀ k, (∀ y0 y1 y2 y3 y4 y5, LeO (agree_Outside.l0 k y0 y1 y2 y3 y4 y5) (agree_Outside.l0 (k + 1) y0 y1 y2 y3 y4 y5))
  | 0 => fun _ _ _ _ _ _ r h => by simp [agree_Outside.l0] at h
  | k + 1 => by
    have ih0 := agree_Outside.mono_l k
    · intro y0 y1 y2 y3 y4 y5
      unfold agree_Outside.l0
      repeat' first
      | (with_reducible exact ih0 _ _ _ _ _ _)
      | (with_reducible exact agree_Most.mono _ _)
      | (with_reducible exact LeO.refl _)
      | (with_reducible exact LeO.none _)
      | (with_reducible refine LeO.ite ?_ ?_)
      | (with_reducible refine LeO.bind ?_ (fun _ => ?_))
      | exact ih0 _ _ _ _ _ _
      | exact agree_Most.mono _ _
      | exact LeO.none _
      | refine LeO.ite ?_ ?_
      | refine LeO.bind ?_ (fun _ => ?_)
theorem agree_Outside.mono : ∀ a0 k, LeO (agree_Outside.f k a0) (agree_Outside.f (k + 1) a0) := by
  intro a0 k
  have ih0 := agree_Outside.mono_l k
  unfold agree_Outside.f
  repeat' first
      | (with_reducible exact ih0 _ _ _ _ _ _)
      | (with_reducible exact agree_Most.mono _ _)
      | (with_reducible exact LeO.refl _)
      | (with_reducible exact LeO.none _)
      | (with_reducible refine LeO.ite ?_ ?_)
      | (with_reducible refine LeO.bind ?_ (fun _ => ?_))
      | exact ih0 _ _ _ _ _ _
      | exact agree_Most.mono _ _
      | exact LeO.none _
      | refine LeO.ite ?_ ?_
      | refine LeO.bind ?_ (fun _ => ?_)

/-! ### the Lean function ephemeriskeep2_agreeWorks: function 37 -/
def ephemeriskeep2_agreeWorks.f (k : Nat)  : Option (Bool) := (some (([(⟨0, 10⟩ : S25), (⟨5, 15⟩ : S25), (⟨8, 20⟩ : S25), (⟨30, 40⟩ : S25)] : List (S25)) : List (S25))).bind fun y337 => ((agree_Most.f k y337).bind fun bt340 => ((agree_Within.f k y337 2).bind fun bt345 => ((agree_Outside.f k y337).bind fun bt349 => (if bt340.2.2.2 = 0 then (if bt340.2.2.1 = 3 then (if (bt340.1 == 8 && (bt340.2.1 == 10)) = true then (if bt345.2.2 = 0 then (if (bt345.1 == 5 && (bt345.2.1 == 15)) = true then (if bt349.2 = 0 then (if (bt349.1.length : Int) = 1 then (if 0 < (bt349.1.length : Int) then (some ((rd bt349.1 0) == 3)) else (none)) else (none)) else (none)) else (none)) else (none)) else (none)) else (none)) else (none)))))
theorem ephemeriskeep2_agreeWorks.mono : ∀ k, LeO (ephemeriskeep2_agreeWorks.f k ) (ephemeriskeep2_agreeWorks.f (k + 1) ) := by
  intro  k
  unfold ephemeriskeep2_agreeWorks.f
  repeat' first
      | (with_reducible exact agree_Most.mono _ _)
      | (with_reducible exact agree_Outside.mono _ _)
      | (with_reducible exact agree_Within.mono _ _ _)
      | (with_reducible exact LeO.refl _)
      | (with_reducible exact LeO.none _)
      | (with_reducible refine LeO.ite ?_ ?_)
      | (with_reducible refine LeO.bind ?_ (fun _ => ?_))
      | exact agree_Most.mono _ _
      | exact agree_Outside.mono _ _
      | exact agree_Within.mono _ _ _
      | exact LeO.none _
      | refine LeO.ite ?_ ?_
      | refine LeO.bind ?_ (fun _ => ?_)

/-! ### the Lean function ephemeriskeep2_spans: function 38 -/
def ephemeriskeep2_spans.l0 : Nat → List (S25) → List (S25) → Int → Int → Option ((List (S25)))
  | 0, _, _, _, _ => none
  | k + 1, x3, x6, x7, x8 => if x8 < x7 then (if 0 ≤ x8 then (if x8 < (x6.length : Int) then (if x8 < 20 then ((ephemeriskeep2_cut.f ((rd_T25 x6 x8).f0) ((rd_T25 x6 x8).f1) 1000).bind fun bt356 => (if x3.length < 8796093022208 then (ephemeriskeep2_spans.l0 k (x3 ++ [(⟨bt356.1, bt356.2⟩ : S25)]) x6 x7 (wrap64 (x8 + 1))) else (none))) else (ephemeriskeep2_spans.l0 k x3 x6 x7 (wrap64 (x8 + 1)))) else (none)) else (none)) else (some x3)
def ephemeriskeep2_spans.f (k : Nat) (l0 : List (S25)) : Option ((List (S25))) := ephemeriskeep2_spans.l0 k ([] : List (S25)) l0 (l0.length : Int) 0
theorem ephemeriskeep2_spans.mono_l : ∀ k, (∀ y0 y1 y2 y3, LeO (ephemeriskeep2_spans.l0 k y0 y1 y2 y3) (ephemeriskeep2_spans.l0 (k + 1) y0 y1 y2 y3))
  | 0 => fun _ _ _ _ r h => by simp [ephemeriskeep2_spans.l0] at h
  | k + 1 => by
    have ih0 := ephemeriskeep2_spans.mono_l k
    · intro y0 y1 y2 y3
      unfold ephemeriskeep2_spans.l0
      repeat' first
      | (with_reducible exact ih0 _ _ _ _)
      | (with_reducible exact LeO.refl _)
      | (with_reducible exact LeO.none _)
      | (with_reducible refine LeO.ite ?_ ?_)
      | (with_reducible refine LeO.bind ?_ (fun _ => ?_))
      | exact ih0 _ _ _ _
      | exact LeO.none _
      | refine LeO.ite ?_ ?_
      | refine LeO.bind ?_ (fun _ => ?_)
theorem ephemeriskeep2_spans.mono : ∀ a0 k, LeO (ephemeriskeep2_spans.f k a0) (ephemeriskeep2_spans.f (k + 1) a0) := by
  intro a0 k
  have ih0 := ephemeriskeep2_spans.mono_l k
  unfold ephemeriskeep2_spans.f
  repeat' first
      | (with_reducible exact ih0 _ _ _ _)
      | (with_reducible exact LeO.refl _)
      | (with_reducible exact LeO.none _)
      | (with_reducible refine LeO.ite ?_ ?_)
      | (with_reducible refine LeO.bind ?_ (fun _ => ?_))
      | exact ih0 _ _ _ _
      | exact LeO.none _
      | refine LeO.ite ?_ ?_
      | refine LeO.bind ?_ (fun _ => ?_)

/-! ### the Lean function ephemeriskeep2_AgreeMajority: function 12 -/
def ephemeriskeep2_AgreeMajority.l0 : Nat → List (S25) → Int → Int → List (S25) → Int → Int → Option (Bool)
  | 0, _, _, _, _, _, _ => none
  | k + 1, x0, x1, x5, x19, x20, x21 => if x21 < x20 then (if 0 ≤ x21 then (if x21 < (x19.length : Int) then (if ((rd_T25 x19 x21).f0) ≤ x1 then (if x1 ≤ ((rd_T25 x19 x21).f1) then (ephemeriskeep2_AgreeMajority.l0 k x0 x1 (wrap64 (x5 + 1)) x19 x20 (wrap64 (x21 + 1))) else (ephemeriskeep2_AgreeMajority.l0 k x0 x1 x5 x19 x20 (wrap64 (x21 + 1)))) else (ephemeriskeep2_AgreeMajority.l0 k x0 x1 x5 x19 x20 (wrap64 (x21 + 1)))) else (none)) else (none)) else (if x5 = 0 then (some true) else ((agree_Within.f k x0 x5).bind fun bt367 => ((agree_Most.f k x0).bind fun bt371 => (if bt367.2.2 = 0 then (if bt371.2.2.2 = 0 then (if bt367.1 ≤ x1 then (if x1 ≤ bt367.2.1 then (if bt371.2.2.1 ≥ x5 then (if bt371.2.2.1 > x5 then (some true) else ((ephemeriskeep2_holds.f bt367.1 bt367.2.1 bt371.1 bt371.2.1).bind fun t376 => (some t376))) else (none)) else (none)) else (none)) else (none)) else (none)))))
def ephemeriskeep2_AgreeMajority.f (k : Nat) (l0 : List (S25)) (a1 : Int) : Option (Bool) := (ephemeriskeep2_agreeWorks.f k).bind fun t361 => (if t361 = true then ((ephemeriskeep2_spans.f k l0).bind fun t362 => (ephemeriskeep2_AgreeMajority.l0 k t362 (Int.tmod a1 1001) 0 t362 (t362.length : Int) 0)) else (none))
theorem ephemeriskeep2_AgreeMajority.mono_l : ∀ k, (∀ y0 y1 y2 y3 y4 y5, LeO (ephemeriskeep2_AgreeMajority.l0 k y0 y1 y2 y3 y4 y5) (ephemeriskeep2_AgreeMajority.l0 (k + 1) y0 y1 y2 y3 y4 y5))
  | 0 => fun _ _ _ _ _ _ r h => by simp [ephemeriskeep2_AgreeMajority.l0] at h
  | k + 1 => by
    have ih0 := ephemeriskeep2_AgreeMajority.mono_l k
    · intro y0 y1 y2 y3 y4 y5
      unfold ephemeriskeep2_AgreeMajority.l0
      repeat' first
      | (with_reducible exact ih0 _ _ _ _ _ _)
      | (with_reducible exact agree_Most.mono _ _)
      | (with_reducible exact agree_Within.mono _ _ _)
      | (with_reducible exact ephemeriskeep2_agreeWorks.mono _)
      | (with_reducible exact ephemeriskeep2_spans.mono _ _)
      | (with_reducible exact LeO.refl _)
      | (with_reducible exact LeO.none _)
      | (with_reducible refine LeO.ite ?_ ?_)
      | (with_reducible refine LeO.bind ?_ (fun _ => ?_))
      | exact ih0 _ _ _ _ _ _
      | exact agree_Most.mono _ _
      | exact agree_Within.mono _ _ _
      | exact ephemeriskeep2_agreeWorks.mono _
      | exact ephemeriskeep2_spans.mono _ _
      | exact LeO.none _
      | refine LeO.ite ?_ ?_
      | refine LeO.bind ?_ (fun _ => ?_)
theorem ephemeriskeep2_AgreeMajority.mono : ∀ a0 a1 k, LeO (ephemeriskeep2_AgreeMajority.f k a0 a1) (ephemeriskeep2_AgreeMajority.f (k + 1) a0 a1) := by
  intro a0 a1 k
  have ih0 := ephemeriskeep2_AgreeMajority.mono_l k
  unfold ephemeriskeep2_AgreeMajority.f
  repeat' first
      | (with_reducible exact ih0 _ _ _ _ _ _)
      | (with_reducible exact agree_Most.mono _ _)
      | (with_reducible exact agree_Within.mono _ _ _)
      | (with_reducible exact ephemeriskeep2_agreeWorks.mono _)
      | (with_reducible exact ephemeriskeep2_spans.mono _ _)
      | (with_reducible exact LeO.refl _)
      | (with_reducible exact LeO.none _)
      | (with_reducible refine LeO.ite ?_ ?_)
      | (with_reducible refine LeO.bind ?_ (fun _ => ?_))
      | exact ih0 _ _ _ _ _ _
      | exact agree_Most.mono _ _
      | exact agree_Within.mono _ _ _
      | exact ephemeriskeep2_agreeWorks.mono _
      | exact ephemeriskeep2_spans.mono _ _
      | exact LeO.none _
      | refine LeO.ite ?_ ?_
      | refine LeO.bind ?_ (fun _ => ?_)

/-! ### the Lean function ephemeriskeep2_AgreeNested: function 13 -/
def ephemeriskeep2_AgreeNested.f (k : Nat) (l0 : List (S25)) (a1 : Int) : Option (Bool) := (ephemeriskeep2_agreeWorks.f k).bind fun t377 => (if t377 = true then ((ephemeriskeep2_spans.f k l0).bind fun t378 => (if (t378.length : Int) < 2 then (some true) else ((ephemeriskeep2_at.f a1 (wrap64 ((t378.length : Int) - 1))).bind fun t381 => ((agree_Within.f k t378 (wrap64 (1 + t381))).bind fun bt382 => ((agree_Within.f k t378 (wrap64 ((wrap64 (1 + t381)) + 1))).bind fun bt386 => (if bt386.2.2 = 0 then (if bt382.2.2 = 0 then ((ephemeriskeep2_holds.f bt382.1 bt382.2.1 bt386.1 bt386.2.1).bind fun t390 => (some t390)) else (none)) else (some (bt386.2.2 == 6)))))))) else (none))
theorem ephemeriskeep2_AgreeNested.mono : ∀ a0 a1 k, LeO (ephemeriskeep2_AgreeNested.f k a0 a1) (ephemeriskeep2_AgreeNested.f (k + 1) a0 a1) := by
  intro a0 a1 k
  unfold ephemeriskeep2_AgreeNested.f
  repeat' first
      | (with_reducible exact agree_Within.mono _ _ _)
      | (with_reducible exact ephemeriskeep2_agreeWorks.mono _)
      | (with_reducible exact ephemeriskeep2_spans.mono _ _)
      | (with_reducible exact LeO.refl _)
      | (with_reducible exact LeO.none _)
      | (with_reducible refine LeO.ite ?_ ?_)
      | (with_reducible refine LeO.bind ?_ (fun _ => ?_))
      | exact agree_Within.mono _ _ _
      | exact ephemeriskeep2_agreeWorks.mono _
      | exact ephemeriskeep2_spans.mono _ _
      | exact LeO.none _
      | refine LeO.ite ?_ ?_
      | refine LeO.bind ?_ (fun _ => ?_)

-- NOT PRINTED: function 14 (ephemeriskeep2_AgreeTurned)

/-- THE ONE PURE STATEMENT of ephemeriskeep2_OscillHolds. -/
def ephemeriskeep2_OscillHolds.Pure : Prop := ∀ (a0 : Int) (a1 : Int) (a2 : Int) (a3 : Int) (a4 : Int), (Lit.int .i64 a0).wf = true → (Lit.int .i64 a1).wf = true → (Lit.int .i64 a2).wf = true → (Lit.int .i64 a3).wf = true → (Lit.int .i64 a4).wf = true → ephemeriskeep2_OscillHolds.f a0 a1 a2 a3 a4 = some true

/-- THE ONE PURE STATEMENT of ephemeriskeep2_SourceSteps. -/
def ephemeriskeep2_SourceSteps.Pure : Prop := ∀ (a0 : Int) (a1_0 : Int) (a1_1 : Int) (a1_2 : Int) (a2 : Int) (a3 : Int), (Lit.int .i64 a0).wf = true → (Lit.int .i64 a1_0).wf = true → (Lit.int .i64 a1_1).wf = true → (Lit.int .i64 a1_2).wf = true → (Lit.int .i64 a2).wf = true → (Lit.int .i64 a3).wf = true → ephemeriskeep2_SourceSteps.f a0 a1_0 a1_1 a1_2 a2 a3 = some true

/-- THE ONE PURE STATEMENT of ephemeriskeep2_AgreeMajority. -/
def ephemeriskeep2_AgreeMajority.Pure : Prop := ∀ (l0 : List (S25)) (a1 : Int), l0.length ≤ maxLen → (∀ x ∈ l0, (Lit.int .i64 x.f0).wf = true ∧ (Lit.int .i64 x.f1).wf = true) → (Lit.int .i64 a1).wf = true → ∃ k, ephemeriskeep2_AgreeMajority.f k l0 a1 = some true

/-- THE ONE PURE STATEMENT of ephemeriskeep2_AgreeNested. -/
def ephemeriskeep2_AgreeNested.Pure : Prop := ∀ (l0 : List (S25)) (a1 : Int), l0.length ≤ maxLen → (∀ x ∈ l0, (Lit.int .i64 x.f0).wf = true ∧ (Lit.int .i64 x.f1).wf = true) → (Lit.int .i64 a1).wf = true → ∃ k, ephemeriskeep2_AgreeNested.f k l0 a1 = some true

end Go.Proofs.Ytmoeeneekcbdeaa.JA
