-- Made by a program of this session (wip/hp.py, over the kit's print) out of the translation. Not trusted: Lean checks it.
import Derived.Test.YtjcpilmecgcooaaJDx0
namespace Go.Proofs.Ytjcpilmecgcooaa.JD
open Go.RowKit Go.Proofs.YtjcpilmecgcooaaW.PrintWords Go.Proofs.YtjcpilmecgcooaaW.PrintLast Go.Proofs.YtjcpilmecgcooaaW.PrintMore
attribute [local go_sem] max2_int min2_int max_two min_two max_three min_three max_four min_four   -- for this text's walks alone
set_option linter.unusedVariables false
set_option linter.unusedSimpArgs false

theorem wrap_in_ {n : Int} (h : -9223372036854775808 ≤ n) (h' : n ≤ 9223372036854775807) : wrap64 n = n := by
  unfold wrap64; omega
/-- within the range of the bounds of intervals -/
def InR (x : Int) : Prop := -1000000000000000000 ≤ x ∧ x ≤ 1000000000000000000
instance (x : Int) : Decidable (InR x) := inferInstanceAs (Decidable (_ ∧ _))
theorem below_setg {B : Nat} {w W : World} {g j : Nat} {v : Value} (h : Below B w W) (hg : B ≤ g) : Below B w (W.setCell ⟨g, j, none⟩ v) := h.setCell hg _
/-- stores at two places: the order makes no difference -/
theorem setCell_comm_ (w : World) (b c i j : Nat) (x y : Value) (h : b ≠ c ∨ i ≠ j) : (w.setCell ⟨c, j, none⟩ y).setCell ⟨b, i, none⟩ x = (w.setCell ⟨b, i, none⟩ x).setCell ⟨c, j, none⟩ y := by
  unfold World.setCell
  congr 1
  apply Array.ext_getElem?
  intro k
  simp only [Array.getElem?_modify]
  by_cases h1 : b = k <;> by_cases h2 : c = k
  · subst h1; subst h2
    have hij : i ≠ j := h.resolve_left (fun z => z rfl)
    simp only [if_pos, Option.map_map]
    congr 1
    funext o
    cases o <;> simp only [Function.comp, Option.isSome_none, Bool.false_eq_true, if_false]
    rw [Array.setIfInBounds_comm _ _ hij]
  · simp only [if_pos h1, if_neg h2]
  · simp only [if_neg h1, if_pos h2]
  · simp only [if_neg h1, if_neg h2]
section
variable {P : Program} {ops : Array Oper} {Q : Exit → Act → World → Prop} {md : Region.Mode} {S : World → Prop} {ds : List Nat}
/-- a load that may come up behind a store elsewhere: both orders lead to one place, shown once -/
theorem late_ {i j : Nat} {N : Option Tmp} {v : Value} {oi oj : Oper} {fuel : Nat} {l : Array Bool} {a a1 : Act} {w W1 : World} (X : Prop) (S2 : World → Prop) (li lj lij : Array Bool) (hi : ops[i]? = some oi) (hj : ops[j]? = some oj) (hN : oi.dst = N) (hNj : oj.dst = none)
    (hc : ((Region.ready md ops l == [i, j] || Region.ready md ops l == [j, i]) && l.setIfInBounds i true == li && l.setIfInBounds j true == lj && Region.ready md ops lj == [i] && lj.setIfInBounds i true == lij) = true) (hdi : i ∉ ds) (hdj : j ∈ ds)
    (hy : YieldsIf P ops S2 oi v a) (hs : S2 w) (hs1 : S2 W1) (ha : a.put N v = a1)
    (h2 : ∀ K : Act → World → Prop, K a W1 → if Region.wanted oj (yielded ops a.tmps) = true then Oper.wp P oj a w K Q else K (a.put none undef) w)
    (hX : X) (b1 : X → wpAnyLast P md ops Q S ds (fuel + 1) li a1 w) (b2 : X → wpAnyLast P md ops Q S ds fuel lij a1 W1) : wpAnyLast P md ops Q S ds (fuel + 2) l a w := by
  simp only [Bool.and_eq_true, Bool.or_eq_true, beq_iff_eq] at hc
  obtain ⟨⟨⟨⟨c1, c2⟩, c3⟩, c4⟩, c5⟩ := hc
  subst ha
  subst hN
  have A1 : wpOp P ops Q i (fun a' w' => (i ∉ ds → S w → S w') ∧ wpAnyLast P md ops Q S ds (fuel + 1) (l.setIfInBounds i true) a' w') a w := by
    refine hy.wpOp hi hs ⟨fun _ h => h, ?_⟩
    rw [c2]
    exact b1 hX
  have A2 : wpOp P ops Q j (fun a' w' => (j ∉ ds → S w → S w') ∧ wpAnyLast P md ops Q S ds (fuel + 1) (l.setIfInBounds j true) a' w') a w := by
    refine wpOp_step hj (fun K hK => ?_)
    rw [hNj]
    refine h2 K (hK _ _ ⟨fun h => absurd hdj h, ?_⟩)
    rw [c3]
    refine wpAnyLast_all c4 (by simp) ?_
    intro k hk
    obtain rfl := List.mem_singleton.mp hk
    refine hy.wpOp hi hs1 ⟨fun _ h => h, ?_⟩
    rw [c5]
    exact b2 hX
  rcases c1 with c1 | c1
  · refine wpAnyLast_all c1 (by simp) ?_
    intro k hk
    rcases List.mem_cons.mp hk with rfl | hk
    · exact A1
    · obtain rfl := List.mem_singleton.mp hk
      exact A2
  · refine wpAnyLast_all c1 (by simp) ?_
    intro k hk
    rcases List.mem_cons.mp hk with rfl | hk
    · exact A2
    · obtain rfl := List.mem_singleton.mp hk
      exact A1
end

/-! ### the Lean function series_beyond: function 70 -/
def series_beyond.f (a0 : Int) (a1 : Int) : Option (Bool) := if a0 < (wrap64 (-a1)) then (some true) else (some (decide (a0 > a1)))

/-! ### the Lean function series_Check: function 46 -/
mutual
def series_Check.j0 : Nat → Bool → Int → Int → List (S69) → Int → Option (Int)
  | 0, _, _, _, _, _ => none
  | k + 1, x26, x102000, x102001, x102002, x102003 => if x26 = true then (some 3) else (series_Check.l0 k x102002 (x102002.length : Int) 0)
def series_Check.l0 : Nat → List (S69) → Int → Int → Option (Int)
  | 0, _, _, _ => none
  | k + 1, x28, x29, x30 => if x30 < x29 then (if 0 ≤ x30 then (if x30 < (x28.length : Int) then ((series_beyond.f ((rd_T69 x28 x30).f0) 1000000000).bind fun t106 => (if t106 = true then (some 3) else (if ((rd_T69 x28 x30).f1) < 0 then (some 3) else (if ((rd_T69 x28 x30).f1) ≥ 1000000000 then (some 3) else ((series_beyond.f ((rd_T69 x28 x30).f2) 4000000000000000).bind fun t107 => (if t107 = true then (some 3) else (series_Check.l0 k x28 x29 (wrap64 (x30 + 1))))))))) else (none)) else (none)) else (some 0)
end
def series_Check.f (k : Nat) (a0_0 : Int) (a0_1 : Int) (l0_2 : List (S69)) (a0_3 : Int) : Option (Int) := if (l0_2.length : Int) > 40 then (some 2) else ((series_beyond.f a0_0 1000000000).bind fun t102 => (if t102 = true then (series_Check.j0 k true a0_0 a0_1 l0_2 a0_3) else ((series_beyond.f a0_1 4000000000000000).bind fun t103 => (if t103 = true then (series_Check.j0 k true a0_0 a0_1 l0_2 a0_3) else (if a0_3 < 0 then (series_Check.j0 k true a0_0 a0_1 l0_2 a0_3) else (series_Check.j0 k (decide (a0_3 > 100000000)) a0_0 a0_1 l0_2 a0_3))))))
theorem series_Check.mono_l : ∀ k, (∀ y0 y1 y2 y3 y4, LeO (series_Check.j0 k y0 y1 y2 y3 y4) (series_Check.j0 (k + 1) y0 y1 y2 y3 y4)) ∧ (∀ y0 y1 y2, LeO (series_Check.l0 k y0 y1 y2) (series_Check.l0 (k + 1) y0 y1 y2))
  | 0 => ⟨fun _ _ _ _ _ r h => by simp [series_Check.j0] at h, fun _ _ _ r h => by simp [series_Check.l0] at h⟩
  | k + 1 => by
    obtain ⟨ih0, ih1⟩ := series_Check.mono_l k
    refine ⟨?_, ?_⟩
    · intro y0 y1 y2 y3 y4
      unfold series_Check.j0
      repeat' first
      | (with_reducible exact ih0 _ _ _ _ _)
      | (with_reducible exact ih1 _ _ _)
      | (with_reducible exact LeO.refl _)
      | (with_reducible exact LeO.none _)
      | (with_reducible refine LeO.ite ?_ ?_)
      | (with_reducible refine LeO.bind ?_ (fun _ => ?_))
      | exact ih0 _ _ _ _ _
      | exact ih1 _ _ _
      | exact LeO.none _
      | refine LeO.ite ?_ ?_
      | refine LeO.bind ?_ (fun _ => ?_)
    · intro y0 y1 y2
      unfold series_Check.l0
      repeat' first
      | (with_reducible exact ih0 _ _ _ _ _)
      | (with_reducible exact ih1 _ _ _)
      | (with_reducible exact LeO.refl _)
      | (with_reducible exact LeO.none _)
      | (with_reducible refine LeO.ite ?_ ?_)
      | (with_reducible refine LeO.bind ?_ (fun _ => ?_))
      | exact ih0 _ _ _ _ _
      | exact ih1 _ _ _
      | exact LeO.none _
      | refine LeO.ite ?_ ?_
      | refine LeO.bind ?_ (fun _ => ?_)
theorem series_Check.mono : ∀ a0 a1 a2 a3 k, LeO (series_Check.f k a0 a1 a2 a3) (series_Check.f (k + 1) a0 a1 a2 a3) := by
  intro a0 a1 a2 a3 k
  obtain ⟨ih0, ih1⟩ := series_Check.mono_l k
  unfold series_Check.f
  repeat' first
      | (with_reducible exact ih0 _ _ _ _ _)
      | (with_reducible exact ih1 _ _ _)
      | (with_reducible exact LeO.refl _)
      | (with_reducible exact LeO.none _)
      | (with_reducible refine LeO.ite ?_ ?_)
      | (with_reducible refine LeO.bind ?_ (fun _ => ?_))
      | exact ih0 _ _ _ _ _
      | exact ih1 _ _ _
      | exact LeO.none _
      | refine LeO.ite ?_ ?_
      | refine LeO.bind ?_ (fun _ => ?_)

/-! ### the Lean function series_Valid: function 67 -/
def series_Valid.f (a0 : Int) : Option (Bool) := if a0 ≥ (-345600000000000) then (some (decide (a0 < 345600086400000))) else (some false)

/-! ### the Lean function series_check: function 44 -/
def series_check.f (k : Nat) (a0_0 : Int) (a0_1 : Int) (l0_2 : List (S69)) (a0_3 : Int) (a1 : Int) : Option (Int) := (series_Check.f k a0_0 a0_1 l0_2 a0_3).bind fun t109 => (if t109 = 0 then ((series_Valid.f a1).bind fun t110 => (if t110 = true then (some 0) else (some 3))) else (some t109))
theorem series_check.mono : ∀ a0 a1 a2 a3 a4 k, LeO (series_check.f k a0 a1 a2 a3 a4) (series_check.f (k + 1) a0 a1 a2 a3 a4) := by
  intro a0 a1 a2 a3 a4 k
  unfold series_check.f
  repeat' first
      | (with_reducible exact series_Check.mono _ _ _ _ _)
      | (with_reducible exact LeO.refl _)
      | (with_reducible exact LeO.none _)
      | (with_reducible refine LeO.ite ?_ ?_)
      | (with_reducible refine LeO.bind ?_ (fun _ => ?_))
      | exact series_Check.mono _ _ _ _ _
      | exact LeO.none _
      | refine LeO.ite ?_ ?_
      | refine LeO.bind ?_ (fun _ => ?_)

/-! ### the Lean function interval_Floor: function 50 -/
def interval_Floor.f (a0 : Int) (a1 : Int) : Option (Int) := if a1 = 0 then (none) else (if (Int.tmod a0 a1) = 0 then (some (wrap64 (Int.tdiv a0 a1))) else (if ((decide (a0 < 0)) != (decide (a1 < 0))) = true then (some (wrap64 ((wrap64 (Int.tdiv a0 a1)) - 1))) else (some (wrap64 (Int.tdiv a0 a1)))))

/-! ### the Lean function series_Turned: function 47 -/
def series_Turned.j0 : Nat → Int → Int → Int → Int → Int → Option (Int)
  | 0, _, _, _, _, _ => none
  | k + 1, x0, x5, x6, x7, x8 => if x5 < 0 then ((interval_Floor.f x0 86400000).bind fun t113 => ((interval_Floor.f (wrap64 ((wrap64 (-(wrap64 ((Int.tmod (wrap64 ((Int.tmod (wrap64 (x7 * (wrap64 (Int.tdiv x8 1000)))) 1000000000000000) * 1000)) 1000000000000000) + (Int.tmod (wrap64 (x7 * (Int.tmod x8 1000))) 1000000000000000))))) + (wrap64 ((wrap64 (t113 * x6)) + (wrap64 (Int.tdiv (wrap64 ((wrap64 (x0 - (wrap64 (t113 * 86400000)))) * x6)) 86400000)))))) 1000000000000000).bind fun t114 => (some (wrap64 ((wrap64 ((wrap64 (-(wrap64 ((Int.tmod (wrap64 ((Int.tmod (wrap64 (x7 * (wrap64 (Int.tdiv x8 1000)))) 1000000000000000) * 1000)) 1000000000000000) + (Int.tmod (wrap64 (x7 * (Int.tmod x8 1000))) 1000000000000000))))) + (wrap64 ((wrap64 (t113 * x6)) + (wrap64 (Int.tdiv (wrap64 ((wrap64 (x0 - (wrap64 (t113 * 86400000)))) * x6)) 86400000)))))) - (wrap64 (t114 * 1000000000000000))))))) else ((interval_Floor.f x0 86400000).bind fun t115 => ((interval_Floor.f (wrap64 ((wrap64 ((Int.tmod (wrap64 ((Int.tmod (wrap64 (x7 * (wrap64 (Int.tdiv x8 1000)))) 1000000000000000) * 1000)) 1000000000000000) + (Int.tmod (wrap64 (x7 * (Int.tmod x8 1000))) 1000000000000000))) + (wrap64 ((wrap64 (t115 * x6)) + (wrap64 (Int.tdiv (wrap64 ((wrap64 (x0 - (wrap64 (t115 * 86400000)))) * x6)) 86400000)))))) 1000000000000000).bind fun t116 => (some (wrap64 ((wrap64 ((wrap64 ((Int.tmod (wrap64 ((Int.tmod (wrap64 (x7 * (wrap64 (Int.tdiv x8 1000)))) 1000000000000000) * 1000)) 1000000000000000) + (Int.tmod (wrap64 (x7 * (Int.tmod x8 1000))) 1000000000000000))) + (wrap64 ((wrap64 (t115 * x6)) + (wrap64 (Int.tdiv (wrap64 ((wrap64 (x0 - (wrap64 (t115 * 86400000)))) * x6)) 86400000)))))) - (wrap64 (t116 * 1000000000000000)))))))
def series_Turned.f (k : Nat) (a0 : Int) (a1 : Int) : Option (Int) := (interval_Floor.f a1 86400000).bind fun t111 => ((interval_Floor.f a0 1000000000000000).bind fun t112 => (if t111 < 0 then (series_Turned.j0 k a0 t111 (wrap64 (a1 - (wrap64 (t111 * 86400000)))) (wrap64 (a0 - (wrap64 (t112 * 1000000000000000)))) (wrap64 (-t111))) else (series_Turned.j0 k a0 t111 (wrap64 (a1 - (wrap64 (t111 * 86400000)))) (wrap64 (a0 - (wrap64 (t112 * 1000000000000000)))) t111)))
theorem series_Turned.mono_l : ∀ k, (∀ y0 y1 y2 y3 y4, LeO (series_Turned.j0 k y0 y1 y2 y3 y4) (series_Turned.j0 (k + 1) y0 y1 y2 y3 y4))
  | 0 => fun _ _ _ _ _ r h => by simp [series_Turned.j0] at h
  | k + 1 => by
    have ih0 := series_Turned.mono_l k
    · intro y0 y1 y2 y3 y4
      unfold series_Turned.j0
      repeat' first
      | (with_reducible exact ih0 _ _ _ _ _)
      | (with_reducible exact LeO.refl _)
      | (with_reducible exact LeO.none _)
      | (with_reducible refine LeO.ite ?_ ?_)
      | (with_reducible refine LeO.bind ?_ (fun _ => ?_))
      | exact ih0 _ _ _ _ _
      | exact LeO.none _
      | refine LeO.ite ?_ ?_
      | refine LeO.bind ?_ (fun _ => ?_)
theorem series_Turned.mono : ∀ a0 a1 k, LeO (series_Turned.f k a0 a1) (series_Turned.f (k + 1) a0 a1) := by
  intro a0 a1 k
  have ih0 := series_Turned.mono_l k
  unfold series_Turned.f
  repeat' first
      | (with_reducible exact ih0 _ _ _ _ _)
      | (with_reducible exact LeO.refl _)
      | (with_reducible exact LeO.none _)
      | (with_reducible refine LeO.ite ?_ ?_)
      | (with_reducible refine LeO.bind ?_ (fun _ => ?_))
      | exact ih0 _ _ _ _ _
      | exact LeO.none _
      | refine LeO.ite ?_ ?_
      | refine LeO.bind ?_ (fun _ => ?_)

/-! ### the Lean function trig_out: function 74 -/
def trig_out.f (a0 : Int) : Option (Bool) := if a0 < (-1000000000000000000) then (some true) else (some (decide (a0 > 1000000000000000000)))

/-! ### the Lean function trig_Reduced: function 75 -/
def trig_Reduced.f (a0 : Int) : Option (Int) := (interval_Floor.f a0 1000000000).bind fun t117 => (some (wrap64 (a0 - (wrap64 (t117 * 1000000000)))))

/-! ### the Lean function trig_mul: function 91 -/
def trig_mul.f (a0 : Int) (a1 : Int) : Option (Int) := some (wrap64 ((wrap64 ((a0 / 1073741824) * (a1 / 1073741824))) + ((wrap64 ((wrap64 ((wrap64 ((a0 / 1073741824) * (Go.bits .and .i64 a1 1073741823))) + (wrap64 ((Go.bits .and .i64 a0 1073741823) * (a1 / 1073741824))))) + ((wrap64 ((Go.bits .and .i64 a0 1073741823) * (Go.bits .and .i64 a1 1073741823))) / 1073741824))) / 1073741824)))

/-! ### the Lean function trig_octant: function 76 -/
def trig_octant.l0 : Nat → Int → Int → Int → Int → Int → Int → Option (Int × Int)
  | 0, _, _, _, _, _, _ => none
  | k + 1, x5, x6, x7, x8, x9, x10 => if x10 ≤ 9 then ((trig_mul.f x9 x5).bind fun t119 => (if (wrap64 ((wrap64 ((wrap64 ((wrap64 (2 * x10)) - 1)) * 2)) * x10)) = 0 then (none) else ((trig_mul.f x8 x5).bind fun t120 => (if (wrap64 ((wrap64 (2 * x10)) * (wrap64 ((wrap64 (2 * x10)) + 1)))) = 0 then (none) else (if (Int.tmod x10 2) = 1 then (trig_octant.l0 k x5 (wrap64 (x6 - (wrap64 (Int.tdiv t120 (wrap64 ((wrap64 (2 * x10)) * (wrap64 ((wrap64 (2 * x10)) + 1)))))))) (wrap64 (x7 - (wrap64 (Int.tdiv t119 (wrap64 ((wrap64 ((wrap64 ((wrap64 (2 * x10)) - 1)) * 2)) * x10)))))) (wrap64 (Int.tdiv t120 (wrap64 ((wrap64 (2 * x10)) * (wrap64 ((wrap64 (2 * x10)) + 1)))))) (wrap64 (Int.tdiv t119 (wrap64 ((wrap64 ((wrap64 ((wrap64 (2 * x10)) - 1)) * 2)) * x10)))) (wrap64 (x10 + 1))) else (trig_octant.l0 k x5 (wrap64 (x6 + (wrap64 (Int.tdiv t120 (wrap64 ((wrap64 (2 * x10)) * (wrap64 ((wrap64 (2 * x10)) + 1)))))))) (wrap64 (x7 + (wrap64 (Int.tdiv t119 (wrap64 ((wrap64 ((wrap64 ((wrap64 (2 * x10)) - 1)) * 2)) * x10)))))) (wrap64 (Int.tdiv t120 (wrap64 ((wrap64 (2 * x10)) * (wrap64 ((wrap64 (2 * x10)) + 1)))))) (wrap64 (Int.tdiv t119 (wrap64 ((wrap64 ((wrap64 ((wrap64 (2 * x10)) - 1)) * 2)) * x10)))) (wrap64 (x10 + 1)))))))) else (some (mx 0 x6, mn 1152921504606846976 x7))
def trig_octant.f (k : Nat) (a0 : Int) : Option (Int × Int) := (trig_mul.f (wrap64 ((wrap64 (a0 * 7244019458)) + (wrap64 (Int.tdiv (wrap64 (a0 * 77122842)) 1000000000)))) (wrap64 ((wrap64 (a0 * 7244019458)) + (wrap64 (Int.tdiv (wrap64 (a0 * 77122842)) 1000000000))))).bind fun t118 => (trig_octant.l0 k t118 (wrap64 ((wrap64 (a0 * 7244019458)) + (wrap64 (Int.tdiv (wrap64 (a0 * 77122842)) 1000000000)))) 1152921504606846976 (wrap64 ((wrap64 (a0 * 7244019458)) + (wrap64 (Int.tdiv (wrap64 (a0 * 77122842)) 1000000000)))) 1152921504606846976 1)
theorem trig_octant.mono_l : ∀ k, (∀ y0 y1 y2 y3 y4 y5, LeO (trig_octant.l0 k y0 y1 y2 y3 y4 y5) (trig_octant.l0 (k + 1) y0 y1 y2 y3 y4 y5))
  | 0 => fun _ _ _ _ _ _ r h => by simp [trig_octant.l0] at h
  | k + 1 => by
    have ih0 := trig_octant.mono_l k
    · intro y0 y1 y2 y3 y4 y5
      unfold trig_octant.l0
      repeat' first
      | (with_reducible exact ih0 _ _ _ _ _ _)
      | (with_reducible exact LeO.refl _)
      | (with_reducible exact LeO.none _)
      | (with_reducible refine LeO.ite ?_ ?_)
      | (with_reducible refine LeO.bind ?_ (fun _ => ?_))
      | exact ih0 _ _ _ _ _ _
      | exact LeO.none _
      | refine LeO.ite ?_ ?_
      | refine LeO.bind ?_ (fun _ => ?_)
theorem trig_octant.mono : ∀ a0 k, LeO (trig_octant.f k a0) (trig_octant.f (k + 1) a0) := by
  intro a0 k
  have ih0 := trig_octant.mono_l k
  unfold trig_octant.f
  repeat' first
      | (with_reducible exact ih0 _ _ _ _ _ _)
      | (with_reducible exact LeO.refl _)
      | (with_reducible exact LeO.none _)
      | (with_reducible refine LeO.ite ?_ ?_)
      | (with_reducible refine LeO.bind ?_ (fun _ => ?_))
      | exact ih0 _ _ _ _ _ _
      | exact LeO.none _
      | refine LeO.ite ?_ ?_
      | refine LeO.bind ?_ (fun _ => ?_)

/-! ### the Lean function trig_rounded: function 77 -/
def trig_rounded.f (a0 : Int) : Option (Int × Int) := some (mx (-1000000000) (wrap64 (((wrap64 ((wrap64 ((a0 / 1073741824) * 1000000000)) + ((wrap64 ((Go.bits .and .i64 a0 1073741823) * 1000000000)) / 1073741824))) / 1073741824) - 1)), mn 1000000000 (wrap64 (((wrap64 ((wrap64 ((a0 / 1073741824) * 1000000000)) + ((wrap64 ((Go.bits .and .i64 a0 1073741823) * 1000000000)) / 1073741824))) / 1073741824) + 2)))

/-! ### the Lean function trig_minus: function 78 -/
def trig_minus.f (a0_0 : Int) (a0_1 : Int) : Option (Int × Int) := some (wrap64 (-a0_1), wrap64 (-a0_0))

/-! ### the Lean function trig_Sin: function 57 -/
def trig_Sin.j0 : Nat → Int → Int → Int → Option (Int × Int × Int)
  | 0, _, _, _ => none
  | k + 1, x4, x6, x7 => if x4 = 0 then ((trig_rounded.f x6).bind fun bt131 => (some (bt131.1, bt131.2, 0))) else (if x4 = 1 then ((trig_rounded.f x7).bind fun bt133 => (some (bt133.1, bt133.2, 0))) else (if x4 = 2 then ((trig_rounded.f x6).bind fun bt135 => ((trig_minus.f bt135.1 bt135.2).bind fun bt137 => (some (bt137.1, bt137.2, 0)))) else ((trig_rounded.f x7).bind fun bt139 => ((trig_minus.f bt139.1 bt139.2).bind fun bt141 => (some (bt141.1, bt141.2, 0))))))
def trig_Sin.f (k : Nat) (a0 : Int) : Option (Int × Int × Int) := (trig_out.f a0).bind fun t125 => (if t125 = true then (some (0, 0, 3)) else ((trig_Reduced.f a0).bind fun t126 => (if (Int.tmod t126 250000000) ≤ 125000000 then ((trig_octant.f k (Int.tmod t126 250000000)).bind fun bt127 => (trig_Sin.j0 k (wrap64 (Int.tdiv t126 250000000)) bt127.1 bt127.2)) else ((trig_octant.f k (wrap64 (250000000 - (Int.tmod t126 250000000)))).bind fun bt129 => (trig_Sin.j0 k (wrap64 (Int.tdiv t126 250000000)) bt129.2 bt129.1)))))
theorem trig_Sin.mono_l : ∀ k, (∀ y0 y1 y2, LeO (trig_Sin.j0 k y0 y1 y2) (trig_Sin.j0 (k + 1) y0 y1 y2))
  | 0 => fun _ _ _ r h => by simp [trig_Sin.j0] at h
  | k + 1 => by
    have ih0 := trig_Sin.mono_l k
    · intro y0 y1 y2
      unfold trig_Sin.j0
      repeat' first
      | (with_reducible exact ih0 _ _ _)
      | (with_reducible exact trig_octant.mono _ _)
      | (with_reducible exact LeO.refl _)
      | (with_reducible exact LeO.none _)
      | (with_reducible refine LeO.ite ?_ ?_)
      | (with_reducible refine LeO.bind ?_ (fun _ => ?_))
      | exact ih0 _ _ _
      | exact trig_octant.mono _ _
      | exact LeO.none _
      | refine LeO.ite ?_ ?_
      | refine LeO.bind ?_ (fun _ => ?_)
theorem trig_Sin.mono : ∀ a0 k, LeO (trig_Sin.f k a0) (trig_Sin.f (k + 1) a0) := by
  intro a0 k
  have ih0 := trig_Sin.mono_l k
  unfold trig_Sin.f
  repeat' first
      | (with_reducible exact ih0 _ _ _)
      | (with_reducible exact trig_octant.mono _ _)
      | (with_reducible exact LeO.refl _)
      | (with_reducible exact LeO.none _)
      | (with_reducible refine LeO.ite ?_ ?_)
      | (with_reducible refine LeO.bind ?_ (fun _ => ?_))
      | exact ih0 _ _ _
      | exact trig_octant.mono _ _
      | exact LeO.none _
      | refine LeO.ite ?_ ?_
      | refine LeO.bind ?_ (fun _ => ?_)

/-! ### the Lean function interval_out: function 92 -/
def interval_out.f (a0 : Int) : Option (Bool) := if a0 < (-1000000000000000000) then (some true) else (some (decide (a0 > 1000000000000000000)))

/-! ### the Lean function interval_Check: function 79 -/
def interval_Check.j0 : Nat → Bool → Int → Int → Option (Int)
  | 0, _, _, _ => none
  | k + 1, x10, x144000, x144001 => if x10 = true then (some 3) else (if x144000 > x144001 then (some 9) else (some 0))
def interval_Check.f (k : Nat) (a0_0 : Int) (a0_1 : Int) : Option (Int) := (interval_out.f a0_0).bind fun t144 => (if t144 = true then (interval_Check.j0 k true a0_0 a0_1) else ((interval_out.f a0_1).bind fun t145 => (interval_Check.j0 k t145 a0_0 a0_1)))
theorem interval_Check.mono_l : ∀ k, (∀ y0 y1 y2, LeO (interval_Check.j0 k y0 y1 y2) (interval_Check.j0 (k + 1) y0 y1 y2))
  | 0 => fun _ _ _ r h => by simp [interval_Check.j0] at h
  | k + 1 => by
    have ih0 := interval_Check.mono_l k
    · intro y0 y1 y2
      unfold interval_Check.j0
      repeat' first
      | (with_reducible exact ih0 _ _ _)
      | (with_reducible exact LeO.refl _)
      | (with_reducible exact LeO.none _)
      | (with_reducible refine LeO.ite ?_ ?_)
      | (with_reducible refine LeO.bind ?_ (fun _ => ?_))
      | exact ih0 _ _ _
      | exact LeO.none _
      | refine LeO.ite ?_ ?_
      | refine LeO.bind ?_ (fun _ => ?_)
theorem interval_Check.mono : ∀ a0 a1 k, LeO (interval_Check.f k a0 a1) (interval_Check.f (k + 1) a0 a1) := by
  intro a0 a1 k
  have ih0 := interval_Check.mono_l k
  unfold interval_Check.f
  repeat' first
      | (with_reducible exact ih0 _ _ _)
      | (with_reducible exact LeO.refl _)
      | (with_reducible exact LeO.none _)
      | (with_reducible refine LeO.ite ?_ ?_)
      | (with_reducible refine LeO.bind ?_ (fun _ => ?_))
      | exact ih0 _ _ _
      | exact LeO.none _
      | refine LeO.ite ?_ ?_
      | refine LeO.bind ?_ (fun _ => ?_)

/-! ### the Lean function trig_passes: function 89 -/
def trig_passes.f (a0_0 : Int) (a0_1 : Int) (a1 : Int) : Option (Bool) := (interval_Floor.f (wrap64 (a0_1 - a1)) 1000000000).bind fun t147 => (some (decide ((wrap64 (t147 * 1000000000)) ≥ (wrap64 (a0_0 - a1)))))

/-! ### the Lean function trig_SinOver: function 68 -/
def trig_SinOver.f (k : Nat) (a0_0 : Int) (a0_1 : Int) : Option (Int × Int × Int) := (interval_Check.f k a0_0 a0_1).bind fun t150 => (if t150 = 0 then ((trig_Sin.f k a0_0).bind fun bt151 => ((trig_Sin.f k a0_1).bind fun bt155 => ((trig_passes.f a0_0 a0_1 250000000).bind fun t160 => (if t160 = true then ((trig_passes.f a0_0 a0_1 750000000).bind fun t161 => (if t161 = true then (some ((-1000000000), 1000000000, 0)) else (some (mn bt151.1 bt155.1, 1000000000, 0)))) else ((trig_passes.f a0_0 a0_1 750000000).bind fun t162 => (if t162 = true then (some ((-1000000000), mx bt151.2.1 bt155.2.1, 0)) else (some (mn bt151.1 bt155.1, mx bt151.2.1 bt155.2.1, 0)))))))) else (some (0, 0, t150)))
theorem trig_SinOver.mono : ∀ a0 a1 k, LeO (trig_SinOver.f k a0 a1) (trig_SinOver.f (k + 1) a0 a1) := by
  intro a0 a1 k
  unfold trig_SinOver.f
  repeat' first
      | (with_reducible exact interval_Check.mono _ _ _)
      | (with_reducible exact trig_Sin.mono _ _)
      | (with_reducible exact LeO.refl _)
      | (with_reducible exact LeO.none _)
      | (with_reducible refine LeO.ite ?_ ?_)
      | (with_reducible refine LeO.bind ?_ (fun _ => ?_))
      | exact interval_Check.mono _ _ _
      | exact trig_Sin.mono _ _
      | exact LeO.none _
      | refine LeO.ite ?_ ?_
      | refine LeO.bind ?_ (fun _ => ?_)

/-! ### the Lean function interval_abs: function 99 -/
def interval_abs.f (a0 : Int) : Option (Int) := if a0 < 0 then (some (wrap64 (-a0))) else (some a0)

/-! ### the Lean function interval_part: function 90 -/
def interval_part.j0 : Nat → Int → Int → Int → Int → Bool → Option (Int × Bool)
  | 0, _, _, _, _, _ => none
  | k + 1, x0, x1, x2, x8, x21 => if x21 = true then (some (0, false)) else ((interval_Floor.f (wrap64 ((wrap64 (x0 - (wrap64 (x8 * x2)))) * x1)) x2).bind fun t165 => ((interval_out.f (wrap64 ((wrap64 (x8 * x1)) + t165))).bind fun t166 => (some (wrap64 ((wrap64 (x8 * x1)) + t165), !t166))))
def interval_part.f (k : Nat) (a0 : Int) (a1 : Int) (a2 : Int) : Option (Int × Bool) := (interval_Floor.f a0 a2).bind fun t163 => (if a1 = 0 then (interval_part.j0 k a0 a1 a2 t163 false) else ((interval_abs.f t163).bind fun t164 => (interval_part.j0 k a0 a1 a2 t163 (decide (t164 > (wrap64 (Int.tdiv (2000000000000000000 : Int) a1)))))))
theorem interval_part.mono_l : ∀ k, (∀ y0 y1 y2 y3 y4, LeO (interval_part.j0 k y0 y1 y2 y3 y4) (interval_part.j0 (k + 1) y0 y1 y2 y3 y4))
  | 0 => fun _ _ _ _ _ r h => by simp [interval_part.j0] at h
  | k + 1 => by
    have ih0 := interval_part.mono_l k
    · intro y0 y1 y2 y3 y4
      unfold interval_part.j0
      repeat' first
      | (with_reducible exact ih0 _ _ _ _ _)
      | (with_reducible exact LeO.refl _)
      | (with_reducible exact LeO.none _)
      | (with_reducible refine LeO.ite ?_ ?_)
      | (with_reducible refine LeO.bind ?_ (fun _ => ?_))
      | exact ih0 _ _ _ _ _
      | exact LeO.none _
      | refine LeO.ite ?_ ?_
      | refine LeO.bind ?_ (fun _ => ?_)
theorem interval_part.mono : ∀ a0 a1 a2 k, LeO (interval_part.f k a0 a1 a2) (interval_part.f (k + 1) a0 a1 a2) := by
  intro a0 a1 a2 k
  have ih0 := interval_part.mono_l k
  unfold interval_part.f
  repeat' first
      | (with_reducible exact ih0 _ _ _ _ _)
      | (with_reducible exact LeO.refl _)
      | (with_reducible exact LeO.none _)
      | (with_reducible refine LeO.ite ?_ ?_)
      | (with_reducible refine LeO.bind ?_ (fun _ => ?_))
      | exact ih0 _ _ _ _ _
      | exact LeO.none _
      | refine LeO.ite ?_ ?_
      | refine LeO.bind ?_ (fun _ => ?_)

/-! ### the Lean function interval_Scale: function 69 -/
def interval_Scale.lo (a0_0 a0_1 a1 a2 : Int) : Int := if a1 < 0 then (-a0_1) * (-a1) / a2 else a0_0 * a1 / a2
def interval_Scale.hi (a0_0 a0_1 a1 a2 : Int) : Int := if a1 < 0 then -(a0_0 * (-a1) / a2) else -((-a0_1) * a1 / a2)
def ScaleOk (a0_0 a0_1 a1 a2 : Int) : Prop := InR a0_0 ∧ a0_0 ≤ a0_1 ∧ InR a0_1 ∧ -1000000000 ≤ a1 ∧ a1 ≤ 1000000000 ∧ 1 ≤ a2 ∧ a2 ≤ 1000000000 ∧ InR (interval_Scale.lo a0_0 a0_1 a1 a2) ∧ InR (interval_Scale.hi a0_0 a0_1 a1 a2)
instance (a b c d : Int) : Decidable (ScaleOk a b c d) := inferInstanceAs (Decidable (_ ∧ _ ∧ _ ∧ _ ∧ _ ∧ _ ∧ _ ∧ _ ∧ _))
def interval_Scale.f (a0_0 : Int) (a0_1 : Int) (a1 : Int) (a2 : Int) : Option (Int × Int × Int) :=
  if ScaleOk a0_0 a0_1 a1 a2 then some (interval_Scale.lo a0_0 a0_1 a1 a2, interval_Scale.hi a0_0 a0_1 a1 a2, 0) else none
theorem sfloor_ {a b : Int} (hb : 0 < b) (hb' : b ≤ 9000000000000000000) (ha : -9000000000000000000 ≤ a) (ha' : a ≤ 9000000000000000000) : interval_Floor.f a b = some (a / b) := by
  have e := Int.emod_add_mul_ediv a b
  have m0 := Int.emod_nonneg a (show b ≠ 0 by omega)
  have m1 := Int.emod_lt_of_pos a hb
  unfold interval_Floor.f
  rw [if_neg (by omega)]
  rcases Int.le_total 0 a with h0 | h0
  · have d0 : 0 ≤ a / b := Int.ediv_nonneg h0 (by omega)
    have d1 : a / b ≤ a := Int.ediv_le_self _ h0
    rw [Int.tdiv_eq_ediv_of_nonneg h0, wrap_in_ (n := a / b) (by omega) (by omega), decide_eq_false (show ¬ a < 0 by omega), decide_eq_false (show ¬ b < 0 by omega)]
    simp
  · have hm : Int.tmod a b = -((-a) % b) := by rw [← Int.tmod_eq_emod_of_nonneg (by omega), Int.neg_tmod, Int.neg_neg]
    have hd : Int.tdiv a b = -((-a) / b) := by rw [← Int.tdiv_eq_ediv_of_nonneg (by omega), Int.neg_tdiv, Int.neg_neg]
    have e' := Int.emod_add_mul_ediv (-a) b
    have m0' := Int.emod_nonneg (-a) (show b ≠ 0 by omega)
    have m1' := Int.emod_lt_of_pos (-a) hb
    have d0 : 0 ≤ (-a) / b := Int.ediv_nonneg (by omega) (by omega)
    have d1 : (-a) / b ≤ -a := Int.ediv_le_self _ (by omega)
    rw [hm, hd, wrap_in_ (n := -((-a) / b)) (by omega) (by omega)]
    clear hm hd e m0 m1
    generalize (-a) / b = q at *
    generalize (-a) % b = m at *
    have n1 : b * (-q) = -(b * q) := Int.mul_neg b q
    have bq : 0 ≤ b * q := Int.mul_nonneg (by omega) d0
    have n2 : b * (-q - 1) = -(b * q) - b := by rw [Int.mul_sub, n1, Int.mul_one]
    by_cases z : m = 0
    · rw [if_pos (by omega)]
      congr 1
      rw [show a = b * (-q) by omega, Int.mul_ediv_cancel_left _ (by omega)]
    · rw [if_neg (by omega), decide_eq_true (show a < 0 by omega), decide_eq_false (show ¬ b < 0 by omega), wrap_in_ (by omega) (by omega)]
      simp only [Bool.true_bne, Bool.not_false, if_true]
      congr 1
      rw [show a = (b - m) + b * (-q - 1) by omega, Int.add_mul_ediv_left _ _ (by omega), Int.ediv_eq_zero_of_lt (by omega) (by omega)]; omega
theorem part_f_ {n m d : Int} (h1 : InR n) (h2 : 0 ≤ m) (h3 : m ≤ 1000000000) (h4 : 1 ≤ d) (h5 : d ≤ 1000000000) (h6 : InR (n * m / d)) : interval_part.f 1 n m d = some (n * m / d, true) := by
  obtain ⟨a1, a2⟩ := h1
  obtain ⟨b1, b2⟩ := h6
  have e := Int.emod_add_mul_ediv n d
  have m0 := Int.emod_nonneg n (show d ≠ 0 by omega)
  have m1 := Int.emod_lt_of_pos n (show 0 < d by omega)
  have q1 : n / d ≤ 1000000000000000000 := Int.ediv_le_of_le_mul (by omega) (by have : 1000000000000000000 * 1 ≤ 1000000000000000000 * d := Int.mul_le_mul_of_nonneg_left h4 (by omega); omega)
  have q0 : -1000000000000000000 ≤ n / d := Int.le_ediv_of_mul_le (by omega) (by have : 1000000000000000000 * 1 ≤ 1000000000000000000 * d := Int.mul_le_mul_of_nonneg_left h4 (by omega); rw [Int.neg_mul]; omega)
  -- the two parts of the quotient
  have key : n / d * m + (n - n / d * d) * m / d = n * m / d := by
    have : n * m = (n - n / d * d) * m + (n / d * m) * d := by
      rw [Int.sub_mul, Int.mul_right_comm (n / d) d m]; omega
    rw [this, Int.add_mul_ediv_right _ _ (by omega)]; omega
  have r : n - n / d * d = n % d := by rw [Int.mul_comm (n / d) d]; omega
  have p0 : 0 ≤ (n - n / d * d) * m := by rw [r]; exact Int.mul_nonneg m0 h2
  have p1 : (n - n / d * d) * m ≤ d * m := by rw [r]; exact Int.mul_le_mul_of_nonneg_right (by omega) h2
  have p2 : d * m ≤ 1000000000 * m := Int.mul_le_mul_of_nonneg_right h5 h2
  have t0 : 0 ≤ (n - n / d * d) * m / d := Int.ediv_nonneg p0 (by omega)
  have t1 : (n - n / d * d) * m / d ≤ m := Int.ediv_le_of_le_mul (by omega) (by rw [Int.mul_comm m d]; exact p1)
  have w1 : n / d * d = n - n % d := by omega
  unfold interval_part.f
  rw [sfloor_ (by omega) (by omega) (by omega) (by omega)]
  simp only [Option.bind_some]
  have last : interval_part.j0 1 n m d (n / d) false = some (n * m / d, true) := by
    simp only [interval_part.j0, Bool.false_eq_true, if_false]
    rw [wrap_in_ (n := n / d * d) (by omega) (by omega), wrap_in_ (n := n - n / d * d) (by omega) (by omega), wrap_in_ (n := (n - n / d * d) * m) (by omega) (by omega), sfloor_ (by omega) (by omega) (by omega) (by omega)]
    simp only [Option.bind_some]
    rw [wrap_in_ (n := n / d * m) (by omega) (by omega), key, wrap_in_ (n := n * m / d) (by omega) (by omega)]
    unfold interval_out.f
    rw [if_neg (by omega), decide_eq_false (by omega)]
    rfl
  by_cases z : m = 0
  · rw [if_pos z]; exact last
  · rw [if_neg z]
    have ab : interval_abs.f (n / d) = some (if n / d < 0 then -(n / d) else n / d) := by
      unfold interval_abs.f
      split
      · rw [wrap_in_ (by omega) (by omega)]
      · rfl
    rw [ab]
    simp only [Option.bind_some]
    have le : (if n / d < 0 then -(n / d) else n / d) ≤ Int.tdiv 2000000000000000000 m := by
      rw [Int.tdiv_eq_ediv_of_nonneg (by omega)]
      refine Int.le_ediv_of_mul_le (by omega) ?_
      split
      · rw [Int.neg_mul]; omega
      · omega
    have up : Int.tdiv 2000000000000000000 m ≤ 2000000000000000000 := by
      rw [Int.tdiv_eq_ediv_of_nonneg (by omega)]; exact Int.ediv_le_self _ (by omega)
    have lo : 0 ≤ Int.tdiv 2000000000000000000 m := by
      rw [Int.tdiv_eq_ediv_of_nonneg (by omega)]; exact Int.ediv_nonneg (by omega) h2
    rw [wrap_in_ (by omega) (by omega), decide_eq_false (by omega)]
    exact last

/-! ### the Lean function series_sum: function 45 -/
def series_sum.l0 : Nat → Int → List (S69) → Int → Int → Int → Int → Option (Int × Int)
  | 0, _, _, _, _, _, _ => none
  | k + 1, x1, x25, x26, x27, x170000, x170001 => if x27 < x26 then (if 0 ≤ x27 then (if x27 < (x25.length : Int) then ((series_Turned.f k ((rd_T69 x25 x27).f2) x1).bind fun t172 => ((trig_SinOver.f k (wrap64 ((wrap64 (Int.tdiv t172 1000000)) + ((rd_T69 x25 x27).f1))) (wrap64 ((wrap64 ((wrap64 (Int.tdiv t172 1000000)) + ((rd_T69 x25 x27).f1))) + 1))).bind fun bt173 => ((interval_Scale.f bt173.1 bt173.2.1 ((rd_T69 x25 x27).f0) 1000000000).bind fun bt177 => (series_sum.l0 k x1 x25 x26 (wrap64 (x27 + 1)) (wrap64 (x170000 + bt177.1)) (wrap64 (x170001 + bt177.2.1)))))) else (none)) else (none)) else (some (x170000, x170001))
def series_sum.f (k : Nat) (a0_0 : Int) (a0_1 : Int) (l0_2 : List (S69)) (a0_3 : Int) (a1 : Int) : Option (Int × Int) := series_sum.l0 k a1 l0_2 (l0_2.length : Int) 0 (wrap64 (a0_0 - a0_3)) (wrap64 (a0_0 + a0_3))
theorem series_sum.mono_l : ∀ k, (∀ y0 y1 y2 y3 y4 y5, LeO (series_sum.l0 k y0 y1 y2 y3 y4 y5) (series_sum.l0 (k + 1) y0 y1 y2 y3 y4 y5))
  | 0 => fun _ _ _ _ _ _ r h => by simp [series_sum.l0] at h
  | k + 1 => by
    have ih0 := series_sum.mono_l k
    · intro y0 y1 y2 y3 y4 y5
      unfold series_sum.l0
      repeat' first
      | (with_reducible exact ih0 _ _ _ _ _ _)
      | (with_reducible exact series_Turned.mono _ _ _)
      | (with_reducible exact trig_SinOver.mono _ _ _)
      | (with_reducible exact LeO.refl _)
      | (with_reducible exact LeO.none _)
      | (with_reducible refine LeO.ite ?_ ?_)
      | (with_reducible refine LeO.bind ?_ (fun _ => ?_))
      | exact ih0 _ _ _ _ _ _
      | exact series_Turned.mono _ _ _
      | exact trig_SinOver.mono _ _ _
      | exact LeO.none _
      | refine LeO.ite ?_ ?_
      | refine LeO.bind ?_ (fun _ => ?_)
theorem series_sum.mono : ∀ a0 a1 a2 a3 a4 k, LeO (series_sum.f k a0 a1 a2 a3 a4) (series_sum.f (k + 1) a0 a1 a2 a3 a4) := by
  intro a0 a1 a2 a3 a4 k
  have ih0 := series_sum.mono_l k
  unfold series_sum.f
  repeat' first
      | (with_reducible exact ih0 _ _ _ _ _ _)
      | (with_reducible exact series_Turned.mono _ _ _)
      | (with_reducible exact trig_SinOver.mono _ _ _)
      | (with_reducible exact LeO.refl _)
      | (with_reducible exact LeO.none _)
      | (with_reducible refine LeO.ite ?_ ?_)
      | (with_reducible refine LeO.bind ?_ (fun _ => ?_))
      | exact ih0 _ _ _ _ _ _
      | exact series_Turned.mono _ _ _
      | exact trig_SinOver.mono _ _ _
      | exact LeO.none _
      | refine LeO.ite ?_ ?_
      | refine LeO.bind ?_ (fun _ => ?_)

/-! ### the Lean function series_Value: function 17 -/
def series_Value.f (k : Nat) (a0_0 : Int) (a0_1 : Int) (l0_2 : List (S69)) (a0_3 : Int) (a1 : Int) : Option (Int × Int × Int) := (series_check.f k a0_0 a0_1 l0_2 a0_3 a1).bind fun t183 => (if t183 = 0 then ((series_sum.f k a0_0 a0_1 l0_2 a0_3 a1).bind fun bt184 => (some (bt184.1, bt184.2, 0))) else (some (0, 0, t183)))
theorem series_Value.mono : ∀ a0 a1 a2 a3 a4 k, LeO (series_Value.f k a0 a1 a2 a3 a4) (series_Value.f (k + 1) a0 a1 a2 a3 a4) := by
  intro a0 a1 a2 a3 a4 k
  unfold series_Value.f
  repeat' first
      | (with_reducible exact series_check.mono _ _ _ _ _ _)
      | (with_reducible exact series_sum.mono _ _ _ _ _ _)
      | (with_reducible exact LeO.refl _)
      | (with_reducible exact LeO.none _)
      | (with_reducible refine LeO.ite ?_ ?_)
      | (with_reducible refine LeO.bind ?_ (fun _ => ?_))
      | exact series_check.mono _ _ _ _ _ _
      | exact series_sum.mono _ _ _ _ _ _
      | exact LeO.none _
      | refine LeO.ite ?_ ?_
      | refine LeO.bind ?_ (fun _ => ?_)

/-! ### the Lean function series_Bound: function 21 -/
def series_Bound.l0 : Nat → Int → List (S69) → Int → Int → Option (Int × Int)
  | 0, _, _, _, _ => none
  | k + 1, x5, x18, x19, x20 => if x20 < x19 then (if 0 ≤ x20 then (if x20 < (x18.length : Int) then (if ((rd_T69 x18 x20).f0) < 0 then (series_Bound.l0 k (wrap64 (x5 + (wrap64 ((wrap64 (Int.tdiv (wrap64 (-((rd_T69 x18 x20).f0))) 100000000)) + 2)))) x18 x19 (wrap64 (x20 + 1))) else (series_Bound.l0 k (wrap64 (x5 + (wrap64 ((wrap64 (Int.tdiv ((rd_T69 x18 x20).f0) 100000000)) + 2)))) x18 x19 (wrap64 (x20 + 1)))) else (none)) else (none)) else (some (x5, 0))
def series_Bound.f (k : Nat) (a0_0 : Int) (a0_1 : Int) (l0_2 : List (S69)) (a0_3 : Int) : Option (Int × Int) := (series_Check.f k a0_0 a0_1 l0_2 a0_3).bind fun t187 => (if t187 = 0 then (series_Bound.l0 k (wrap64 (2 * a0_3)) l0_2 (l0_2.length : Int) 0) else (some (0, t187)))
theorem series_Bound.mono_l : ∀ k, (∀ y0 y1 y2 y3, LeO (series_Bound.l0 k y0 y1 y2 y3) (series_Bound.l0 (k + 1) y0 y1 y2 y3))
  | 0 => fun _ _ _ _ r h => by simp [series_Bound.l0] at h
  | k + 1 => by
    have ih0 := series_Bound.mono_l k
    · intro y0 y1 y2 y3
      unfold series_Bound.l0
      repeat' first
      | (with_reducible exact ih0 _ _ _ _)
      | (with_reducible exact series_Check.mono _ _ _ _ _)
      | (with_reducible exact LeO.refl _)
      | (with_reducible exact LeO.none _)
      | (with_reducible refine LeO.ite ?_ ?_)
      | (with_reducible refine LeO.bind ?_ (fun _ => ?_))
      | exact ih0 _ _ _ _
      | exact series_Check.mono _ _ _ _ _
      | exact LeO.none _
      | refine LeO.ite ?_ ?_
      | refine LeO.bind ?_ (fun _ => ?_)
theorem series_Bound.mono : ∀ a0 a1 a2 a3 k, LeO (series_Bound.f k a0 a1 a2 a3) (series_Bound.f (k + 1) a0 a1 a2 a3) := by
  intro a0 a1 a2 a3 k
  have ih0 := series_Bound.mono_l k
  unfold series_Bound.f
  repeat' first
      | (with_reducible exact ih0 _ _ _ _)
      | (with_reducible exact series_Check.mono _ _ _ _ _)
      | (with_reducible exact LeO.refl _)
      | (with_reducible exact LeO.none _)
      | (with_reducible refine LeO.ite ?_ ?_)
      | (with_reducible refine LeO.bind ?_ (fun _ => ?_))
      | exact ih0 _ _ _ _
      | exact series_Check.mono _ _ _ _ _
      | exact LeO.none _
      | refine LeO.ite ?_ ?_
      | refine LeO.bind ?_ (fun _ => ?_)

/-! ### the Lean function series_Reduced: function 48 -/
def series_Reduced.f (a0_0 : Int) (a0_1 : Int) : Option (Int × Int) := (interval_Floor.f a0_0 1000000000).bind fun t192 => (some (wrap64 (a0_0 - (wrap64 (t192 * 1000000000))), wrap64 (a0_1 - (wrap64 (t192 * 1000000000)))))

/-! ### the Lean function series_Angle: function 22 -/
def series_Angle.f (k : Nat) (a0_0 : Int) (a0_1 : Int) (l0_2 : List (S69)) (a0_3 : Int) (a1 : Int) : Option (Int × Int × Int) := (series_check.f k a0_0 a0_1 l0_2 a0_3 a1).bind fun t195 => (if t195 = 0 then ((series_sum.f k a0_0 a0_1 l0_2 a0_3 a1).bind fun bt196 => ((series_Turned.f k a0_1 a1).bind fun t198 => ((series_Reduced.f (wrap64 (bt196.1 + (wrap64 (Int.tdiv t198 1000000)))) (wrap64 ((wrap64 (bt196.2 + (wrap64 (Int.tdiv t198 1000000)))) + 1))).bind fun bt200 => (some (bt200.1, bt200.2, 0))))) else (some (0, 0, t195)))
theorem series_Angle.mono : ∀ a0 a1 a2 a3 a4 k, LeO (series_Angle.f k a0 a1 a2 a3 a4) (series_Angle.f (k + 1) a0 a1 a2 a3 a4) := by
  intro a0 a1 a2 a3 a4 k
  unfold series_Angle.f
  repeat' first
      | (with_reducible exact series_Turned.mono _ _ _)
      | (with_reducible exact series_check.mono _ _ _ _ _ _)
      | (with_reducible exact series_sum.mono _ _ _ _ _ _)
      | (with_reducible exact LeO.refl _)
      | (with_reducible exact LeO.none _)
      | (with_reducible refine LeO.ite ?_ ?_)
      | (with_reducible refine LeO.bind ?_ (fun _ => ?_))
      | exact series_Turned.mono _ _ _
      | exact series_check.mono _ _ _ _ _ _
      | exact series_sum.mono _ _ _ _ _ _
      | exact LeO.none _
      | refine LeO.ite ?_ ?_
      | refine LeO.bind ?_ (fun _ => ?_)

/-! ### the Lean function ephemeriskeep2_has: function 43 -/
def ephemeriskeep2_has.f (a0_0 : Int) (a0_1 : Int) (a1 : Int) (a2 : Int) : Option (Bool) := if a0_0 ≤ a1 then (if a1 ≤ a0_1 then (some (decide ((wrap64 (a0_1 - a0_0)) ≤ a2))) else (some false)) else (some false)

/-! ### the Lean function ephemeriskeep2_seriesWorks: function 14 -/
def ephemeriskeep2_seriesWorks.f (k : Nat)  : Option (Bool) := (series_Angle.f k 5 2000000 ([] : List (S69)) 0 259200000).bind fun bt203 => ((series_Value.f k 7 0 ([] : List (S69)) 2 0).bind fun bt207 => ((series_Bound.f k 0 0 (([(⟨(-200000000), 0, 0⟩ : S69)] : List (S69))) 2).bind fun bt214 => (if bt203.2.2 = 0 then ((ephemeriskeep2_has.f bt203.1 bt203.2.1 11 1).bind fun t216 => (if t216 = true then (if bt207.2.2 = 0 then ((ephemeriskeep2_has.f bt207.1 bt207.2.1 9 4).bind fun t217 => (if t217 = true then ((ephemeriskeep2_has.f bt207.1 bt207.2.1 5 4).bind fun t218 => (if t218 = true then (if bt214.2 = 0 then (some (bt214.1 == 8)) else (none)) else (none))) else (none))) else (none)) else (none))) else (none))))
theorem ephemeriskeep2_seriesWorks.mono : ∀ k, LeO (ephemeriskeep2_seriesWorks.f k ) (ephemeriskeep2_seriesWorks.f (k + 1) ) := by
  intro  k
  unfold ephemeriskeep2_seriesWorks.f
  repeat' first
      | (with_reducible exact series_Angle.mono _ _ _ _ _ _)
      | (with_reducible exact series_Bound.mono _ _ _ _ _)
      | (with_reducible exact series_Value.mono _ _ _ _ _ _)
      | (with_reducible exact LeO.refl _)
      | (with_reducible exact LeO.none _)
      | (with_reducible refine LeO.ite ?_ ?_)
      | (with_reducible refine LeO.bind ?_ (fun _ => ?_))
      | exact series_Angle.mono _ _ _ _ _ _
      | exact series_Bound.mono _ _ _ _ _
      | exact series_Value.mono _ _ _ _ _ _
      | exact LeO.none _
      | refine LeO.ite ?_ ?_
      | refine LeO.bind ?_ (fun _ => ?_)

/-! ### the Lean function ephemeriskeep2_at: function 20 -/
def ephemeriskeep2_at.f (a0 : Int) (a1 : Int) : Option (Int) := if a1 = 0 then (none) else (some (Int.tmod (wrap64 ((Int.tmod a0 a1) + a1)) a1))

/-! ### the Lean function ephemeriskeep2_small: function 15 -/
def ephemeriskeep2_small.l0 : Nat → List (S69) → List (S69) → Int → Int → Int → Int → List (S69) → Int → Option (Int × Int × (List (S69)) × Int)
  | 0, _, _, _, _, _, _, _, _ => none
  | k + 1, x3, x19, x20, x21, x220000, x220001, x220002, x220003 => if x21 < x20 then (if 0 ≤ x21 then (if x21 < (x19.length : Int) then (if x21 < 6 then ((ephemeriskeep2_at.f ((rd_T69 x19 x21).f1) 1000000000).bind fun t224 => (if x3.length < 5864062014805 then (ephemeriskeep2_small.l0 k (x3 ++ [(⟨Int.tmod ((rd_T69 x19 x21).f0) 1000000001, t224, Int.tmod ((rd_T69 x19 x21).f2) 4000000000000001⟩ : S69)]) x19 x20 (wrap64 (x21 + 1)) x220000 x220001 x220002 x220003) else (none))) else (ephemeriskeep2_small.l0 k x3 x19 x20 (wrap64 (x21 + 1)) x220000 x220001 x220002 x220003)) else (none)) else (none)) else (some (x220000, x220001, x3, x220003))
def ephemeriskeep2_small.f (k : Nat) (a0_0 : Int) (a0_1 : Int) (l0_2 : List (S69)) (a0_3 : Int) : Option (Int × Int × (List (S69)) × Int) := (ephemeriskeep2_at.f a0_3 1000).bind fun t221 => (ephemeriskeep2_small.l0 k ([] : List (S69)) l0_2 (l0_2.length : Int) 0 (Int.tmod a0_0 1000000001) (Int.tmod a0_1 4000000000000001) l0_2 t221)
theorem ephemeriskeep2_small.mono_l : ∀ k, (∀ y0 y1 y2 y3 y4 y5 y6 y7, LeO (ephemeriskeep2_small.l0 k y0 y1 y2 y3 y4 y5 y6 y7) (ephemeriskeep2_small.l0 (k + 1) y0 y1 y2 y3 y4 y5 y6 y7))
  | 0 => fun _ _ _ _ _ _ _ _ r h => by simp [ephemeriskeep2_small.l0] at h
  | k + 1 => by
    have ih0 := ephemeriskeep2_small.mono_l k
    · intro y0 y1 y2 y3 y4 y5 y6 y7
      unfold ephemeriskeep2_small.l0
      repeat' first
      | (with_reducible exact ih0 _ _ _ _ _ _ _ _)
      | (with_reducible exact LeO.refl _)
      | (with_reducible exact LeO.none _)
      | (with_reducible refine LeO.ite ?_ ?_)
      | (with_reducible refine LeO.bind ?_ (fun _ => ?_))
      | exact ih0 _ _ _ _ _ _ _ _
      | exact LeO.none _
      | refine LeO.ite ?_ ?_
      | refine LeO.bind ?_ (fun _ => ?_)
theorem ephemeriskeep2_small.mono : ∀ a0 a1 a2 a3 k, LeO (ephemeriskeep2_small.f k a0 a1 a2 a3) (ephemeriskeep2_small.f (k + 1) a0 a1 a2 a3) := by
  intro a0 a1 a2 a3 k
  have ih0 := ephemeriskeep2_small.mono_l k
  unfold ephemeriskeep2_small.f
  repeat' first
      | (with_reducible exact ih0 _ _ _ _ _ _ _ _)
      | (with_reducible exact LeO.refl _)
      | (with_reducible exact LeO.none _)
      | (with_reducible refine LeO.ite ?_ ?_)
      | (with_reducible refine LeO.bind ?_ (fun _ => ?_))
      | exact ih0 _ _ _ _ _ _ _ _
      | exact LeO.none _
      | refine LeO.ite ?_ ?_
      | refine LeO.bind ?_ (fun _ => ?_)

/-! ### the Lean function ephemeriskeep2_instant: function 16 -/
def ephemeriskeep2_instant.f (a0 : Int) : Option (Int) := (ephemeriskeep2_at.f a0 604800000000000).bind fun t228 => (some (wrap64 (t228 - 302400000000000)))

/-! ### the Lean function ephemeriskeep2_meets: function 18 -/
def ephemeriskeep2_meets.f (a0_0 : Int) (a0_1 : Int) (a1_0 : Int) (a1_1 : Int) : Option (Bool) := if a0_0 ≤ a1_1 then (some (decide (a1_0 ≤ a0_1))) else (some false)

/-! ### the Lean function ephemeriskeep2_plus: function 19 -/
def ephemeriskeep2_plus.f (a0_0 : Int) (a0_1 : Int) (a1_0 : Int) (a1_1 : Int) : Option (Int × Int) := some (wrap64 (a0_0 + a1_0), wrap64 (a0_1 + a1_1))

/-! ### the Lean function ephemeriskeep2_SeriesAdds: function 3 -/
def ephemeriskeep2_SeriesAdds.f (k : Nat) (a0_0 : Int) (a0_1 : Int) (l0_2 : List (S69)) (a0_3 : Int) (a1_0 : Int) (a1_1 : Int) (l1_2 : List (S69)) (a1_3 : Int) (a2 : Int) : Option (Bool) := (ephemeriskeep2_seriesWorks.f k).bind fun t236 => (if t236 = true then ((ephemeriskeep2_small.f k a0_0 a0_1 l0_2 a0_3).bind fun bt237 => ((ephemeriskeep2_small.f k a1_0 a1_1 l1_2 a1_3).bind fun bt243 => ((ephemeriskeep2_instant.f a2).bind fun t249 => ((some (([] : List (S69)) : List (S69))).bind fun y250 => (if y250.length + bt237.2.2.1.length < 5864062014805 then ((some (y250 ++ bt237.2.2.1 : List (S69))).bind fun y253 => (if y253.length + bt243.2.2.1.length < 5864062014805 then ((series_Value.f k (wrap64 (Int.tdiv bt237.1 2)) bt237.2.1 bt237.2.2.1 bt237.2.2.2 t249).bind fun bt260 => ((series_Value.f k (wrap64 (Int.tdiv bt243.1 2)) bt243.2.1 bt243.2.2.1 bt243.2.2.2 t249).bind fun bt264 => ((series_Value.f k (wrap64 ((wrap64 (Int.tdiv bt237.1 2)) + (wrap64 (Int.tdiv bt243.1 2)))) 0 (y253 ++ bt243.2.2.1) (wrap64 (bt237.2.2.2 + bt243.2.2.2)) t249).bind fun bt268 => (if bt260.2.2 = 0 then (if bt264.2.2 = 0 then (if bt268.2.2 = 0 then ((ephemeriskeep2_plus.f bt260.1 bt260.2.1 bt264.1 bt264.2.1).bind fun bt272 => ((ephemeriskeep2_meets.f bt268.1 bt268.2.1 bt272.1 bt272.2).bind fun t274 => (some t274))) else (none)) else (none)) else (none))))) else (none))) else (none)))))) else (none))
theorem ephemeriskeep2_SeriesAdds.mono : ∀ a0 a1 a2 a3 a4 a5 a6 a7 a8 k, LeO (ephemeriskeep2_SeriesAdds.f k a0 a1 a2 a3 a4 a5 a6 a7 a8) (ephemeriskeep2_SeriesAdds.f (k + 1) a0 a1 a2 a3 a4 a5 a6 a7 a8) := by
  intro a0 a1 a2 a3 a4 a5 a6 a7 a8 k
  unfold ephemeriskeep2_SeriesAdds.f
  repeat' first
      | (with_reducible exact ephemeriskeep2_seriesWorks.mono _)
      | (with_reducible exact ephemeriskeep2_small.mono _ _ _ _ _)
      | (with_reducible exact series_Value.mono _ _ _ _ _ _)
      | (with_reducible exact LeO.refl _)
      | (with_reducible exact LeO.none _)
      | (with_reducible refine LeO.ite ?_ ?_)
      | (with_reducible refine LeO.bind ?_ (fun _ => ?_))
      | exact ephemeriskeep2_seriesWorks.mono _
      | exact ephemeriskeep2_small.mono _ _ _ _ _
      | exact series_Value.mono _ _ _ _ _ _
      | exact LeO.none _
      | refine LeO.ite ?_ ?_
      | refine LeO.bind ?_ (fun _ => ?_)

/-! ### the Lean function ephemeriskeep2_SeriesRests: function 4 -/
def ephemeriskeep2_SeriesRests.f (k : Nat) (a0_0 : Int) (a0_1 : Int) (l0_2 : List (S69)) (a0_3 : Int) (a1 : Int) (a2 : Int) : Option (Bool) := (ephemeriskeep2_seriesWorks.f k).bind fun t276 => (if t276 = true then ((ephemeriskeep2_small.f k a0_0 a0_1 l0_2 a0_3).bind fun bt277 => ((ephemeriskeep2_instant.f a1).bind fun t283 => ((ephemeriskeep2_at.f a2 1000).bind fun t284 => ((series_Value.f k bt277.1 bt277.2.1 bt277.2.2.1 bt277.2.2.2 t283).bind fun bt285 => ((series_Bound.f k bt277.1 bt277.2.1 bt277.2.2.1 bt277.2.2.2).bind fun bt289 => ((series_Value.f k bt277.1 bt277.2.1 bt277.2.2.1 (wrap64 (bt277.2.2.2 + t284)) t283).bind fun bt291 => ((series_Bound.f k bt277.1 bt277.2.1 bt277.2.2.1 (wrap64 (bt277.2.2.2 + t284))).bind fun bt295 => (if bt285.2.2 = 0 then (if bt289.2 = 0 then (if bt291.2.2 = 0 then (if bt295.2 = 0 then (if bt295.1 = (wrap64 (bt289.1 + (wrap64 (2 * t284)))) then (if (wrap64 (bt285.2.1 - bt285.1)) ≤ bt289.1 then (if (wrap64 (bt291.2.1 - bt291.1)) ≤ bt295.1 then ((ephemeriskeep2_meets.f bt285.1 bt285.2.1 bt291.1 bt291.2.1).bind fun t297 => (some t297)) else (none)) else (none)) else (none)) else (none)) else (none)) else (none)) else (none))))))))) else (none))
theorem ephemeriskeep2_SeriesRests.mono : ∀ a0 a1 a2 a3 a4 a5 k, LeO (ephemeriskeep2_SeriesRests.f k a0 a1 a2 a3 a4 a5) (ephemeriskeep2_SeriesRests.f (k + 1) a0 a1 a2 a3 a4 a5) := by
  intro a0 a1 a2 a3 a4 a5 k
  unfold ephemeriskeep2_SeriesRests.f
  repeat' first
      | (with_reducible exact ephemeriskeep2_seriesWorks.mono _)
      | (with_reducible exact ephemeriskeep2_small.mono _ _ _ _ _)
      | (with_reducible exact series_Bound.mono _ _ _ _ _)
      | (with_reducible exact series_Value.mono _ _ _ _ _ _)
      | (with_reducible exact LeO.refl _)
      | (with_reducible exact LeO.none _)
      | (with_reducible refine LeO.ite ?_ ?_)
      | (with_reducible refine LeO.bind ?_ (fun _ => ?_))
      | exact ephemeriskeep2_seriesWorks.mono _
      | exact ephemeriskeep2_small.mono _ _ _ _ _
      | exact series_Bound.mono _ _ _ _ _
      | exact series_Value.mono _ _ _ _ _ _
      | exact LeO.none _
      | refine LeO.ite ?_ ?_
      | refine LeO.bind ?_ (fun _ => ?_)

/-! ### the Lean function interval_Ceil: function 49 -/
def interval_Ceil.f (a0 : Int) (a1 : Int) : Option (Int) := (interval_Floor.f (wrap64 (-a0)) a1).bind fun t298 => (some (wrap64 (-t298)))

/-! ### the Lean function series_Slope: function 23 -/
mutual
def series_Slope.l0 : Nat → Int → List (S69) → Int → Int → Int → Int → List (S69) → Int → Option (Int × Int × Int)
  | 0, _, _, _, _, _, _, _, _ => none
  | k + 1, x5, x17, x18, x19, x300000, x300001, x300002, x300003 => if x19 < x18 then (if 0 ≤ x19 then (if x19 < (x17.length : Int) then (if ((rd_T69 x17 x19).f0) < 0 then (series_Slope.j1 k x5 (wrap64 (-((rd_T69 x17 x19).f0))) ((rd_T69 x17 x19).f2) x17 x18 x19 x300000 x300001 x300002 x300003) else (series_Slope.j1 k x5 ((rd_T69 x17 x19).f0) ((rd_T69 x17 x19).f2) x17 x18 x19 x300000 x300001 x300002 x300003)) else (none)) else (none)) else ((interval_Floor.f x300001 1000000).bind fun t302 => ((interval_Ceil.f x300001 1000000).bind fun t303 => (some (wrap64 (t302 - x5), wrap64 (t303 + x5), 0))))
def series_Slope.j1 : Nat → Int → Int → Int → List (S69) → Int → Int → Int → Int → List (S69) → Int → Option (Int × Int × Int)
  | 0, _, _, _, _, _, _, _, _, _, _ => none
  | k + 1, x5, x8, x9, x17, x18, x19, x300000, x300001, x300002, x300003 => if x9 < 0 then ((interval_Ceil.f (wrap64 (-x9)) 1000000).bind fun t306 => ((interval_Ceil.f (wrap64 (x8 * t306)) 1000000000).bind fun t307 => ((interval_Ceil.f (wrap64 (t307 * 44)) 7).bind fun t308 => (series_Slope.l0 k (wrap64 (x5 + t308)) x17 x18 (wrap64 (x19 + 1)) x300000 x300001 x300002 x300003)))) else ((interval_Ceil.f x9 1000000).bind fun t309 => ((interval_Ceil.f (wrap64 (x8 * t309)) 1000000000).bind fun t310 => ((interval_Ceil.f (wrap64 (t310 * 44)) 7).bind fun t311 => (series_Slope.l0 k (wrap64 (x5 + t311)) x17 x18 (wrap64 (x19 + 1)) x300000 x300001 x300002 x300003))))
end
def series_Slope.f (k : Nat) (a0_0 : Int) (a0_1 : Int) (l0_2 : List (S69)) (a0_3 : Int) : Option (Int × Int × Int) := (series_Check.f k a0_0 a0_1 l0_2 a0_3).bind fun t301 => (if t301 = 0 then (series_Slope.l0 k 0 l0_2 (l0_2.length : Int) 0 a0_0 a0_1 l0_2 a0_3) else (some (0, 0, t301)))
theorem series_Slope.mono_l : ∀ k, (∀ y0 y1 y2 y3 y4 y5 y6 y7, LeO (series_Slope.l0 k y0 y1 y2 y3 y4 y5 y6 y7) (series_Slope.l0 (k + 1) y0 y1 y2 y3 y4 y5 y6 y7)) ∧ (∀ y0 y1 y2 y3 y4 y5 y6 y7 y8 y9, LeO (series_Slope.j1 k y0 y1 y2 y3 y4 y5 y6 y7 y8 y9) (series_Slope.j1 (k + 1) y0 y1 y2 y3 y4 y5 y6 y7 y8 y9))
  | 0 => ⟨fun _ _ _ _ _ _ _ _ r h => by simp [series_Slope.l0] at h, fun _ _ _ _ _ _ _ _ _ _ r h => by simp [series_Slope.j1] at h⟩
  | k + 1 => by
    obtain ⟨ih0, ih1⟩ := series_Slope.mono_l k
    refine ⟨?_, ?_⟩
    · intro y0 y1 y2 y3 y4 y5 y6 y7
      unfold series_Slope.l0
      repeat' first
      | (with_reducible exact ih0 _ _ _ _ _ _ _ _)
      | (with_reducible exact ih1 _ _ _ _ _ _ _ _ _ _)
      | (with_reducible exact series_Check.mono _ _ _ _ _)
      | (with_reducible exact LeO.refl _)
      | (with_reducible exact LeO.none _)
      | (with_reducible refine LeO.ite ?_ ?_)
      | (with_reducible refine LeO.bind ?_ (fun _ => ?_))
      | exact ih0 _ _ _ _ _ _ _ _
      | exact ih1 _ _ _ _ _ _ _ _ _ _
      | exact series_Check.mono _ _ _ _ _
      | exact LeO.none _
      | refine LeO.ite ?_ ?_
      | refine LeO.bind ?_ (fun _ => ?_)
    · intro y0 y1 y2 y3 y4 y5 y6 y7 y8 y9
      unfold series_Slope.j1
      repeat' first
      | (with_reducible exact ih0 _ _ _ _ _ _ _ _)
      | (with_reducible exact ih1 _ _ _ _ _ _ _ _ _ _)
      | (with_reducible exact series_Check.mono _ _ _ _ _)
      | (with_reducible exact LeO.refl _)
      | (with_reducible exact LeO.none _)
      | (with_reducible refine LeO.ite ?_ ?_)
      | (with_reducible refine LeO.bind ?_ (fun _ => ?_))
      | exact ih0 _ _ _ _ _ _ _ _
      | exact ih1 _ _ _ _ _ _ _ _ _ _
      | exact series_Check.mono _ _ _ _ _
      | exact LeO.none _
      | refine LeO.ite ?_ ?_
      | refine LeO.bind ?_ (fun _ => ?_)
theorem series_Slope.mono : ∀ a0 a1 a2 a3 k, LeO (series_Slope.f k a0 a1 a2 a3) (series_Slope.f (k + 1) a0 a1 a2 a3) := by
  intro a0 a1 a2 a3 k
  obtain ⟨ih0, ih1⟩ := series_Slope.mono_l k
  unfold series_Slope.f
  repeat' first
      | (with_reducible exact ih0 _ _ _ _ _ _ _ _)
      | (with_reducible exact ih1 _ _ _ _ _ _ _ _ _ _)
      | (with_reducible exact series_Check.mono _ _ _ _ _)
      | (with_reducible exact LeO.refl _)
      | (with_reducible exact LeO.none _)
      | (with_reducible refine LeO.ite ?_ ?_)
      | (with_reducible refine LeO.bind ?_ (fun _ => ?_))
      | exact ih0 _ _ _ _ _ _ _ _
      | exact ih1 _ _ _ _ _ _ _ _ _ _
      | exact series_Check.mono _ _ _ _ _
      | exact LeO.none _
      | refine LeO.ite ?_ ?_
      | refine LeO.bind ?_ (fun _ => ?_)

/-! ### the Lean function ephemeriskeep2_same: function 24 -/
def ephemeriskeep2_same.f (a0_0 : Int) (a0_1 : Int) (a1_0 : Int) (a1_1 : Int) : Option (Bool) := (ephemeriskeep2_at.f (wrap64 (a1_0 - a0_0)) 1000000000).bind fun t314 => (if t314 ≤ (wrap64 (a0_1 - a0_0)) then (some true) else (some (decide (t314 ≥ (wrap64 (1000000000 - (wrap64 (a1_1 - a1_0))))))))

/-! ### the Lean function ephemeriskeep2_SeriesMoves: function 5 -/
def ephemeriskeep2_SeriesMoves.f (k : Nat) (a0_0 : Int) (a0_1 : Int) (l0_2 : List (S69)) (a0_3 : Int) (a1 : Int) (a2 : Int) : Option (Bool) := (ephemeriskeep2_seriesWorks.f k).bind fun t316 => (if t316 = true then ((ephemeriskeep2_small.f k a0_0 a0_1 l0_2 a0_3).bind fun bt317 => ((ephemeriskeep2_instant.f a1).bind fun t323 => ((ephemeriskeep2_at.f a2 20).bind fun t324 => ((series_Angle.f k bt317.1 bt317.2.1 bt317.2.2.1 bt317.2.2.2 t323).bind fun bt325 => ((series_Angle.f k bt317.1 bt317.2.1 bt317.2.2.1 bt317.2.2.2 (wrap64 (t323 + (wrap64 (t324 * 86400000))))).bind fun bt329 => ((series_Slope.f k bt317.1 bt317.2.1 bt317.2.2.1 bt317.2.2.2).bind fun bt333 => (if bt325.2.2 = 0 then (if bt329.2.2 = 0 then (if bt333.2.2 = 0 then (if (wrap64 (bt333.2.1 - bt333.1)) > 100000000000 then (some true) else ((ephemeriskeep2_same.f bt329.1 bt329.2.1 (wrap64 (bt325.1 + (wrap64 (t324 * bt333.1)))) (wrap64 (bt325.2.1 + (wrap64 (t324 * bt333.2.1))))).bind fun t337 => (some t337))) else (none)) else (none)) else (none)))))))) else (none))
theorem ephemeriskeep2_SeriesMoves.mono : ∀ a0 a1 a2 a3 a4 a5 k, LeO (ephemeriskeep2_SeriesMoves.f k a0 a1 a2 a3 a4 a5) (ephemeriskeep2_SeriesMoves.f (k + 1) a0 a1 a2 a3 a4 a5) := by
  intro a0 a1 a2 a3 a4 a5 k
  unfold ephemeriskeep2_SeriesMoves.f
  repeat' first
      | (with_reducible exact ephemeriskeep2_seriesWorks.mono _)
      | (with_reducible exact ephemeriskeep2_small.mono _ _ _ _ _)
      | (with_reducible exact series_Angle.mono _ _ _ _ _ _)
      | (with_reducible exact series_Slope.mono _ _ _ _ _)
      | (with_reducible exact LeO.refl _)
      | (with_reducible exact LeO.none _)
      | (with_reducible refine LeO.ite ?_ ?_)
      | (with_reducible refine LeO.bind ?_ (fun _ => ?_))
      | exact ephemeriskeep2_seriesWorks.mono _
      | exact ephemeriskeep2_small.mono _ _ _ _ _
      | exact series_Angle.mono _ _ _ _ _ _
      | exact series_Slope.mono _ _ _ _ _
      | exact LeO.none _
      | refine LeO.ite ?_ ?_
      | refine LeO.bind ?_ (fun _ => ?_)

/-! ### the Lean function moon_Series: function 71 -/
def moon_Series.f  : Option (Int × Int × (List (S69)) × Int) := some (392048814, 36601101305556, (([(⟨17468817, 99384016, 36291647083333⟩ : S69), (⟨3538964, 134030564, 31434736861111⟩ : S69), (⟨1828650, 233414580, 67726383944444⟩ : S69), (⟨593383, 198768032, 72583294166666⟩ : S69), (⟨(-514211), 84888545, 2737778555556⟩ : S69), (⟨(-317589), 297001062, 73496390222222⟩ : S69)] : List (S69))), 20000)

/-! ### the Lean function moon_Longitude: function 51 -/
def moon_Longitude.f (k : Nat) (a0 : Int) : Option (Int × Int × Int) := (moon_Series.f).bind fun bt343 => ((series_Angle.f k bt343.1 bt343.2.1 bt343.2.2.1 bt343.2.2.2 a0).bind fun bt349 => (some (bt349.1, bt349.2.1, bt349.2.2)))
theorem moon_Longitude.mono : ∀ a0 k, LeO (moon_Longitude.f k a0) (moon_Longitude.f (k + 1) a0) := by
  intro a0 k
  unfold moon_Longitude.f
  repeat' first
      | (with_reducible exact series_Angle.mono _ _ _ _ _ _)
      | (with_reducible exact LeO.refl _)
      | (with_reducible exact LeO.none _)
      | (with_reducible refine LeO.ite ?_ ?_)
      | (with_reducible refine LeO.bind ?_ (fun _ => ?_))
      | exact series_Angle.mono _ _ _ _ _ _
      | exact LeO.none _
      | refine LeO.ite ?_ ?_
      | refine LeO.bind ?_ (fun _ => ?_)

/-! ### the Lean function moon_North: function 72 -/
def moon_North.f  : Option (Int × Int × (List (S69)) × Int) := some (0, 0, (([(⟨14244783, 648500531, 36748195111111⟩ : S69), (⟨779450, 747884547, 73039842194444⟩ : S69), (⟨771369, 450883485, (-456548027778)⟩ : S69)] : List (S69))), 20000)

/-! ### the Lean function moon_Latitude: function 52 -/
def moon_Latitude.f (k : Nat) (a0 : Int) : Option (Int × Int × Int) := (moon_North.f).bind fun bt357 => ((series_Value.f k bt357.1 bt357.2.1 bt357.2.2.1 bt357.2.2.2 a0).bind fun bt363 => (some (bt363.1, bt363.2.1, bt363.2.2)))
theorem moon_Latitude.mono : ∀ a0 k, LeO (moon_Latitude.f k a0) (moon_Latitude.f (k + 1) a0) := by
  intro a0 k
  unfold moon_Latitude.f
  repeat' first
      | (with_reducible exact series_Value.mono _ _ _ _ _ _)
      | (with_reducible exact LeO.refl _)
      | (with_reducible exact LeO.none _)
      | (with_reducible refine LeO.ite ?_ ?_)
      | (with_reducible refine LeO.bind ?_ (fun _ => ?_))
      | exact series_Value.mono _ _ _ _ _ _
      | exact LeO.none _
      | refine LeO.ite ?_ ?_
      | refine LeO.bind ?_ (fun _ => ?_)

/-! ### the Lean function ephemeriskeep2_moonWorks: function 25 -/
def ephemeriskeep2_moonWorks.f (k : Nat)  : Option (Bool) := (moon_Longitude.f k 0).bind fun bt366 => ((moon_Latitude.f k 0).bind fun bt370 => (if bt366.2.2 = 0 then ((ephemeriskeep2_has.f bt366.1 bt366.2.1 406718613 40030).bind fun t374 => (if t374 = true then (if bt370.2.2 = 0 then ((ephemeriskeep2_has.f bt370.1 bt370.2.1 (-11989968) 40030).bind fun t375 => (some t375)) else (none)) else (none))) else (none)))
theorem ephemeriskeep2_moonWorks.mono : ∀ k, LeO (ephemeriskeep2_moonWorks.f k ) (ephemeriskeep2_moonWorks.f (k + 1) ) := by
  intro  k
  unfold ephemeriskeep2_moonWorks.f
  repeat' first
      | (with_reducible exact moon_Latitude.mono _ _)
      | (with_reducible exact moon_Longitude.mono _ _)
      | (with_reducible exact LeO.refl _)
      | (with_reducible exact LeO.none _)
      | (with_reducible refine LeO.ite ?_ ?_)
      | (with_reducible refine LeO.bind ?_ (fun _ => ?_))
      | exact moon_Latitude.mono _ _
      | exact moon_Longitude.mono _ _
      | exact LeO.none _
      | refine LeO.ite ?_ ?_
      | refine LeO.bind ?_ (fun _ => ?_)

/-! ### the Lean function sun_Series: function 73 -/
def sun_Series.f  : Option (Int × Int × (List (S69)) × Int) := some (775342092, 2737909333333, (([(⟨5318339, 84888545, 2737778555556⟩ : S69), (⟨55536, 169777090, 5475557111112⟩ : S69)] : List (S69))), 2000)

/-! ### the Lean function sun_Longitude: function 53 -/
def sun_Longitude.f (k : Nat) (a0 : Int) : Option (Int × Int × Int) := (sun_Series.f).bind fun bt381 => ((series_Angle.f k bt381.1 bt381.2.1 bt381.2.2.1 bt381.2.2.2 a0).bind fun bt387 => (some (bt387.1, bt387.2.1, bt387.2.2)))
theorem sun_Longitude.mono : ∀ a0 k, LeO (sun_Longitude.f k a0) (sun_Longitude.f (k + 1) a0) := by
  intro a0 k
  unfold sun_Longitude.f
  repeat' first
      | (with_reducible exact series_Angle.mono _ _ _ _ _ _)
      | (with_reducible exact LeO.refl _)
      | (with_reducible exact LeO.none _)
      | (with_reducible refine LeO.ite ?_ ?_)
      | (with_reducible refine LeO.bind ?_ (fun _ => ?_))
      | exact series_Angle.mono _ _ _ _ _ _
      | exact LeO.none _
      | refine LeO.ite ?_ ?_
      | refine LeO.bind ?_ (fun _ => ?_)

/-! ### the Lean function moon_Elongation: function 26 -/
def moon_Elongation.f (k : Nat) (a0 : Int) : Option (Int × Int × Int) := (moon_Longitude.f k a0).bind fun bt391 => (if bt391.2.2 = 0 then ((sun_Longitude.f k a0).bind fun bt395 => ((series_Reduced.f (wrap64 (bt391.1 - bt395.2.1)) (wrap64 (bt391.2.1 - bt395.1))).bind fun bt399 => (some (bt399.1, bt399.2, 0)))) else (some (0, 0, bt391.2.2)))
theorem moon_Elongation.mono : ∀ a0 k, LeO (moon_Elongation.f k a0) (moon_Elongation.f (k + 1) a0) := by
  intro a0 k
  unfold moon_Elongation.f
  repeat' first
      | (with_reducible exact moon_Longitude.mono _ _)
      | (with_reducible exact sun_Longitude.mono _ _)
      | (with_reducible exact LeO.refl _)
      | (with_reducible exact LeO.none _)
      | (with_reducible refine LeO.ite ?_ ?_)
      | (with_reducible refine LeO.bind ?_ (fun _ => ?_))
      | exact moon_Longitude.mono _ _
      | exact sun_Longitude.mono _ _
      | exact LeO.none _
      | refine LeO.ite ?_ ?_
      | refine LeO.bind ?_ (fun _ => ?_)

/-! ### the Lean function ephemeriskeep2_MoonGains: function 6 -/
def ephemeriskeep2_MoonGains.f (k : Nat) (a0 : Int) : Option (Bool) := (ephemeriskeep2_moonWorks.f k).bind fun t401 => (if t401 = true then ((ephemeriskeep2_instant.f a0).bind fun t402 => ((moon_Elongation.f k t402).bind fun bt403 => ((moon_Elongation.f k (wrap64 (t402 + 86400000))).bind fun bt407 => ((ephemeriskeep2_at.f (wrap64 (bt407.1 - bt403.2.1)) 1000000000).bind fun t411 => (if bt403.2.2 = 0 then (if bt407.2.2 = 0 then (if t411 > 22122222 then (some (decide (t411 < 47222222))) else (none)) else (none)) else (none)))))) else (none))
theorem ephemeriskeep2_MoonGains.mono : ∀ a0 k, LeO (ephemeriskeep2_MoonGains.f k a0) (ephemeriskeep2_MoonGains.f (k + 1) a0) := by
  intro a0 k
  unfold ephemeriskeep2_MoonGains.f
  repeat' first
      | (with_reducible exact ephemeriskeep2_moonWorks.mono _)
      | (with_reducible exact moon_Elongation.mono _ _)
      | (with_reducible exact LeO.refl _)
      | (with_reducible exact LeO.none _)
      | (with_reducible refine LeO.ite ?_ ?_)
      | (with_reducible refine LeO.bind ?_ (fun _ => ?_))
      | exact ephemeriskeep2_moonWorks.mono _
      | exact moon_Elongation.mono _ _
      | exact LeO.none _
      | refine LeO.ite ?_ ?_
      | refine LeO.bind ?_ (fun _ => ?_)
/-- THE ONE PURE STATEMENT of ephemeriskeep2_MoonGains: yours. -/
def ephemeriskeep2_MoonGains.Pure : Prop := ∀ (a0 : Int), (Lit.int .i64 a0).wf = true → ∃ k, ephemeriskeep2_MoonGains.f k a0 = some true

/-! ### the Lean function tide_Check: function 54 -/
def tide_Check.l0 : Nat → List (S48) → Int → Int → Option (Int)
  | 0, _, _, _ => none
  | k + 1, x8, x9, x10 => if x10 < x9 then (if 0 ≤ x10 then (if x10 < (x8.length : Int) then (if ((rd_T48 x8 x10).f0) < 0 then (some 3) else (if ((rd_T48 x8 x10).f0) > 20000 then (some 3) else (if ((rd_T48 x8 x10).f1) < 0 then (some 3) else (if ((rd_T48 x8 x10).f1) ≥ 1000000000 then (some 3) else (if ((rd_T48 x8 x10).f2) < 1 then (some 3) else (if ((rd_T48 x8 x10).f2) > 4000000000000000 then (some 3) else (tide_Check.l0 k x8 x9 (wrap64 (x10 + 1))))))))) else (none)) else (none)) else (some 0)
def tide_Check.f (k : Nat) (l0 : List (S48)) : Option (Int) := if (l0.length : Int) > 12 then (some 2) else (tide_Check.l0 k l0 (l0.length : Int) 0)
theorem tide_Check.mono_l : ∀ k, (∀ y0 y1 y2, LeO (tide_Check.l0 k y0 y1 y2) (tide_Check.l0 (k + 1) y0 y1 y2))
  | 0 => fun _ _ _ r h => by simp [tide_Check.l0] at h
  | k + 1 => by
    have ih0 := tide_Check.mono_l k
    · intro y0 y1 y2
      unfold tide_Check.l0
      repeat' first
      | (with_reducible exact ih0 _ _ _)
      | (with_reducible exact LeO.refl _)
      | (with_reducible exact LeO.none _)
      | (with_reducible refine LeO.ite ?_ ?_)
      | (with_reducible refine LeO.bind ?_ (fun _ => ?_))
      | exact ih0 _ _ _
      | exact LeO.none _
      | refine LeO.ite ?_ ?_
      | refine LeO.bind ?_ (fun _ => ?_)
theorem tide_Check.mono : ∀ a0 k, LeO (tide_Check.f k a0) (tide_Check.f (k + 1) a0) := by
  intro a0 k
  have ih0 := tide_Check.mono_l k
  unfold tide_Check.f
  repeat' first
      | (with_reducible exact ih0 _ _ _)
      | (with_reducible exact LeO.refl _)
      | (with_reducible exact LeO.none _)
      | (with_reducible refine LeO.ite ?_ ?_)
      | (with_reducible refine LeO.bind ?_ (fun _ => ?_))
      | exact ih0 _ _ _
      | exact LeO.none _
      | refine LeO.ite ?_ ?_
      | refine LeO.bind ?_ (fun _ => ?_)

/-! ### the Lean function tide_sum: function 55 -/
def tide_sum.l0 : Nat → List (S48) → Int → Int → Int → Int → List (S69) → Int → Option (Int × Int × (List (S69)) × Int)
  | 0, _, _, _, _, _, _, _ => none
  | k + 1, x6, x7, x8, x416000, x416001, x416002, x416003 => if x8 < x7 then (if 0 ≤ x8 then (if x8 < (x6.length : Int) then (if x416002.length < 5864062014805 then (tide_sum.l0 k x6 x7 (wrap64 (x8 + 1)) x416000 x416001 (x416002 ++ [(⟨(rd_T48 x6 x8).f0, Int.tmod (wrap64 (((rd_T48 x6 x8).f1) + 250000000)) 1000000000, (rd_T48 x6 x8).f2⟩ : S69)]) x416003) else (none)) else (none)) else (none)) else (some (x416000, x416001, x416002, x416003))
def tide_sum.f (k : Nat) (l0 : List (S48)) : Option (Int × Int × (List (S69)) × Int) := tide_sum.l0 k l0 (l0.length : Int) 0 0 0 ([] : List (S69)) 0
theorem tide_sum.mono_l : ∀ k, (∀ y0 y1 y2 y3 y4 y5 y6, LeO (tide_sum.l0 k y0 y1 y2 y3 y4 y5 y6) (tide_sum.l0 (k + 1) y0 y1 y2 y3 y4 y5 y6))
  | 0 => fun _ _ _ _ _ _ _ r h => by simp [tide_sum.l0] at h
  | k + 1 => by
    have ih0 := tide_sum.mono_l k
    · intro y0 y1 y2 y3 y4 y5 y6
      unfold tide_sum.l0
      repeat' first
      | (with_reducible exact ih0 _ _ _ _ _ _ _)
      | (with_reducible exact LeO.refl _)
      | (with_reducible exact LeO.none _)
      | (with_reducible refine LeO.ite ?_ ?_)
      | (with_reducible refine LeO.bind ?_ (fun _ => ?_))
      | exact ih0 _ _ _ _ _ _ _
      | exact LeO.none _
      | refine LeO.ite ?_ ?_
      | refine LeO.bind ?_ (fun _ => ?_)
theorem tide_sum.mono : ∀ a0 k, LeO (tide_sum.f k a0) (tide_sum.f (k + 1) a0) := by
  intro a0 k
  have ih0 := tide_sum.mono_l k
  unfold tide_sum.f
  repeat' first
      | (with_reducible exact ih0 _ _ _ _ _ _ _)
      | (with_reducible exact LeO.refl _)
      | (with_reducible exact LeO.none _)
      | (with_reducible refine LeO.ite ?_ ?_)
      | (with_reducible refine LeO.bind ?_ (fun _ => ?_))
      | exact ih0 _ _ _ _ _ _ _
      | exact LeO.none _
      | refine LeO.ite ?_ ?_
      | refine LeO.bind ?_ (fun _ => ?_)

/-! ### the Lean function tide_Height: function 29 -/
def tide_Height.f (k : Nat) (l0 : List (S48)) (a1 : Int) : Option (Int × Int × Int) := (tide_Check.f k l0).bind fun t422 => (if t422 = 0 then ((tide_sum.f k l0).bind fun bt423 => ((series_Value.f k bt423.1 bt423.2.1 bt423.2.2.1 bt423.2.2.2 a1).bind fun bt429 => (some (bt429.1, bt429.2.1, bt429.2.2)))) else (some (0, 0, t422)))
theorem tide_Height.mono : ∀ a0 a1 k, LeO (tide_Height.f k a0 a1) (tide_Height.f (k + 1) a0 a1) := by
  intro a0 a1 k
  unfold tide_Height.f
  repeat' first
      | (with_reducible exact series_Value.mono _ _ _ _ _ _)
      | (with_reducible exact tide_Check.mono _ _)
      | (with_reducible exact tide_sum.mono _ _)
      | (with_reducible exact LeO.refl _)
      | (with_reducible exact LeO.none _)
      | (with_reducible refine LeO.ite ?_ ?_)
      | (with_reducible refine LeO.bind ?_ (fun _ => ?_))
      | exact series_Value.mono _ _ _ _ _ _
      | exact tide_Check.mono _ _
      | exact tide_sum.mono _ _
      | exact LeO.none _
      | refine LeO.ite ?_ ?_
      | refine LeO.bind ?_ (fun _ => ?_)

/-! ### the Lean function tide_ends: function 56 -/
mutual
def tide_ends.j0 : Nat → List (S48) → Int → Int → Int → Bool → Option ((List (S29)) × Int)
  | 0, _, _, _, _, _ => none
  | k + 1, x0, x1, x2, x3, x29 => if x29 = true then (some (([] : List (S29)), 3)) else (if x1 > x2 then (some (([] : List (S29)), 9)) else (if (wrap64 (x2 - x1)) > 1728000000 then (some (([] : List (S29)), 2)) else (tide_ends.l0 k x0 x1 x2 x3 ([] : List (S29)) x1)))
def tide_ends.l0 : Nat → List (S48) → Int → Int → Int → List (S29) → Int → Option ((List (S29)) × Int)
  | 0, _, _, _, _, _, _ => none
  | k + 1, x0, x1, x2, x3, x11, x12 => if x12 ≤ x2 then ((tide_sum.f k x0).bind fun bt435 => ((series_Value.f k bt435.1 bt435.2.1 bt435.2.2.1 bt435.2.2.2 x12).bind fun bt441 => (if x3 < 0 then (if x11.length < 8796093022208 then (tide_ends.l0 k x0 x1 x2 x3 (x11 ++ [(⟨wrap64 (-bt441.2.1), wrap64 (-bt441.1)⟩ : S29)]) (wrap64 (x12 + 3600000))) else (none)) else (if x11.length < 8796093022208 then (tide_ends.l0 k x0 x1 x2 x3 (x11 ++ [(⟨bt441.1, bt441.2.1⟩ : S29)]) (wrap64 (x12 + 3600000))) else (none))))) else (tide_ends.l1 k x1 x11 ([] : List (S29)) 1)
def tide_ends.l1 : Nat → Int → List (S29) → List (S29) → Int → Option ((List (S29)) × Int)
  | 0, _, _, _, _ => none
  | k + 1, x1, x11, x15, x16 => if (wrap64 (x16 + 1)) < (x11.length : Int) then (if 0 ≤ x16 then (if x16 < (x11.length : Int) then (if 0 ≤ (wrap64 (x16 - 1)) then (if (wrap64 (x16 - 1)) < (x11.length : Int) then (if ((rd_T29 x11 x16).f0) > ((rd_T29 x11 (wrap64 (x16 - 1))).f1) then (if 0 ≤ (wrap64 (x16 + 1)) then (if ((rd_T29 x11 x16).f0) > ((rd_T29 x11 (wrap64 (x16 + 1))).f1) then (if x15.length < 8796093022208 then (tide_ends.l1 k x1 x11 (x15 ++ [(⟨wrap64 (x1 + (wrap64 ((wrap64 (x16 - 1)) * 3600000))), wrap64 (x1 + (wrap64 ((wrap64 (x16 + 1)) * 3600000)))⟩ : S29)]) (wrap64 (x16 + 1))) else (none)) else (tide_ends.l1 k x1 x11 x15 (wrap64 (x16 + 1)))) else (none)) else (tide_ends.l1 k x1 x11 x15 (wrap64 (x16 + 1)))) else (none)) else (none)) else (none)) else (none)) else (some (x15, 0))
end
def tide_ends.f (k : Nat) (l0 : List (S48)) (a1 : Int) (a2 : Int) (a3 : Int) : Option ((List (S29)) × Int) := (tide_Check.f k l0).bind fun t432 => (if t432 = 0 then ((series_Valid.f a1).bind fun t433 => (if t433 = true then ((series_Valid.f a2).bind fun t434 => (tide_ends.j0 k l0 a1 a2 a3 (!t434))) else (tide_ends.j0 k l0 a1 a2 a3 true))) else (some (([] : List (S29)), t432)))
theorem tide_ends.mono_l : ∀ k, (∀ y0 y1 y2 y3 y4, LeO (tide_ends.j0 k y0 y1 y2 y3 y4) (tide_ends.j0 (k + 1) y0 y1 y2 y3 y4)) ∧ (∀ y0 y1 y2 y3 y4 y5, LeO (tide_ends.l0 k y0 y1 y2 y3 y4 y5) (tide_ends.l0 (k + 1) y0 y1 y2 y3 y4 y5)) ∧ (∀ y0 y1 y2 y3, LeO (tide_ends.l1 k y0 y1 y2 y3) (tide_ends.l1 (k + 1) y0 y1 y2 y3))
  | 0 => ⟨fun _ _ _ _ _ r h => by simp [tide_ends.j0] at h, fun _ _ _ _ _ _ r h => by simp [tide_ends.l0] at h, fun _ _ _ _ r h => by simp [tide_ends.l1] at h⟩
  | k + 1 => by
    obtain ⟨ih0, ih1, ih2⟩ := tide_ends.mono_l k
    refine ⟨?_, ?_, ?_⟩
    · intro y0 y1 y2 y3 y4
      unfold tide_ends.j0
      repeat' first
      | (with_reducible exact ih0 _ _ _ _ _)
      | (with_reducible exact ih1 _ _ _ _ _ _)
      | (with_reducible exact ih2 _ _ _ _)
      | (with_reducible exact series_Value.mono _ _ _ _ _ _)
      | (with_reducible exact tide_Check.mono _ _)
      | (with_reducible exact tide_sum.mono _ _)
      | (with_reducible exact LeO.refl _)
      | (with_reducible exact LeO.none _)
      | (with_reducible refine LeO.ite ?_ ?_)
      | (with_reducible refine LeO.bind ?_ (fun _ => ?_))
      | exact ih0 _ _ _ _ _
      | exact ih1 _ _ _ _ _ _
      | exact ih2 _ _ _ _
      | exact series_Value.mono _ _ _ _ _ _
      | exact tide_Check.mono _ _
      | exact tide_sum.mono _ _
      | exact LeO.none _
      | refine LeO.ite ?_ ?_
      | refine LeO.bind ?_ (fun _ => ?_)
    · intro y0 y1 y2 y3 y4 y5
      unfold tide_ends.l0
      repeat' first
      | (with_reducible exact ih0 _ _ _ _ _)
      | (with_reducible exact ih1 _ _ _ _ _ _)
      | (with_reducible exact ih2 _ _ _ _)
      | (with_reducible exact series_Value.mono _ _ _ _ _ _)
      | (with_reducible exact tide_Check.mono _ _)
      | (with_reducible exact tide_sum.mono _ _)
      | (with_reducible exact LeO.refl _)
      | (with_reducible exact LeO.none _)
      | (with_reducible refine LeO.ite ?_ ?_)
      | (with_reducible refine LeO.bind ?_ (fun _ => ?_))
      | exact ih0 _ _ _ _ _
      | exact ih1 _ _ _ _ _ _
      | exact ih2 _ _ _ _
      | exact series_Value.mono _ _ _ _ _ _
      | exact tide_Check.mono _ _
      | exact tide_sum.mono _ _
      | exact LeO.none _
      | refine LeO.ite ?_ ?_
      | refine LeO.bind ?_ (fun _ => ?_)
    · intro y0 y1 y2 y3
      unfold tide_ends.l1
      repeat' first
      | (with_reducible exact ih0 _ _ _ _ _)
      | (with_reducible exact ih1 _ _ _ _ _ _)
      | (with_reducible exact ih2 _ _ _ _)
      | (with_reducible exact series_Value.mono _ _ _ _ _ _)
      | (with_reducible exact tide_Check.mono _ _)
      | (with_reducible exact tide_sum.mono _ _)
      | (with_reducible exact LeO.refl _)
      | (with_reducible exact LeO.none _)
      | (with_reducible refine LeO.ite ?_ ?_)
      | (with_reducible refine LeO.bind ?_ (fun _ => ?_))
      | exact ih0 _ _ _ _ _
      | exact ih1 _ _ _ _ _ _
      | exact ih2 _ _ _ _
      | exact series_Value.mono _ _ _ _ _ _
      | exact tide_Check.mono _ _
      | exact tide_sum.mono _ _
      | exact LeO.none _
      | refine LeO.ite ?_ ?_
      | refine LeO.bind ?_ (fun _ => ?_)
theorem tide_ends.mono : ∀ a0 a1 a2 a3 k, LeO (tide_ends.f k a0 a1 a2 a3) (tide_ends.f (k + 1) a0 a1 a2 a3) := by
  intro a0 a1 a2 a3 k
  obtain ⟨ih0, ih1, ih2⟩ := tide_ends.mono_l k
  unfold tide_ends.f
  repeat' first
      | (with_reducible exact ih0 _ _ _ _ _)
      | (with_reducible exact ih1 _ _ _ _ _ _)
      | (with_reducible exact ih2 _ _ _ _)
      | (with_reducible exact series_Value.mono _ _ _ _ _ _)
      | (with_reducible exact tide_Check.mono _ _)
      | (with_reducible exact tide_sum.mono _ _)
      | (with_reducible exact LeO.refl _)
      | (with_reducible exact LeO.none _)
      | (with_reducible refine LeO.ite ?_ ?_)
      | (with_reducible refine LeO.bind ?_ (fun _ => ?_))
      | exact ih0 _ _ _ _ _
      | exact ih1 _ _ _ _ _ _
      | exact ih2 _ _ _ _
      | exact series_Value.mono _ _ _ _ _ _
      | exact tide_Check.mono _ _
      | exact tide_sum.mono _ _
      | exact LeO.none _
      | refine LeO.ite ?_ ?_
      | refine LeO.bind ?_ (fun _ => ?_)

/-! ### the Lean function tide_High: function 30 -/
def tide_High.f (k : Nat) (l0 : List (S48)) (a1 : Int) (a2 : Int) : Option ((List (S29)) × Int) := (tide_ends.f k l0 a1 a2 1).bind fun bt458 => (some (bt458.1, bt458.2))
theorem tide_High.mono : ∀ a0 a1 a2 k, LeO (tide_High.f k a0 a1 a2) (tide_High.f (k + 1) a0 a1 a2) := by
  intro a0 a1 a2 k
  unfold tide_High.f
  repeat' first
      | (with_reducible exact tide_ends.mono _ _ _ _ _)
      | (with_reducible exact LeO.refl _)
      | (with_reducible exact LeO.none _)
      | (with_reducible refine LeO.ite ?_ ?_)
      | (with_reducible refine LeO.bind ?_ (fun _ => ?_))
      | exact tide_ends.mono _ _ _ _ _
      | exact LeO.none _
      | refine LeO.ite ?_ ?_
      | refine LeO.bind ?_ (fun _ => ?_)

/-! ### the Lean function ephemeriskeep2_tideWorks: function 27 -/
def ephemeriskeep2_tideWorks.f (k : Nat)  : Option (Bool) := (some (([(⟨1000, 0, 2000000000000000⟩ : S48)] : List (S48)) : List (S48))).bind fun y462 => ((tide_Height.f k y462 0).bind fun bt465 => ((tide_High.f k y462 32400000 54000000).bind fun bt469 => (if bt465.2.2 = 0 then ((ephemeriskeep2_has.f bt465.1 bt465.2.1 1000 2).bind fun t473 => (if t473 = true then (if bt469.2 = 0 then (if (bt469.1.length : Int) = 1 then (if 0 < (bt469.1.length : Int) then ((ephemeriskeep2_has.f ((rd_T29 bt469.1 0).f0) ((rd_T29 bt469.1 0).f1) 43200000 7200000).bind fun t475 => (some t475)) else (none)) else (none)) else (none)) else (none))) else (none))))
theorem ephemeriskeep2_tideWorks.mono : ∀ k, LeO (ephemeriskeep2_tideWorks.f k ) (ephemeriskeep2_tideWorks.f (k + 1) ) := by
  intro  k
  unfold ephemeriskeep2_tideWorks.f
  repeat' first
      | (with_reducible exact tide_Height.mono _ _ _)
      | (with_reducible exact tide_High.mono _ _ _ _)
      | (with_reducible exact LeO.refl _)
      | (with_reducible exact LeO.none _)
      | (with_reducible refine LeO.ite ?_ ?_)
      | (with_reducible refine LeO.bind ?_ (fun _ => ?_))
      | exact tide_Height.mono _ _ _
      | exact tide_High.mono _ _ _ _
      | exact LeO.none _
      | refine LeO.ite ?_ ?_
      | refine LeO.bind ?_ (fun _ => ?_)

/-! ### the Lean function ephemeriskeep2_tides: function 28 -/
def ephemeriskeep2_tides.l0 : Nat → List (S48) → List (S48) → Int → Int → Option ((List (S48)))
  | 0, _, _, _, _ => none
  | k + 1, x3, x6, x7, x8 => if x8 < x7 then (if 0 ≤ x8 then (if x8 < (x6.length : Int) then (if x8 < 6 then ((ephemeriskeep2_at.f ((rd_T48 x6 x8).f0) 20001).bind fun t478 => ((ephemeriskeep2_at.f ((rd_T48 x6 x8).f1) 1000000000).bind fun t479 => ((ephemeriskeep2_at.f ((rd_T48 x6 x8).f2) 4000000000000000).bind fun t480 => (if x3.length < 5864062014805 then (ephemeriskeep2_tides.l0 k (x3 ++ [(⟨t478, t479, wrap64 (1 + t480)⟩ : S48)]) x6 x7 (wrap64 (x8 + 1))) else (none))))) else (ephemeriskeep2_tides.l0 k x3 x6 x7 (wrap64 (x8 + 1)))) else (none)) else (none)) else (some x3)
def ephemeriskeep2_tides.f (k : Nat) (l0 : List (S48)) : Option ((List (S48))) := ephemeriskeep2_tides.l0 k ([] : List (S48)) l0 (l0.length : Int) 0
theorem ephemeriskeep2_tides.mono_l : ∀ k, (∀ y0 y1 y2 y3, LeO (ephemeriskeep2_tides.l0 k y0 y1 y2 y3) (ephemeriskeep2_tides.l0 (k + 1) y0 y1 y2 y3))
  | 0 => fun _ _ _ _ r h => by simp [ephemeriskeep2_tides.l0] at h
  | k + 1 => by
    have ih0 := ephemeriskeep2_tides.mono_l k
    · intro y0 y1 y2 y3
      unfold ephemeriskeep2_tides.l0
      repeat' first
      | (with_reducible exact ih0 _ _ _ _)
      | (with_reducible exact LeO.refl _)
      | (with_reducible exact LeO.none _)
      | (with_reducible refine LeO.ite ?_ ?_)
      | (with_reducible refine LeO.bind ?_ (fun _ => ?_))
      | exact ih0 _ _ _ _
      | exact LeO.none _
      | refine LeO.ite ?_ ?_
      | refine LeO.bind ?_ (fun _ => ?_)
theorem ephemeriskeep2_tides.mono : ∀ a0 k, LeO (ephemeriskeep2_tides.f k a0) (ephemeriskeep2_tides.f (k + 1) a0) := by
  intro a0 k
  have ih0 := ephemeriskeep2_tides.mono_l k
  unfold ephemeriskeep2_tides.f
  repeat' first
      | (with_reducible exact ih0 _ _ _ _)
      | (with_reducible exact LeO.refl _)
      | (with_reducible exact LeO.none _)
      | (with_reducible refine LeO.ite ?_ ?_)
      | (with_reducible refine LeO.bind ?_ (fun _ => ?_))
      | exact ih0 _ _ _ _
      | exact LeO.none _
      | refine LeO.ite ?_ ?_
      | refine LeO.bind ?_ (fun _ => ?_)

/-! ### the Lean function ephemeriskeep2_TideSums: function 7 -/
def ephemeriskeep2_TideSums.f (k : Nat) (l0 : List (S48)) (l1 : List (S48)) (a2 : Int) : Option (Bool) := (ephemeriskeep2_tideWorks.f k).bind fun t484 => (if t484 = true then ((ephemeriskeep2_tides.f k l0).bind fun t485 => ((ephemeriskeep2_tides.f k l1).bind fun t488 => ((ephemeriskeep2_instant.f a2).bind fun t491 => ((tide_Height.f k t485 t491).bind fun bt492 => ((tide_Height.f k t488 t491).bind fun bt496 => ((some (([] : List (S48)) : List (S48))).bind fun y500 => (if y500.length + t485.length < 5864062014805 then ((some (y500 ++ t485 : List (S48))).bind fun y503 => (if y503.length + t488.length < 5864062014805 then ((tide_Height.f k (y503 ++ t488) t491).bind fun bt509 => (if bt492.2.2 = 0 then (if bt496.2.2 = 0 then (if bt509.2.2 = 0 then ((ephemeriskeep2_plus.f bt492.1 bt492.2.1 bt496.1 bt496.2.1).bind fun bt513 => ((ephemeriskeep2_meets.f bt509.1 bt509.2.1 bt513.1 bt513.2).bind fun t515 => (some t515))) else (none)) else (none)) else (none))) else (none))) else (none)))))))) else (none))
theorem ephemeriskeep2_TideSums.mono : ∀ a0 a1 a2 k, LeO (ephemeriskeep2_TideSums.f k a0 a1 a2) (ephemeriskeep2_TideSums.f (k + 1) a0 a1 a2) := by
  intro a0 a1 a2 k
  unfold ephemeriskeep2_TideSums.f
  repeat' first
      | (with_reducible exact ephemeriskeep2_tideWorks.mono _)
      | (with_reducible exact ephemeriskeep2_tides.mono _ _)
      | (with_reducible exact tide_Height.mono _ _ _)
      | (with_reducible exact LeO.refl _)
      | (with_reducible exact LeO.none _)
      | (with_reducible refine LeO.ite ?_ ?_)
      | (with_reducible refine LeO.bind ?_ (fun _ => ?_))
      | exact ephemeriskeep2_tideWorks.mono _
      | exact ephemeriskeep2_tides.mono _ _
      | exact tide_Height.mono _ _ _
      | exact LeO.none _
      | refine LeO.ite ?_ ?_
      | refine LeO.bind ?_ (fun _ => ?_)

/-! ### the Lean function ephemeriskeep2_TideRepeats: function 8 -/
def ephemeriskeep2_TideRepeats.l0 : Nat → List (S48) → Int → Int → Int → Int → Option (Bool)
  | 0, _, _, _, _, _ => none
  | k + 1, x0, x1, x2, x21, x22 => if x22 < x21 then (if 0 ≤ x22 then (if x22 < (x0.length : Int) then (ephemeriskeep2_TideRepeats.l0 k (x0.set (x22 : Int).toNat (⟨(rd_T48 x0 x22).f0, (rd_T48 x0 x22).f1, wrap64 ((wrap64 (1 + (Int.tmod ((rd_T48 x0 x22).f2) 3))) * 1000000000000000)⟩ : S48)) x1 x2 x21 (wrap64 (x22 + 1))) else (none)) else (none)) else ((tide_Height.f k x0 x1).bind fun bt524 => ((tide_Height.f k x0 (wrap64 (x1 + (wrap64 (x2 * 86400000))))).bind fun bt528 => (if bt524.2.2 = 0 then (if bt528.2.2 = 0 then ((ephemeriskeep2_meets.f bt524.1 bt524.2.1 bt528.1 bt528.2.1).bind fun t532 => (some t532)) else (none)) else (none))))
def ephemeriskeep2_TideRepeats.f (k : Nat) (l0 : List (S48)) (a1 : Int) (a2 : Int) : Option (Bool) := (ephemeriskeep2_tideWorks.f k).bind fun t516 => (if t516 = true then ((ephemeriskeep2_tides.f k l0).bind fun t517 => ((ephemeriskeep2_instant.f a1).bind fun t520 => ((ephemeriskeep2_at.f a2 1000).bind fun t521 => (ephemeriskeep2_TideRepeats.l0 k t517 t520 t521 (t517.length : Int) 0)))) else (none))
theorem ephemeriskeep2_TideRepeats.mono_l : ∀ k, (∀ y0 y1 y2 y3 y4, LeO (ephemeriskeep2_TideRepeats.l0 k y0 y1 y2 y3 y4) (ephemeriskeep2_TideRepeats.l0 (k + 1) y0 y1 y2 y3 y4))
  | 0 => fun _ _ _ _ _ r h => by simp [ephemeriskeep2_TideRepeats.l0] at h
  | k + 1 => by
    have ih0 := ephemeriskeep2_TideRepeats.mono_l k
    · intro y0 y1 y2 y3 y4
      unfold ephemeriskeep2_TideRepeats.l0
      repeat' first
      | (with_reducible exact ih0 _ _ _ _ _)
      | (with_reducible exact ephemeriskeep2_tideWorks.mono _)
      | (with_reducible exact ephemeriskeep2_tides.mono _ _)
      | (with_reducible exact tide_Height.mono _ _ _)
      | (with_reducible exact LeO.refl _)
      | (with_reducible exact LeO.none _)
      | (with_reducible refine LeO.ite ?_ ?_)
      | (with_reducible refine LeO.bind ?_ (fun _ => ?_))
      | exact ih0 _ _ _ _ _
      | exact ephemeriskeep2_tideWorks.mono _
      | exact ephemeriskeep2_tides.mono _ _
      | exact tide_Height.mono _ _ _
      | exact LeO.none _
      | refine LeO.ite ?_ ?_
      | refine LeO.bind ?_ (fun _ => ?_)
theorem ephemeriskeep2_TideRepeats.mono : ∀ a0 a1 a2 k, LeO (ephemeriskeep2_TideRepeats.f k a0 a1 a2) (ephemeriskeep2_TideRepeats.f (k + 1) a0 a1 a2) := by
  intro a0 a1 a2 k
  have ih0 := ephemeriskeep2_TideRepeats.mono_l k
  unfold ephemeriskeep2_TideRepeats.f
  repeat' first
      | (with_reducible exact ih0 _ _ _ _ _)
      | (with_reducible exact ephemeriskeep2_tideWorks.mono _)
      | (with_reducible exact ephemeriskeep2_tides.mono _ _)
      | (with_reducible exact tide_Height.mono _ _ _)
      | (with_reducible exact LeO.refl _)
      | (with_reducible exact LeO.none _)
      | (with_reducible refine LeO.ite ?_ ?_)
      | (with_reducible refine LeO.bind ?_ (fun _ => ?_))
      | exact ih0 _ _ _ _ _
      | exact ephemeriskeep2_tideWorks.mono _
      | exact ephemeriskeep2_tides.mono _ _
      | exact tide_Height.mono _ _ _
      | exact LeO.none _
      | refine LeO.ite ?_ ?_
      | refine LeO.bind ?_ (fun _ => ?_)

/-! ### the Lean function tide_Low: function 31 -/
def tide_Low.f (k : Nat) (l0 : List (S48)) (a1 : Int) (a2 : Int) : Option ((List (S29)) × Int) := (tide_ends.f k l0 a1 a2 (-1)).bind fun bt533 => (some (bt533.1, bt533.2))
theorem tide_Low.mono : ∀ a0 a1 a2 k, LeO (tide_Low.f k a0 a1 a2) (tide_Low.f (k + 1) a0 a1 a2) := by
  intro a0 a1 a2 k
  unfold tide_Low.f
  repeat' first
      | (with_reducible exact tide_ends.mono _ _ _ _ _)
      | (with_reducible exact LeO.refl _)
      | (with_reducible exact LeO.none _)
      | (with_reducible refine LeO.ite ?_ ?_)
      | (with_reducible refine LeO.bind ?_ (fun _ => ?_))
      | exact tide_ends.mono _ _ _ _ _
      | exact LeO.none _
      | refine LeO.ite ?_ ?_
      | refine LeO.bind ?_ (fun _ => ?_)

/-! ### the Lean function ephemeriskeep2_TideTops: function 9 -/
mutual
def ephemeriskeep2_TideTops.j0 : Nat → List (S48) → List (S29) → List (S29) → Bool → Option (Bool)
  | 0, _, _, _, _ => none
  | k + 1, x0, x8, x10, x52 => if x52 = true then (none) else (ephemeriskeep2_TideTops.l0 k x0 x10 x8 (x8.length : Int) 0)
def ephemeriskeep2_TideTops.l0 : Nat → List (S48) → List (S29) → List (S29) → Int → Int → Option (Bool)
  | 0, _, _, _, _, _ => none
  | k + 1, x0, x10, x53, x54, x55 => if x55 < x54 then (if 0 ≤ x55 then (if x55 < (x53.length : Int) then ((tide_Height.f k x0 ((rd_T29 x53 x55).f0)).bind fun bt553 => ((tide_Height.f k x0 (wrap64 (Int.tdiv (wrap64 (((rd_T29 x53 x55).f0) + ((rd_T29 x53 x55).f1))) 2))).bind fun bt557 => ((tide_Height.f k x0 ((rd_T29 x53 x55).f1)).bind fun bt561 => (if bt557.1 ≤ bt553.2.1 then (ephemeriskeep2_TideTops.j2 k x0 x10 x53 x54 x55 true ((rd_T29 x53 x55).f0) ((rd_T29 x53 x55).f1)) else (ephemeriskeep2_TideTops.j2 k x0 x10 x53 x54 x55 (decide (bt557.1 ≤ bt561.2.1)) ((rd_T29 x53 x55).f0) ((rd_T29 x53 x55).f1)))))) else (none)) else (none)) else (some true)
def ephemeriskeep2_TideTops.j2 : Nat → List (S48) → List (S29) → List (S29) → Int → Int → Bool → Int → Int → Option (Bool)
  | 0, _, _, _, _, _, _, _, _ => none
  | k + 1, x0, x10, x53, x54, x55, x95, x553000, x553001 => if x95 = true then (none) else (ephemeriskeep2_TideTops.l1 k x0 x10 x53 x54 x55 x10 (x10.length : Int) 0 x553000 x553001)
def ephemeriskeep2_TideTops.l1 : Nat → List (S48) → List (S29) → List (S29) → Int → Int → List (S29) → Int → Int → Int → Int → Option (Bool)
  | 0, _, _, _, _, _, _, _, _, _, _ => none
  | k + 1, x0, x10, x53, x54, x55, x96, x97, x98, x553000, x553001 => if x98 < x97 then (if 0 ≤ x98 then (if x98 < (x96.length : Int) then (if (((rd_T29 x96 x98).f0) == x553000 && (((rd_T29 x96 x98).f1) == x553001)) = true then (none) else (ephemeriskeep2_TideTops.l1 k x0 x10 x53 x54 x55 x96 x97 (wrap64 (x98 + 1)) x553000 x553001)) else (none)) else (none)) else (ephemeriskeep2_TideTops.l0 k x0 x10 x53 x54 (wrap64 (x55 + 1)))
end
def ephemeriskeep2_TideTops.f (k : Nat) (l0 : List (S48)) (a1 : Int) (a2 : Int) : Option (Bool) := (ephemeriskeep2_tideWorks.f k).bind fun t537 => (if t537 = true then ((ephemeriskeep2_tides.f k l0).bind fun t538 => ((ephemeriskeep2_instant.f a1).bind fun t541 => ((ephemeriskeep2_at.f a2 480).bind fun t542 => ((tide_High.f k t538 t541 (wrap64 (t541 + (wrap64 (t542 * 3600000))))).bind fun bt543 => ((tide_Low.f k t538 t541 (wrap64 (t541 + (wrap64 (t542 * 3600000))))).bind fun bt547 => (if bt543.2 = 0 then (ephemeriskeep2_TideTops.j0 k t538 bt543.1 bt547.1 (bt547.2 != 0)) else (ephemeriskeep2_TideTops.j0 k t538 bt543.1 bt547.1 true))))))) else (none))
theorem ephemeriskeep2_TideTops.mono_l : ∀ k, (∀ y0 y1 y2 y3, LeO (ephemeriskeep2_TideTops.j0 k y0 y1 y2 y3) (ephemeriskeep2_TideTops.j0 (k + 1) y0 y1 y2 y3)) ∧ (∀ y0 y1 y2 y3 y4, LeO (ephemeriskeep2_TideTops.l0 k y0 y1 y2 y3 y4) (ephemeriskeep2_TideTops.l0 (k + 1) y0 y1 y2 y3 y4)) ∧ (∀ y0 y1 y2 y3 y4 y5 y6 y7, LeO (ephemeriskeep2_TideTops.j2 k y0 y1 y2 y3 y4 y5 y6 y7) (ephemeriskeep2_TideTops.j2 (k + 1) y0 y1 y2 y3 y4 y5 y6 y7)) ∧ (∀ y0 y1 y2 y3 y4 y5 y6 y7 y8 y9, LeO (ephemeriskeep2_TideTops.l1 k y0 y1 y2 y3 y4 y5 y6 y7 y8 y9) (ephemeriskeep2_TideTops.l1 (k + 1) y0 y1 y2 y3 y4 y5 y6 y7 y8 y9))
  | 0 => ⟨fun _ _ _ _ r h => by simp [ephemeriskeep2_TideTops.j0] at h, fun _ _ _ _ _ r h => by simp [ephemeriskeep2_TideTops.l0] at h, fun _ _ _ _ _ _ _ _ r h => by simp [ephemeriskeep2_TideTops.j2] at h, fun _ _ _ _ _ _ _ _ _ _ r h => by simp [ephemeriskeep2_TideTops.l1] at h⟩
  | k + 1 => by
    obtain ⟨ih0, ih1, ih2, ih3⟩ := ephemeriskeep2_TideTops.mono_l k
    refine ⟨?_, ?_, ?_, ?_⟩
    · intro y0 y1 y2 y3
      unfold ephemeriskeep2_TideTops.j0
      repeat' first
      | (with_reducible exact ih0 _ _ _ _)
      | (with_reducible exact ih1 _ _ _ _ _)
      | (with_reducible exact ih2 _ _ _ _ _ _ _ _)
      | (with_reducible exact ih3 _ _ _ _ _ _ _ _ _ _)
      | (with_reducible exact ephemeriskeep2_tideWorks.mono _)
      | (with_reducible exact ephemeriskeep2_tides.mono _ _)
      | (with_reducible exact tide_Height.mono _ _ _)
      | (with_reducible exact tide_High.mono _ _ _ _)
      | (with_reducible exact tide_Low.mono _ _ _ _)
      | (with_reducible exact LeO.refl _)
      | (with_reducible exact LeO.none _)
      | (with_reducible refine LeO.ite ?_ ?_)
      | (with_reducible refine LeO.bind ?_ (fun _ => ?_))
      | exact ih0 _ _ _ _
      | exact ih1 _ _ _ _ _
      | exact ih2 _ _ _ _ _ _ _ _
      | exact ih3 _ _ _ _ _ _ _ _ _ _
      | exact ephemeriskeep2_tideWorks.mono _
      | exact ephemeriskeep2_tides.mono _ _
      | exact tide_Height.mono _ _ _
      | exact tide_High.mono _ _ _ _
      | exact tide_Low.mono _ _ _ _
      | exact LeO.none _
      | refine LeO.ite ?_ ?_
      | refine LeO.bind ?_ (fun _ => ?_)
    · intro y0 y1 y2 y3 y4
      unfold ephemeriskeep2_TideTops.l0
      repeat' first
      | (with_reducible exact ih0 _ _ _ _)
      | (with_reducible exact ih1 _ _ _ _ _)
      | (with_reducible exact ih2 _ _ _ _ _ _ _ _)
      | (with_reducible exact ih3 _ _ _ _ _ _ _ _ _ _)
      | (with_reducible exact ephemeriskeep2_tideWorks.mono _)
      | (with_reducible exact ephemeriskeep2_tides.mono _ _)
      | (with_reducible exact tide_Height.mono _ _ _)
      | (with_reducible exact tide_High.mono _ _ _ _)
      | (with_reducible exact tide_Low.mono _ _ _ _)
      | (with_reducible exact LeO.refl _)
      | (with_reducible exact LeO.none _)
      | (with_reducible refine LeO.ite ?_ ?_)
      | (with_reducible refine LeO.bind ?_ (fun _ => ?_))
      | exact ih0 _ _ _ _
      | exact ih1 _ _ _ _ _
      | exact ih2 _ _ _ _ _ _ _ _
      | exact ih3 _ _ _ _ _ _ _ _ _ _
      | exact ephemeriskeep2_tideWorks.mono _
      | exact ephemeriskeep2_tides.mono _ _
      | exact tide_Height.mono _ _ _
      | exact tide_High.mono _ _ _ _
      | exact tide_Low.mono _ _ _ _
      | exact LeO.none _
      | refine LeO.ite ?_ ?_
      | refine LeO.bind ?_ (fun _ => ?_)
    · intro y0 y1 y2 y3 y4 y5 y6 y7
      unfold ephemeriskeep2_TideTops.j2
      repeat' first
      | (with_reducible exact ih0 _ _ _ _)
      | (with_reducible exact ih1 _ _ _ _ _)
      | (with_reducible exact ih2 _ _ _ _ _ _ _ _)
      | (with_reducible exact ih3 _ _ _ _ _ _ _ _ _ _)
      | (with_reducible exact ephemeriskeep2_tideWorks.mono _)
      | (with_reducible exact ephemeriskeep2_tides.mono _ _)
      | (with_reducible exact tide_Height.mono _ _ _)
      | (with_reducible exact tide_High.mono _ _ _ _)
      | (with_reducible exact tide_Low.mono _ _ _ _)
      | (with_reducible exact LeO.refl _)
      | (with_reducible exact LeO.none _)
      | (with_reducible refine LeO.ite ?_ ?_)
      | (with_reducible refine LeO.bind ?_ (fun _ => ?_))
      | exact ih0 _ _ _ _
      | exact ih1 _ _ _ _ _
      | exact ih2 _ _ _ _ _ _ _ _
      | exact ih3 _ _ _ _ _ _ _ _ _ _
      | exact ephemeriskeep2_tideWorks.mono _
      | exact ephemeriskeep2_tides.mono _ _
      | exact tide_Height.mono _ _ _
      | exact tide_High.mono _ _ _ _
      | exact tide_Low.mono _ _ _ _
      | exact LeO.none _
      | refine LeO.ite ?_ ?_
      | refine LeO.bind ?_ (fun _ => ?_)
    · intro y0 y1 y2 y3 y4 y5 y6 y7 y8 y9
      unfold ephemeriskeep2_TideTops.l1
      repeat' first
      | (with_reducible exact ih0 _ _ _ _)
      | (with_reducible exact ih1 _ _ _ _ _)
      | (with_reducible exact ih2 _ _ _ _ _ _ _ _)
      | (with_reducible exact ih3 _ _ _ _ _ _ _ _ _ _)
      | (with_reducible exact ephemeriskeep2_tideWorks.mono _)
      | (with_reducible exact ephemeriskeep2_tides.mono _ _)
      | (with_reducible exact tide_Height.mono _ _ _)
      | (with_reducible exact tide_High.mono _ _ _ _)
      | (with_reducible exact tide_Low.mono _ _ _ _)
      | (with_reducible exact LeO.refl _)
      | (with_reducible exact LeO.none _)
      | (with_reducible refine LeO.ite ?_ ?_)
      | (with_reducible refine LeO.bind ?_ (fun _ => ?_))
      | exact ih0 _ _ _ _
      | exact ih1 _ _ _ _ _
      | exact ih2 _ _ _ _ _ _ _ _
      | exact ih3 _ _ _ _ _ _ _ _ _ _
      | exact ephemeriskeep2_tideWorks.mono _
      | exact ephemeriskeep2_tides.mono _ _
      | exact tide_Height.mono _ _ _
      | exact tide_High.mono _ _ _ _
      | exact tide_Low.mono _ _ _ _
      | exact LeO.none _
      | refine LeO.ite ?_ ?_
      | refine LeO.bind ?_ (fun _ => ?_)
theorem ephemeriskeep2_TideTops.mono : ∀ a0 a1 a2 k, LeO (ephemeriskeep2_TideTops.f k a0 a1 a2) (ephemeriskeep2_TideTops.f (k + 1) a0 a1 a2) := by
  intro a0 a1 a2 k
  obtain ⟨ih0, ih1, ih2, ih3⟩ := ephemeriskeep2_TideTops.mono_l k
  unfold ephemeriskeep2_TideTops.f
  repeat' first
      | (with_reducible exact ih0 _ _ _ _)
      | (with_reducible exact ih1 _ _ _ _ _)
      | (with_reducible exact ih2 _ _ _ _ _ _ _ _)
      | (with_reducible exact ih3 _ _ _ _ _ _ _ _ _ _)
      | (with_reducible exact ephemeriskeep2_tideWorks.mono _)
      | (with_reducible exact ephemeriskeep2_tides.mono _ _)
      | (with_reducible exact tide_Height.mono _ _ _)
      | (with_reducible exact tide_High.mono _ _ _ _)
      | (with_reducible exact tide_Low.mono _ _ _ _)
      | (with_reducible exact LeO.refl _)
      | (with_reducible exact LeO.none _)
      | (with_reducible refine LeO.ite ?_ ?_)
      | (with_reducible refine LeO.bind ?_ (fun _ => ?_))
      | exact ih0 _ _ _ _
      | exact ih1 _ _ _ _ _
      | exact ih2 _ _ _ _ _ _ _ _
      | exact ih3 _ _ _ _ _ _ _ _ _ _
      | exact ephemeriskeep2_tideWorks.mono _
      | exact ephemeriskeep2_tides.mono _ _
      | exact tide_Height.mono _ _ _
      | exact tide_High.mono _ _ _ _
      | exact tide_Low.mono _ _ _ _
      | exact LeO.none _
      | refine LeO.ite ?_ ?_
      | refine LeO.bind ?_ (fun _ => ?_)

/-- THE ONE PURE STATEMENT of ephemeriskeep2_SeriesAdds. -/
def ephemeriskeep2_SeriesAdds.Pure : Prop := ∀ (a0_0 : Int) (a0_1 : Int) (l0_2 : List (S69)) (a0_3 : Int) (a1_0 : Int) (a1_1 : Int) (l1_2 : List (S69)) (a1_3 : Int) (a2 : Int), (Lit.int .i64 a0_0).wf = true → (Lit.int .i64 a0_1).wf = true → l0_2.length ≤ maxLen → (∀ x ∈ l0_2, (Lit.int .i64 x.f0).wf = true ∧ (Lit.int .i64 x.f1).wf = true ∧ (Lit.int .i64 x.f2).wf = true) → (Lit.int .i64 a0_3).wf = true → (Lit.int .i64 a1_0).wf = true → (Lit.int .i64 a1_1).wf = true → l1_2.length ≤ maxLen → (∀ x ∈ l1_2, (Lit.int .i64 x.f0).wf = true ∧ (Lit.int .i64 x.f1).wf = true ∧ (Lit.int .i64 x.f2).wf = true) → (Lit.int .i64 a1_3).wf = true → (Lit.int .i64 a2).wf = true → ∃ k, ephemeriskeep2_SeriesAdds.f k a0_0 a0_1 l0_2 a0_3 a1_0 a1_1 l1_2 a1_3 a2 = some true

/-- THE ONE PURE STATEMENT of ephemeriskeep2_SeriesRests. -/
def ephemeriskeep2_SeriesRests.Pure : Prop := ∀ (a0_0 : Int) (a0_1 : Int) (l0_2 : List (S69)) (a0_3 : Int) (a1 : Int) (a2 : Int), (Lit.int .i64 a0_0).wf = true → (Lit.int .i64 a0_1).wf = true → l0_2.length ≤ maxLen → (∀ x ∈ l0_2, (Lit.int .i64 x.f0).wf = true ∧ (Lit.int .i64 x.f1).wf = true ∧ (Lit.int .i64 x.f2).wf = true) → (Lit.int .i64 a0_3).wf = true → (Lit.int .i64 a1).wf = true → (Lit.int .i64 a2).wf = true → ∃ k, ephemeriskeep2_SeriesRests.f k a0_0 a0_1 l0_2 a0_3 a1 a2 = some true

/-- THE ONE PURE STATEMENT of ephemeriskeep2_SeriesMoves. -/
def ephemeriskeep2_SeriesMoves.Pure : Prop := ∀ (a0_0 : Int) (a0_1 : Int) (l0_2 : List (S69)) (a0_3 : Int) (a1 : Int) (a2 : Int), (Lit.int .i64 a0_0).wf = true → (Lit.int .i64 a0_1).wf = true → l0_2.length ≤ maxLen → (∀ x ∈ l0_2, (Lit.int .i64 x.f0).wf = true ∧ (Lit.int .i64 x.f1).wf = true ∧ (Lit.int .i64 x.f2).wf = true) → (Lit.int .i64 a0_3).wf = true → (Lit.int .i64 a1).wf = true → (Lit.int .i64 a2).wf = true → ∃ k, ephemeriskeep2_SeriesMoves.f k a0_0 a0_1 l0_2 a0_3 a1 a2 = some true

/-- THE ONE PURE STATEMENT of ephemeriskeep2_TideSums. -/
def ephemeriskeep2_TideSums.Pure : Prop := ∀ (l0 : List (S48)) (l1 : List (S48)) (a2 : Int), l0.length ≤ maxLen → (∀ x ∈ l0, (Lit.int .i64 x.f0).wf = true ∧ (Lit.int .i64 x.f1).wf = true ∧ (Lit.int .i64 x.f2).wf = true) → l1.length ≤ maxLen → (∀ x ∈ l1, (Lit.int .i64 x.f0).wf = true ∧ (Lit.int .i64 x.f1).wf = true ∧ (Lit.int .i64 x.f2).wf = true) → (Lit.int .i64 a2).wf = true → ∃ k, ephemeriskeep2_TideSums.f k l0 l1 a2 = some true

/-- THE ONE PURE STATEMENT of ephemeriskeep2_TideRepeats. -/
def ephemeriskeep2_TideRepeats.Pure : Prop := ∀ (l0 : List (S48)) (a1 : Int) (a2 : Int), l0.length ≤ maxLen → (∀ x ∈ l0, (Lit.int .i64 x.f0).wf = true ∧ (Lit.int .i64 x.f1).wf = true ∧ (Lit.int .i64 x.f2).wf = true) → (Lit.int .i64 a1).wf = true → (Lit.int .i64 a2).wf = true → ∃ k, ephemeriskeep2_TideRepeats.f k l0 a1 a2 = some true

/-- THE ONE PURE STATEMENT of ephemeriskeep2_TideTops. -/
def ephemeriskeep2_TideTops.Pure : Prop := ∀ (l0 : List (S48)) (a1 : Int) (a2 : Int), l0.length ≤ maxLen → (∀ x ∈ l0, (Lit.int .i64 x.f0).wf = true ∧ (Lit.int .i64 x.f1).wf = true ∧ (Lit.int .i64 x.f2).wf = true) → (Lit.int .i64 a1).wf = true → (Lit.int .i64 a2).wf = true → ∃ k, ephemeriskeep2_TideTops.f k l0 a1 a2 = some true

end Go.Proofs.Ytjcpilmecgcooaa.JD
