-- Made by a program of this session (wip/hp.py, over the kit's print) out of the translation. Not trusted: Lean checks it.
import Derived.Test.YtglpfgkbecgaaaaJVx0
namespace Go.Proofs.Ytglpfgkbecgaaaa.JV
open Go.RowKit Go.Proofs.YtglpfgkbecgaaaaW.PrintWords Go.Proofs.YtglpfgkbecgaaaaW.PrintLast Go.Proofs.YtglpfgkbecgaaaaW.PrintMore
attribute [local go_sem] max2_int min2_int max_two min_two max_three min_three max_four min_four   -- for this text's walks alone
set_option linter.unusedVariables false
set_option linter.unusedSimpArgs false

theorem wrap_in_ {n : Int} (h : -9223372036854775808 ≤ n) (h' : n ≤ 9223372036854775807) : wrap64 n = n := by
  unfold wrap64; omega
/-- within the range of the bounds of intervals -/
def InR (x : Int) : Prop := -1000000000000000000 ≤ x ∧ x ≤ 1000000000000000000
instance (x : Int) : Decidable (InR x) := inferInstanceAs (Decidable (_ ∧ _))
theorem below_setg {B : Nat} {w W : World} {g j : Nat} {v : Value} (h : Below B w W) (hg : B ≤ g) : Below B w (W.setCell ⟨g, j, none⟩ v) := h.setCell hg _
/-- stores at two places: the order makes no difference -/
theorem setCell_comm_ (w : World) (b c i j : Nat) (x y : Value) (h : b ≠ c ∨ i ≠ j) : (w.setCell ⟨c, j, none⟩ y).setCell ⟨b, i, none⟩ x = (w.setCell ⟨b, i, none⟩ x).setCell ⟨c, j, none⟩ y := by
  unfold World.setCell
  congr 1
  apply Array.ext_getElem?
  intro k
  simp only [Array.getElem?_modify]
  by_cases h1 : b = k <;> by_cases h2 : c = k
  · subst h1; subst h2
    have hij : i ≠ j := h.resolve_left (fun z => z rfl)
    simp only [if_pos, Option.map_map]
    congr 1
    funext o
    cases o <;> simp only [Function.comp, Option.isSome_none, Bool.false_eq_true, if_false]
    rw [Array.setIfInBounds_comm _ _ hij]
  · simp only [if_pos h1, if_neg h2]
  · simp only [if_neg h1, if_pos h2]
  · simp only [if_neg h1, if_neg h2]
section
variable {P : Program} {ops : Array Oper} {Q : Exit → Act → World → Prop} {md : Region.Mode} {S : World → Prop} {ds : List Nat}
/-- a load that may come up behind a store elsewhere: both orders lead to one place, shown once -/
theorem late_ {i j : Nat} {N : Option Tmp} {v : Value} {oi oj : Oper} {fuel : Nat} {l : Array Bool} {a a1 : Act} {w W1 : World} (X : Prop) (S2 : World → Prop) (li lj lij : Array Bool) (hi : ops[i]? = some oi) (hj : ops[j]? = some oj) (hN : oi.dst = N) (hNj : oj.dst = none)
    (hc : ((Region.ready md ops l == [i, j] || Region.ready md ops l == [j, i]) && l.setIfInBounds i true == li && l.setIfInBounds j true == lj && Region.ready md ops lj == [i] && lj.setIfInBounds i true == lij) = true) (hdi : i ∉ ds) (hdj : j ∈ ds)
    (hy : YieldsIf P ops S2 oi v a) (hs : S2 w) (hs1 : S2 W1) (ha : a.put N v = a1)
    (h2 : ∀ K : Act → World → Prop, K a W1 → if Region.wanted oj (yielded ops a.tmps) = true then Oper.wp P oj a w K Q else K (a.put none undef) w)
    (hX : X) (b1 : X → wpAnyLast P md ops Q S ds (fuel + 1) li a1 w) (b2 : X → wpAnyLast P md ops Q S ds fuel lij a1 W1) : wpAnyLast P md ops Q S ds (fuel + 2) l a w := by
  simp only [Bool.and_eq_true, Bool.or_eq_true, beq_iff_eq] at hc
  obtain ⟨⟨⟨⟨c1, c2⟩, c3⟩, c4⟩, c5⟩ := hc
  subst ha
  subst hN
  have A1 : wpOp P ops Q i (fun a' w' => (i ∉ ds → S w → S w') ∧ wpAnyLast P md ops Q S ds (fuel + 1) (l.setIfInBounds i true) a' w') a w := by
    refine hy.wpOp hi hs ⟨fun _ h => h, ?_⟩
    rw [c2]
    exact b1 hX
  have A2 : wpOp P ops Q j (fun a' w' => (j ∉ ds → S w → S w') ∧ wpAnyLast P md ops Q S ds (fuel + 1) (l.setIfInBounds j true) a' w') a w := by
    refine wpOp_step hj (fun K hK => ?_)
    rw [hNj]
    refine h2 K (hK _ _ ⟨fun h => absurd hdj h, ?_⟩)
    rw [c3]
    refine wpAnyLast_all c4 (by simp) ?_
    intro k hk
    obtain rfl := List.mem_singleton.mp hk
    refine hy.wpOp hi hs1 ⟨fun _ h => h, ?_⟩
    rw [c5]
    exact b2 hX
  rcases c1 with c1 | c1
  · refine wpAnyLast_all c1 (by simp) ?_
    intro k hk
    rcases List.mem_cons.mp hk with rfl | hk
    · exact A1
    · obtain rfl := List.mem_singleton.mp hk
      exact A2
  · refine wpAnyLast_all c1 (by simp) ?_
    intro k hk
    rcases List.mem_cons.mp hk with rfl | hk
    · exact A2
    · obtain rfl := List.mem_singleton.mp hk
      exact A1
end
section
variable {P : Program} {ops : Array Oper} {Q : Exit → Act → World → Prop}
/-- a call of a function value in a plain region -/
theorem goesV_ {rest : List Oper} {oi : Oper} {a : Act} {w : World} (N : Option Tmp) (hd : oi.dst = N) (hg : oi.guard = none) {f : FuncId} {fn : Func} {xs : Array Operand} {ts : Array TypeId} {o : Operand} {cap : Array Value} (hf : P.funcs[f]? = some fn) (hname : (fn.name == "runtime.NumGoroutine") = false) (hb : fn.body.isSome = true)
    (hop : oi.op = .call { callee := .value o, args := xs, argTypes := ts }) (hv : a.eval o = .func (.func f) #[] cap) (args : Array Value) (hargs : xs.map a.eval = args)
    (h : Calls P f (args ++ cap) w fun e w' => ∃ v, e = .returned v ∧ wpList P ops Q rest (a.put N v) w') : wpList P ops Q (oi :: rest) a w := by
  refine wpList_plain hg fun K hK => ?_
  have he := enters_ hf hname hb (args ++ cap) w
  have hrun : (execOp a.eval oi).run P w = .ok (.enter f (args ++ cap)) w := by
    unfold execOp
    simp [hop, resolve, Deferred.ofValue, invoke, hv, hargs, he]
  unfold Oper.wp
  rw [hrun, Oper.upon_enter]
  refine h.mono fun e w'' hh => ?_
  obtain ⟨v, rfl, hk⟩ := hh
  subst hd
  exact hK _ _ hk
/-- The operation calls a function value. -/
theorem gate_value {rest : List Oper} {oi : Oper} {a : Act} {w : World} {x : Operand} {xs : Array Operand} {ts : Array TypeId} (_ho : oi.op = .call { callee := .value x, args := xs, argTypes := ts }) (h : wpList P ops Q (oi :: rest) a w) : wpList P ops Q (oi :: rest) a w := h
end
section
variable {P : Program} {ops : Array Oper} {Q : Exit → Act → World → Prop}
/-- a call in a plain region behind a guard that says yes -/
theorem goesW_ {rest : List Oper} {oi : Oper} {a : Act} {w : World} (N : Option Tmp) (hd : oi.dst = N) (hw : Region.wanted oi (yielded ops a.tmps) = true) {f : FuncId} {fn : Func} {xs : Array Operand} {ts : Array TypeId} (hf : P.funcs[f]? = some fn) (hname : (fn.name == "runtime.NumGoroutine") = false) (hb : fn.body.isSome = true) (args : Array Value)
    (hop : oi.op = .call { callee := .value (.func f), args := xs, argTypes := ts }) (hargs : xs.map a.eval = args)
    (h : Calls P f args w fun e w' => ∃ v, e = .returned v ∧ wpList P ops Q rest (a.put N v) w') : wpList P ops Q (oi :: rest) a w := by
  refine wpList_step fun K hK => ?_
  rw [if_pos hw]
  have he := enters_ hf hname hb args w
  have hrun : (execOp a.eval oi).run P w = .ok (.enter f args) w := by
    unfold execOp
    simp [hop, resolve, Deferred.ofValue, invoke, Act.eval, hargs, he]
  unfold Oper.wp
  rw [hrun, Oper.upon_enter]
  refine h.mono fun e w'' hh => ?_
  obtain ⟨v, rfl, hk⟩ := hh
  subst hd
  exact hK _ _ hk
/-- a call of a function value in a plain region behind a guard that says yes -/
theorem goesVW_ {rest : List Oper} {oi : Oper} {a : Act} {w : World} (N : Option Tmp) (hd : oi.dst = N) (hw : Region.wanted oi (yielded ops a.tmps) = true) {f : FuncId} {fn : Func} {xs : Array Operand} {ts : Array TypeId} {o : Operand} {cap : Array Value} (hf : P.funcs[f]? = some fn) (hname : (fn.name == "runtime.NumGoroutine") = false) (hb : fn.body.isSome = true)
    (hop : oi.op = .call { callee := .value o, args := xs, argTypes := ts }) (hv : a.eval o = .func (.func f) #[] cap) (args : Array Value) (hargs : xs.map a.eval = args)
    (h : Calls P f (args ++ cap) w fun e w' => ∃ v, e = .returned v ∧ wpList P ops Q rest (a.put N v) w') : wpList P ops Q (oi :: rest) a w := by
  refine wpList_step fun K hK => ?_
  rw [if_pos hw]
  have he := enters_ hf hname hb (args ++ cap) w
  have hrun : (execOp a.eval oi).run P w = .ok (.enter f (args ++ cap)) w := by
    unfold execOp
    simp [hop, resolve, Deferred.ofValue, invoke, hv, hargs, he]
  unfold Oper.wp
  rw [hrun, Oper.upon_enter]
  refine h.mono fun e w'' hh => ?_
  obtain ⟨v, rfl, hk⟩ := hh
  subst hd
  exact hK _ _ hk
end

/-! ### the Lean function ephemeriskeep2_at: function 12 -/
def ephemeriskeep2_at.f (a0 : Int) (a1 : Int) : Option (Int) := if a1 = 0 then (none) else (some (Int.tmod (wrap64 ((Int.tmod a0 a1) + a1)) a1))

/-! ### the Lean function interval_out: function 50 -/
def interval_out.f (a0 : Int) : Option (Bool) := if a0 < (-1000000000000000000) then (some true) else (some (decide (a0 > 1000000000000000000)))

/-! ### the Lean function interval_Check: function 47 -/
def interval_Check.j0 : Nat → Bool → Int → Int → Option (Int)
  | 0, _, _, _ => none
  | k + 1, x10, x102000, x102001 => if x10 = true then (some 3) else (if x102000 > x102001 then (some 9) else (some 0))
def interval_Check.f (k : Nat) (a0_0 : Int) (a0_1 : Int) : Option (Int) := (interval_out.f a0_0).bind fun t102 => (if t102 = true then (interval_Check.j0 k true a0_0 a0_1) else ((interval_out.f a0_1).bind fun t103 => (interval_Check.j0 k t103 a0_0 a0_1)))
theorem interval_Check.mono_l : ∀ k, (∀ y0 y1 y2, LeO (interval_Check.j0 k y0 y1 y2) (interval_Check.j0 (k + 1) y0 y1 y2))
  | 0 => fun _ _ _ r h => by simp [interval_Check.j0] at h
  | k + 1 => by
    have ih0 := interval_Check.mono_l k
    · intro y0 y1 y2
      unfold interval_Check.j0
      repeat' first
      | (with_reducible exact ih0 _ _ _)
      | (with_reducible exact LeO.refl _)
      | (with_reducible exact LeO.none _)
      | (with_reducible refine LeO.ite ?_ ?_)
      | (with_reducible refine LeO.bind ?_ (fun _ => ?_))
      | exact ih0 _ _ _
      | exact LeO.none _
      | refine LeO.ite ?_ ?_
      | refine LeO.bind ?_ (fun _ => ?_)
theorem interval_Check.mono : ∀ a0 a1 k, LeO (interval_Check.f k a0 a1) (interval_Check.f (k + 1) a0 a1) := by
  intro a0 a1 k
  have ih0 := interval_Check.mono_l k
  unfold interval_Check.f
  repeat' first
      | (with_reducible exact ih0 _ _ _)
      | (with_reducible exact LeO.refl _)
      | (with_reducible exact LeO.none _)
      | (with_reducible refine LeO.ite ?_ ?_)
      | (with_reducible refine LeO.bind ?_ (fun _ => ?_))
      | exact ih0 _ _ _
      | exact LeO.none _
      | refine LeO.ite ?_ ?_
      | refine LeO.bind ?_ (fun _ => ?_)

/-! ### the Lean function agree_Check: function 34 -/
def agree_Check.l0 : Nat → List (S28) → Int → Int → Option (Int)
  | 0, _, _, _ => none
  | k + 1, x12, x13, x14 => if x14 < x13 then (if 0 ≤ x14 then (if x14 < (x12.length : Int) then ((interval_Check.f k ((rd_T28 x12 x14).f0) ((rd_T28 x12 x14).f1)).bind fun t106 => (if t106 = 0 then (agree_Check.l0 k x12 x13 (wrap64 (x14 + 1))) else (some t106))) else (none)) else (none)) else (some 0)
def agree_Check.f (k : Nat) (l0 : List (S28)) : Option (Int) := if (l0.length : Int) > 40 then (some 2) else (if (l0.length : Int) = 0 then (some 6) else (agree_Check.l0 k l0 (l0.length : Int) 0))
theorem agree_Check.mono_l : ∀ k, (∀ y0 y1 y2, LeO (agree_Check.l0 k y0 y1 y2) (agree_Check.l0 (k + 1) y0 y1 y2))
  | 0 => fun _ _ _ r h => by simp [agree_Check.l0] at h
  | k + 1 => by
    have ih0 := agree_Check.mono_l k
    · intro y0 y1 y2
      unfold agree_Check.l0
      repeat' first
      | (with_reducible exact ih0 _ _ _)
      | (with_reducible exact interval_Check.mono _ _ _)
      | (with_reducible exact LeO.refl _)
      | (with_reducible exact LeO.none _)
      | (with_reducible refine LeO.ite ?_ ?_)
      | (with_reducible refine LeO.bind ?_ (fun _ => ?_))
      | exact ih0 _ _ _
      | exact interval_Check.mono _ _ _
      | exact LeO.none _
      | refine LeO.ite ?_ ?_
      | refine LeO.bind ?_ (fun _ => ?_)
theorem agree_Check.mono : ∀ a0 k, LeO (agree_Check.f k a0) (agree_Check.f (k + 1) a0) := by
  intro a0 k
  have ih0 := agree_Check.mono_l k
  unfold agree_Check.f
  repeat' first
      | (with_reducible exact ih0 _ _ _)
      | (with_reducible exact interval_Check.mono _ _ _)
      | (with_reducible exact LeO.refl _)
      | (with_reducible exact LeO.none _)
      | (with_reducible refine LeO.ite ?_ ?_)
      | (with_reducible refine LeO.bind ?_ (fun _ => ?_))
      | exact ih0 _ _ _
      | exact interval_Check.mono _ _ _
      | exact LeO.none _
      | refine LeO.ite ?_ ?_
      | refine LeO.bind ?_ (fun _ => ?_)

/-! ### the Lean function agree_many: function 35 -/
mutual
def agree_many.l0 : Nat → Int → Int → Int → List (S28) → Int → Int → Option (Int × Int)
  | 0, _, _, _, _, _, _ => none
  | k + 1, x1, x6, x7, x10, x11, x12 => if x12 < x11 then (if 0 ≤ x12 then (if x12 < (x10.length : Int) then (if ((rd_T28 x10 x12).f0) ≤ x1 then (agree_many.j1 k x1 x6 x7 x10 x11 x12 (decide (x1 ≤ ((rd_T28 x10 x12).f1))) ((rd_T28 x10 x12).f0) ((rd_T28 x10 x12).f1)) else (agree_many.j1 k x1 x6 x7 x10 x11 x12 false ((rd_T28 x10 x12).f0) ((rd_T28 x10 x12).f1))) else (none)) else (none)) else (some (x6, x7))
def agree_many.j1 : Nat → Int → Int → Int → List (S28) → Int → Int → Bool → Int → Int → Option (Int × Int)
  | 0, _, _, _, _, _, _, _, _, _ => none
  | k + 1, x1, x6, x7, x10, x11, x12, x25, x109000, x109001 => if x25 = true then (if x6 = 0 then (agree_many.l0 k x1 (wrap64 (x6 + 1)) x109001 x10 x11 (wrap64 (x12 + 1))) else (if x109001 < x7 then (agree_many.l0 k x1 (wrap64 (x6 + 1)) x109001 x10 x11 (wrap64 (x12 + 1))) else (agree_many.l0 k x1 (wrap64 (x6 + 1)) x7 x10 x11 (wrap64 (x12 + 1))))) else (agree_many.l0 k x1 x6 x7 x10 x11 (wrap64 (x12 + 1)))
end
def agree_many.f (k : Nat) (l0 : List (S28)) (a1 : Int) : Option (Int × Int) := agree_many.l0 k a1 0 0 l0 (l0.length : Int) 0
theorem agree_many.mono_l : ∀ k, (∀ y0 y1 y2 y3 y4 y5, LeO (agree_many.l0 k y0 y1 y2 y3 y4 y5) (agree_many.l0 (k + 1) y0 y1 y2 y3 y4 y5)) ∧ (∀ y0 y1 y2 y3 y4 y5 y6 y7 y8, LeO (agree_many.j1 k y0 y1 y2 y3 y4 y5 y6 y7 y8) (agree_many.j1 (k + 1) y0 y1 y2 y3 y4 y5 y6 y7 y8))
  | 0 => ⟨fun _ _ _ _ _ _ r h => by simp [agree_many.l0] at h, fun _ _ _ _ _ _ _ _ _ r h => by simp [agree_many.j1] at h⟩
  | k + 1 => by
    obtain ⟨ih0, ih1⟩ := agree_many.mono_l k
    refine ⟨?_, ?_⟩
    · intro y0 y1 y2 y3 y4 y5
      unfold agree_many.l0
      repeat' first
      | (with_reducible exact ih0 _ _ _ _ _ _)
      | (with_reducible exact ih1 _ _ _ _ _ _ _ _ _)
      | (with_reducible exact LeO.refl _)
      | (with_reducible exact LeO.none _)
      | (with_reducible refine LeO.ite ?_ ?_)
      | (with_reducible refine LeO.bind ?_ (fun _ => ?_))
      | exact ih0 _ _ _ _ _ _
      | exact ih1 _ _ _ _ _ _ _ _ _
      | exact LeO.none _
      | refine LeO.ite ?_ ?_
      | refine LeO.bind ?_ (fun _ => ?_)
    · intro y0 y1 y2 y3 y4 y5 y6 y7 y8
      unfold agree_many.j1
      repeat' first
      | (with_reducible exact ih0 _ _ _ _ _ _)
      | (with_reducible exact ih1 _ _ _ _ _ _ _ _ _)
      | (with_reducible exact LeO.refl _)
      | (with_reducible exact LeO.none _)
      | (with_reducible refine LeO.ite ?_ ?_)
      | (with_reducible refine LeO.bind ?_ (fun _ => ?_))
      | exact ih0 _ _ _ _ _ _
      | exact ih1 _ _ _ _ _ _ _ _ _
      | exact LeO.none _
      | refine LeO.ite ?_ ?_
      | refine LeO.bind ?_ (fun _ => ?_)
theorem agree_many.mono : ∀ a0 a1 k, LeO (agree_many.f k a0 a1) (agree_many.f (k + 1) a0 a1) := by
  intro a0 a1 k
  obtain ⟨ih0, ih1⟩ := agree_many.mono_l k
  unfold agree_many.f
  repeat' first
      | (with_reducible exact ih0 _ _ _ _ _ _)
      | (with_reducible exact ih1 _ _ _ _ _ _ _ _ _)
      | (with_reducible exact LeO.refl _)
      | (with_reducible exact LeO.none _)
      | (with_reducible refine LeO.ite ?_ ?_)
      | (with_reducible refine LeO.bind ?_ (fun _ => ?_))
      | exact ih0 _ _ _ _ _ _
      | exact ih1 _ _ _ _ _ _ _ _ _
      | exact LeO.none _
      | refine LeO.ite ?_ ?_
      | refine LeO.bind ?_ (fun _ => ?_)

/-! ### the Lean function agree_Most: function 18 -/
def agree_Most.l0 : Nat → List (S28) → Int → List (S28) → Int → Int → Int → Int → Option (Int × Int × Int × Int)
  | 0, _, _, _, _, _, _, _ => none
  | k + 1, x0, x6, x19, x20, x21, x112000, x112001 => if x21 < x20 then (if 0 ≤ x21 then (if x21 < (x19.length : Int) then ((agree_many.f k x0 ((rd_T28 x19 x21).f0)).bind fun bt114 => (if bt114.1 > x6 then (agree_Most.l0 k x0 bt114.1 x19 x20 (wrap64 (x21 + 1)) ((rd_T28 x19 x21).f0) bt114.2) else (if bt114.1 = x6 then (if ((rd_T28 x19 x21).f0) < x112000 then (agree_Most.l0 k x0 bt114.1 x19 x20 (wrap64 (x21 + 1)) ((rd_T28 x19 x21).f0) bt114.2) else (agree_Most.l0 k x0 x6 x19 x20 (wrap64 (x21 + 1)) x112000 x112001)) else (agree_Most.l0 k x0 x6 x19 x20 (wrap64 (x21 + 1)) x112000 x112001)))) else (none)) else (none)) else (some (x112000, x112001, x6, 0))
def agree_Most.f (k : Nat) (l0 : List (S28)) : Option (Int × Int × Int × Int) := (agree_Check.f k l0).bind fun t110 => (if t110 = 0 then (agree_Most.l0 k l0 0 l0 (l0.length : Int) 0 0 0) else (some (0, 0, 0, t110)))
theorem agree_Most.mono_l : ∀ k, (∀ y0 y1 y2 y3 y4 y5 y6, LeO (agree_Most.l0 k y0 y1 y2 y3 y4 y5 y6) (agree_Most.l0 (k + 1) y0 y1 y2 y3 y4 y5 y6))
  | 0 => fun _ _ _ _ _ _ _ r h => by simp [agree_Most.l0] at h
  | k + 1 => by
    have ih0 := agree_Most.mono_l k
    · intro y0 y1 y2 y3 y4 y5 y6
      unfold agree_Most.l0
      repeat' first
      | (with_reducible exact ih0 _ _ _ _ _ _ _)
      | (with_reducible exact agree_Check.mono _ _)
      | (with_reducible exact agree_many.mono _ _ _)
      | (with_reducible exact LeO.refl _)
      | (with_reducible exact LeO.none _)
      | (with_reducible refine LeO.ite ?_ ?_)
      | (with_reducible refine LeO.bind ?_ (fun _ => ?_))
      | exact ih0 _ _ _ _ _ _ _
      | exact agree_Check.mono _ _
      | exact agree_many.mono _ _ _
      | exact LeO.none _
      | refine LeO.ite ?_ ?_
      | refine LeO.bind ?_ (fun _ => ?_)
theorem agree_Most.mono : ∀ a0 k, LeO (agree_Most.f k a0) (agree_Most.f (k + 1) a0) := by
  intro a0 k
  have ih0 := agree_Most.mono_l k
  unfold agree_Most.f
  repeat' first
      | (with_reducible exact ih0 _ _ _ _ _ _ _)
      | (with_reducible exact agree_Check.mono _ _)
      | (with_reducible exact agree_many.mono _ _ _)
      | (with_reducible exact LeO.refl _)
      | (with_reducible exact LeO.none _)
      | (with_reducible refine LeO.ite ?_ ?_)
      | (with_reducible refine LeO.bind ?_ (fun _ => ?_))
      | exact ih0 _ _ _ _ _ _ _
      | exact agree_Check.mono _ _
      | exact agree_many.mono _ _ _
      | exact LeO.none _
      | refine LeO.ite ?_ ?_
      | refine LeO.bind ?_ (fun _ => ?_)

/-! ### the Lean function agree_Within: function 19 -/
mutual
def agree_Within.j0 : Nat → List (S28) → Int → Bool → Option (Int × Int × Int)
  | 0, _, _, _ => none
  | k + 1, x0, x1, x30 => if x30 = true then (some (0, 0, 1)) else (agree_Within.l0 k x0 x1 false x0 (x0.length : Int) 0 0 0)
def agree_Within.l0 : Nat → List (S28) → Int → Bool → List (S28) → Int → Int → Int → Int → Option (Int × Int × Int)
  | 0, _, _, _, _, _, _, _, _ => none
  | k + 1, x0, x1, x7, x33, x34, x35, x119000, x119001 => if x35 < x34 then (if 0 ≤ x35 then (if x35 < (x33.length : Int) then ((agree_many.f k x0 ((rd_T28 x33 x35).f0)).bind fun bt121 => (if bt121.1 ≥ x1 then (if x7 = true then (if ((rd_T28 x33 x35).f0) < x119000 then (agree_Within.l0 k x0 x1 true x33 x34 (wrap64 (x35 + 1)) ((rd_T28 x33 x35).f0) x119001) else (agree_Within.l0 k x0 x1 x7 x33 x34 (wrap64 (x35 + 1)) x119000 x119001)) else (agree_Within.l0 k x0 x1 true x33 x34 (wrap64 (x35 + 1)) ((rd_T28 x33 x35).f0) x119001)) else (agree_Within.l0 k x0 x1 x7 x33 x34 (wrap64 (x35 + 1)) x119000 x119001))) else (none)) else (none)) else (if x7 = true then (agree_Within.l1 k x0 x1 x0 (x0.length : Int) 0 x119000 x119000) else (some (0, 0, 6)))
def agree_Within.l1 : Nat → List (S28) → Int → List (S28) → Int → Int → Int → Int → Option (Int × Int × Int)
  | 0, _, _, _, _, _, _, _ => none
  | k + 1, x0, x1, x70, x71, x72, x119000, x119001 => if x72 < x71 then (if 0 ≤ x72 then (if x72 < (x70.length : Int) then ((agree_many.f k x0 ((rd_T28 x70 x72).f1)).bind fun bt125 => (if bt125.1 ≥ x1 then (agree_Within.l1 k x0 x1 x70 x71 (wrap64 (x72 + 1)) x119000 (mx x119001 ((rd_T28 x70 x72).f1))) else (agree_Within.l1 k x0 x1 x70 x71 (wrap64 (x72 + 1)) x119000 x119001))) else (none)) else (none)) else (some (x119000, x119001, 0))
end
def agree_Within.f (k : Nat) (l0 : List (S28)) (a1 : Int) : Option (Int × Int × Int) := (agree_Check.f k l0).bind fun t117 => (if t117 = 0 then (if a1 < 1 then (agree_Within.j0 k l0 a1 true) else (agree_Within.j0 k l0 a1 (decide (a1 > (l0.length : Int))))) else (some (0, 0, t117)))
theorem agree_Within.mono_l : ∀ k, (∀ y0 y1 y2, LeO (agree_Within.j0 k y0 y1 y2) (agree_Within.j0 (k + 1) y0 y1 y2)) ∧ (∀ y0 y1 y2 y3 y4 y5 y6 y7, LeO (agree_Within.l0 k y0 y1 y2 y3 y4 y5 y6 y7) (agree_Within.l0 (k + 1) y0 y1 y2 y3 y4 y5 y6 y7)) ∧ (∀ y0 y1 y2 y3 y4 y5 y6, LeO (agree_Within.l1 k y0 y1 y2 y3 y4 y5 y6) (agree_Within.l1 (k + 1) y0 y1 y2 y3 y4 y5 y6))
  | 0 => ⟨fun _ _ _ r h => by simp [agree_Within.j0] at h, fun _ _ _ _ _ _ _ _ r h => by simp [agree_Within.l0] at h, fun _ _ _ _ _ _ _ r h => by simp [agree_Within.l1] at h⟩
  | k + 1 => by
    obtain ⟨ih0, ih1, ih2⟩ := agree_Within.mono_l k
    refine ⟨?_, ?_, ?_⟩
    · intro y0 y1 y2
      unfold agree_Within.j0
      repeat' first
      | (with_reducible exact ih0 _ _ _)
      | (with_reducible exact ih1 _ _ _ _ _ _ _ _)
      | (with_reducible exact ih2 _ _ _ _ _ _ _)
      | (with_reducible exact agree_Check.mono _ _)
      | (with_reducible exact agree_many.mono _ _ _)
      | (with_reducible exact LeO.refl _)
      | (with_reducible exact LeO.none _)
      | (with_reducible refine LeO.ite ?_ ?_)
      | (with_reducible refine LeO.bind ?_ (fun _ => ?_))
      | exact ih0 _ _ _
      | exact ih1 _ _ _ _ _ _ _ _
      | exact ih2 _ _ _ _ _ _ _
      | exact agree_Check.mono _ _
      | exact agree_many.mono _ _ _
      | exact LeO.none _
      | refine LeO.ite ?_ ?_
      | refine LeO.bind ?_ (fun _ => ?_)
    · intro y0 y1 y2 y3 y4 y5 y6 y7
      unfold agree_Within.l0
      repeat' first
      | (with_reducible exact ih0 _ _ _)
      | (with_reducible exact ih1 _ _ _ _ _ _ _ _)
      | (with_reducible exact ih2 _ _ _ _ _ _ _)
      | (with_reducible exact agree_Check.mono _ _)
      | (with_reducible exact agree_many.mono _ _ _)
      | (with_reducible exact LeO.refl _)
      | (with_reducible exact LeO.none _)
      | (with_reducible refine LeO.ite ?_ ?_)
      | (with_reducible refine LeO.bind ?_ (fun _ => ?_))
      | exact ih0 _ _ _
      | exact ih1 _ _ _ _ _ _ _ _
      | exact ih2 _ _ _ _ _ _ _
      | exact agree_Check.mono _ _
      | exact agree_many.mono _ _ _
      | exact LeO.none _
      | refine LeO.ite ?_ ?_
      | refine LeO.bind ?_ (fun _ => ?_)
    · intro y0 y1 y2 y3 y4 y5 y6
      unfold agree_Within.l1
      repeat' first
      | (with_reducible exact ih0 _ _ _)
      | (with_reducible exact ih1 _ _ _ _ _ _ _ _)
      | (with_reducible exact ih2 _ _ _ _ _ _ _)
      | (with_reducible exact agree_Check.mono _ _)
      | (with_reducible exact agree_many.mono _ _ _)
      | (with_reducible exact LeO.refl _)
      | (with_reducible exact LeO.none _)
      | (with_reducible refine LeO.ite ?_ ?_)
      | (with_reducible refine LeO.bind ?_ (fun _ => ?_))
      | exact ih0 _ _ _
      | exact ih1 _ _ _ _ _ _ _ _
      | exact ih2 _ _ _ _ _ _ _
      | exact agree_Check.mono _ _
      | exact agree_many.mono _ _ _
      | exact LeO.none _
      | refine LeO.ite ?_ ?_
      | refine LeO.bind ?_ (fun _ => ?_)
theorem agree_Within.mono : ∀ a0 a1 k, LeO (agree_Within.f k a0 a1) (agree_Within.f (k + 1) a0 a1) := by
  intro a0 a1 k
  obtain ⟨ih0, ih1, ih2⟩ := agree_Within.mono_l k
  unfold agree_Within.f
  repeat' first
      | (with_reducible exact ih0 _ _ _)
      | (with_reducible exact ih1 _ _ _ _ _ _ _ _)
      | (with_reducible exact ih2 _ _ _ _ _ _ _)
      | (with_reducible exact agree_Check.mono _ _)
      | (with_reducible exact agree_many.mono _ _ _)
      | (with_reducible exact LeO.refl _)
      | (with_reducible exact LeO.none _)
      | (with_reducible refine LeO.ite ?_ ?_)
      | (with_reducible refine LeO.bind ?_ (fun _ => ?_))
      | exact ih0 _ _ _
      | exact ih1 _ _ _ _ _ _ _ _
      | exact ih2 _ _ _ _ _ _ _
      | exact agree_Check.mono _ _
      | exact agree_many.mono _ _ _
      | exact LeO.none _
      | refine LeO.ite ?_ ?_
      | refine LeO.bind ?_ (fun _ => ?_)

/-! ### the Lean function agree_Outside: function 32 -/
def agree_Outside.l0 : Nat → List Int → List (S28) → Int → Int → Int → Int → Option (List Int × Int)
  | 0, _, _, _, _, _, _ => none
  | k + 1, x7, x19, x20, x21, x132000, x132001 => if x21 < x20 then (if 0 ≤ x21 then (if x21 < (x19.length : Int) then (if ((rd_T28 x19 x21).f1) < x132000 then (if x7.length < 17592186044416 then (agree_Outside.l0 k (x7 ++ [x21]) x19 x20 (wrap64 (x21 + 1)) x132000 x132001) else (none)) else (if ((rd_T28 x19 x21).f0) > x132001 then (if x7.length < 17592186044416 then (agree_Outside.l0 k (x7 ++ [x21]) x19 x20 (wrap64 (x21 + 1)) x132000 x132001) else (none)) else (agree_Outside.l0 k x7 x19 x20 (wrap64 (x21 + 1)) x132000 x132001))) else (none)) else (none)) else (some (x7, 0))
def agree_Outside.f (k : Nat) (l0 : List (S28)) : Option (List Int × Int) := (agree_Most.f k l0).bind fun bt127 => (if bt127.2.2.2 = 0 then (agree_Outside.l0 k ([] : List Int) l0 (l0.length : Int) 0 bt127.1 bt127.2.1) else (some (([] : List Int), bt127.2.2.2)))
theorem agree_Outside.mono_l : ∀ k, (∀ y0 y1 y2 y3 y4 y5, LeO (agree_Outside.l0 k y0 y1 y2 y3 y4 y5) (agree_Outside.l0 (k + 1) y0 y1 y2 y3 y4 y5))
  | 0 => fun _ _ _ _ _ _ r h => by simp [agree_Outside.l0] at h
  | k + 1 => by
    have ih0 := agree_Outside.mono_l k
    · intro y0 y1 y2 y3 y4 y5
      unfold agree_Outside.l0
      repeat' first
      | (with_reducible exact ih0 _ _ _ _ _ _)
      | (with_reducible exact agree_Most.mono _ _)
      | (with_reducible exact LeO.refl _)
      | (with_reducible exact LeO.none _)
      | (with_reducible refine LeO.ite ?_ ?_)
      | (with_reducible refine LeO.bind ?_ (fun _ => ?_))
      | exact ih0 _ _ _ _ _ _
      | exact agree_Most.mono _ _
      | exact LeO.none _
      | refine LeO.ite ?_ ?_
      | refine LeO.bind ?_ (fun _ => ?_)
theorem agree_Outside.mono : ∀ a0 k, LeO (agree_Outside.f k a0) (agree_Outside.f (k + 1) a0) := by
  intro a0 k
  have ih0 := agree_Outside.mono_l k
  unfold agree_Outside.f
  repeat' first
      | (with_reducible exact ih0 _ _ _ _ _ _)
      | (with_reducible exact agree_Most.mono _ _)
      | (with_reducible exact LeO.refl _)
      | (with_reducible exact LeO.none _)
      | (with_reducible refine LeO.ite ?_ ?_)
      | (with_reducible refine LeO.bind ?_ (fun _ => ?_))
      | exact ih0 _ _ _ _ _ _
      | exact agree_Most.mono _ _
      | exact LeO.none _
      | refine LeO.ite ?_ ?_
      | refine LeO.bind ?_ (fun _ => ?_)

/-! ### the Lean function ephemeriskeep2_agreeWorks: function 16 -/
def ephemeriskeep2_agreeWorks.f (k : Nat)  : Option (Bool) := (some (([(⟨0, 10⟩ : S28), (⟨5, 15⟩ : S28), (⟨8, 20⟩ : S28), (⟨30, 40⟩ : S28)] : List (S28)) : List (S28))).bind fun y140 => ((agree_Most.f k y140).bind fun bt143 => ((agree_Within.f k y140 2).bind fun bt148 => ((agree_Outside.f k y140).bind fun bt152 => (if bt143.2.2.2 = 0 then (if bt143.2.2.1 = 3 then (if (bt143.1 == 8 && (bt143.2.1 == 10)) = true then (if bt148.2.2 = 0 then (if (bt148.1 == 5 && (bt148.2.1 == 15)) = true then (if bt152.2 = 0 then (if (bt152.1.length : Int) = 1 then (if 0 < (bt152.1.length : Int) then (some ((rd bt152.1 0) == 3)) else (none)) else (none)) else (none)) else (none)) else (none)) else (none)) else (none)) else (none)))))
theorem ephemeriskeep2_agreeWorks.mono : ∀ k, LeO (ephemeriskeep2_agreeWorks.f k ) (ephemeriskeep2_agreeWorks.f (k + 1) ) := by
  intro  k
  unfold ephemeriskeep2_agreeWorks.f
  repeat' first
      | (with_reducible exact agree_Most.mono _ _)
      | (with_reducible exact agree_Outside.mono _ _)
      | (with_reducible exact agree_Within.mono _ _ _)
      | (with_reducible exact LeO.refl _)
      | (with_reducible exact LeO.none _)
      | (with_reducible refine LeO.ite ?_ ?_)
      | (with_reducible refine LeO.bind ?_ (fun _ => ?_))
      | exact agree_Most.mono _ _
      | exact agree_Outside.mono _ _
      | exact agree_Within.mono _ _ _
      | exact LeO.none _
      | refine LeO.ite ?_ ?_
      | refine LeO.bind ?_ (fun _ => ?_)

/-! ### the Lean function ephemeriskeep2_cut: function 33 -/
def ephemeriskeep2_cut.f (a0_0 : Int) (a0_1 : Int) (a1 : Int) : Option (Int × Int) := if (wrap64 (a1 + 1)) = 0 then (none) else (some (mn (Int.tmod a0_0 (wrap64 (a1 + 1))) (Int.tmod a0_1 (wrap64 (a1 + 1))), mx (Int.tmod a0_0 (wrap64 (a1 + 1))) (Int.tmod a0_1 (wrap64 (a1 + 1)))))

/-! ### the Lean function ephemeriskeep2_spans: function 17 -/
def ephemeriskeep2_spans.l0 : Nat → List (S28) → List (S28) → Int → Int → Option ((List (S28)))
  | 0, _, _, _, _ => none
  | k + 1, x3, x6, x7, x8 => if x8 < x7 then (if 0 ≤ x8 then (if x8 < (x6.length : Int) then (if x8 < 20 then ((ephemeriskeep2_cut.f ((rd_T28 x6 x8).f0) ((rd_T28 x6 x8).f1) 1000).bind fun bt159 => (if x3.length < 8796093022208 then (ephemeriskeep2_spans.l0 k (x3 ++ [(⟨bt159.1, bt159.2⟩ : S28)]) x6 x7 (wrap64 (x8 + 1))) else (none))) else (ephemeriskeep2_spans.l0 k x3 x6 x7 (wrap64 (x8 + 1)))) else (none)) else (none)) else (some x3)
def ephemeriskeep2_spans.f (k : Nat) (l0 : List (S28)) : Option ((List (S28))) := ephemeriskeep2_spans.l0 k ([] : List (S28)) l0 (l0.length : Int) 0
theorem ephemeriskeep2_spans.mono_l : ∀ k, (∀ y0 y1 y2 y3, LeO (ephemeriskeep2_spans.l0 k y0 y1 y2 y3) (ephemeriskeep2_spans.l0 (k + 1) y0 y1 y2 y3))
  | 0 => fun _ _ _ _ r h => by simp [ephemeriskeep2_spans.l0] at h
  | k + 1 => by
    have ih0 := ephemeriskeep2_spans.mono_l k
    · intro y0 y1 y2 y3
      unfold ephemeriskeep2_spans.l0
      repeat' first
      | (with_reducible exact ih0 _ _ _ _)
      | (with_reducible exact LeO.refl _)
      | (with_reducible exact LeO.none _)
      | (with_reducible refine LeO.ite ?_ ?_)
      | (with_reducible refine LeO.bind ?_ (fun _ => ?_))
      | exact ih0 _ _ _ _
      | exact LeO.none _
      | refine LeO.ite ?_ ?_
      | refine LeO.bind ?_ (fun _ => ?_)
theorem ephemeriskeep2_spans.mono : ∀ a0 k, LeO (ephemeriskeep2_spans.f k a0) (ephemeriskeep2_spans.f (k + 1) a0) := by
  intro a0 k
  have ih0 := ephemeriskeep2_spans.mono_l k
  unfold ephemeriskeep2_spans.f
  repeat' first
      | (with_reducible exact ih0 _ _ _ _)
      | (with_reducible exact LeO.refl _)
      | (with_reducible exact LeO.none _)
      | (with_reducible refine LeO.ite ?_ ?_)
      | (with_reducible refine LeO.bind ?_ (fun _ => ?_))
      | exact ih0 _ _ _ _
      | exact LeO.none _
      | refine LeO.ite ?_ ?_
      | refine LeO.bind ?_ (fun _ => ?_)

/-! ### the Lean function ephemeriskeep2_AgreeTurned: function 4 -/
def ephemeriskeep2_AgreeTurned.f (k : Nat) (l0 : List (S28)) (a1 : Int) : Option (Bool) := (ephemeriskeep2_agreeWorks.f k).bind fun t164 => (if t164 = true then ((ephemeriskeep2_spans.f k l0).bind fun t165 => (if (t165.length : Int) = 0 then (some true) else ((ephemeriskeep2_at.f a1 (t165.length : Int)).bind fun t168 => ((some (([] : List (S28)) : List (S28))).bind fun y169 => (if 0 ≤ t168 then (if t168 ≤ (t165.length : Int) then ((some (t165.drop (t168 : Int).toNat : List (S28))).bind fun y172 => (if y169.length + y172.length < 8796093022208 then ((some (y169 ++ y172 : List (S28))).bind fun y176 => ((some (t165.take (t168 : Int).toNat : List (S28))).bind fun y179 => (if y176.length + y179.length < 8796093022208 then ((some (y176 ++ y179 : List (S28))).bind fun y183 => ((agree_Most.f k t165).bind fun bt186 => ((agree_Most.f k y183).bind fun bt191 => ((agree_Within.f k t165 bt186.2.2.1).bind fun bt196 => ((agree_Within.f k y183 bt186.2.2.1).bind fun bt200 => (if bt186.2.2.2 = 0 then (if bt191.2.2.2 = 0 then (if (bt186.1 == bt191.1 && (bt186.2.1 == bt191.2.1)) = true then (if bt186.2.2.1 = bt191.2.2.1 then (if bt196.2.2 = 0 then (if bt200.2.2 = 0 then (some (bt196.1 == bt200.1 && (bt196.2.1 == bt200.2.1))) else (none)) else (none)) else (none)) else (none)) else (none)) else (none))))))) else (none)))) else (none))) else (none)) else (none)))))) else (none))
theorem ephemeriskeep2_AgreeTurned.mono : ∀ a0 a1 k, LeO (ephemeriskeep2_AgreeTurned.f k a0 a1) (ephemeriskeep2_AgreeTurned.f (k + 1) a0 a1) := by
  intro a0 a1 k
  unfold ephemeriskeep2_AgreeTurned.f
  repeat' first
      | (with_reducible exact agree_Most.mono _ _)
      | (with_reducible exact agree_Within.mono _ _ _)
      | (with_reducible exact ephemeriskeep2_agreeWorks.mono _)
      | (with_reducible exact ephemeriskeep2_spans.mono _ _)
      | (with_reducible exact LeO.refl _)
      | (with_reducible exact LeO.none _)
      | (with_reducible refine LeO.ite ?_ ?_)
      | (with_reducible refine LeO.bind ?_ (fun _ => ?_))
      | exact agree_Most.mono _ _
      | exact agree_Within.mono _ _ _
      | exact ephemeriskeep2_agreeWorks.mono _
      | exact ephemeriskeep2_spans.mono _ _
      | exact LeO.none _
      | refine LeO.ite ?_ ?_
      | refine LeO.bind ?_ (fun _ => ?_)

/-- THE ONE PURE STATEMENT of ephemeriskeep2_AgreeTurned. -/
def ephemeriskeep2_AgreeTurned.Pure : Prop := ∀ (l0 : List (S28)) (a1 : Int), l0.length ≤ maxLen → (∀ x ∈ l0, (Lit.int .i64 x.f0).wf = true ∧ (Lit.int .i64 x.f1).wf = true) → (Lit.int .i64 a1).wf = true → ∃ k, ephemeriskeep2_AgreeTurned.f k l0 a1 = some true

end Go.Proofs.Ytglpfgkbecgaaaa.JV
