-- Made by a program of this session (wip/hp.py, over the kit's print) out of the translation. Not trusted: Lean checks it.
import Derived.Test.YtglpfgkbecgaaaaJUx0
namespace Go.Proofs.Ytglpfgkbecgaaaa.JU
open Go.RowKit Go.Proofs.YtglpfgkbecgaaaaW.PrintWords Go.Proofs.YtglpfgkbecgaaaaW.PrintLast Go.Proofs.YtglpfgkbecgaaaaW.PrintMore
attribute [local go_sem] max2_int min2_int max_two min_two max_three min_three max_four min_four   -- for this text's walks alone
set_option linter.unusedVariables false
set_option linter.unusedSimpArgs false

theorem wrap_in_ {n : Int} (h : -9223372036854775808 ≤ n) (h' : n ≤ 9223372036854775807) : wrap64 n = n := by
  unfold wrap64; omega
/-- within the range of the bounds of intervals -/
def InR (x : Int) : Prop := -1000000000000000000 ≤ x ∧ x ≤ 1000000000000000000
instance (x : Int) : Decidable (InR x) := inferInstanceAs (Decidable (_ ∧ _))
theorem below_setg {B : Nat} {w W : World} {g j : Nat} {v : Value} (h : Below B w W) (hg : B ≤ g) : Below B w (W.setCell ⟨g, j, none⟩ v) := h.setCell hg _
/-- stores at two places: the order makes no difference -/
theorem setCell_comm_ (w : World) (b c i j : Nat) (x y : Value) (h : b ≠ c ∨ i ≠ j) : (w.setCell ⟨c, j, none⟩ y).setCell ⟨b, i, none⟩ x = (w.setCell ⟨b, i, none⟩ x).setCell ⟨c, j, none⟩ y := by
  unfold World.setCell
  congr 1
  apply Array.ext_getElem?
  intro k
  simp only [Array.getElem?_modify]
  by_cases h1 : b = k <;> by_cases h2 : c = k
  · subst h1; subst h2
    have hij : i ≠ j := h.resolve_left (fun z => z rfl)
    simp only [if_pos, Option.map_map]
    congr 1
    funext o
    cases o <;> simp only [Function.comp, Option.isSome_none, Bool.false_eq_true, if_false]
    rw [Array.setIfInBounds_comm _ _ hij]
  · simp only [if_pos h1, if_neg h2]
  · simp only [if_neg h1, if_pos h2]
  · simp only [if_neg h1, if_neg h2]
section
variable {P : Program} {ops : Array Oper} {Q : Exit → Act → World → Prop} {md : Region.Mode} {S : World → Prop} {ds : List Nat}
/-- a load that may come up behind a store elsewhere: both orders lead to one place, shown once -/
theorem late_ {i j : Nat} {N : Option Tmp} {v : Value} {oi oj : Oper} {fuel : Nat} {l : Array Bool} {a a1 : Act} {w W1 : World} (X : Prop) (S2 : World → Prop) (li lj lij : Array Bool) (hi : ops[i]? = some oi) (hj : ops[j]? = some oj) (hN : oi.dst = N) (hNj : oj.dst = none)
    (hc : ((Region.ready md ops l == [i, j] || Region.ready md ops l == [j, i]) && l.setIfInBounds i true == li && l.setIfInBounds j true == lj && Region.ready md ops lj == [i] && lj.setIfInBounds i true == lij) = true) (hdi : i ∉ ds) (hdj : j ∈ ds)
    (hy : YieldsIf P ops S2 oi v a) (hs : S2 w) (hs1 : S2 W1) (ha : a.put N v = a1)
    (h2 : ∀ K : Act → World → Prop, K a W1 → if Region.wanted oj (yielded ops a.tmps) = true then Oper.wp P oj a w K Q else K (a.put none undef) w)
    (hX : X) (b1 : X → wpAnyLast P md ops Q S ds (fuel + 1) li a1 w) (b2 : X → wpAnyLast P md ops Q S ds fuel lij a1 W1) : wpAnyLast P md ops Q S ds (fuel + 2) l a w := by
  simp only [Bool.and_eq_true, Bool.or_eq_true, beq_iff_eq] at hc
  obtain ⟨⟨⟨⟨c1, c2⟩, c3⟩, c4⟩, c5⟩ := hc
  subst ha
  subst hN
  have A1 : wpOp P ops Q i (fun a' w' => (i ∉ ds → S w → S w') ∧ wpAnyLast P md ops Q S ds (fuel + 1) (l.setIfInBounds i true) a' w') a w := by
    refine hy.wpOp hi hs ⟨fun _ h => h, ?_⟩
    rw [c2]
    exact b1 hX
  have A2 : wpOp P ops Q j (fun a' w' => (j ∉ ds → S w → S w') ∧ wpAnyLast P md ops Q S ds (fuel + 1) (l.setIfInBounds j true) a' w') a w := by
    refine wpOp_step hj (fun K hK => ?_)
    rw [hNj]
    refine h2 K (hK _ _ ⟨fun h => absurd hdj h, ?_⟩)
    rw [c3]
    refine wpAnyLast_all c4 (by simp) ?_
    intro k hk
    obtain rfl := List.mem_singleton.mp hk
    refine hy.wpOp hi hs1 ⟨fun _ h => h, ?_⟩
    rw [c5]
    exact b2 hX
  rcases c1 with c1 | c1
  · refine wpAnyLast_all c1 (by simp) ?_
    intro k hk
    rcases List.mem_cons.mp hk with rfl | hk
    · exact A1
    · obtain rfl := List.mem_singleton.mp hk
      exact A2
  · refine wpAnyLast_all c1 (by simp) ?_
    intro k hk
    rcases List.mem_cons.mp hk with rfl | hk
    · exact A2
    · obtain rfl := List.mem_singleton.mp hk
      exact A1
end
section
variable {P : Program} {ops : Array Oper} {Q : Exit → Act → World → Prop}
/-- a call of a function value in a plain region -/
theorem goesV_ {rest : List Oper} {oi : Oper} {a : Act} {w : World} (N : Option Tmp) (hd : oi.dst = N) (hg : oi.guard = none) {f : FuncId} {fn : Func} {xs : Array Operand} {ts : Array TypeId} {o : Operand} {cap : Array Value} (hf : P.funcs[f]? = some fn) (hname : (fn.name == "runtime.NumGoroutine") = false) (hb : fn.body.isSome = true)
    (hop : oi.op = .call { callee := .value o, args := xs, argTypes := ts }) (hv : a.eval o = .func (.func f) #[] cap) (args : Array Value) (hargs : xs.map a.eval = args)
    (h : Calls P f (args ++ cap) w fun e w' => ∃ v, e = .returned v ∧ wpList P ops Q rest (a.put N v) w') : wpList P ops Q (oi :: rest) a w := by
  refine wpList_plain hg fun K hK => ?_
  have he := enters_ hf hname hb (args ++ cap) w
  have hrun : (execOp a.eval oi).run P w = .ok (.enter f (args ++ cap)) w := by
    unfold execOp
    simp [hop, resolve, Deferred.ofValue, invoke, hv, hargs, he]
  unfold Oper.wp
  rw [hrun, Oper.upon_enter]
  refine h.mono fun e w'' hh => ?_
  obtain ⟨v, rfl, hk⟩ := hh
  subst hd
  exact hK _ _ hk
/-- The operation calls a function value. -/
theorem gate_value {rest : List Oper} {oi : Oper} {a : Act} {w : World} {x : Operand} {xs : Array Operand} {ts : Array TypeId} (_ho : oi.op = .call { callee := .value x, args := xs, argTypes := ts }) (h : wpList P ops Q (oi :: rest) a w) : wpList P ops Q (oi :: rest) a w := h
end
section
variable {P : Program} {ops : Array Oper} {Q : Exit → Act → World → Prop}
/-- a call in a plain region behind a guard that says yes -/
theorem goesW_ {rest : List Oper} {oi : Oper} {a : Act} {w : World} (N : Option Tmp) (hd : oi.dst = N) (hw : Region.wanted oi (yielded ops a.tmps) = true) {f : FuncId} {fn : Func} {xs : Array Operand} {ts : Array TypeId} (hf : P.funcs[f]? = some fn) (hname : (fn.name == "runtime.NumGoroutine") = false) (hb : fn.body.isSome = true) (args : Array Value)
    (hop : oi.op = .call { callee := .value (.func f), args := xs, argTypes := ts }) (hargs : xs.map a.eval = args)
    (h : Calls P f args w fun e w' => ∃ v, e = .returned v ∧ wpList P ops Q rest (a.put N v) w') : wpList P ops Q (oi :: rest) a w := by
  refine wpList_step fun K hK => ?_
  rw [if_pos hw]
  have he := enters_ hf hname hb args w
  have hrun : (execOp a.eval oi).run P w = .ok (.enter f args) w := by
    unfold execOp
    simp [hop, resolve, Deferred.ofValue, invoke, Act.eval, hargs, he]
  unfold Oper.wp
  rw [hrun, Oper.upon_enter]
  refine h.mono fun e w'' hh => ?_
  obtain ⟨v, rfl, hk⟩ := hh
  subst hd
  exact hK _ _ hk
/-- a call of a function value in a plain region behind a guard that says yes -/
theorem goesVW_ {rest : List Oper} {oi : Oper} {a : Act} {w : World} (N : Option Tmp) (hd : oi.dst = N) (hw : Region.wanted oi (yielded ops a.tmps) = true) {f : FuncId} {fn : Func} {xs : Array Operand} {ts : Array TypeId} {o : Operand} {cap : Array Value} (hf : P.funcs[f]? = some fn) (hname : (fn.name == "runtime.NumGoroutine") = false) (hb : fn.body.isSome = true)
    (hop : oi.op = .call { callee := .value o, args := xs, argTypes := ts }) (hv : a.eval o = .func (.func f) #[] cap) (args : Array Value) (hargs : xs.map a.eval = args)
    (h : Calls P f (args ++ cap) w fun e w' => ∃ v, e = .returned v ∧ wpList P ops Q rest (a.put N v) w') : wpList P ops Q (oi :: rest) a w := by
  refine wpList_step fun K hK => ?_
  rw [if_pos hw]
  have he := enters_ hf hname hb (args ++ cap) w
  have hrun : (execOp a.eval oi).run P w = .ok (.enter f (args ++ cap)) w := by
    unfold execOp
    simp [hop, resolve, Deferred.ofValue, invoke, hv, hargs, he]
  unfold Oper.wp
  rw [hrun, Oper.upon_enter]
  refine h.mono fun e w'' hh => ?_
  obtain ⟨v, rfl, hk⟩ := hh
  subst hd
  exact hK _ _ hk
end

/-! ### the Lean function gauge_Check: function 41 -/
mutual
def gauge_Check.j0 : Nat → List (List Int) → List Int → Bool → Option (Int)
  | 0, _, _, _ => none
  | k + 1, x0, x1, x35 => if x35 = true then (some 8) else (gauge_Check.l0 k x0 x1 x0 (x0.length : Int) 0)
def gauge_Check.l0 : Nat → List (List Int) → List Int → List (List Int) → Int → Int → Option (Int)
  | 0, _, _, _, _, _ => none
  | k + 1, x0, x1, x36, x37, x38 => if x38 < x37 then (if 0 ≤ x38 then (if x38 < (x36.length : Int) then (if 0 < (x0.length : Int) then (if ((rd_L1 x36 x38).length : Int) = ((rd_L1 x0 0).length : Int) then (gauge_Check.l1 k x0 x1 x38 x36 x37 x38 (rd_L1 x36 x38) ((rd_L1 x36 x38).length : Int) 0) else (some 8)) else (none)) else (none)) else (none)) else (some 0)
def gauge_Check.l1 : Nat → List (List Int) → List Int → Int → List (List Int) → Int → Int → List Int → Int → Int → Option (Int)
  | 0, _, _, _, _, _, _, _, _, _ => none
  | k + 1, x0, x1, x5, x36, x37, x38, x50, x51, x52 => if x52 < x51 then (if 0 ≤ x52 then (if x52 < (x50.length : Int) then (if (rd x50 x52) < (-10) then (some 3) else (if (rd x50 x52) > 10 then (some 3) else (gauge_Check.l1 k x0 x1 x5 x36 x37 x38 x50 x51 (wrap64 (x52 + 1))))) else (none)) else (none)) else (if 0 ≤ x5 then (if x5 < (x1.length : Int) then (if (rd x1 x5) < (-1000) then (some 3) else (if (rd x1 x5) > 1000 then (some 3) else (gauge_Check.l0 k x0 x1 x36 x37 (wrap64 (x38 + 1))))) else (none)) else (none))
end
def gauge_Check.f (k : Nat) (l0 : List (List Int)) (l1 : List Int) : Option (Int) := if (l0.length : Int) > 8 then (some 2) else (if (l0.length : Int) = 0 then (gauge_Check.j0 k l0 l1 true) else (if (l0.length : Int) = (l1.length : Int) then (if 0 < (l0.length : Int) then (if ((rd_L1 l0 0).length : Int) < 1 then (gauge_Check.j0 k l0 l1 true) else (gauge_Check.j0 k l0 l1 (decide (((rd_L1 l0 0).length : Int) > 3)))) else (none)) else (gauge_Check.j0 k l0 l1 true)))
theorem gauge_Check.mono_l : ∀ k, (∀ y0 y1 y2, LeO (gauge_Check.j0 k y0 y1 y2) (gauge_Check.j0 (k + 1) y0 y1 y2)) ∧ (∀ y0 y1 y2 y3 y4, LeO (gauge_Check.l0 k y0 y1 y2 y3 y4) (gauge_Check.l0 (k + 1) y0 y1 y2 y3 y4)) ∧ (∀ y0 y1 y2 y3 y4 y5 y6 y7 y8, LeO (gauge_Check.l1 k y0 y1 y2 y3 y4 y5 y6 y7 y8) (gauge_Check.l1 (k + 1) y0 y1 y2 y3 y4 y5 y6 y7 y8))
  | 0 => ⟨fun _ _ _ r h => by simp [gauge_Check.j0] at h, fun _ _ _ _ _ r h => by simp [gauge_Check.l0] at h, fun _ _ _ _ _ _ _ _ _ r h => by simp [gauge_Check.l1] at h⟩
  | k + 1 => by
    obtain ⟨ih0, ih1, ih2⟩ := gauge_Check.mono_l k
    refine ⟨?_, ?_, ?_⟩
    · intro y0 y1 y2
      unfold gauge_Check.j0
      repeat' first
      | (with_reducible exact ih0 _ _ _)
      | (with_reducible exact ih1 _ _ _ _ _)
      | (with_reducible exact ih2 _ _ _ _ _ _ _ _ _)
      | (with_reducible exact LeO.refl _)
      | (with_reducible exact LeO.none _)
      | (with_reducible refine LeO.ite ?_ ?_)
      | (with_reducible refine LeO.bind ?_ (fun _ => ?_))
      | exact ih0 _ _ _
      | exact ih1 _ _ _ _ _
      | exact ih2 _ _ _ _ _ _ _ _ _
      | exact LeO.none _
      | refine LeO.ite ?_ ?_
      | refine LeO.bind ?_ (fun _ => ?_)
    · intro y0 y1 y2 y3 y4
      unfold gauge_Check.l0
      repeat' first
      | (with_reducible exact ih0 _ _ _)
      | (with_reducible exact ih1 _ _ _ _ _)
      | (with_reducible exact ih2 _ _ _ _ _ _ _ _ _)
      | (with_reducible exact LeO.refl _)
      | (with_reducible exact LeO.none _)
      | (with_reducible refine LeO.ite ?_ ?_)
      | (with_reducible refine LeO.bind ?_ (fun _ => ?_))
      | exact ih0 _ _ _
      | exact ih1 _ _ _ _ _
      | exact ih2 _ _ _ _ _ _ _ _ _
      | exact LeO.none _
      | refine LeO.ite ?_ ?_
      | refine LeO.bind ?_ (fun _ => ?_)
    · intro y0 y1 y2 y3 y4 y5 y6 y7 y8
      unfold gauge_Check.l1
      repeat' first
      | (with_reducible exact ih0 _ _ _)
      | (with_reducible exact ih1 _ _ _ _ _)
      | (with_reducible exact ih2 _ _ _ _ _ _ _ _ _)
      | (with_reducible exact LeO.refl _)
      | (with_reducible exact LeO.none _)
      | (with_reducible refine LeO.ite ?_ ?_)
      | (with_reducible refine LeO.bind ?_ (fun _ => ?_))
      | exact ih0 _ _ _
      | exact ih1 _ _ _ _ _
      | exact ih2 _ _ _ _ _ _ _ _ _
      | exact LeO.none _
      | refine LeO.ite ?_ ?_
      | refine LeO.bind ?_ (fun _ => ?_)
theorem gauge_Check.mono : ∀ a0 a1 k, LeO (gauge_Check.f k a0 a1) (gauge_Check.f (k + 1) a0 a1) := by
  intro a0 a1 k
  obtain ⟨ih0, ih1, ih2⟩ := gauge_Check.mono_l k
  unfold gauge_Check.f
  repeat' first
      | (with_reducible exact ih0 _ _ _)
      | (with_reducible exact ih1 _ _ _ _ _)
      | (with_reducible exact ih2 _ _ _ _ _ _ _ _ _)
      | (with_reducible exact LeO.refl _)
      | (with_reducible exact LeO.none _)
      | (with_reducible refine LeO.ite ?_ ?_)
      | (with_reducible refine LeO.bind ?_ (fun _ => ?_))
      | exact ih0 _ _ _
      | exact ih1 _ _ _ _ _
      | exact ih2 _ _ _ _ _ _ _ _ _
      | exact LeO.none _
      | refine LeO.ite ?_ ?_
      | refine LeO.bind ?_ (fun _ => ?_)

/-! ### the Lean function gauge_normal: function 42 -/
mutual
def gauge_normal.l0 : Nat → List (List Int) → List Int → Int → List (List Int) → Int → Int → Option ((List (List Int)))
  | 0, _, _, _, _, _, _ => none
  | k + 1, x0, x1, x5, x6, x18, x19 => if x19 < x18 then (if 0 ≤ (wrap64 (x5 + 1)) then (if (wrap64 (x5 + 1) : Int).toNat ≤ 35184372088832 then (if 0 ≤ x19 then (if x19 < (x6.length : Int) then (gauge_normal.l1 k x0 x1 x5 (x6.set (x19 : Int).toNat (List.replicate (wrap64 (x5 + 1) : Int).toNat 0)) x19 x18 x19 x0 (x0.length : Int) 0) else (none)) else (none)) else (none)) else (none)) else (some x6)
def gauge_normal.l1 : Nat → List (List Int) → List Int → Int → List (List Int) → Int → Int → Int → List (List Int) → Int → Int → Option ((List (List Int)))
  | 0, _, _, _, _, _, _, _, _, _, _ => none
  | k + 1, x0, x1, x5, x6, x7, x18, x19, x28, x29, x30 => if x30 < x29 then (if 0 ≤ x30 then (if x30 < (x28.length : Int) then (gauge_normal.l2 k x0 x1 x5 x6 x7 x30 (rd_L1 x28 x30) x18 x19 x28 x29 x30 x5 0) else (none)) else (none)) else (gauge_normal.l0 k x0 x1 x5 x6 x18 (wrap64 (x19 + 1)))
def gauge_normal.l2 : Nat → List (List Int) → List Int → Int → List (List Int) → Int → Int → List Int → Int → Int → List (List Int) → Int → Int → Int → Int → Option ((List (List Int)))
  | 0, _, _, _, _, _, _, _, _, _, _, _, _, _, _ => none
  | k + 1, x0, x1, x5, x6, x7, x8, x9, x18, x19, x28, x29, x30, x35, x36 => if x36 < x35 then (if 0 ≤ x7 then (if x7 < (x6.length : Int) then (if 0 ≤ x36 then (if x36 < ((rd_L1 x6 x7).length : Int) then (if x7 < (x9.length : Int) then (if x36 < (x9.length : Int) then (gauge_normal.l2 k x0 x1 x5 (x6.set (x7 : Int).toNat ((rd_L1 x6 x7).set (x36 : Int).toNat (wrap64 ((rd (rd_L1 x6 x7) x36) + (wrap64 ((rd x9 x7) * (rd x9 x36))))))) x7 x8 x9 x18 x19 x28 x29 x30 x35 (wrap64 (x36 + 1))) else (none)) else (none)) else (none)) else (none)) else (none)) else (none)) else (if 0 ≤ x7 then (if x7 < (x6.length : Int) then (if 0 ≤ x5 then (if x5 < ((rd_L1 x6 x7).length : Int) then (if x7 < (x9.length : Int) then (if 0 ≤ x8 then (if x8 < (x1.length : Int) then (gauge_normal.l1 k x0 x1 x5 (x6.set (x7 : Int).toNat ((rd_L1 x6 x7).set (x5 : Int).toNat (wrap64 ((rd (rd_L1 x6 x7) x5) + (wrap64 ((rd x9 x7) * (rd x1 x8))))))) x7 x18 x19 x28 x29 (wrap64 (x30 + 1))) else (none)) else (none)) else (none)) else (none)) else (none)) else (none)) else (none))
end
def gauge_normal.f (k : Nat) (l0 : List (List Int)) (l1 : List Int) : Option ((List (List Int))) := if 0 < (l0.length : Int) then (if 0 ≤ ((rd_L1 l0 0).length : Int) then (if (((rd_L1 l0 0).length : Int) : Int).toNat ≤ 11728124029610 then ((some (List.replicate (((rd_L1 l0 0).length : Int) : Int).toNat [] : List (List Int))).bind fun y109 => (gauge_normal.l0 k l0 l1 ((rd_L1 l0 0).length : Int) y109 (y109.length : Int) 0)) else (none)) else (none)) else (none)
theorem gauge_normal.mono_l : ∀ k, (∀ y0 y1 y2 y3 y4 y5, LeO (gauge_normal.l0 k y0 y1 y2 y3 y4 y5) (gauge_normal.l0 (k + 1) y0 y1 y2 y3 y4 y5)) ∧ (∀ y0 y1 y2 y3 y4 y5 y6 y7 y8 y9, LeO (gauge_normal.l1 k y0 y1 y2 y3 y4 y5 y6 y7 y8 y9) (gauge_normal.l1 (k + 1) y0 y1 y2 y3 y4 y5 y6 y7 y8 y9)) ∧ (∀ y0 y1 y2 y3 y4 y5 y6 y7 y8 y9 y10 y11 y12 y13, LeO (gauge_normal.l2 k y0 y1 y2 y3 y4 y5 y6 y7 y8 y9 y10 y11 y12 y13) (gauge_normal.l2 (k + 1) y0 y1 y2 y3 y4 y5 y6 y7 y8 y9 y10 y11 y12 y13))
  | 0 => ⟨fun _ _ _ _ _ _ r h => by simp [gauge_normal.l0] at h, fun _ _ _ _ _ _ _ _ _ _ r h => by simp [gauge_normal.l1] at h, fun _ _ _ _ _ _ _ _ _ _ _ _ _ _ r h => by simp [gauge_normal.l2] at h⟩
  | k + 1 => by
    obtain ⟨ih0, ih1, ih2⟩ := gauge_normal.mono_l k
    refine ⟨?_, ?_, ?_⟩
    · intro y0 y1 y2 y3 y4 y5
      unfold gauge_normal.l0
      repeat' first
      | (with_reducible exact ih0 _ _ _ _ _ _)
      | (with_reducible exact ih1 _ _ _ _ _ _ _ _ _ _)
      | (with_reducible exact ih2 _ _ _ _ _ _ _ _ _ _ _ _ _ _)
      | (with_reducible exact LeO.refl _)
      | (with_reducible exact LeO.none _)
      | (with_reducible refine LeO.ite ?_ ?_)
      | (with_reducible refine LeO.bind ?_ (fun _ => ?_))
      | exact ih0 _ _ _ _ _ _
      | exact ih1 _ _ _ _ _ _ _ _ _ _
      | exact ih2 _ _ _ _ _ _ _ _ _ _ _ _ _ _
      | exact LeO.none _
      | refine LeO.ite ?_ ?_
      | refine LeO.bind ?_ (fun _ => ?_)
    · intro y0 y1 y2 y3 y4 y5 y6 y7 y8 y9
      unfold gauge_normal.l1
      repeat' first
      | (with_reducible exact ih0 _ _ _ _ _ _)
      | (with_reducible exact ih1 _ _ _ _ _ _ _ _ _ _)
      | (with_reducible exact ih2 _ _ _ _ _ _ _ _ _ _ _ _ _ _)
      | (with_reducible exact LeO.refl _)
      | (with_reducible exact LeO.none _)
      | (with_reducible refine LeO.ite ?_ ?_)
      | (with_reducible refine LeO.bind ?_ (fun _ => ?_))
      | exact ih0 _ _ _ _ _ _
      | exact ih1 _ _ _ _ _ _ _ _ _ _
      | exact ih2 _ _ _ _ _ _ _ _ _ _ _ _ _ _
      | exact LeO.none _
      | refine LeO.ite ?_ ?_
      | refine LeO.bind ?_ (fun _ => ?_)
    · intro y0 y1 y2 y3 y4 y5 y6 y7 y8 y9 y10 y11 y12 y13
      unfold gauge_normal.l2
      repeat' first
      | (with_reducible exact ih0 _ _ _ _ _ _)
      | (with_reducible exact ih1 _ _ _ _ _ _ _ _ _ _)
      | (with_reducible exact ih2 _ _ _ _ _ _ _ _ _ _ _ _ _ _)
      | (with_reducible exact LeO.refl _)
      | (with_reducible exact LeO.none _)
      | (with_reducible refine LeO.ite ?_ ?_)
      | (with_reducible refine LeO.bind ?_ (fun _ => ?_))
      | exact ih0 _ _ _ _ _ _
      | exact ih1 _ _ _ _ _ _ _ _ _ _
      | exact ih2 _ _ _ _ _ _ _ _ _ _ _ _ _ _
      | exact LeO.none _
      | refine LeO.ite ?_ ?_
      | refine LeO.bind ?_ (fun _ => ?_)
theorem gauge_normal.mono : ∀ a0 a1 k, LeO (gauge_normal.f k a0 a1) (gauge_normal.f (k + 1) a0 a1) := by
  intro a0 a1 k
  obtain ⟨ih0, ih1, ih2⟩ := gauge_normal.mono_l k
  unfold gauge_normal.f
  repeat' first
      | (with_reducible exact ih0 _ _ _ _ _ _)
      | (with_reducible exact ih1 _ _ _ _ _ _ _ _ _ _)
      | (with_reducible exact ih2 _ _ _ _ _ _ _ _ _ _ _ _ _ _)
      | (with_reducible exact LeO.refl _)
      | (with_reducible exact LeO.none _)
      | (with_reducible refine LeO.ite ?_ ?_)
      | (with_reducible refine LeO.bind ?_ (fun _ => ?_))
      | exact ih0 _ _ _ _ _ _
      | exact ih1 _ _ _ _ _ _ _ _ _ _
      | exact ih2 _ _ _ _ _ _ _ _ _ _ _ _ _ _
      | exact LeO.none _
      | refine LeO.ite ?_ ?_
      | refine LeO.bind ?_ (fun _ => ?_)

/-! ### the Lean function gauge_det: function 43 -/
def gauge_det.at (m : List (List Int)) (c i j : Int) : Option Int :=
  if 0 ≤ i ∧ i < m.length ∧ 0 ≤ (if j = c then (m.length : Int) else j) ∧ (if j = c then (m.length : Int) else j) < (rd_L1 m i).length then some (rd (rd_L1 m i) (if j = c then (m.length : Int) else j)) else none
def gauge_det.f (l0 : List (List Int)) (a1 : Int) : Option Int :=
  if l0.length = 1 then gauge_det.at l0 a1 0 0
  else if l0.length = 2 then (gauge_det.at l0 a1 0 0).bind fun y0 => (gauge_det.at l0 a1 1 1).bind fun y1 => (gauge_det.at l0 a1 0 1).bind fun y2 => (gauge_det.at l0 a1 1 0).bind fun y3 => some (wrap64 ((wrap64 (y0 * y1)) - (wrap64 (y2 * y3))))
  else (gauge_det.at l0 a1 0 0).bind fun y0 => (gauge_det.at l0 a1 1 1).bind fun y1 => (gauge_det.at l0 a1 2 2).bind fun y2 => (gauge_det.at l0 a1 1 2).bind fun y3 => (gauge_det.at l0 a1 2 1).bind fun y4 => (gauge_det.at l0 a1 0 1).bind fun y5 => (gauge_det.at l0 a1 1 0).bind fun y6 => (gauge_det.at l0 a1 2 2).bind fun y7 => (gauge_det.at l0 a1 1 2).bind fun y8 => (gauge_det.at l0 a1 2 0).bind fun y9 => (gauge_det.at l0 a1 0 2).bind fun y10 => (gauge_det.at l0 a1 1 0).bind fun y11 => (gauge_det.at l0 a1 2 1).bind fun y12 => (gauge_det.at l0 a1 1 1).bind fun y13 => (gauge_det.at l0 a1 2 0).bind fun y14 => some (wrap64 ((wrap64 ((wrap64 (y0 * (wrap64 ((wrap64 (y1 * y2)) - (wrap64 (y3 * y4)))))) - (wrap64 (y5 * (wrap64 ((wrap64 (y6 * y7)) - (wrap64 (y8 * y9)))))))) + (wrap64 (y10 * (wrap64 ((wrap64 (y11 * y12)) - (wrap64 (y13 * y14))))))))

/-! ### the Lean function gauge_abs: function 44 -/
def gauge_abs.f (a0 : Int) : Option (Int) := if a0 < 0 then (some (wrap64 (-a0))) else (some a0)

/-! ### the Lean function gauge_gcd: function 45 -/
def gauge_gcd.l0 : Nat → Int → Int → Option (Int)
  | 0, _, _ => none
  | k + 1, x0, x1 => if x1 = 0 then (some x0) else (gauge_gcd.l0 k x1 (Int.tmod x0 x1))
def gauge_gcd.f (k : Nat) (a0 : Int) (a1 : Int) : Option (Int) := gauge_gcd.l0 k a0 a1
theorem gauge_gcd.mono_l : ∀ k, (∀ y0 y1, LeO (gauge_gcd.l0 k y0 y1) (gauge_gcd.l0 (k + 1) y0 y1))
  | 0 => fun _ _ r h => by simp [gauge_gcd.l0] at h
  | k + 1 => by
    have ih0 := gauge_gcd.mono_l k
    · intro y0 y1
      unfold gauge_gcd.l0
      repeat' first
      | (with_reducible exact ih0 _ _)
      | (with_reducible exact LeO.refl _)
      | (with_reducible exact LeO.none _)
      | (with_reducible refine LeO.ite ?_ ?_)
      | (with_reducible refine LeO.bind ?_ (fun _ => ?_))
      | exact ih0 _ _
      | exact LeO.none _
      | refine LeO.ite ?_ ?_
      | refine LeO.bind ?_ (fun _ => ?_)
theorem gauge_gcd.mono : ∀ a0 a1 k, LeO (gauge_gcd.f k a0 a1) (gauge_gcd.f (k + 1) a0 a1) := by
  intro a0 a1 k
  have ih0 := gauge_gcd.mono_l k
  unfold gauge_gcd.f
  repeat' first
      | (with_reducible exact ih0 _ _)
      | (with_reducible exact LeO.refl _)
      | (with_reducible exact LeO.none _)
      | (with_reducible refine LeO.ite ?_ ?_)
      | (with_reducible refine LeO.bind ?_ (fun _ => ?_))
      | exact ih0 _ _
      | exact LeO.none _
      | refine LeO.ite ?_ ?_
      | refine LeO.bind ?_ (fun _ => ?_)

/-! ### the Lean function gauge_Fit: function 28 -/
mutual
def gauge_Fit.l0 : Nat → List (List Int) → Int → Int → Int → List Int → Int → Option (List Int × Int × Int)
  | 0, _, _, _, _, _, _ => none
  | k + 1, x7, x9, x33, x34, x138000, x138001 => if x34 < x33 then ((gauge_det.f x7 x34).bind fun t139 => (if x138000.length < 17592186044416 then ((some (x138000 ++ [t139] : List Int)).bind fun y140 => (if 0 ≤ x34 then (if x34 < (y140.length : Int) then ((gauge_abs.f (rd y140 x34)).bind fun t144 => ((gauge_gcd.f k x9 t144).bind fun t145 => (gauge_Fit.l0 k x7 t145 x33 (wrap64 (x34 + 1)) y140 x138001))) else (none)) else (none))) else (none))) else (if x138001 < 0 then (gauge_Fit.j1 k (wrap64 (-x9)) x138000 x138001) else (gauge_Fit.j1 k x9 x138000 x138001))
def gauge_Fit.j1 : Nat → Int → List Int → Int → Option (List Int × Int × Int)
  | 0, _, _, _ => none
  | k + 1, x9, x138000, x138001 => if x9 = 0 then (none) else (gauge_Fit.l1 k x9 (x138000.length : Int) 0 x138000 (wrap64 (Int.tdiv x138001 x9)))
def gauge_Fit.l1 : Nat → Int → Int → Int → List Int → Int → Option (List Int × Int × Int)
  | 0, _, _, _, _, _ => none
  | k + 1, x9, x66, x67, x138000, x138001 => if x67 < x66 then (if 0 ≤ x67 then (if x67 < (x138000.length : Int) then (if x9 = 0 then (none) else (gauge_Fit.l1 k x9 x66 (wrap64 (x67 + 1)) (x138000.set (x67 : Int).toNat (wrap64 (Int.tdiv (rd x138000 x67) x9))) x138001)) else (none)) else (none)) else (some (x138000, x138001, 0))
end
def gauge_Fit.f (k : Nat) (l0 : List (List Int)) (l1 : List Int) : Option (List Int × Int × Int) := (gauge_Check.f k l0 l1).bind fun t132 => (if t132 = 0 then ((gauge_normal.f k l0 l1).bind fun t133 => ((gauge_det.f t133 (-1)).bind fun t136 => (if t136 = 0 then (some (([] : List Int), 0, 6)) else ((gauge_abs.f t136).bind fun t138 => (gauge_Fit.l0 k t133 t138 (t133.length : Int) 0 ([] : List Int) t136))))) else (some (([] : List Int), 0, t132)))
theorem gauge_Fit.mono_l : ∀ k, (∀ y0 y1 y2 y3 y4 y5, LeO (gauge_Fit.l0 k y0 y1 y2 y3 y4 y5) (gauge_Fit.l0 (k + 1) y0 y1 y2 y3 y4 y5)) ∧ (∀ y0 y1 y2, LeO (gauge_Fit.j1 k y0 y1 y2) (gauge_Fit.j1 (k + 1) y0 y1 y2)) ∧ (∀ y0 y1 y2 y3 y4, LeO (gauge_Fit.l1 k y0 y1 y2 y3 y4) (gauge_Fit.l1 (k + 1) y0 y1 y2 y3 y4))
  | 0 => ⟨fun _ _ _ _ _ _ r h => by simp [gauge_Fit.l0] at h, fun _ _ _ r h => by simp [gauge_Fit.j1] at h, fun _ _ _ _ _ r h => by simp [gauge_Fit.l1] at h⟩
  | k + 1 => by
    obtain ⟨ih0, ih1, ih2⟩ := gauge_Fit.mono_l k
    refine ⟨?_, ?_, ?_⟩
    · intro y0 y1 y2 y3 y4 y5
      unfold gauge_Fit.l0
      repeat' first
      | (with_reducible exact ih0 _ _ _ _ _ _)
      | (with_reducible exact ih1 _ _ _)
      | (with_reducible exact ih2 _ _ _ _ _)
      | (with_reducible exact gauge_Check.mono _ _ _)
      | (with_reducible exact gauge_gcd.mono _ _ _)
      | (with_reducible exact gauge_normal.mono _ _ _)
      | (with_reducible exact LeO.refl _)
      | (with_reducible exact LeO.none _)
      | (with_reducible refine LeO.ite ?_ ?_)
      | (with_reducible refine LeO.bind ?_ (fun _ => ?_))
      | exact ih0 _ _ _ _ _ _
      | exact ih1 _ _ _
      | exact ih2 _ _ _ _ _
      | exact gauge_Check.mono _ _ _
      | exact gauge_gcd.mono _ _ _
      | exact gauge_normal.mono _ _ _
      | exact LeO.none _
      | refine LeO.ite ?_ ?_
      | refine LeO.bind ?_ (fun _ => ?_)
    · intro y0 y1 y2
      unfold gauge_Fit.j1
      repeat' first
      | (with_reducible exact ih0 _ _ _ _ _ _)
      | (with_reducible exact ih1 _ _ _)
      | (with_reducible exact ih2 _ _ _ _ _)
      | (with_reducible exact gauge_Check.mono _ _ _)
      | (with_reducible exact gauge_gcd.mono _ _ _)
      | (with_reducible exact gauge_normal.mono _ _ _)
      | (with_reducible exact LeO.refl _)
      | (with_reducible exact LeO.none _)
      | (with_reducible refine LeO.ite ?_ ?_)
      | (with_reducible refine LeO.bind ?_ (fun _ => ?_))
      | exact ih0 _ _ _ _ _ _
      | exact ih1 _ _ _
      | exact ih2 _ _ _ _ _
      | exact gauge_Check.mono _ _ _
      | exact gauge_gcd.mono _ _ _
      | exact gauge_normal.mono _ _ _
      | exact LeO.none _
      | refine LeO.ite ?_ ?_
      | refine LeO.bind ?_ (fun _ => ?_)
    · intro y0 y1 y2 y3 y4
      unfold gauge_Fit.l1
      repeat' first
      | (with_reducible exact ih0 _ _ _ _ _ _)
      | (with_reducible exact ih1 _ _ _)
      | (with_reducible exact ih2 _ _ _ _ _)
      | (with_reducible exact gauge_Check.mono _ _ _)
      | (with_reducible exact gauge_gcd.mono _ _ _)
      | (with_reducible exact gauge_normal.mono _ _ _)
      | (with_reducible exact LeO.refl _)
      | (with_reducible exact LeO.none _)
      | (with_reducible refine LeO.ite ?_ ?_)
      | (with_reducible refine LeO.bind ?_ (fun _ => ?_))
      | exact ih0 _ _ _ _ _ _
      | exact ih1 _ _ _
      | exact ih2 _ _ _ _ _
      | exact gauge_Check.mono _ _ _
      | exact gauge_gcd.mono _ _ _
      | exact gauge_normal.mono _ _ _
      | exact LeO.none _
      | refine LeO.ite ?_ ?_
      | refine LeO.bind ?_ (fun _ => ?_)
theorem gauge_Fit.mono : ∀ a0 a1 k, LeO (gauge_Fit.f k a0 a1) (gauge_Fit.f (k + 1) a0 a1) := by
  intro a0 a1 k
  obtain ⟨ih0, ih1, ih2⟩ := gauge_Fit.mono_l k
  unfold gauge_Fit.f
  repeat' first
      | (with_reducible exact ih0 _ _ _ _ _ _)
      | (with_reducible exact ih1 _ _ _)
      | (with_reducible exact ih2 _ _ _ _ _)
      | (with_reducible exact gauge_Check.mono _ _ _)
      | (with_reducible exact gauge_gcd.mono _ _ _)
      | (with_reducible exact gauge_normal.mono _ _ _)
      | (with_reducible exact LeO.refl _)
      | (with_reducible exact LeO.none _)
      | (with_reducible refine LeO.ite ?_ ?_)
      | (with_reducible refine LeO.bind ?_ (fun _ => ?_))
      | exact ih0 _ _ _ _ _ _
      | exact ih1 _ _ _
      | exact ih2 _ _ _ _ _
      | exact gauge_Check.mono _ _ _
      | exact gauge_gcd.mono _ _ _
      | exact gauge_normal.mono _ _ _
      | exact LeO.none _
      | refine LeO.ite ?_ ?_
      | refine LeO.bind ?_ (fun _ => ?_)

/-! ### the Lean function gauge_Residual: function 29 -/
mutual
def gauge_Residual.l0 : Nat → List (List Int) → Int → List Int → Int → Int → List Int → Int → Option (Int × Int × Int)
  | 0, _, _, _, _, _, _, _ => none
  | k + 1, x9, x10, x28, x29, x30, x154000, x154001 => if x30 < x29 then (if 0 ≤ x30 then (if x30 < (x28.length : Int) then (gauge_Residual.l0 k x9 (wrap64 (x10 + (wrap64 ((wrap64 (x154001 * (rd x28 x30))) * (rd x28 x30))))) x28 x29 (wrap64 (x30 + 1)) x154000 x154001) else (none)) else (none)) else (gauge_Residual.l1 k x9 x10 x154000 (x154000.length : Int) 0 x154000 x154001)
def gauge_Residual.l1 : Nat → List (List Int) → Int → List Int → Int → Int → List Int → Int → Option (Int × Int × Int)
  | 0, _, _, _, _, _, _, _ => none
  | k + 1, x9, x10, x44, x45, x46, x154000, x154001 => if x46 < x45 then (if 0 ≤ x46 then (if x46 < (x44.length : Int) then (if x46 < (x9.length : Int) then (if 0 ≤ (x9.length : Int) then (if (x9.length : Int) < ((rd_L1 x9 x46).length : Int) then (gauge_Residual.l1 k x9 (wrap64 (x10 - (wrap64 ((rd x44 x46) * (rd (rd_L1 x9 x46) (x9.length : Int)))))) x44 x45 (wrap64 (x46 + 1)) x154000 x154001) else (none)) else (none)) else (none)) else (none)) else (none)) else ((gauge_abs.f x10).bind fun t161 => ((gauge_gcd.f k x154001 t161).bind fun t162 => (if t162 = 0 then (none) else (some (wrap64 (Int.tdiv x10 t162), wrap64 (Int.tdiv x154001 t162), 0)))))
end
def gauge_Residual.f (k : Nat) (l0 : List (List Int)) (l1 : List Int) : Option (Int × Int × Int) := (gauge_Fit.f k l0 l1).bind fun bt148 => (if bt148.2.2 = 0 then ((gauge_normal.f k l0 l1).bind fun t154 => (gauge_Residual.l0 k t154 0 l1 (l1.length : Int) 0 bt148.1 bt148.2.1)) else (some (0, 0, bt148.2.2)))
theorem gauge_Residual.mono_l : ∀ k, (∀ y0 y1 y2 y3 y4 y5 y6, LeO (gauge_Residual.l0 k y0 y1 y2 y3 y4 y5 y6) (gauge_Residual.l0 (k + 1) y0 y1 y2 y3 y4 y5 y6)) ∧ (∀ y0 y1 y2 y3 y4 y5 y6, LeO (gauge_Residual.l1 k y0 y1 y2 y3 y4 y5 y6) (gauge_Residual.l1 (k + 1) y0 y1 y2 y3 y4 y5 y6))
  | 0 => ⟨fun _ _ _ _ _ _ _ r h => by simp [gauge_Residual.l0] at h, fun _ _ _ _ _ _ _ r h => by simp [gauge_Residual.l1] at h⟩
  | k + 1 => by
    obtain ⟨ih0, ih1⟩ := gauge_Residual.mono_l k
    refine ⟨?_, ?_⟩
    · intro y0 y1 y2 y3 y4 y5 y6
      unfold gauge_Residual.l0
      repeat' first
      | (with_reducible exact ih0 _ _ _ _ _ _ _)
      | (with_reducible exact ih1 _ _ _ _ _ _ _)
      | (with_reducible exact gauge_Fit.mono _ _ _)
      | (with_reducible exact gauge_gcd.mono _ _ _)
      | (with_reducible exact gauge_normal.mono _ _ _)
      | (with_reducible exact LeO.refl _)
      | (with_reducible exact LeO.none _)
      | (with_reducible refine LeO.ite ?_ ?_)
      | (with_reducible refine LeO.bind ?_ (fun _ => ?_))
      | exact ih0 _ _ _ _ _ _ _
      | exact ih1 _ _ _ _ _ _ _
      | exact gauge_Fit.mono _ _ _
      | exact gauge_gcd.mono _ _ _
      | exact gauge_normal.mono _ _ _
      | exact LeO.none _
      | refine LeO.ite ?_ ?_
      | refine LeO.bind ?_ (fun _ => ?_)
    · intro y0 y1 y2 y3 y4 y5 y6
      unfold gauge_Residual.l1
      repeat' first
      | (with_reducible exact ih0 _ _ _ _ _ _ _)
      | (with_reducible exact ih1 _ _ _ _ _ _ _)
      | (with_reducible exact gauge_Fit.mono _ _ _)
      | (with_reducible exact gauge_gcd.mono _ _ _)
      | (with_reducible exact gauge_normal.mono _ _ _)
      | (with_reducible exact LeO.refl _)
      | (with_reducible exact LeO.none _)
      | (with_reducible refine LeO.ite ?_ ?_)
      | (with_reducible refine LeO.bind ?_ (fun _ => ?_))
      | exact ih0 _ _ _ _ _ _ _
      | exact ih1 _ _ _ _ _ _ _
      | exact gauge_Fit.mono _ _ _
      | exact gauge_gcd.mono _ _ _
      | exact gauge_normal.mono _ _ _
      | exact LeO.none _
      | refine LeO.ite ?_ ?_
      | refine LeO.bind ?_ (fun _ => ?_)
theorem gauge_Residual.mono : ∀ a0 a1 k, LeO (gauge_Residual.f k a0 a1) (gauge_Residual.f (k + 1) a0 a1) := by
  intro a0 a1 k
  obtain ⟨ih0, ih1⟩ := gauge_Residual.mono_l k
  unfold gauge_Residual.f
  repeat' first
      | (with_reducible exact ih0 _ _ _ _ _ _ _)
      | (with_reducible exact ih1 _ _ _ _ _ _ _)
      | (with_reducible exact gauge_Fit.mono _ _ _)
      | (with_reducible exact gauge_gcd.mono _ _ _)
      | (with_reducible exact gauge_normal.mono _ _ _)
      | (with_reducible exact LeO.refl _)
      | (with_reducible exact LeO.none _)
      | (with_reducible refine LeO.ite ?_ ?_)
      | (with_reducible refine LeO.bind ?_ (fun _ => ?_))
      | exact ih0 _ _ _ _ _ _ _
      | exact ih1 _ _ _ _ _ _ _
      | exact gauge_Fit.mono _ _ _
      | exact gauge_gcd.mono _ _ _
      | exact gauge_normal.mono _ _ _
      | exact LeO.none _
      | refine LeO.ite ?_ ?_
      | refine LeO.bind ?_ (fun _ => ?_)

/-! ### the Lean function ephemeriskeep2_gaugeWorks: function 26 -/
def ephemeriskeep2_gaugeWorks.f (k : Nat)  : Option (Bool) := (gauge_Fit.f k (([(([1] : List Int)), (([1] : List Int)), (([1] : List Int))] : List (List Int))) (([1, 2, 6] : List Int))).bind fun bt178 => ((gauge_Residual.f k (([(([1] : List Int)), (([1] : List Int)), (([1] : List Int))] : List (List Int))) (([1, 2, 6] : List Int))).bind fun bt199 => (if bt178.2.2 = 0 then (if (bt178.1.length : Int) = 1 then (if 0 < (bt178.1.length : Int) then (if (rd bt178.1 0) = 3 then (if bt178.2.1 = 1 then (if bt199.2.2 = 0 then (if bt199.1 = 14 then (some (bt199.2.1 == 1)) else (none)) else (none)) else (none)) else (none)) else (none)) else (none)) else (none)))
theorem ephemeriskeep2_gaugeWorks.mono : ∀ k, LeO (ephemeriskeep2_gaugeWorks.f k ) (ephemeriskeep2_gaugeWorks.f (k + 1) ) := by
  intro  k
  unfold ephemeriskeep2_gaugeWorks.f
  repeat' first
      | (with_reducible exact gauge_Fit.mono _ _ _)
      | (with_reducible exact gauge_Residual.mono _ _ _)
      | (with_reducible exact LeO.refl _)
      | (with_reducible exact LeO.none _)
      | (with_reducible refine LeO.ite ?_ ?_)
      | (with_reducible refine LeO.bind ?_ (fun _ => ?_))
      | exact gauge_Fit.mono _ _ _
      | exact gauge_Residual.mono _ _ _
      | exact LeO.none _
      | refine LeO.ite ?_ ?_
      | refine LeO.bind ?_ (fun _ => ?_)

/-! ### the Lean function ephemeriskeep2_readings: function 27 -/
mutual
def ephemeriskeep2_readings.l0 : Nat → Int → List (List Int) → List (List Int) → Int → Int → Option ((List (List Int)))
  | 0, _, _, _, _, _ => none
  | k + 1, x1, x5, x10, x11, x12 => if x12 < x11 then (if 0 ≤ x12 then (if x12 < (x10.length : Int) then (if x12 = 6 then (some x5) else (if 0 ≤ x1 then (if (x1 : Int).toNat ≤ 35184372088832 then ((some (List.replicate (x1 : Int).toNat 0 : List Int)).bind fun y204 => (ephemeriskeep2_readings.l1 k x1 x5 (rd_L1 x10 x12) y204 x10 x11 x12 (y204.length : Int) 0)) else (none)) else (none))) else (none)) else (none)) else (some x5)
def ephemeriskeep2_readings.l1 : Nat → Int → List (List Int) → List Int → List Int → List (List Int) → Int → Int → Int → Int → Option ((List (List Int)))
  | 0, _, _, _, _, _, _, _, _, _ => none
  | k + 1, x1, x5, x7, x8, x10, x11, x12, x22, x23 => if x23 < x22 then (if x23 < (x7.length : Int) then (if 0 ≤ x23 then (if x23 < (x8.length : Int) then (ephemeriskeep2_readings.l1 k x1 x5 x7 (x8.set (x23 : Int).toNat (Int.tmod (rd x7 x23) 11)) x10 x11 x12 x22 (wrap64 (x23 + 1))) else (none)) else (none)) else (ephemeriskeep2_readings.l1 k x1 x5 x7 x8 x10 x11 x12 x22 (wrap64 (x23 + 1)))) else (if x5.length < 5864062014805 then (ephemeriskeep2_readings.l0 k x1 (x5 ++ [x8]) x10 x11 (wrap64 (x12 + 1))) else (none))
end
def ephemeriskeep2_readings.f (k : Nat) (l0 : List (List Int)) (a1 : Int) : Option ((List (List Int))) := ephemeriskeep2_readings.l0 k a1 ([] : List (List Int)) l0 (l0.length : Int) 0
theorem ephemeriskeep2_readings.mono_l : ∀ k, (∀ y0 y1 y2 y3 y4, LeO (ephemeriskeep2_readings.l0 k y0 y1 y2 y3 y4) (ephemeriskeep2_readings.l0 (k + 1) y0 y1 y2 y3 y4)) ∧ (∀ y0 y1 y2 y3 y4 y5 y6 y7 y8, LeO (ephemeriskeep2_readings.l1 k y0 y1 y2 y3 y4 y5 y6 y7 y8) (ephemeriskeep2_readings.l1 (k + 1) y0 y1 y2 y3 y4 y5 y6 y7 y8))
  | 0 => ⟨fun _ _ _ _ _ r h => by simp [ephemeriskeep2_readings.l0] at h, fun _ _ _ _ _ _ _ _ _ r h => by simp [ephemeriskeep2_readings.l1] at h⟩
  | k + 1 => by
    obtain ⟨ih0, ih1⟩ := ephemeriskeep2_readings.mono_l k
    refine ⟨?_, ?_⟩
    · intro y0 y1 y2 y3 y4
      unfold ephemeriskeep2_readings.l0
      repeat' first
      | (with_reducible exact ih0 _ _ _ _ _)
      | (with_reducible exact ih1 _ _ _ _ _ _ _ _ _)
      | (with_reducible exact LeO.refl _)
      | (with_reducible exact LeO.none _)
      | (with_reducible refine LeO.ite ?_ ?_)
      | (with_reducible refine LeO.bind ?_ (fun _ => ?_))
      | exact ih0 _ _ _ _ _
      | exact ih1 _ _ _ _ _ _ _ _ _
      | exact LeO.none _
      | refine LeO.ite ?_ ?_
      | refine LeO.bind ?_ (fun _ => ?_)
    · intro y0 y1 y2 y3 y4 y5 y6 y7 y8
      unfold ephemeriskeep2_readings.l1
      repeat' first
      | (with_reducible exact ih0 _ _ _ _ _)
      | (with_reducible exact ih1 _ _ _ _ _ _ _ _ _)
      | (with_reducible exact LeO.refl _)
      | (with_reducible exact LeO.none _)
      | (with_reducible refine LeO.ite ?_ ?_)
      | (with_reducible refine LeO.bind ?_ (fun _ => ?_))
      | exact ih0 _ _ _ _ _
      | exact ih1 _ _ _ _ _ _ _ _ _
      | exact LeO.none _
      | refine LeO.ite ?_ ?_
      | refine LeO.bind ?_ (fun _ => ?_)
theorem ephemeriskeep2_readings.mono : ∀ a0 a1 k, LeO (ephemeriskeep2_readings.f k a0 a1) (ephemeriskeep2_readings.f (k + 1) a0 a1) := by
  intro a0 a1 k
  obtain ⟨ih0, ih1⟩ := ephemeriskeep2_readings.mono_l k
  unfold ephemeriskeep2_readings.f
  repeat' first
      | (with_reducible exact ih0 _ _ _ _ _)
      | (with_reducible exact ih1 _ _ _ _ _ _ _ _ _)
      | (with_reducible exact LeO.refl _)
      | (with_reducible exact LeO.none _)
      | (with_reducible refine LeO.ite ?_ ?_)
      | (with_reducible refine LeO.bind ?_ (fun _ => ?_))
      | exact ih0 _ _ _ _ _
      | exact ih1 _ _ _ _ _ _ _ _ _
      | exact LeO.none _
      | refine LeO.ite ?_ ?_
      | refine LeO.bind ?_ (fun _ => ?_)

/-! ### the Lean function ephemeriskeep2_GaugeExact: function 8 -/
def ephemeriskeep2_GaugeExact.l0 : Nat → List (List Int) → List Int → List (List Int) → Int → Int → Int → Int → Option (Bool)
  | 0, _, _, _, _, _, _, _ => none
  | k + 1, x0, x5, x17, x18, x19, x213000, x213001 => if x19 < x18 then (if 0 ≤ x19 then (if x19 < (x17.length : Int) then (if 0 < ((rd_L1 x17 x19).length : Int) then (if 1 < ((rd_L1 x17 x19).length : Int) then (if x5.length < 17592186044416 then (ephemeriskeep2_GaugeExact.l0 k x0 (x5 ++ [wrap64 ((wrap64 ((rd (rd_L1 x17 x19) 0) * (Int.tmod x213000 50))) + (wrap64 ((rd (rd_L1 x17 x19) 1) * (Int.tmod x213001 50))))]) x17 x18 (wrap64 (x19 + 1)) x213000 x213001) else (none)) else (none)) else (none)) else (none)) else (none)) else ((gauge_Fit.f k x0 x5).bind fun bt223 => ((gauge_Residual.f k x0 x5).bind fun bt229 => (if bt223.2.2 = 0 then (if bt229.2.2 = 0 then (if bt229.1 = 0 then (if bt229.2.1 = 1 then (if bt223.2.1 = 1 then (if (bt223.1.length : Int) = 2 then (if 0 < (bt223.1.length : Int) then (if (rd bt223.1 0) = (Int.tmod x213000 50) then (if 1 < (bt223.1.length : Int) then (some ((rd bt223.1 1) == (Int.tmod x213001 50))) else (none)) else (none)) else (none)) else (none)) else (none)) else (none)) else (none)) else (none)) else (if bt229.2.2 = bt223.2.2 then (if bt223.2.2 = 6 then (some true) else (if bt223.2.2 = 8 then (some ((x0.length : Int) == 0)) else (none))) else (none)))))
def ephemeriskeep2_GaugeExact.f (k : Nat) (l0 : List (List Int)) (a1_0 : Int) (a1_1 : Int) : Option (Bool) := (ephemeriskeep2_gaugeWorks.f k).bind fun t213 => (if t213 = true then ((ephemeriskeep2_readings.f k l0 2).bind fun t214 => (ephemeriskeep2_GaugeExact.l0 k t214 ([] : List Int) t214 (t214.length : Int) 0 a1_0 a1_1)) else (none))
theorem ephemeriskeep2_GaugeExact.mono_l : ∀ k, (∀ y0 y1 y2 y3 y4 y5 y6, LeO (ephemeriskeep2_GaugeExact.l0 k y0 y1 y2 y3 y4 y5 y6) (ephemeriskeep2_GaugeExact.l0 (k + 1) y0 y1 y2 y3 y4 y5 y6))
  | 0 => fun _ _ _ _ _ _ _ r h => by simp [ephemeriskeep2_GaugeExact.l0] at h
  | k + 1 => by
    have ih0 := ephemeriskeep2_GaugeExact.mono_l k
    · intro y0 y1 y2 y3 y4 y5 y6
      unfold ephemeriskeep2_GaugeExact.l0
      repeat' first
      | (with_reducible exact ih0 _ _ _ _ _ _ _)
      | (with_reducible exact ephemeriskeep2_gaugeWorks.mono _)
      | (with_reducible exact ephemeriskeep2_readings.mono _ _ _)
      | (with_reducible exact gauge_Fit.mono _ _ _)
      | (with_reducible exact gauge_Residual.mono _ _ _)
      | (with_reducible exact LeO.refl _)
      | (with_reducible exact LeO.none _)
      | (with_reducible refine LeO.ite ?_ ?_)
      | (with_reducible refine LeO.bind ?_ (fun _ => ?_))
      | exact ih0 _ _ _ _ _ _ _
      | exact ephemeriskeep2_gaugeWorks.mono _
      | exact ephemeriskeep2_readings.mono _ _ _
      | exact gauge_Fit.mono _ _ _
      | exact gauge_Residual.mono _ _ _
      | exact LeO.none _
      | refine LeO.ite ?_ ?_
      | refine LeO.bind ?_ (fun _ => ?_)
theorem ephemeriskeep2_GaugeExact.mono : ∀ a0 a1 a2 k, LeO (ephemeriskeep2_GaugeExact.f k a0 a1 a2) (ephemeriskeep2_GaugeExact.f (k + 1) a0 a1 a2) := by
  intro a0 a1 a2 k
  have ih0 := ephemeriskeep2_GaugeExact.mono_l k
  unfold ephemeriskeep2_GaugeExact.f
  repeat' first
      | (with_reducible exact ih0 _ _ _ _ _ _ _)
      | (with_reducible exact ephemeriskeep2_gaugeWorks.mono _)
      | (with_reducible exact ephemeriskeep2_readings.mono _ _ _)
      | (with_reducible exact gauge_Fit.mono _ _ _)
      | (with_reducible exact gauge_Residual.mono _ _ _)
      | (with_reducible exact LeO.refl _)
      | (with_reducible exact LeO.none _)
      | (with_reducible refine LeO.ite ?_ ?_)
      | (with_reducible refine LeO.bind ?_ (fun _ => ?_))
      | exact ih0 _ _ _ _ _ _ _
      | exact ephemeriskeep2_gaugeWorks.mono _
      | exact ephemeriskeep2_readings.mono _ _ _
      | exact gauge_Fit.mono _ _ _
      | exact gauge_Residual.mono _ _ _
      | exact LeO.none _
      | refine LeO.ite ?_ ?_
      | refine LeO.bind ?_ (fun _ => ?_)

/-! ### the Lean function ephemeriskeep2_GaugeLeast: function 9 -/
def ephemeriskeep2_GaugeLeast.l0 : Nat → List (List Int) → List Int → List Int → Int → List (List Int) → Int → Int → Int → Int → Option (Bool)
  | 0, _, _, _, _, _, _, _, _, _ => none
  | k + 1, x0, x1, x7, x8, x22, x23, x24, x235000, x235001 => if x24 < x23 then (if 0 ≤ x24 then (if x24 < (x22.length : Int) then (if x24 < (x1.length : Int) then (if x24 < (x7.length : Int) then ((some (x7.set (x24 : Int).toNat (Int.tmod (rd x1 x24) 1001) : List Int)).bind fun y244 => (if 0 < ((rd_L1 x22 x24).length : Int) then (if 1 < ((rd_L1 x22 x24).length : Int) then (ephemeriskeep2_GaugeLeast.l0 k x0 x1 y244 (wrap64 (x8 + (wrap64 ((wrap64 ((wrap64 ((rd y244 x24) - (wrap64 ((rd (rd_L1 x22 x24) 0) * (Int.tmod x235000 100))))) - (wrap64 ((rd (rd_L1 x22 x24) 1) * (Int.tmod x235001 100))))) * (wrap64 ((wrap64 ((rd y244 x24) - (wrap64 ((rd (rd_L1 x22 x24) 0) * (Int.tmod x235000 100))))) - (wrap64 ((rd (rd_L1 x22 x24) 1) * (Int.tmod x235001 100))))))))) x22 x23 (wrap64 (x24 + 1)) x235000 x235001) else (none)) else (none))) else (none)) else (if x24 < (x7.length : Int) then (if 0 < ((rd_L1 x22 x24).length : Int) then (if 1 < ((rd_L1 x22 x24).length : Int) then (ephemeriskeep2_GaugeLeast.l0 k x0 x1 x7 (wrap64 (x8 + (wrap64 ((wrap64 ((wrap64 ((rd x7 x24) - (wrap64 ((rd (rd_L1 x22 x24) 0) * (Int.tmod x235000 100))))) - (wrap64 ((rd (rd_L1 x22 x24) 1) * (Int.tmod x235001 100))))) * (wrap64 ((wrap64 ((rd x7 x24) - (wrap64 ((rd (rd_L1 x22 x24) 0) * (Int.tmod x235000 100))))) - (wrap64 ((rd (rd_L1 x22 x24) 1) * (Int.tmod x235001 100))))))))) x22 x23 (wrap64 (x24 + 1)) x235000 x235001) else (none)) else (none)) else (none))) else (none)) else (none)) else ((gauge_Residual.f k x0 x7).bind fun bt251 => (if bt251.2.2 = 0 then (if bt251.1 ≥ 0 then (if bt251.2.1 > 0 then (if bt251.2.1 = 0 then (none) else (if (wrap64 (Int.tdiv bt251.1 bt251.2.1)) ≤ x8 then (if (Int.tmod bt251.1 bt251.2.1) = 0 then (some true) else (some (decide ((wrap64 (Int.tdiv bt251.1 bt251.2.1)) < x8)))) else (none))) else (none)) else (none)) else (if bt251.1 = 0 then (some (bt251.2.1 == 0)) else (none))))
def ephemeriskeep2_GaugeLeast.f (k : Nat) (l0 : List (List Int)) (l1 : List Int) (a2_0 : Int) (a2_1 : Int) : Option (Bool) := (ephemeriskeep2_gaugeWorks.f k).bind fun t235 => (if t235 = true then ((ephemeriskeep2_readings.f k l0 2).bind fun t236 => (if 0 ≤ (t236.length : Int) then (if ((t236.length : Int) : Int).toNat ≤ 35184372088832 then (ephemeriskeep2_GaugeLeast.l0 k t236 l1 (List.replicate ((t236.length : Int) : Int).toNat 0) 0 t236 (t236.length : Int) 0 a2_0 a2_1) else (none)) else (none))) else (none))
theorem ephemeriskeep2_GaugeLeast.mono_l : ∀ k, (∀ y0 y1 y2 y3 y4 y5 y6 y7 y8, LeO (ephemeriskeep2_GaugeLeast.l0 k y0 y1 y2 y3 y4 y5 y6 y7 y8) (ephemeriskeep2_GaugeLeast.l0 (k + 1) y0 y1 y2 y3 y4 y5 y6 y7 y8))
  | 0 => fun _ _ _ _ _ _ _ _ _ r h => by simp [ephemeriskeep2_GaugeLeast.l0] at h
  | k + 1 => by
    have ih0 := ephemeriskeep2_GaugeLeast.mono_l k
    · intro y0 y1 y2 y3 y4 y5 y6 y7 y8
      unfold ephemeriskeep2_GaugeLeast.l0
      repeat' first
      | (with_reducible exact ih0 _ _ _ _ _ _ _ _ _)
      | (with_reducible exact ephemeriskeep2_gaugeWorks.mono _)
      | (with_reducible exact ephemeriskeep2_readings.mono _ _ _)
      | (with_reducible exact gauge_Residual.mono _ _ _)
      | (with_reducible exact LeO.refl _)
      | (with_reducible exact LeO.none _)
      | (with_reducible refine LeO.ite ?_ ?_)
      | (with_reducible refine LeO.bind ?_ (fun _ => ?_))
      | exact ih0 _ _ _ _ _ _ _ _ _
      | exact ephemeriskeep2_gaugeWorks.mono _
      | exact ephemeriskeep2_readings.mono _ _ _
      | exact gauge_Residual.mono _ _ _
      | exact LeO.none _
      | refine LeO.ite ?_ ?_
      | refine LeO.bind ?_ (fun _ => ?_)
theorem ephemeriskeep2_GaugeLeast.mono : ∀ a0 a1 a2 a3 k, LeO (ephemeriskeep2_GaugeLeast.f k a0 a1 a2 a3) (ephemeriskeep2_GaugeLeast.f (k + 1) a0 a1 a2 a3) := by
  intro a0 a1 a2 a3 k
  have ih0 := ephemeriskeep2_GaugeLeast.mono_l k
  unfold ephemeriskeep2_GaugeLeast.f
  repeat' first
      | (with_reducible exact ih0 _ _ _ _ _ _ _ _ _)
      | (with_reducible exact ephemeriskeep2_gaugeWorks.mono _)
      | (with_reducible exact ephemeriskeep2_readings.mono _ _ _)
      | (with_reducible exact gauge_Residual.mono _ _ _)
      | (with_reducible exact LeO.refl _)
      | (with_reducible exact LeO.none _)
      | (with_reducible refine LeO.ite ?_ ?_)
      | (with_reducible refine LeO.bind ?_ (fun _ => ?_))
      | exact ih0 _ _ _ _ _ _ _ _ _
      | exact ephemeriskeep2_gaugeWorks.mono _
      | exact ephemeriskeep2_readings.mono _ _ _
      | exact gauge_Residual.mono _ _ _
      | exact LeO.none _
      | refine LeO.ite ?_ ?_
      | refine LeO.bind ?_ (fun _ => ?_)

/-! ### the Lean function ephemeriskeep2_at: function 12 -/
def ephemeriskeep2_at.f (a0 : Int) (a1 : Int) : Option (Int) := if a1 = 0 then (none) else (some (Int.tmod (wrap64 ((Int.tmod a0 a1) + a1)) a1))

/-! ### the Lean function ephemeriskeep2_GaugeOrder: function 10 -/
mutual
def ephemeriskeep2_GaugeOrder.l0 : Nat → List (List Int) → List Int → Int → List Int → Int → Int → Option (Bool)
  | 0, _, _, _, _, _, _ => none
  | k + 1, x0, x1, x2, x7, x22, x23 => if x23 < x22 then (if x23 < (x1.length : Int) then (if 0 ≤ x23 then (if x23 < (x7.length : Int) then (ephemeriskeep2_GaugeOrder.l0 k x0 x1 x2 (x7.set (x23 : Int).toNat (Int.tmod (rd x1 x23) 1001)) x22 (wrap64 (x23 + 1))) else (none)) else (none)) else (ephemeriskeep2_GaugeOrder.l0 k x0 x1 x2 x7 x22 (wrap64 (x23 + 1)))) else ((gauge_Fit.f k x0 x7).bind fun bt263 => (if (x0.length : Int) > 0 then ((ephemeriskeep2_at.f x2 (x0.length : Int)).bind fun t269 => ((some (([] : List (List Int)) : List (List Int))).bind fun y270 => (if 0 ≤ t269 then (if t269 ≤ (x0.length : Int) then ((some (x0.drop (t269 : Int).toNat : List (List Int))).bind fun y273 => (if y270.length + y273.length < 5864062014805 then ((some (y270 ++ y273 : List (List Int))).bind fun y278 => ((some (x0.take (t269 : Int).toNat : List (List Int))).bind fun y281 => (if y278.length + y281.length < 5864062014805 then ((some (([] : List Int) : List Int)).bind fun y289 => (if t269 ≤ (x7.length : Int) then ((some (x7.drop (t269 : Int).toNat : List Int)).bind fun y292 => (if y289.length + y292.length < 17592186044416 then ((some (y289 ++ y292 : List Int)).bind fun y297 => ((some (x7.take (t269 : Int).toNat : List Int)).bind fun y300 => (if y297.length + y300.length < 17592186044416 then (ephemeriskeep2_GaugeOrder.j1 k (y278 ++ y281) (y297 ++ y300) bt263.2.2 bt263.1 bt263.2.1) else (none)))) else (none))) else (none))) else (none)))) else (none))) else (none)) else (none)))) else (ephemeriskeep2_GaugeOrder.j1 k x0 x7 bt263.2.2 bt263.1 bt263.2.1)))
def ephemeriskeep2_GaugeOrder.j1 : Nat → List (List Int) → List Int → Int → List Int → Int → Option (Bool)
  | 0, _, _, _, _, _ => none
  | k + 1, x0, x7, x10, x269000, x269001 => (gauge_Fit.f k x0 x7).bind fun bt308 => (if x10 = bt308.2.2 then (if x269001 = bt308.2.1 then (ephemeriskeep2_GaugeOrder.j2 k ((x269000.length : Int) != (bt308.1.length : Int)) x269000 x269001 bt308.1 bt308.2.1) else (ephemeriskeep2_GaugeOrder.j2 k true x269000 x269001 bt308.1 bt308.2.1)) else (ephemeriskeep2_GaugeOrder.j2 k true x269000 x269001 bt308.1 bt308.2.1))
def ephemeriskeep2_GaugeOrder.j2 : Nat → Bool → List Int → Int → List Int → Int → Option (Bool)
  | 0, _, _, _, _, _ => none
  | k + 1, x94, x269000, x269001, x314000, x314001 => if x94 = true then (none) else (ephemeriskeep2_GaugeOrder.l1 k (x269000.length : Int) 0 x269000 x269001 x314000 x314001)
def ephemeriskeep2_GaugeOrder.l1 : Nat → Int → Int → List Int → Int → List Int → Int → Option (Bool)
  | 0, _, _, _, _, _, _ => none
  | k + 1, x97, x98, x269000, x269001, x314000, x314001 => if x98 < x97 then (if 0 ≤ x98 then (if x98 < (x269000.length : Int) then (if x98 < (x314000.length : Int) then (if (rd x269000 x98) = (rd x314000 x98) then (ephemeriskeep2_GaugeOrder.l1 k x97 (wrap64 (x98 + 1)) x269000 x269001 x314000 x314001) else (none)) else (none)) else (none)) else (none)) else (some true)
end
def ephemeriskeep2_GaugeOrder.f (k : Nat) (l0 : List (List Int)) (l1 : List Int) (a2 : Int) : Option (Bool) := (ephemeriskeep2_gaugeWorks.f k).bind fun t254 => (if t254 = true then ((ephemeriskeep2_readings.f k l0 3).bind fun t255 => (if 0 ≤ (t255.length : Int) then (if ((t255.length : Int) : Int).toNat ≤ 35184372088832 then ((some (List.replicate ((t255.length : Int) : Int).toNat 0 : List Int)).bind fun y258 => (ephemeriskeep2_GaugeOrder.l0 k t255 l1 a2 y258 (y258.length : Int) 0)) else (none)) else (none))) else (none))
theorem ephemeriskeep2_GaugeOrder.mono_l : ∀ k, (∀ y0 y1 y2 y3 y4 y5, LeO (ephemeriskeep2_GaugeOrder.l0 k y0 y1 y2 y3 y4 y5) (ephemeriskeep2_GaugeOrder.l0 (k + 1) y0 y1 y2 y3 y4 y5)) ∧ (∀ y0 y1 y2 y3 y4, LeO (ephemeriskeep2_GaugeOrder.j1 k y0 y1 y2 y3 y4) (ephemeriskeep2_GaugeOrder.j1 (k + 1) y0 y1 y2 y3 y4)) ∧ (∀ y0 y1 y2 y3 y4, LeO (ephemeriskeep2_GaugeOrder.j2 k y0 y1 y2 y3 y4) (ephemeriskeep2_GaugeOrder.j2 (k + 1) y0 y1 y2 y3 y4)) ∧ (∀ y0 y1 y2 y3 y4 y5, LeO (ephemeriskeep2_GaugeOrder.l1 k y0 y1 y2 y3 y4 y5) (ephemeriskeep2_GaugeOrder.l1 (k + 1) y0 y1 y2 y3 y4 y5))
  | 0 => ⟨fun _ _ _ _ _ _ r h => by simp [ephemeriskeep2_GaugeOrder.l0] at h, fun _ _ _ _ _ r h => by simp [ephemeriskeep2_GaugeOrder.j1] at h, fun _ _ _ _ _ r h => by simp [ephemeriskeep2_GaugeOrder.j2] at h, fun _ _ _ _ _ _ r h => by simp [ephemeriskeep2_GaugeOrder.l1] at h⟩
  | k + 1 => by
    obtain ⟨ih0, ih1, ih2, ih3⟩ := ephemeriskeep2_GaugeOrder.mono_l k
    refine ⟨?_, ?_, ?_, ?_⟩
    · intro y0 y1 y2 y3 y4 y5
      unfold ephemeriskeep2_GaugeOrder.l0
      repeat' first
      | (with_reducible exact ih0 _ _ _ _ _ _)
      | (with_reducible exact ih1 _ _ _ _ _)
      | (with_reducible exact ih2 _ _ _ _ _)
      | (with_reducible exact ih3 _ _ _ _ _ _)
      | (with_reducible exact ephemeriskeep2_gaugeWorks.mono _)
      | (with_reducible exact ephemeriskeep2_readings.mono _ _ _)
      | (with_reducible exact gauge_Fit.mono _ _ _)
      | (with_reducible exact LeO.refl _)
      | (with_reducible exact LeO.none _)
      | (with_reducible refine LeO.ite ?_ ?_)
      | (with_reducible refine LeO.bind ?_ (fun _ => ?_))
      | exact ih0 _ _ _ _ _ _
      | exact ih1 _ _ _ _ _
      | exact ih2 _ _ _ _ _
      | exact ih3 _ _ _ _ _ _
      | exact ephemeriskeep2_gaugeWorks.mono _
      | exact ephemeriskeep2_readings.mono _ _ _
      | exact gauge_Fit.mono _ _ _
      | exact LeO.none _
      | refine LeO.ite ?_ ?_
      | refine LeO.bind ?_ (fun _ => ?_)
    · intro y0 y1 y2 y3 y4
      unfold ephemeriskeep2_GaugeOrder.j1
      repeat' first
      | (with_reducible exact ih0 _ _ _ _ _ _)
      | (with_reducible exact ih1 _ _ _ _ _)
      | (with_reducible exact ih2 _ _ _ _ _)
      | (with_reducible exact ih3 _ _ _ _ _ _)
      | (with_reducible exact ephemeriskeep2_gaugeWorks.mono _)
      | (with_reducible exact ephemeriskeep2_readings.mono _ _ _)
      | (with_reducible exact gauge_Fit.mono _ _ _)
      | (with_reducible exact LeO.refl _)
      | (with_reducible exact LeO.none _)
      | (with_reducible refine LeO.ite ?_ ?_)
      | (with_reducible refine LeO.bind ?_ (fun _ => ?_))
      | exact ih0 _ _ _ _ _ _
      | exact ih1 _ _ _ _ _
      | exact ih2 _ _ _ _ _
      | exact ih3 _ _ _ _ _ _
      | exact ephemeriskeep2_gaugeWorks.mono _
      | exact ephemeriskeep2_readings.mono _ _ _
      | exact gauge_Fit.mono _ _ _
      | exact LeO.none _
      | refine LeO.ite ?_ ?_
      | refine LeO.bind ?_ (fun _ => ?_)
    · intro y0 y1 y2 y3 y4
      unfold ephemeriskeep2_GaugeOrder.j2
      repeat' first
      | (with_reducible exact ih0 _ _ _ _ _ _)
      | (with_reducible exact ih1 _ _ _ _ _)
      | (with_reducible exact ih2 _ _ _ _ _)
      | (with_reducible exact ih3 _ _ _ _ _ _)
      | (with_reducible exact ephemeriskeep2_gaugeWorks.mono _)
      | (with_reducible exact ephemeriskeep2_readings.mono _ _ _)
      | (with_reducible exact gauge_Fit.mono _ _ _)
      | (with_reducible exact LeO.refl _)
      | (with_reducible exact LeO.none _)
      | (with_reducible refine LeO.ite ?_ ?_)
      | (with_reducible refine LeO.bind ?_ (fun _ => ?_))
      | exact ih0 _ _ _ _ _ _
      | exact ih1 _ _ _ _ _
      | exact ih2 _ _ _ _ _
      | exact ih3 _ _ _ _ _ _
      | exact ephemeriskeep2_gaugeWorks.mono _
      | exact ephemeriskeep2_readings.mono _ _ _
      | exact gauge_Fit.mono _ _ _
      | exact LeO.none _
      | refine LeO.ite ?_ ?_
      | refine LeO.bind ?_ (fun _ => ?_)
    · intro y0 y1 y2 y3 y4 y5
      unfold ephemeriskeep2_GaugeOrder.l1
      repeat' first
      | (with_reducible exact ih0 _ _ _ _ _ _)
      | (with_reducible exact ih1 _ _ _ _ _)
      | (with_reducible exact ih2 _ _ _ _ _)
      | (with_reducible exact ih3 _ _ _ _ _ _)
      | (with_reducible exact ephemeriskeep2_gaugeWorks.mono _)
      | (with_reducible exact ephemeriskeep2_readings.mono _ _ _)
      | (with_reducible exact gauge_Fit.mono _ _ _)
      | (with_reducible exact LeO.refl _)
      | (with_reducible exact LeO.none _)
      | (with_reducible refine LeO.ite ?_ ?_)
      | (with_reducible refine LeO.bind ?_ (fun _ => ?_))
      | exact ih0 _ _ _ _ _ _
      | exact ih1 _ _ _ _ _
      | exact ih2 _ _ _ _ _
      | exact ih3 _ _ _ _ _ _
      | exact ephemeriskeep2_gaugeWorks.mono _
      | exact ephemeriskeep2_readings.mono _ _ _
      | exact gauge_Fit.mono _ _ _
      | exact LeO.none _
      | refine LeO.ite ?_ ?_
      | refine LeO.bind ?_ (fun _ => ?_)
theorem ephemeriskeep2_GaugeOrder.mono : ∀ a0 a1 a2 k, LeO (ephemeriskeep2_GaugeOrder.f k a0 a1 a2) (ephemeriskeep2_GaugeOrder.f (k + 1) a0 a1 a2) := by
  intro a0 a1 a2 k
  obtain ⟨ih0, ih1, ih2, ih3⟩ := ephemeriskeep2_GaugeOrder.mono_l k
  unfold ephemeriskeep2_GaugeOrder.f
  repeat' first
      | (with_reducible exact ih0 _ _ _ _ _ _)
      | (with_reducible exact ih1 _ _ _ _ _)
      | (with_reducible exact ih2 _ _ _ _ _)
      | (with_reducible exact ih3 _ _ _ _ _ _)
      | (with_reducible exact ephemeriskeep2_gaugeWorks.mono _)
      | (with_reducible exact ephemeriskeep2_readings.mono _ _ _)
      | (with_reducible exact gauge_Fit.mono _ _ _)
      | (with_reducible exact LeO.refl _)
      | (with_reducible exact LeO.none _)
      | (with_reducible refine LeO.ite ?_ ?_)
      | (with_reducible refine LeO.bind ?_ (fun _ => ?_))
      | exact ih0 _ _ _ _ _ _
      | exact ih1 _ _ _ _ _
      | exact ih2 _ _ _ _ _
      | exact ih3 _ _ _ _ _ _
      | exact ephemeriskeep2_gaugeWorks.mono _
      | exact ephemeriskeep2_readings.mono _ _ _
      | exact gauge_Fit.mono _ _ _
      | exact LeO.none _
      | refine LeO.ite ?_ ?_
      | refine LeO.bind ?_ (fun _ => ?_)

/-- THE ONE PURE STATEMENT of ephemeriskeep2_GaugeExact. -/
def ephemeriskeep2_GaugeExact.Pure : Prop := ∀ (l0 : List (List Int)) (a1_0 : Int) (a1_1 : Int), l0.length ≤ maxLen → (∀ x ∈ l0, x.length ≤ maxLen ∧ ∀ z ∈ x, (Lit.int .i64 z).wf = true) → (Lit.int .i64 a1_0).wf = true → (Lit.int .i64 a1_1).wf = true → ∃ k, ephemeriskeep2_GaugeExact.f k l0 a1_0 a1_1 = some true

/-- THE ONE PURE STATEMENT of ephemeriskeep2_GaugeLeast. -/
def ephemeriskeep2_GaugeLeast.Pure : Prop := ∀ (l0 : List (List Int)) (l1 : List Int) (a2_0 : Int) (a2_1 : Int), l0.length ≤ maxLen → (∀ x ∈ l0, x.length ≤ maxLen ∧ ∀ z ∈ x, (Lit.int .i64 z).wf = true) → l1.length ≤ maxLen → l1.length * 8 ≤ 140737488351232 → (∀ x ∈ l1, (Lit.int .i64 x).wf = true) → (Lit.int .i64 a2_0).wf = true → (Lit.int .i64 a2_1).wf = true → ∃ k, ephemeriskeep2_GaugeLeast.f k l0 l1 a2_0 a2_1 = some true

/-- THE ONE PURE STATEMENT of ephemeriskeep2_GaugeOrder. -/
def ephemeriskeep2_GaugeOrder.Pure : Prop := ∀ (l0 : List (List Int)) (l1 : List Int) (a2 : Int), l0.length ≤ maxLen → (∀ x ∈ l0, x.length ≤ maxLen ∧ ∀ z ∈ x, (Lit.int .i64 z).wf = true) → l1.length ≤ maxLen → l1.length * 8 ≤ 140737488351232 → (∀ x ∈ l1, (Lit.int .i64 x).wf = true) → (Lit.int .i64 a2).wf = true → ∃ k, ephemeriskeep2_GaugeOrder.f k l0 l1 a2 = some true

end Go.Proofs.Ytglpfgkbecgaaaa.JU
