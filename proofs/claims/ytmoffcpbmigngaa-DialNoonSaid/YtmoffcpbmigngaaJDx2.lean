-- Made by a program of this session (wip/hp.py, over the kit's print) out of the translation. Not trusted: Lean checks it.
import Derived.Test.YtmoffcpbmigngaaJDx0
namespace Go.Proofs.Ytmoffcpbmigngaa.JD
open Go.RowKit Go.Proofs.YtmoffcpbmigngaaW.PrintWords Go.Proofs.YtmoffcpbmigngaaW.PrintLast Go.Proofs.YtmoffcpbmigngaaW.PrintMore
attribute [local go_sem] max2_int min2_int max_two min_two max_three min_three max_four min_four   -- for this text's walks alone
set_option linter.unusedVariables false
set_option linter.unusedSimpArgs false

theorem wrap_in_ {n : Int} (h : -9223372036854775808 ≤ n) (h' : n ≤ 9223372036854775807) : wrap64 n = n := by
  unfold wrap64; omega
/-- within the range of the bounds of intervals -/
def InR (x : Int) : Prop := -1000000000000000000 ≤ x ∧ x ≤ 1000000000000000000
instance (x : Int) : Decidable (InR x) := inferInstanceAs (Decidable (_ ∧ _))
theorem below_setg {B : Nat} {w W : World} {g j : Nat} {v : Value} (h : Below B w W) (hg : B ≤ g) : Below B w (W.setCell ⟨g, j, none⟩ v) := h.setCell hg _
/-- W is w with blocks added and orders drawn -/
class Gr_ (w : outParam World) (W : World) : Prop where
  at_ : ∀ (g : Nat) (o : Obj), w.heap[g]? = some o → W.heap[g]? = some o
  be_ : ∀ w0 : World, Below w0.heap.size w0 w → Below w0.heap.size w0 W
instance (priority := low) gr_refl_ (w : World) : Gr_ w w := ⟨fun _ _ h => h, fun _ h => h⟩
instance gr_alloc_ (w W : World) (o : Obj) [Gr_ w W] : Gr_ w (W.alloc o) := ⟨fun g _ h => blk_alloc (Gr_.at_ (w := w) (W := W) g _ h) o, fun w0 h => below_alloc (Gr_.be_ (w := w) (W := W) w0 h) o⟩
instance gr_drew_ (w W : World) [Gr_ w W] : Gr_ w W.drew := ⟨fun g _ h => blk_drew (Gr_.at_ (w := w) (W := W) g _ h), fun w0 h => below_drew (Gr_.be_ (w := w) (W := W) w0 h)⟩
instance gr_drewN_ (w W : World) (n : Nat) [Gr_ w W] : Gr_ w (W.drewN n) := ⟨fun g _ h => blk_drewN (Gr_.at_ (w := w) (W := W) g _ h) n, fun w0 h => pw_below_drewN (Gr_.be_ (w := w) (W := W) w0 h) n⟩
theorem gr_ {w W : World} [Gr_ w W] {g : Nat} {o : Obj} (h : w.heap[g]? = some o) : W.heap[g]? = some o := Gr_.at_ g o h
theorem hb_ {w W w0 : World} [Gr_ w W] (h : Below w0.heap.size w0 w) : Below w0.heap.size w0 W := Gr_.be_ w0 h
theorem nx_ {w W w1 : World} [Gr_ w W] {g : Nat} {o : Obj} (h : Aside0 (w.heap[g]? = some o)) (hb : Below W.heap.size W w1) : Aside0 (w1.heap[g]? = some o) := ⟨blk_below (gr_ (W := W) h.out) hb⟩
theorem hx_ {w W w0 w1 : World} [Gr_ w W] (h : Aside0 (Below w0.heap.size w0 w)) (hb : Below W.heap.size W w1) : Aside0 (Below w0.heap.size w0 w1) := ⟨below_step (hb_ (W := W) h.out) hb⟩
theorem nb_ {W : World} {g h : Nat} {o : Obj} (e : W.heap[g]? = some o) (hg : h = W.heap.size) : Aside0 (g ≠ h) := ⟨by rw [hg]; exact Nat.ne_of_lt (blk_lt e)⟩
theorem bn_ {W : World} {g h : Nat} {o : Obj} (e : W.heap[g]? = some o) (hg : h = W.heap.size) : Aside0 (h ≠ g) := ⟨by rw [hg]; exact Nat.ne_of_gt (blk_lt e)⟩
theorem ge_ {W w : World} {h : Nat} (e : Below w.heap.size w W) (hg : h = W.heap.size) : Aside0 (w.heap.size ≤ h) := ⟨by rw [hg]; exact below_size e⟩
/-- stores at two places: the order makes no difference -/
theorem setCell_comm_ (w : World) (b c i j : Nat) (x y : Value) (h : b ≠ c ∨ i ≠ j) : (w.setCell ⟨c, j, none⟩ y).setCell ⟨b, i, none⟩ x = (w.setCell ⟨b, i, none⟩ x).setCell ⟨c, j, none⟩ y := by
  unfold World.setCell
  congr 1
  apply Array.ext_getElem?
  intro k
  simp only [Array.getElem?_modify]
  by_cases h1 : b = k <;> by_cases h2 : c = k
  · subst h1; subst h2
    have hij : i ≠ j := h.resolve_left (fun z => z rfl)
    simp only [if_pos, Option.map_map]
    congr 1
    funext o
    cases o <;> simp only [Function.comp, Option.isSome_none, Bool.false_eq_true, if_false]
    rw [Array.setIfInBounds_comm _ _ hij]
  · simp only [if_pos h1, if_neg h2]
  · simp only [if_neg h1, if_pos h2]
  · simp only [if_neg h1, if_neg h2]
section
variable {P : Program} {ops : Array Oper} {Q : Exit → Act → World → Prop} {md : Region.Mode} {S : World → Prop} {ds : List Nat}
/-- a load that may come up behind a store elsewhere: both orders lead to one place, shown once -/
theorem late_ {i j : Nat} {N : Option Tmp} {v : Value} {oi oj : Oper} {fuel : Nat} {l : Array Bool} {a a1 : Act} {w W1 : World} (X : Prop) (S2 : World → Prop) (li lj lij : Array Bool) (hi : ops[i]? = some oi) (hj : ops[j]? = some oj) (hN : oi.dst = N) (hNj : oj.dst = none)
    (hc : ((Region.ready md ops l == [i, j] || Region.ready md ops l == [j, i]) && l.setIfInBounds i true == li && l.setIfInBounds j true == lj && Region.ready md ops lj == [i] && lj.setIfInBounds i true == lij) = true) (hdi : i ∉ ds) (hdj : j ∈ ds)
    (hy : YieldsIf P ops S2 oi v a) (hs : S2 w) (hs1 : S2 W1) (ha : a.put N v = a1)
    (h2 : ∀ K : Act → World → Prop, K a W1 → if Region.wanted oj (yielded ops a.tmps) = true then Oper.wp P oj a w K Q else K (a.put none undef) w)
    (hX : X) (b1 : X → wpAnyLast P md ops Q S ds (fuel + 1) li a1 w) (b2 : X → wpAnyLast P md ops Q S ds fuel lij a1 W1) : wpAnyLast P md ops Q S ds (fuel + 2) l a w := by
  simp only [Bool.and_eq_true, Bool.or_eq_true, beq_iff_eq] at hc
  obtain ⟨⟨⟨⟨c1, c2⟩, c3⟩, c4⟩, c5⟩ := hc
  subst ha
  subst hN
  have A1 : wpOp P ops Q i (fun a' w' => (i ∉ ds → S w → S w') ∧ wpAnyLast P md ops Q S ds (fuel + 1) (l.setIfInBounds i true) a' w') a w := by
    refine hy.wpOp hi hs ⟨fun _ h => h, ?_⟩
    rw [c2]
    exact b1 hX
  have A2 : wpOp P ops Q j (fun a' w' => (j ∉ ds → S w → S w') ∧ wpAnyLast P md ops Q S ds (fuel + 1) (l.setIfInBounds j true) a' w') a w := by
    refine wpOp_step hj (fun K hK => ?_)
    rw [hNj]
    refine h2 K (hK _ _ ⟨fun h => absurd hdj h, ?_⟩)
    rw [c3]
    refine wpAnyLast_all c4 (by simp) ?_
    intro k hk
    obtain rfl := List.mem_singleton.mp hk
    refine hy.wpOp hi hs1 ⟨fun _ h => h, ?_⟩
    rw [c5]
    exact b2 hX
  rcases c1 with c1 | c1
  · refine wpAnyLast_all c1 (by simp) ?_
    intro k hk
    rcases List.mem_cons.mp hk with rfl | hk
    · exact A1
    · obtain rfl := List.mem_singleton.mp hk
      exact A2
  · refine wpAnyLast_all c1 (by simp) ?_
    intro k hk
    rcases List.mem_cons.mp hk with rfl | hk
    · exact A2
    · obtain rfl := List.mem_singleton.mp hk
      exact A1
end
section
variable {P : Program} {ops : Array Oper} {Q : Exit → Act → World → Prop}
/-- a call of a function value in a plain region -/
theorem goesV_ {rest : List Oper} {oi : Oper} {a : Act} {w : World} (N : Option Tmp) (hd : oi.dst = N) (hg : oi.guard = none) {f : FuncId} {fn : Func} {xs : Array Operand} {ts : Array TypeId} {o : Operand} {cap : Array Value} (hf : P.funcs[f]? = some fn) (hname : (fn.name == "runtime.NumGoroutine") = false) (hb : fn.body.isSome = true)
    (hop : oi.op = .call { callee := .value o, args := xs, argTypes := ts }) (hv : a.eval o = .func (.func f) #[] cap) (args : Array Value) (hargs : xs.map a.eval = args)
    (h : Calls P f (args ++ cap) w fun e w' => ∃ v, e = .returned v ∧ wpList P ops Q rest (a.put N v) w') : wpList P ops Q (oi :: rest) a w := by
  refine wpList_plain hg fun K hK => ?_
  have he := enters_ hf hname hb (args ++ cap) w
  have hrun : (execOp a.eval oi).run P w = .ok (.enter f (args ++ cap)) w := by
    unfold execOp
    simp [hop, resolve, Deferred.ofValue, invoke, hv, hargs, he]
  unfold Oper.wp
  rw [hrun, Oper.upon_enter]
  refine h.mono fun e w'' hh => ?_
  obtain ⟨v, rfl, hk⟩ := hh
  subst hd
  exact hK _ _ hk
/-- The operation calls a function value. -/
theorem gate_value {rest : List Oper} {oi : Oper} {a : Act} {w : World} {x : Operand} {xs : Array Operand} {ts : Array TypeId} (_ho : oi.op = .call { callee := .value x, args := xs, argTypes := ts }) (h : wpList P ops Q (oi :: rest) a w) : wpList P ops Q (oi :: rest) a w := h
end
section
variable {P : Program} {ops : Array Oper} {Q : Exit → Act → World → Prop}
/-- a call in a plain region behind a guard that says yes -/
theorem goesW_ {rest : List Oper} {oi : Oper} {a : Act} {w : World} (N : Option Tmp) (hd : oi.dst = N) (hw : Region.wanted oi (yielded ops a.tmps) = true) {f : FuncId} {fn : Func} {xs : Array Operand} {ts : Array TypeId} (hf : P.funcs[f]? = some fn) (hname : (fn.name == "runtime.NumGoroutine") = false) (hb : fn.body.isSome = true) (args : Array Value)
    (hop : oi.op = .call { callee := .value (.func f), args := xs, argTypes := ts }) (hargs : xs.map a.eval = args)
    (h : Calls P f args w fun e w' => ∃ v, e = .returned v ∧ wpList P ops Q rest (a.put N v) w') : wpList P ops Q (oi :: rest) a w := by
  refine wpList_step fun K hK => ?_
  rw [if_pos hw]
  have he := enters_ hf hname hb args w
  have hrun : (execOp a.eval oi).run P w = .ok (.enter f args) w := by
    unfold execOp
    simp [hop, resolve, Deferred.ofValue, invoke, Act.eval, hargs, he]
  unfold Oper.wp
  rw [hrun, Oper.upon_enter]
  refine h.mono fun e w'' hh => ?_
  obtain ⟨v, rfl, hk⟩ := hh
  subst hd
  exact hK _ _ hk
/-- a call of a function value in a plain region behind a guard that says yes -/
theorem goesVW_ {rest : List Oper} {oi : Oper} {a : Act} {w : World} (N : Option Tmp) (hd : oi.dst = N) (hw : Region.wanted oi (yielded ops a.tmps) = true) {f : FuncId} {fn : Func} {xs : Array Operand} {ts : Array TypeId} {o : Operand} {cap : Array Value} (hf : P.funcs[f]? = some fn) (hname : (fn.name == "runtime.NumGoroutine") = false) (hb : fn.body.isSome = true)
    (hop : oi.op = .call { callee := .value o, args := xs, argTypes := ts }) (hv : a.eval o = .func (.func f) #[] cap) (args : Array Value) (hargs : xs.map a.eval = args)
    (h : Calls P f (args ++ cap) w fun e w' => ∃ v, e = .returned v ∧ wpList P ops Q rest (a.put N v) w') : wpList P ops Q (oi :: rest) a w := by
  refine wpList_step fun K hK => ?_
  rw [if_pos hw]
  have he := enters_ hf hname hb (args ++ cap) w
  have hrun : (execOp a.eval oi).run P w = .ok (.enter f (args ++ cap)) w := by
    unfold execOp
    simp [hop, resolve, Deferred.ofValue, invoke, hv, hargs, he]
  unfold Oper.wp
  rw [hrun, Oper.upon_enter]
  refine h.mono fun e w'' hh => ?_
  obtain ⟨v, rfl, hk⟩ := hh
  subst hd
  exact hK _ _ hk
end

/-! ### the Lean function interval_out: function 95 -/
def interval_out.f (a0 : Int) : Option (Bool) := if a0 < (-1000000000000000000) then (some true) else (some (decide (a0 > 1000000000000000000)))

/-! ### the Lean function interval_Check: function 55 -/
def interval_Check.j0 : Nat → Bool → Int → Int → Option (Int)
  | 0, _, _, _ => none
  | k + 1, x10, x102000, x102001 => if x10 = true then (some 3) else (if x102000 > x102001 then (some 9) else (some 0))
def interval_Check.f (k : Nat) (a0_0 : Int) (a0_1 : Int) : Option (Int) := (interval_out.f a0_0).bind fun t102 => (if t102 = true then (interval_Check.j0 k true a0_0 a0_1) else ((interval_out.f a0_1).bind fun t103 => (interval_Check.j0 k t103 a0_0 a0_1)))
theorem interval_Check.mono_l : ∀ k, (∀ y0 y1 y2, LeO (interval_Check.j0 k y0 y1 y2) (interval_Check.j0 (k + 1) y0 y1 y2))
  | 0 => fun _ _ _ r h => by simp [interval_Check.j0] at h
  | k + 1 => by
    have ih0 := interval_Check.mono_l k
    · intro y0 y1 y2
      unfold interval_Check.j0
      repeat' first
      | (with_reducible exact ih0 _ _ _)
      | (with_reducible exact LeO.refl _)
      | (with_reducible exact LeO.none _)
      | (with_reducible refine LeO.ite ?_ ?_)
      | (with_reducible refine LeO.bind ?_ (fun _ => ?_))
      | exact ih0 _ _ _
      | exact LeO.none _
      | refine LeO.ite ?_ ?_
      | refine LeO.bind ?_ (fun _ => ?_)
theorem interval_Check.mono : ∀ a0 a1 k, LeO (interval_Check.f k a0 a1) (interval_Check.f (k + 1) a0 a1) := by
  intro a0 a1 k
  have ih0 := interval_Check.mono_l k
  unfold interval_Check.f
  repeat' first
      | (with_reducible exact ih0 _ _ _)
      | (with_reducible exact LeO.refl _)
      | (with_reducible exact LeO.none _)
      | (with_reducible refine LeO.ite ?_ ?_)
      | (with_reducible refine LeO.bind ?_ (fun _ => ?_))
      | exact ih0 _ _ _
      | exact LeO.none _
      | refine LeO.ite ?_ ?_
      | refine LeO.bind ?_ (fun _ => ?_)

/-! ### the Lean function trig_minus: function 94 -/
def trig_minus.f (a0_0 : Int) (a0_1 : Int) : Option (Int × Int) := some (wrap64 (-a0_1), wrap64 (-a0_0))

/-! ### the Lean function trig_mul: function 107 -/
def trig_mul.f (a0 : Int) (a1 : Int) : Option (Int) := some (wrap64 ((wrap64 ((a0 / 1073741824) * (a1 / 1073741824))) + ((wrap64 ((wrap64 ((wrap64 ((a0 / 1073741824) * (Go.bits .and .i64 a1 1073741823))) + (wrap64 ((Go.bits .and .i64 a0 1073741823) * (a1 / 1073741824))))) + ((wrap64 ((Go.bits .and .i64 a0 1073741823) * (Go.bits .and .i64 a1 1073741823))) / 1073741824))) / 1073741824)))

/-! ### the Lean function trig_octant: function 92 -/
def trig_octant.l0 : Nat → Int → Int → Int → Int → Int → Int → Option (Int × Int)
  | 0, _, _, _, _, _, _ => none
  | k + 1, x5, x6, x7, x8, x9, x10 => if x10 ≤ 9 then ((trig_mul.f x9 x5).bind fun t107 => (if (wrap64 ((wrap64 ((wrap64 ((wrap64 (2 * x10)) - 1)) * 2)) * x10)) = 0 then (none) else ((trig_mul.f x8 x5).bind fun t108 => (if (wrap64 ((wrap64 (2 * x10)) * (wrap64 ((wrap64 (2 * x10)) + 1)))) = 0 then (none) else (if (Int.tmod x10 2) = 1 then (trig_octant.l0 k x5 (wrap64 (x6 - (wrap64 (Int.tdiv t108 (wrap64 ((wrap64 (2 * x10)) * (wrap64 ((wrap64 (2 * x10)) + 1)))))))) (wrap64 (x7 - (wrap64 (Int.tdiv t107 (wrap64 ((wrap64 ((wrap64 ((wrap64 (2 * x10)) - 1)) * 2)) * x10)))))) (wrap64 (Int.tdiv t108 (wrap64 ((wrap64 (2 * x10)) * (wrap64 ((wrap64 (2 * x10)) + 1)))))) (wrap64 (Int.tdiv t107 (wrap64 ((wrap64 ((wrap64 ((wrap64 (2 * x10)) - 1)) * 2)) * x10)))) (wrap64 (x10 + 1))) else (trig_octant.l0 k x5 (wrap64 (x6 + (wrap64 (Int.tdiv t108 (wrap64 ((wrap64 (2 * x10)) * (wrap64 ((wrap64 (2 * x10)) + 1)))))))) (wrap64 (x7 + (wrap64 (Int.tdiv t107 (wrap64 ((wrap64 ((wrap64 ((wrap64 (2 * x10)) - 1)) * 2)) * x10)))))) (wrap64 (Int.tdiv t108 (wrap64 ((wrap64 (2 * x10)) * (wrap64 ((wrap64 (2 * x10)) + 1)))))) (wrap64 (Int.tdiv t107 (wrap64 ((wrap64 ((wrap64 ((wrap64 (2 * x10)) - 1)) * 2)) * x10)))) (wrap64 (x10 + 1)))))))) else (some (mx 0 x6, mn 1152921504606846976 x7))
def trig_octant.f (k : Nat) (a0 : Int) : Option (Int × Int) := (trig_mul.f (wrap64 ((wrap64 (a0 * 7244019458)) + (wrap64 (Int.tdiv (wrap64 (a0 * 77122842)) 1000000000)))) (wrap64 ((wrap64 (a0 * 7244019458)) + (wrap64 (Int.tdiv (wrap64 (a0 * 77122842)) 1000000000))))).bind fun t106 => (trig_octant.l0 k t106 (wrap64 ((wrap64 (a0 * 7244019458)) + (wrap64 (Int.tdiv (wrap64 (a0 * 77122842)) 1000000000)))) 1152921504606846976 (wrap64 ((wrap64 (a0 * 7244019458)) + (wrap64 (Int.tdiv (wrap64 (a0 * 77122842)) 1000000000)))) 1152921504606846976 1)
theorem trig_octant.mono_l : ∀ k, (∀ y0 y1 y2 y3 y4 y5, LeO (trig_octant.l0 k y0 y1 y2 y3 y4 y5) (trig_octant.l0 (k + 1) y0 y1 y2 y3 y4 y5))
  | 0 => fun _ _ _ _ _ _ r h => by simp [trig_octant.l0] at h
  | k + 1 => by
    have ih0 := trig_octant.mono_l k
    · intro y0 y1 y2 y3 y4 y5
      unfold trig_octant.l0
      repeat' first
      | (with_reducible exact ih0 _ _ _ _ _ _)
      | (with_reducible exact LeO.refl _)
      | (with_reducible exact LeO.none _)
      | (with_reducible refine LeO.ite ?_ ?_)
      | (with_reducible refine LeO.bind ?_ (fun _ => ?_))
      | exact ih0 _ _ _ _ _ _
      | exact LeO.none _
      | refine LeO.ite ?_ ?_
      | refine LeO.bind ?_ (fun _ => ?_)
theorem trig_octant.mono : ∀ a0 k, LeO (trig_octant.f k a0) (trig_octant.f (k + 1) a0) := by
  intro a0 k
  have ih0 := trig_octant.mono_l k
  unfold trig_octant.f
  repeat' first
      | (with_reducible exact ih0 _ _ _ _ _ _)
      | (with_reducible exact LeO.refl _)
      | (with_reducible exact LeO.none _)
      | (with_reducible refine LeO.ite ?_ ?_)
      | (with_reducible refine LeO.bind ?_ (fun _ => ?_))
      | exact ih0 _ _ _ _ _ _
      | exact LeO.none _
      | refine LeO.ite ?_ ?_
      | refine LeO.bind ?_ (fun _ => ?_)

/-! ### the Lean function trig_reaches: function 108 -/
def trig_reaches.f (k : Nat) (a0 : Int) (a1 : Int) : Option (Bool) := (trig_octant.f k a1).bind fun bt109 => (some (decide ((wrap64 ((bt109.1 / 536870912) * 2147483648)) ≤ (wrap64 (a0 * (bt109.2 / 536870912))))))
theorem trig_reaches.mono : ∀ a0 a1 k, LeO (trig_reaches.f k a0 a1) (trig_reaches.f (k + 1) a0 a1) := by
  intro a0 a1 k
  unfold trig_reaches.f
  repeat' first
      | (with_reducible exact trig_octant.mono _ _)
      | (with_reducible exact LeO.refl _)
      | (with_reducible exact LeO.none _)
      | (with_reducible refine LeO.ite ?_ ?_)
      | (with_reducible refine LeO.bind ?_ (fun _ => ?_))
      | exact trig_octant.mono _ _
      | exact LeO.none _
      | refine LeO.ite ?_ ?_
      | refine LeO.bind ?_ (fun _ => ?_)

/-! ### the Lean function trig_acute: function 96 -/
mutual
def trig_acute.l0 : Nat → Int → Int → Option (Int)
  | 0, _, _ => none
  | k + 1, x0, x1 => if x1 ≥ 2147483648 then (trig_acute.l0 k (x0 / 2) (x1 / 2)) else (trig_acute.l1 k x0 x1)
def trig_acute.l1 : Nat → Int → Int → Option (Int)
  | 0, _, _ => none
  | k + 1, x0, x1 => if x1 < 1073741824 then (trig_acute.l1 k (wrap64 (x0 * 2)) (wrap64 (x1 * 2))) else (if x1 = 0 then (none) else (trig_acute.l2 k (wrap64 (Int.tdiv (wrap64 (x0 * 2147483648)) x1)) ((wrap64 ((wrap64 (Int.tdiv (wrap64 (x0 * 2147483648)) x1)) * 125000000)) / 2147483648) 0))
def trig_acute.l2 : Nat → Int → Int → Int → Option (Int)
  | 0, _, _, _ => none
  | k + 1, x5, x6, x30 => if x30 < 4 then ((trig_octant.f k x6).bind fun bt111 => (if (wrap64 (Int.tdiv (wrap64 ((wrap64 ((bt111.2 / 1073741824) * 2147483648)) + (wrap64 (x5 * (bt111.1 / 1073741824))))) 159154943)) = 0 then (none) else (trig_acute.l2 k x5 (mx 0 (mn 125000000 (wrap64 (x6 - (wrap64 (Int.tdiv (wrap64 ((wrap64 ((bt111.1 / 1073741824) * 2147483648)) - (wrap64 (x5 * (bt111.2 / 1073741824))))) (wrap64 (Int.tdiv (wrap64 ((wrap64 ((bt111.2 / 1073741824) * 2147483648)) + (wrap64 (x5 * (bt111.1 / 1073741824))))) 159154943)))))))) (wrap64 (x30 + 1))))) else (trig_acute.l3 k x5 x6)
def trig_acute.j4 : Nat → Int → Int → Option (Int)
  | 0, _, _ => none
  | k + 1, x5, x6 => trig_acute.l4 k x5 x6
def trig_acute.l4 : Nat → Int → Int → Option (Int)
  | 0, _, _ => none
  | k + 1, x5, x6 => if x6 < 125000000 then ((trig_reaches.f k x5 (wrap64 (x6 + 1))).bind fun t114 => (if t114 = true then (trig_acute.l4 k x5 (wrap64 (x6 + 1))) else (some x6))) else (some x6)
def trig_acute.l3 : Nat → Int → Int → Option (Int)
  | 0, _, _ => none
  | k + 1, x5, x6 => if x6 > 0 then ((trig_reaches.f k x5 x6).bind fun t113 => (if t113 = true then (trig_acute.j4 k x5 x6) else (trig_acute.l3 k x5 (wrap64 (x6 - 1))))) else (trig_acute.j4 k x5 x6)
end
def trig_acute.f (k : Nat) (a0 : Int) (a1 : Int) : Option (Int) := trig_acute.l0 k a0 a1
theorem trig_acute.mono_l : ∀ k, (∀ y0 y1, LeO (trig_acute.l0 k y0 y1) (trig_acute.l0 (k + 1) y0 y1)) ∧ (∀ y0 y1, LeO (trig_acute.l1 k y0 y1) (trig_acute.l1 (k + 1) y0 y1)) ∧ (∀ y0 y1 y2, LeO (trig_acute.l2 k y0 y1 y2) (trig_acute.l2 (k + 1) y0 y1 y2)) ∧ (∀ y0 y1, LeO (trig_acute.j4 k y0 y1) (trig_acute.j4 (k + 1) y0 y1)) ∧ (∀ y0 y1, LeO (trig_acute.l4 k y0 y1) (trig_acute.l4 (k + 1) y0 y1)) ∧ (∀ y0 y1, LeO (trig_acute.l3 k y0 y1) (trig_acute.l3 (k + 1) y0 y1))
  | 0 => ⟨fun _ _ r h => by simp [trig_acute.l0] at h, fun _ _ r h => by simp [trig_acute.l1] at h, fun _ _ _ r h => by simp [trig_acute.l2] at h, fun _ _ r h => by simp [trig_acute.j4] at h, fun _ _ r h => by simp [trig_acute.l4] at h, fun _ _ r h => by simp [trig_acute.l3] at h⟩
  | k + 1 => by
    obtain ⟨ih0, ih1, ih2, ih3, ih4, ih5⟩ := trig_acute.mono_l k
    refine ⟨?_, ?_, ?_, ?_, ?_, ?_⟩
    · intro y0 y1
      unfold trig_acute.l0
      repeat' first
      | (with_reducible exact ih0 _ _)
      | (with_reducible exact ih1 _ _)
      | (with_reducible exact ih2 _ _ _)
      | (with_reducible exact ih3 _ _)
      | (with_reducible exact ih4 _ _)
      | (with_reducible exact ih5 _ _)
      | (with_reducible exact trig_octant.mono _ _)
      | (with_reducible exact trig_reaches.mono _ _ _)
      | (with_reducible exact LeO.refl _)
      | (with_reducible exact LeO.none _)
      | (with_reducible refine LeO.ite ?_ ?_)
      | (with_reducible refine LeO.bind ?_ (fun _ => ?_))
      | exact ih0 _ _
      | exact ih1 _ _
      | exact ih2 _ _ _
      | exact ih3 _ _
      | exact ih4 _ _
      | exact ih5 _ _
      | exact trig_octant.mono _ _
      | exact trig_reaches.mono _ _ _
      | exact LeO.none _
      | refine LeO.ite ?_ ?_
      | refine LeO.bind ?_ (fun _ => ?_)
    · intro y0 y1
      unfold trig_acute.l1
      repeat' first
      | (with_reducible exact ih0 _ _)
      | (with_reducible exact ih1 _ _)
      | (with_reducible exact ih2 _ _ _)
      | (with_reducible exact ih3 _ _)
      | (with_reducible exact ih4 _ _)
      | (with_reducible exact ih5 _ _)
      | (with_reducible exact trig_octant.mono _ _)
      | (with_reducible exact trig_reaches.mono _ _ _)
      | (with_reducible exact LeO.refl _)
      | (with_reducible exact LeO.none _)
      | (with_reducible refine LeO.ite ?_ ?_)
      | (with_reducible refine LeO.bind ?_ (fun _ => ?_))
      | exact ih0 _ _
      | exact ih1 _ _
      | exact ih2 _ _ _
      | exact ih3 _ _
      | exact ih4 _ _
      | exact ih5 _ _
      | exact trig_octant.mono _ _
      | exact trig_reaches.mono _ _ _
      | exact LeO.none _
      | refine LeO.ite ?_ ?_
      | refine LeO.bind ?_ (fun _ => ?_)
    · intro y0 y1 y2
      unfold trig_acute.l2
      repeat' first
      | (with_reducible exact ih0 _ _)
      | (with_reducible exact ih1 _ _)
      | (with_reducible exact ih2 _ _ _)
      | (with_reducible exact ih3 _ _)
      | (with_reducible exact ih4 _ _)
      | (with_reducible exact ih5 _ _)
      | (with_reducible exact trig_octant.mono _ _)
      | (with_reducible exact trig_reaches.mono _ _ _)
      | (with_reducible exact LeO.refl _)
      | (with_reducible exact LeO.none _)
      | (with_reducible refine LeO.ite ?_ ?_)
      | (with_reducible refine LeO.bind ?_ (fun _ => ?_))
      | exact ih0 _ _
      | exact ih1 _ _
      | exact ih2 _ _ _
      | exact ih3 _ _
      | exact ih4 _ _
      | exact ih5 _ _
      | exact trig_octant.mono _ _
      | exact trig_reaches.mono _ _ _
      | exact LeO.none _
      | refine LeO.ite ?_ ?_
      | refine LeO.bind ?_ (fun _ => ?_)
    · intro y0 y1
      unfold trig_acute.j4
      repeat' first
      | (with_reducible exact ih0 _ _)
      | (with_reducible exact ih1 _ _)
      | (with_reducible exact ih2 _ _ _)
      | (with_reducible exact ih3 _ _)
      | (with_reducible exact ih4 _ _)
      | (with_reducible exact ih5 _ _)
      | (with_reducible exact trig_octant.mono _ _)
      | (with_reducible exact trig_reaches.mono _ _ _)
      | (with_reducible exact LeO.refl _)
      | (with_reducible exact LeO.none _)
      | (with_reducible refine LeO.ite ?_ ?_)
      | (with_reducible refine LeO.bind ?_ (fun _ => ?_))
      | exact ih0 _ _
      | exact ih1 _ _
      | exact ih2 _ _ _
      | exact ih3 _ _
      | exact ih4 _ _
      | exact ih5 _ _
      | exact trig_octant.mono _ _
      | exact trig_reaches.mono _ _ _
      | exact LeO.none _
      | refine LeO.ite ?_ ?_
      | refine LeO.bind ?_ (fun _ => ?_)
    · intro y0 y1
      unfold trig_acute.l4
      repeat' first
      | (with_reducible exact ih0 _ _)
      | (with_reducible exact ih1 _ _)
      | (with_reducible exact ih2 _ _ _)
      | (with_reducible exact ih3 _ _)
      | (with_reducible exact ih4 _ _)
      | (with_reducible exact ih5 _ _)
      | (with_reducible exact trig_octant.mono _ _)
      | (with_reducible exact trig_reaches.mono _ _ _)
      | (with_reducible exact LeO.refl _)
      | (with_reducible exact LeO.none _)
      | (with_reducible refine LeO.ite ?_ ?_)
      | (with_reducible refine LeO.bind ?_ (fun _ => ?_))
      | exact ih0 _ _
      | exact ih1 _ _
      | exact ih2 _ _ _
      | exact ih3 _ _
      | exact ih4 _ _
      | exact ih5 _ _
      | exact trig_octant.mono _ _
      | exact trig_reaches.mono _ _ _
      | exact LeO.none _
      | refine LeO.ite ?_ ?_
      | refine LeO.bind ?_ (fun _ => ?_)
    · intro y0 y1
      unfold trig_acute.l3
      repeat' first
      | (with_reducible exact ih0 _ _)
      | (with_reducible exact ih1 _ _)
      | (with_reducible exact ih2 _ _ _)
      | (with_reducible exact ih3 _ _)
      | (with_reducible exact ih4 _ _)
      | (with_reducible exact ih5 _ _)
      | (with_reducible exact trig_octant.mono _ _)
      | (with_reducible exact trig_reaches.mono _ _ _)
      | (with_reducible exact LeO.refl _)
      | (with_reducible exact LeO.none _)
      | (with_reducible refine LeO.ite ?_ ?_)
      | (with_reducible refine LeO.bind ?_ (fun _ => ?_))
      | exact ih0 _ _
      | exact ih1 _ _
      | exact ih2 _ _ _
      | exact ih3 _ _
      | exact ih4 _ _
      | exact ih5 _ _
      | exact trig_octant.mono _ _
      | exact trig_reaches.mono _ _ _
      | exact LeO.none _
      | refine LeO.ite ?_ ?_
      | refine LeO.bind ?_ (fun _ => ?_)
theorem trig_acute.mono : ∀ a0 a1 k, LeO (trig_acute.f k a0 a1) (trig_acute.f (k + 1) a0 a1) := by
  intro a0 a1 k
  obtain ⟨ih0, ih1, ih2, ih3, ih4, ih5⟩ := trig_acute.mono_l k
  unfold trig_acute.f
  repeat' first
      | (with_reducible exact ih0 _ _)
      | (with_reducible exact ih1 _ _)
      | (with_reducible exact ih2 _ _ _)
      | (with_reducible exact ih3 _ _)
      | (with_reducible exact ih4 _ _)
      | (with_reducible exact ih5 _ _)
      | (with_reducible exact trig_octant.mono _ _)
      | (with_reducible exact trig_reaches.mono _ _ _)
      | (with_reducible exact LeO.refl _)
      | (with_reducible exact LeO.none _)
      | (with_reducible refine LeO.ite ?_ ?_)
      | (with_reducible refine LeO.bind ?_ (fun _ => ?_))
      | exact ih0 _ _
      | exact ih1 _ _
      | exact ih2 _ _ _
      | exact ih3 _ _
      | exact ih4 _ _
      | exact ih5 _ _
      | exact trig_octant.mono _ _
      | exact trig_reaches.mono _ _ _
      | exact LeO.none _
      | refine LeO.ite ?_ ?_
      | refine LeO.bind ?_ (fun _ => ?_)

/-! ### the Lean function trig_direction: function 58 -/
mutual
def trig_direction.j0 : Nat → Int → Int → Int → Int → Option (Int × Int)
  | 0, _, _, _, _ => none
  | k + 1, x0, x1, x5, x6 => if x6 < 0 then (trig_direction.j1 k x0 x1 x5 (wrap64 (-x6))) else (trig_direction.j1 k x0 x1 x5 x6)
def trig_direction.j1 : Nat → Int → Int → Int → Int → Option (Int × Int)
  | 0, _, _, _, _ => none
  | k + 1, x0, x1, x5, x6 => if x5 ≤ x6 then ((trig_acute.f k x5 x6).bind fun t117 => (trig_direction.j2 k x0 x1 (wrap64 (t117 - 1)) (wrap64 (t117 + 2)))) else ((trig_acute.f k x6 x5).bind fun t118 => (trig_direction.j2 k x0 x1 (wrap64 ((wrap64 (250000000 - t118)) - 2)) (wrap64 ((wrap64 (250000000 - t118)) + 1))))
def trig_direction.j2 : Nat → Int → Int → Int → Int → Option (Int × Int)
  | 0, _, _, _, _ => none
  | k + 1, x0, x1, x117000, x117001 => if x1 < 0 then (if x0 < 0 then ((trig_minus.f (wrap64 (500000000 - x117001)) (wrap64 (500000000 - x117000))).bind fun bt119 => (some (bt119.1, bt119.2))) else (some (wrap64 (500000000 - x117001), wrap64 (500000000 - x117000)))) else (if x0 < 0 then ((trig_minus.f x117000 x117001).bind fun bt121 => (some (bt121.1, bt121.2))) else (some (x117000, x117001)))
end
def trig_direction.f (k : Nat) (a0 : Int) (a1 : Int) : Option (Int × Int) := if a0 < 0 then (trig_direction.j0 k a0 a1 (wrap64 (-a0)) a1) else (trig_direction.j0 k a0 a1 a0 a1)
theorem trig_direction.mono_l : ∀ k, (∀ y0 y1 y2 y3, LeO (trig_direction.j0 k y0 y1 y2 y3) (trig_direction.j0 (k + 1) y0 y1 y2 y3)) ∧ (∀ y0 y1 y2 y3, LeO (trig_direction.j1 k y0 y1 y2 y3) (trig_direction.j1 (k + 1) y0 y1 y2 y3)) ∧ (∀ y0 y1 y2 y3, LeO (trig_direction.j2 k y0 y1 y2 y3) (trig_direction.j2 (k + 1) y0 y1 y2 y3))
  | 0 => ⟨fun _ _ _ _ r h => by simp [trig_direction.j0] at h, fun _ _ _ _ r h => by simp [trig_direction.j1] at h, fun _ _ _ _ r h => by simp [trig_direction.j2] at h⟩
  | k + 1 => by
    obtain ⟨ih0, ih1, ih2⟩ := trig_direction.mono_l k
    refine ⟨?_, ?_, ?_⟩
    · intro y0 y1 y2 y3
      unfold trig_direction.j0
      repeat' first
      | (with_reducible exact ih0 _ _ _ _)
      | (with_reducible exact ih1 _ _ _ _)
      | (with_reducible exact ih2 _ _ _ _)
      | (with_reducible exact trig_acute.mono _ _ _)
      | (with_reducible exact LeO.refl _)
      | (with_reducible exact LeO.none _)
      | (with_reducible refine LeO.ite ?_ ?_)
      | (with_reducible refine LeO.bind ?_ (fun _ => ?_))
      | exact ih0 _ _ _ _
      | exact ih1 _ _ _ _
      | exact ih2 _ _ _ _
      | exact trig_acute.mono _ _ _
      | exact LeO.none _
      | refine LeO.ite ?_ ?_
      | refine LeO.bind ?_ (fun _ => ?_)
    · intro y0 y1 y2 y3
      unfold trig_direction.j1
      repeat' first
      | (with_reducible exact ih0 _ _ _ _)
      | (with_reducible exact ih1 _ _ _ _)
      | (with_reducible exact ih2 _ _ _ _)
      | (with_reducible exact trig_acute.mono _ _ _)
      | (with_reducible exact LeO.refl _)
      | (with_reducible exact LeO.none _)
      | (with_reducible refine LeO.ite ?_ ?_)
      | (with_reducible refine LeO.bind ?_ (fun _ => ?_))
      | exact ih0 _ _ _ _
      | exact ih1 _ _ _ _
      | exact ih2 _ _ _ _
      | exact trig_acute.mono _ _ _
      | exact LeO.none _
      | refine LeO.ite ?_ ?_
      | refine LeO.bind ?_ (fun _ => ?_)
    · intro y0 y1 y2 y3
      unfold trig_direction.j2
      repeat' first
      | (with_reducible exact ih0 _ _ _ _)
      | (with_reducible exact ih1 _ _ _ _)
      | (with_reducible exact ih2 _ _ _ _)
      | (with_reducible exact trig_acute.mono _ _ _)
      | (with_reducible exact LeO.refl _)
      | (with_reducible exact LeO.none _)
      | (with_reducible refine LeO.ite ?_ ?_)
      | (with_reducible refine LeO.bind ?_ (fun _ => ?_))
      | exact ih0 _ _ _ _
      | exact ih1 _ _ _ _
      | exact ih2 _ _ _ _
      | exact trig_acute.mono _ _ _
      | exact LeO.none _
      | refine LeO.ite ?_ ?_
      | refine LeO.bind ?_ (fun _ => ?_)
theorem trig_direction.mono : ∀ a0 a1 k, LeO (trig_direction.f k a0 a1) (trig_direction.f (k + 1) a0 a1) := by
  intro a0 a1 k
  obtain ⟨ih0, ih1, ih2⟩ := trig_direction.mono_l k
  unfold trig_direction.f
  repeat' first
      | (with_reducible exact ih0 _ _ _ _)
      | (with_reducible exact ih1 _ _ _ _)
      | (with_reducible exact ih2 _ _ _ _)
      | (with_reducible exact trig_acute.mono _ _ _)
      | (with_reducible exact LeO.refl _)
      | (with_reducible exact LeO.none _)
      | (with_reducible refine LeO.ite ?_ ?_)
      | (with_reducible refine LeO.bind ?_ (fun _ => ?_))
      | exact ih0 _ _ _ _
      | exact ih1 _ _ _ _
      | exact ih2 _ _ _ _
      | exact trig_acute.mono _ _ _
      | exact LeO.none _
      | refine LeO.ite ?_ ?_
      | refine LeO.bind ?_ (fun _ => ?_)

/-! ### the Lean function interval_Floor: function 60 -/
def interval_Floor.f (a0 : Int) (a1 : Int) : Option (Int) := if a1 = 0 then (none) else (if (Int.tmod a0 a1) = 0 then (some (wrap64 (Int.tdiv a0 a1))) else (if ((decide (a0 < 0)) != (decide (a1 < 0))) = true then (some (wrap64 ((wrap64 (Int.tdiv a0 a1)) - 1))) else (some (wrap64 (Int.tdiv a0 a1)))))

/-! ### the Lean function trig_Arc: function 20 -/
/-- one corner more: its direction is taken into the interval -/
def trig_Arc.stp (k : Nat) (y x f0 : Int) (s : Int × Int) : Option (Int × Int) :=
  (trig_direction.f k y x).bind fun d => (interval_Floor.f (wrap64 ((wrap64 (d.1 - f0)) + 500000000)) 1000000000).bind fun q => some (mn s.1 (wrap64 (d.1 - wrap64 (q * 1000000000))), mx s.2 (wrap64 (d.2 - wrap64 (q * 1000000000))))
def ArcOk (a0_0 a0_1 a1_0 a1_1 : Int) : Prop := InR a0_0 ∧ a0_0 ≤ a0_1 ∧ InR a0_1 ∧ InR a1_0 ∧ a1_0 ≤ a1_1 ∧ InR a1_1
instance (a b c d : Int) : Decidable (ArcOk a b c d) := inferInstanceAs (Decidable (_ ∧ _ ∧ _ ∧ _ ∧ _ ∧ _))
def trig_Arc.f (k : Nat) (a0_0 : Int) (a0_1 : Int) (a1_0 : Int) (a1_1 : Int) : Option (Int × Int × Int) :=
  if ArcOk a0_0 a0_1 a1_0 a1_1 then
    (if a0_0 ≤ 0 ∧ 0 ≤ a0_1 ∧ a1_0 ≤ 0 ∧ 0 ≤ a1_1 then some (0, 0, 11) else
    (trig_direction.f k a0_0 a1_0).bind fun d => (trig_Arc.stp k a0_0 a1_1 d.1 d).bind fun s1 => (trig_Arc.stp k a0_1 a1_0 d.1 s1).bind fun s2 => (trig_Arc.stp k a0_1 a1_1 d.1 s2).bind fun s3 =>
      if 400000000 < wrap64 (s3.2 - s3.1) then some (0, 0, 11) else (interval_Floor.f s3.1 1000000000).bind fun q => some (wrap64 (s3.1 - wrap64 (q * 1000000000)), wrap64 (s3.2 - wrap64 (q * 1000000000)), 0))
  else none
theorem trig_Arc.stp_mono (k : Nat) (y x f0 : Int) (s : Int × Int) : LeO (trig_Arc.stp k y x f0 s) (trig_Arc.stp (k + 1) y x f0 s) := by
  unfold trig_Arc.stp
  exact LeO.bind (trig_direction.mono _ _ _) (fun _ _ h => h)
theorem trig_Arc.mono : ∀ a0 a1 a2 a3 k, LeO (trig_Arc.f k a0 a1 a2 a3) (trig_Arc.f (k + 1) a0 a1 a2 a3) := by
  intro a0 a1 a2 a3 k
  unfold trig_Arc.f
  refine LeO.ite ?_ (fun _ h => h)
  refine LeO.ite (LeO.refl _) ?_
  refine LeO.bind (trig_direction.mono _ _ _) (fun _ => ?_)
  refine LeO.bind (trig_Arc.stp_mono _ _ _ _ _) (fun _ => ?_)
  refine LeO.bind (trig_Arc.stp_mono _ _ _ _ _) (fun _ => ?_)
  exact LeO.bind (trig_Arc.stp_mono _ _ _ _ _) (fun _ _ h => h)
theorem acheck_ {x y : Int} (g1 : InR x) (g2 : x ≤ y) (g3 : InR y) : interval_Check.f 1 x y = some 0 := by
  obtain ⟨a1, a2⟩ := g1
  obtain ⟨b1, b2⟩ := g3
  unfold interval_Check.f interval_out.f
  rw [if_neg (by omega), if_neg (by omega)]
  simp only [Option.bind_some, interval_Check.j0]
  rw [decide_eq_false (by omega), decide_eq_false (by omega)]
  simp only [Bool.false_eq_true, if_false]
  rw [if_neg (by omega)]

/-! ### the Lean function trig_Reduced: function 57 -/
def trig_Reduced.f (a0 : Int) : Option (Int) := (interval_Floor.f a0 1000000000).bind fun t123 => (some (wrap64 (a0 - (wrap64 (t123 * 1000000000)))))

/-! ### the Lean function trig_out: function 91 -/
def trig_out.f (a0 : Int) : Option (Bool) := if a0 < (-1000000000000000000) then (some true) else (some (decide (a0 > 1000000000000000000)))

/-! ### the Lean function trig_rounded: function 93 -/
def trig_rounded.f (a0 : Int) : Option (Int × Int) := some (mx (-1000000000) (wrap64 (((wrap64 ((wrap64 ((a0 / 1073741824) * 1000000000)) + ((wrap64 ((Go.bits .and .i64 a0 1073741823) * 1000000000)) / 1073741824))) / 1073741824) - 1)), mn 1000000000 (wrap64 (((wrap64 ((wrap64 ((a0 / 1073741824) * 1000000000)) + ((wrap64 ((Go.bits .and .i64 a0 1073741823) * 1000000000)) / 1073741824))) / 1073741824) + 2)))

/-! ### the Lean function trig_Sin: function 51 -/
def trig_Sin.j0 : Nat → Int → Int → Int → Option (Int × Int × Int)
  | 0, _, _, _ => none
  | k + 1, x4, x6, x7 => if x4 = 0 then ((trig_rounded.f x6).bind fun bt132 => (some (bt132.1, bt132.2, 0))) else (if x4 = 1 then ((trig_rounded.f x7).bind fun bt134 => (some (bt134.1, bt134.2, 0))) else (if x4 = 2 then ((trig_rounded.f x6).bind fun bt136 => ((trig_minus.f bt136.1 bt136.2).bind fun bt138 => (some (bt138.1, bt138.2, 0)))) else ((trig_rounded.f x7).bind fun bt140 => ((trig_minus.f bt140.1 bt140.2).bind fun bt142 => (some (bt142.1, bt142.2, 0))))))
def trig_Sin.f (k : Nat) (a0 : Int) : Option (Int × Int × Int) := (trig_out.f a0).bind fun t126 => (if t126 = true then (some (0, 0, 3)) else ((trig_Reduced.f a0).bind fun t127 => (if (Int.tmod t127 250000000) ≤ 125000000 then ((trig_octant.f k (Int.tmod t127 250000000)).bind fun bt128 => (trig_Sin.j0 k (wrap64 (Int.tdiv t127 250000000)) bt128.1 bt128.2)) else ((trig_octant.f k (wrap64 (250000000 - (Int.tmod t127 250000000)))).bind fun bt130 => (trig_Sin.j0 k (wrap64 (Int.tdiv t127 250000000)) bt130.2 bt130.1)))))
theorem trig_Sin.mono_l : ∀ k, (∀ y0 y1 y2, LeO (trig_Sin.j0 k y0 y1 y2) (trig_Sin.j0 (k + 1) y0 y1 y2))
  | 0 => fun _ _ _ r h => by simp [trig_Sin.j0] at h
  | k + 1 => by
    have ih0 := trig_Sin.mono_l k
    · intro y0 y1 y2
      unfold trig_Sin.j0
      repeat' first
      | (with_reducible exact ih0 _ _ _)
      | (with_reducible exact trig_octant.mono _ _)
      | (with_reducible exact LeO.refl _)
      | (with_reducible exact LeO.none _)
      | (with_reducible refine LeO.ite ?_ ?_)
      | (with_reducible refine LeO.bind ?_ (fun _ => ?_))
      | exact ih0 _ _ _
      | exact trig_octant.mono _ _
      | exact LeO.none _
      | refine LeO.ite ?_ ?_
      | refine LeO.bind ?_ (fun _ => ?_)
theorem trig_Sin.mono : ∀ a0 k, LeO (trig_Sin.f k a0) (trig_Sin.f (k + 1) a0) := by
  intro a0 k
  have ih0 := trig_Sin.mono_l k
  unfold trig_Sin.f
  repeat' first
      | (with_reducible exact ih0 _ _ _)
      | (with_reducible exact trig_octant.mono _ _)
      | (with_reducible exact LeO.refl _)
      | (with_reducible exact LeO.none _)
      | (with_reducible refine LeO.ite ?_ ?_)
      | (with_reducible refine LeO.bind ?_ (fun _ => ?_))
      | exact ih0 _ _ _
      | exact trig_octant.mono _ _
      | exact LeO.none _
      | refine LeO.ite ?_ ?_
      | refine LeO.bind ?_ (fun _ => ?_)

/-! ### the Lean function trig_root: function 59 -/
def trig_root.l0 : Nat → Int → Int → Int → Option (Int)
  | 0, _, _, _ => none
  | k + 1, x0, x3, x4 => if x3 < x4 then (if (wrap64 (Int.tdiv (wrap64 ((wrap64 (x3 + x4)) + 1)) 2)) = 0 then (none) else (if (wrap64 (Int.tdiv (wrap64 ((wrap64 (x3 + x4)) + 1)) 2)) ≤ (wrap64 (Int.tdiv x0 (wrap64 (Int.tdiv (wrap64 ((wrap64 (x3 + x4)) + 1)) 2)))) then (trig_root.l0 k x0 (wrap64 (Int.tdiv (wrap64 ((wrap64 (x3 + x4)) + 1)) 2)) x4) else (trig_root.l0 k x0 x3 (wrap64 ((wrap64 (Int.tdiv (wrap64 ((wrap64 (x3 + x4)) + 1)) 2)) - 1))))) else (some x3)
def trig_root.f (k : Nat) (a0 : Int) : Option (Int) := trig_root.l0 k a0 0 2147483648
theorem trig_root.mono_l : ∀ k, (∀ y0 y1 y2, LeO (trig_root.l0 k y0 y1 y2) (trig_root.l0 (k + 1) y0 y1 y2))
  | 0 => fun _ _ _ r h => by simp [trig_root.l0] at h
  | k + 1 => by
    have ih0 := trig_root.mono_l k
    · intro y0 y1 y2
      unfold trig_root.l0
      repeat' first
      | (with_reducible exact ih0 _ _ _)
      | (with_reducible exact LeO.refl _)
      | (with_reducible exact LeO.none _)
      | (with_reducible refine LeO.ite ?_ ?_)
      | (with_reducible refine LeO.bind ?_ (fun _ => ?_))
      | exact ih0 _ _ _
      | exact LeO.none _
      | refine LeO.ite ?_ ?_
      | refine LeO.bind ?_ (fun _ => ?_)
theorem trig_root.mono : ∀ a0 k, LeO (trig_root.f k a0) (trig_root.f (k + 1) a0) := by
  intro a0 k
  have ih0 := trig_root.mono_l k
  unfold trig_root.f
  repeat' first
      | (with_reducible exact ih0 _ _ _)
      | (with_reducible exact LeO.refl _)
      | (with_reducible exact LeO.none _)
      | (with_reducible refine LeO.ite ?_ ?_)
      | (with_reducible refine LeO.bind ?_ (fun _ => ?_))
      | exact ih0 _ _ _
      | exact LeO.none _
      | refine LeO.ite ?_ ?_
      | refine LeO.bind ?_ (fun _ => ?_)

/-! ### the Lean function trig_Root: function 52 -/
def trig_Root.f (k : Nat) (a0_0 : Int) (a0_1 : Int) : Option (Int × Int × Int) := (interval_Check.f k a0_0 a0_1).bind fun t146 => (if t146 = 0 then (if a0_0 < 0 then (some (0, 0, 1)) else ((trig_root.f k a0_0).bind fun t147 => ((trig_root.f k a0_1).bind fun t148 => (if (wrap64 (t148 * t148)) < a0_1 then (some (t147, wrap64 (t148 + 1), 0)) else (some (t147, t148, 0)))))) else (some (0, 0, t146)))
theorem trig_Root.mono : ∀ a0 a1 k, LeO (trig_Root.f k a0 a1) (trig_Root.f (k + 1) a0 a1) := by
  intro a0 a1 k
  unfold trig_Root.f
  repeat' first
      | (with_reducible exact interval_Check.mono _ _ _)
      | (with_reducible exact trig_root.mono _ _)
      | (with_reducible exact LeO.refl _)
      | (with_reducible exact LeO.none _)
      | (with_reducible refine LeO.ite ?_ ?_)
      | (with_reducible refine LeO.bind ?_ (fun _ => ?_))
      | exact interval_Check.mono _ _ _
      | exact trig_root.mono _ _
      | exact LeO.none _
      | refine LeO.ite ?_ ?_
      | refine LeO.bind ?_ (fun _ => ?_)

/-! ### the Lean function trig_Cos: function 53 -/
def trig_Cos.f (k : Nat) (a0 : Int) : Option (Int × Int × Int) := (trig_out.f a0).bind fun t151 => (if t151 = true then (some (0, 0, 3)) else ((trig_Reduced.f a0).bind fun t152 => ((trig_Sin.f k (wrap64 (t152 + 250000000))).bind fun bt153 => (some (bt153.1, bt153.2.1, bt153.2.2)))))
theorem trig_Cos.mono : ∀ a0 k, LeO (trig_Cos.f k a0) (trig_Cos.f (k + 1) a0) := by
  intro a0 k
  unfold trig_Cos.f
  repeat' first
      | (with_reducible exact trig_Sin.mono _ _)
      | (with_reducible exact LeO.refl _)
      | (with_reducible exact LeO.none _)
      | (with_reducible refine LeO.ite ?_ ?_)
      | (with_reducible refine LeO.bind ?_ (fun _ => ?_))
      | exact trig_Sin.mono _ _
      | exact LeO.none _
      | refine LeO.ite ?_ ?_
      | refine LeO.bind ?_ (fun _ => ?_)

/-! ### the Lean function ephemeriskeep2_has: function 54 -/
def ephemeriskeep2_has.f (a0_0 : Int) (a0_1 : Int) (a1 : Int) (a2 : Int) : Option (Bool) := if a0_0 ≤ a1 then (if a1 ≤ a0_1 then (some (decide ((wrap64 (a0_1 - a0_0)) ≤ a2))) else (some false)) else (some false)

/-! ### the Lean function ephemeriskeep2_trigWorks: function 15 -/
def ephemeriskeep2_trigWorks.f (k : Nat)  : Option (Bool) := (trig_Sin.f k 125000000).bind fun bt157 => ((trig_Arc.f k 5 5 (-5) (-5)).bind fun bt161 => ((trig_Root.f k 2 9).bind fun bt165 => ((trig_Cos.f k 0).bind fun bt169 => (if bt157.2.2 = 0 then ((ephemeriskeep2_has.f bt157.1 bt157.2.1 707106781 3).bind fun t173 => (if t173 = true then (if bt161.2.2 = 0 then ((ephemeriskeep2_has.f bt161.1 bt161.2.1 375000000 3).bind fun t174 => (if t174 = true then (if bt165.2.2 = 0 then (if (bt165.1 == 1 && (bt165.2.1 == 3)) = true then (if bt169.2.2 = 0 then ((ephemeriskeep2_has.f bt169.1 bt169.2.1 1000000000 3).bind fun t175 => (some t175)) else (none)) else (none)) else (none)) else (none))) else (none)) else (none))) else (none)))))
theorem ephemeriskeep2_trigWorks.mono : ∀ k, LeO (ephemeriskeep2_trigWorks.f k ) (ephemeriskeep2_trigWorks.f (k + 1) ) := by
  intro  k
  unfold ephemeriskeep2_trigWorks.f
  repeat' first
      | (with_reducible exact trig_Arc.mono _ _ _ _ _)
      | (with_reducible exact trig_Cos.mono _ _)
      | (with_reducible exact trig_Root.mono _ _ _)
      | (with_reducible exact trig_Sin.mono _ _)
      | (with_reducible exact LeO.refl _)
      | (with_reducible exact LeO.none _)
      | (with_reducible refine LeO.ite ?_ ?_)
      | (with_reducible refine LeO.bind ?_ (fun _ => ?_))
      | exact trig_Arc.mono _ _ _ _ _
      | exact trig_Cos.mono _ _
      | exact trig_Root.mono _ _ _
      | exact trig_Sin.mono _ _
      | exact LeO.none _
      | refine LeO.ite ?_ ?_
      | refine LeO.bind ?_ (fun _ => ?_)

/-! ### the Lean function ephemeriskeep2_cut: function 16 -/
def ephemeriskeep2_cut.f (a0_0 : Int) (a0_1 : Int) (a1 : Int) : Option (Int × Int) := if (wrap64 (a1 + 1)) = 0 then (none) else (some (mn (Int.tmod a0_0 (wrap64 (a1 + 1))) (Int.tmod a0_1 (wrap64 (a1 + 1))), mx (Int.tmod a0_0 (wrap64 (a1 + 1))) (Int.tmod a0_1 (wrap64 (a1 + 1)))))

/-! ### the Lean function trig_passes: function 56 -/
def trig_passes.f (a0_0 : Int) (a0_1 : Int) (a1 : Int) : Option (Bool) := (interval_Floor.f (wrap64 (a0_1 - a1)) 1000000000).bind fun t177 => (some (decide ((wrap64 (t177 * 1000000000)) ≥ (wrap64 (a0_0 - a1)))))

/-! ### the Lean function trig_SinOver: function 17 -/
def trig_SinOver.f (k : Nat) (a0_0 : Int) (a0_1 : Int) : Option (Int × Int × Int) := (interval_Check.f k a0_0 a0_1).bind fun t180 => (if t180 = 0 then ((trig_Sin.f k a0_0).bind fun bt181 => ((trig_Sin.f k a0_1).bind fun bt185 => ((trig_passes.f a0_0 a0_1 250000000).bind fun t190 => (if t190 = true then ((trig_passes.f a0_0 a0_1 750000000).bind fun t191 => (if t191 = true then (some ((-1000000000), 1000000000, 0)) else (some (mn bt181.1 bt185.1, 1000000000, 0)))) else ((trig_passes.f a0_0 a0_1 750000000).bind fun t192 => (if t192 = true then (some ((-1000000000), mx bt181.2.1 bt185.2.1, 0)) else (some (mn bt181.1 bt185.1, mx bt181.2.1 bt185.2.1, 0)))))))) else (some (0, 0, t180)))
theorem trig_SinOver.mono : ∀ a0 a1 k, LeO (trig_SinOver.f k a0 a1) (trig_SinOver.f (k + 1) a0 a1) := by
  intro a0 a1 k
  unfold trig_SinOver.f
  repeat' first
      | (with_reducible exact interval_Check.mono _ _ _)
      | (with_reducible exact trig_Sin.mono _ _)
      | (with_reducible exact LeO.refl _)
      | (with_reducible exact LeO.none _)
      | (with_reducible refine LeO.ite ?_ ?_)
      | (with_reducible refine LeO.bind ?_ (fun _ => ?_))
      | exact interval_Check.mono _ _ _
      | exact trig_Sin.mono _ _
      | exact LeO.none _
      | refine LeO.ite ?_ ?_
      | refine LeO.bind ?_ (fun _ => ?_)

/-! ### the Lean function trig_CosOver: function 18 -/
def trig_CosOver.f (k : Nat) (a0_0 : Int) (a0_1 : Int) : Option (Int × Int × Int) := (interval_Check.f k a0_0 a0_1).bind fun t195 => (if t195 = 0 then ((trig_Reduced.f a0_0).bind fun t196 => ((trig_SinOver.f k (wrap64 (a0_0 + (wrap64 ((wrap64 (t196 + 250000000)) - a0_0)))) (mn (wrap64 (a0_1 + (wrap64 ((wrap64 (t196 + 250000000)) - a0_0)))) (wrap64 ((wrap64 (a0_0 + (wrap64 ((wrap64 (t196 + 250000000)) - a0_0)))) + 1000000000)))).bind fun bt197 => (some (bt197.1, bt197.2.1, bt197.2.2)))) else (some (0, 0, t195)))
theorem trig_CosOver.mono : ∀ a0 a1 k, LeO (trig_CosOver.f k a0 a1) (trig_CosOver.f (k + 1) a0 a1) := by
  intro a0 a1 k
  unfold trig_CosOver.f
  repeat' first
      | (with_reducible exact interval_Check.mono _ _ _)
      | (with_reducible exact trig_SinOver.mono _ _ _)
      | (with_reducible exact LeO.refl _)
      | (with_reducible exact LeO.none _)
      | (with_reducible refine LeO.ite ?_ ?_)
      | (with_reducible refine LeO.bind ?_ (fun _ => ?_))
      | exact interval_Check.mono _ _ _
      | exact trig_SinOver.mono _ _ _
      | exact LeO.none _
      | refine LeO.ite ?_ ?_
      | refine LeO.bind ?_ (fun _ => ?_)

/-! ### the Lean function trig_ArcSin: function 19 -/
def trig_ArcSin.f (k : Nat) (a0_0 : Int) (a0_1 : Int) : Option (Int × Int × Int) := (interval_Check.f k a0_0 a0_1).bind fun t202 => (if t202 = 0 then ((trig_root.f k (wrap64 (1000000000000000000 - (wrap64 ((mx (-1000000000) (mn 1000000000 a0_0)) * (mx (-1000000000) (mn 1000000000 a0_0))))))).bind fun t203 => ((trig_direction.f k (mx (-1000000000) (mn 1000000000 a0_0)) t203).bind fun bt204 => ((trig_root.f k (wrap64 (1000000000000000000 - (wrap64 ((mx (-1000000000) (mn 1000000000 a0_1)) * (mx (-1000000000) (mn 1000000000 a0_1))))))).bind fun t207 => ((trig_direction.f k (mx (-1000000000) (mn 1000000000 a0_1)) t207).bind fun bt208 => (some (mx (-250000000) (wrap64 (bt204.1 - 1)), mn 250000000 (wrap64 (bt208.2 + 1)), 0)))))) else (some (0, 0, t202)))
theorem trig_ArcSin.mono : ∀ a0 a1 k, LeO (trig_ArcSin.f k a0 a1) (trig_ArcSin.f (k + 1) a0 a1) := by
  intro a0 a1 k
  unfold trig_ArcSin.f
  repeat' first
      | (with_reducible exact interval_Check.mono _ _ _)
      | (with_reducible exact trig_direction.mono _ _ _)
      | (with_reducible exact trig_root.mono _ _)
      | (with_reducible exact LeO.refl _)
      | (with_reducible exact LeO.none _)
      | (with_reducible refine LeO.ite ?_ ?_)
      | (with_reducible refine LeO.bind ?_ (fun _ => ?_))
      | exact interval_Check.mono _ _ _
      | exact trig_direction.mono _ _ _
      | exact trig_root.mono _ _
      | exact LeO.none _
      | refine LeO.ite ?_ ?_
      | refine LeO.bind ?_ (fun _ => ?_)

/-! ### the Lean function ephemeriskeep2_holds: function 21 -/
def ephemeriskeep2_holds.f (a0_0 : Int) (a0_1 : Int) (a1_0 : Int) (a1_1 : Int) : Option (Bool) := if a0_0 ≤ a1_0 then (some (decide (a1_1 ≤ a0_1))) else (some false)

/-! ### the Lean function ephemeriskeep2_at: function 24 -/
def ephemeriskeep2_at.f (a0 : Int) (a1 : Int) : Option (Int) := if a1 = 0 then (none) else (some (Int.tmod (wrap64 ((Int.tmod a0 a1) + a1)) a1))

/-! ### the Lean function ephemeriskeep2_same: function 22 -/
def ephemeriskeep2_same.f (a0_0 : Int) (a0_1 : Int) (a1_0 : Int) (a1_1 : Int) : Option (Bool) := (ephemeriskeep2_at.f (wrap64 (a1_0 - a0_0)) 1000000000).bind fun t215 => (if t215 ≤ (wrap64 (a0_1 - a0_0)) then (some true) else (some (decide (t215 ≥ (wrap64 (1000000000 - (wrap64 (a1_1 - a1_0))))))))

/-! ### the Lean function ephemeriskeep2_TrigInverts: function 3 -/
def ephemeriskeep2_TrigInverts.f (k : Nat) (a0_0 : Int) (a0_1 : Int) : Option (Bool) := (ephemeriskeep2_trigWorks.f k).bind fun t217 => (if t217 = true then ((ephemeriskeep2_cut.f a0_0 a0_1 250000000).bind fun bt218 => ((trig_SinOver.f k bt218.1 (mn bt218.2 (wrap64 (bt218.1 + 100000000)))).bind fun bt220 => ((trig_CosOver.f k bt218.1 (mn bt218.2 (wrap64 (bt218.1 + 100000000)))).bind fun bt224 => ((trig_ArcSin.f k bt220.1 bt220.2.1).bind fun bt228 => ((trig_Arc.f k bt220.1 bt220.2.1 bt224.1 bt224.2.1).bind fun bt232 => (if bt220.2.2 = 0 then (if bt224.2.2 = 0 then (if bt228.2.2 = 0 then ((ephemeriskeep2_holds.f bt228.1 bt228.2.1 bt218.1 (mn bt218.2 (wrap64 (bt218.1 + 100000000)))).bind fun t236 => (if t236 = true then (if bt232.2.2 = 11 then (some true) else (if bt232.2.2 = 0 then ((ephemeriskeep2_same.f bt232.1 bt232.2.1 bt218.1 bt218.1).bind fun t237 => (if t237 = true then ((ephemeriskeep2_same.f bt232.1 bt232.2.1 (mn bt218.2 (wrap64 (bt218.1 + 100000000))) (mn bt218.2 (wrap64 (bt218.1 + 100000000)))).bind fun t238 => (some t238)) else (none))) else (none))) else (none))) else (none)) else (none)) else (none))))))) else (none))
theorem ephemeriskeep2_TrigInverts.mono : ∀ a0 a1 k, LeO (ephemeriskeep2_TrigInverts.f k a0 a1) (ephemeriskeep2_TrigInverts.f (k + 1) a0 a1) := by
  intro a0 a1 k
  unfold ephemeriskeep2_TrigInverts.f
  repeat' first
      | (with_reducible exact ephemeriskeep2_trigWorks.mono _)
      | (with_reducible exact trig_Arc.mono _ _ _ _ _)
      | (with_reducible exact trig_ArcSin.mono _ _ _)
      | (with_reducible exact trig_CosOver.mono _ _ _)
      | (with_reducible exact trig_SinOver.mono _ _ _)
      | (with_reducible exact LeO.refl _)
      | (with_reducible exact LeO.none _)
      | (with_reducible refine LeO.ite ?_ ?_)
      | (with_reducible refine LeO.bind ?_ (fun _ => ?_))
      | exact ephemeriskeep2_trigWorks.mono _
      | exact trig_Arc.mono _ _ _ _ _
      | exact trig_ArcSin.mono _ _ _
      | exact trig_CosOver.mono _ _ _
      | exact trig_SinOver.mono _ _ _
      | exact LeO.none _
      | refine LeO.ite ?_ ?_
      | refine LeO.bind ?_ (fun _ => ?_)

/-! ### the Lean function sun_Clamp: function 70 -/
def sun_Clamp.f (a0_0 : Int) (a0_1 : Int) : Option (Int × Int) := some (mx (-1000000000) (mn 1000000000 a0_0), mx (-1000000000) (mn 1000000000 a0_1))

/-! ### the Lean function interval_abs: function 112 -/
def interval_abs.f (a0 : Int) : Option (Int) := if a0 < 0 then (some (wrap64 (-a0))) else (some a0)

/-! ### the Lean function interval_part: function 106 -/
def interval_part.j0 : Nat → Int → Int → Int → Int → Bool → Option (Int × Bool)
  | 0, _, _, _, _, _ => none
  | k + 1, x0, x1, x2, x8, x21 => if x21 = true then (some (0, false)) else ((interval_Floor.f (wrap64 ((wrap64 (x0 - (wrap64 (x8 * x2)))) * x1)) x2).bind fun t243 => ((interval_out.f (wrap64 ((wrap64 (x8 * x1)) + t243))).bind fun t244 => (some (wrap64 ((wrap64 (x8 * x1)) + t243), !t244))))
def interval_part.f (k : Nat) (a0 : Int) (a1 : Int) (a2 : Int) : Option (Int × Bool) := (interval_Floor.f a0 a2).bind fun t241 => (if a1 = 0 then (interval_part.j0 k a0 a1 a2 t241 false) else ((interval_abs.f t241).bind fun t242 => (interval_part.j0 k a0 a1 a2 t241 (decide (t242 > (wrap64 (Int.tdiv (2000000000000000000 : Int) a1)))))))
theorem interval_part.mono_l : ∀ k, (∀ y0 y1 y2 y3 y4, LeO (interval_part.j0 k y0 y1 y2 y3 y4) (interval_part.j0 (k + 1) y0 y1 y2 y3 y4))
  | 0 => fun _ _ _ _ _ r h => by simp [interval_part.j0] at h
  | k + 1 => by
    have ih0 := interval_part.mono_l k
    · intro y0 y1 y2 y3 y4
      unfold interval_part.j0
      repeat' first
      | (with_reducible exact ih0 _ _ _ _ _)
      | (with_reducible exact LeO.refl _)
      | (with_reducible exact LeO.none _)
      | (with_reducible refine LeO.ite ?_ ?_)
      | (with_reducible refine LeO.bind ?_ (fun _ => ?_))
      | exact ih0 _ _ _ _ _
      | exact LeO.none _
      | refine LeO.ite ?_ ?_
      | refine LeO.bind ?_ (fun _ => ?_)
theorem interval_part.mono : ∀ a0 a1 a2 k, LeO (interval_part.f k a0 a1 a2) (interval_part.f (k + 1) a0 a1 a2) := by
  intro a0 a1 a2 k
  have ih0 := interval_part.mono_l k
  unfold interval_part.f
  repeat' first
      | (with_reducible exact ih0 _ _ _ _ _)
      | (with_reducible exact LeO.refl _)
      | (with_reducible exact LeO.none _)
      | (with_reducible refine LeO.ite ?_ ?_)
      | (with_reducible refine LeO.bind ?_ (fun _ => ?_))
      | exact ih0 _ _ _ _ _
      | exact LeO.none _
      | refine LeO.ite ?_ ?_
      | refine LeO.bind ?_ (fun _ => ?_)

/-! ### the Lean function interval_Scale: function 81 -/
def interval_Scale.lo (a0_0 a0_1 a1 a2 : Int) : Int := if a1 < 0 then (-a0_1) * (-a1) / a2 else a0_0 * a1 / a2
def interval_Scale.hi (a0_0 a0_1 a1 a2 : Int) : Int := if a1 < 0 then -(a0_0 * (-a1) / a2) else -((-a0_1) * a1 / a2)
def ScaleOk (a0_0 a0_1 a1 a2 : Int) : Prop := InR a0_0 ∧ a0_0 ≤ a0_1 ∧ InR a0_1 ∧ -1000000000 ≤ a1 ∧ a1 ≤ 1000000000 ∧ 1 ≤ a2 ∧ a2 ≤ 1000000000 ∧ InR (interval_Scale.lo a0_0 a0_1 a1 a2) ∧ InR (interval_Scale.hi a0_0 a0_1 a1 a2)
instance (a b c d : Int) : Decidable (ScaleOk a b c d) := inferInstanceAs (Decidable (_ ∧ _ ∧ _ ∧ _ ∧ _ ∧ _ ∧ _ ∧ _ ∧ _))
def interval_Scale.f (a0_0 : Int) (a0_1 : Int) (a1 : Int) (a2 : Int) : Option (Int × Int × Int) :=
  if ScaleOk a0_0 a0_1 a1 a2 then some (interval_Scale.lo a0_0 a0_1 a1 a2, interval_Scale.hi a0_0 a0_1 a1 a2, 0) else none
theorem sfloor_ {a b : Int} (hb : 0 < b) (hb' : b ≤ 9000000000000000000) (ha : -9000000000000000000 ≤ a) (ha' : a ≤ 9000000000000000000) : interval_Floor.f a b = some (a / b) := by
  have e := Int.emod_add_mul_ediv a b
  have m0 := Int.emod_nonneg a (show b ≠ 0 by omega)
  have m1 := Int.emod_lt_of_pos a hb
  unfold interval_Floor.f
  rw [if_neg (by omega)]
  rcases Int.le_total 0 a with h0 | h0
  · have d0 : 0 ≤ a / b := Int.ediv_nonneg h0 (by omega)
    have d1 : a / b ≤ a := Int.ediv_le_self _ h0
    rw [Int.tdiv_eq_ediv_of_nonneg h0, wrap_in_ (n := a / b) (by omega) (by omega), decide_eq_false (show ¬ a < 0 by omega), decide_eq_false (show ¬ b < 0 by omega)]
    simp
  · have hm : Int.tmod a b = -((-a) % b) := by rw [← Int.tmod_eq_emod_of_nonneg (by omega), Int.neg_tmod, Int.neg_neg]
    have hd : Int.tdiv a b = -((-a) / b) := by rw [← Int.tdiv_eq_ediv_of_nonneg (by omega), Int.neg_tdiv, Int.neg_neg]
    have e' := Int.emod_add_mul_ediv (-a) b
    have m0' := Int.emod_nonneg (-a) (show b ≠ 0 by omega)
    have m1' := Int.emod_lt_of_pos (-a) hb
    have d0 : 0 ≤ (-a) / b := Int.ediv_nonneg (by omega) (by omega)
    have d1 : (-a) / b ≤ -a := Int.ediv_le_self _ (by omega)
    rw [hm, hd, wrap_in_ (n := -((-a) / b)) (by omega) (by omega)]
    clear hm hd e m0 m1
    generalize (-a) / b = q at *
    generalize (-a) % b = m at *
    have n1 : b * (-q) = -(b * q) := Int.mul_neg b q
    have bq : 0 ≤ b * q := Int.mul_nonneg (by omega) d0
    have n2 : b * (-q - 1) = -(b * q) - b := by rw [Int.mul_sub, n1, Int.mul_one]
    by_cases z : m = 0
    · rw [if_pos (by omega)]
      congr 1
      rw [show a = b * (-q) by omega, Int.mul_ediv_cancel_left _ (by omega)]
    · rw [if_neg (by omega), decide_eq_true (show a < 0 by omega), decide_eq_false (show ¬ b < 0 by omega), wrap_in_ (by omega) (by omega)]
      simp only [Bool.true_bne, Bool.not_false, if_true]
      congr 1
      rw [show a = (b - m) + b * (-q - 1) by omega, Int.add_mul_ediv_left _ _ (by omega), Int.ediv_eq_zero_of_lt (by omega) (by omega)]; omega
theorem part_f_ {n m d : Int} (h1 : InR n) (h2 : 0 ≤ m) (h3 : m ≤ 1000000000) (h4 : 1 ≤ d) (h5 : d ≤ 1000000000) (h6 : InR (n * m / d)) : interval_part.f 1 n m d = some (n * m / d, true) := by
  obtain ⟨a1, a2⟩ := h1
  obtain ⟨b1, b2⟩ := h6
  have e := Int.emod_add_mul_ediv n d
  have m0 := Int.emod_nonneg n (show d ≠ 0 by omega)
  have m1 := Int.emod_lt_of_pos n (show 0 < d by omega)
  have q1 : n / d ≤ 1000000000000000000 := Int.ediv_le_of_le_mul (by omega) (by have : 1000000000000000000 * 1 ≤ 1000000000000000000 * d := Int.mul_le_mul_of_nonneg_left h4 (by omega); omega)
  have q0 : -1000000000000000000 ≤ n / d := Int.le_ediv_of_mul_le (by omega) (by have : 1000000000000000000 * 1 ≤ 1000000000000000000 * d := Int.mul_le_mul_of_nonneg_left h4 (by omega); rw [Int.neg_mul]; omega)
  -- the two parts of the quotient
  have key : n / d * m + (n - n / d * d) * m / d = n * m / d := by
    have : n * m = (n - n / d * d) * m + (n / d * m) * d := by
      rw [Int.sub_mul, Int.mul_right_comm (n / d) d m]; omega
    rw [this, Int.add_mul_ediv_right _ _ (by omega)]; omega
  have r : n - n / d * d = n % d := by rw [Int.mul_comm (n / d) d]; omega
  have p0 : 0 ≤ (n - n / d * d) * m := by rw [r]; exact Int.mul_nonneg m0 h2
  have p1 : (n - n / d * d) * m ≤ d * m := by rw [r]; exact Int.mul_le_mul_of_nonneg_right (by omega) h2
  have p2 : d * m ≤ 1000000000 * m := Int.mul_le_mul_of_nonneg_right h5 h2
  have t0 : 0 ≤ (n - n / d * d) * m / d := Int.ediv_nonneg p0 (by omega)
  have t1 : (n - n / d * d) * m / d ≤ m := Int.ediv_le_of_le_mul (by omega) (by rw [Int.mul_comm m d]; exact p1)
  have w1 : n / d * d = n - n % d := by omega
  unfold interval_part.f
  rw [sfloor_ (by omega) (by omega) (by omega) (by omega)]
  simp only [Option.bind_some]
  have last : interval_part.j0 1 n m d (n / d) false = some (n * m / d, true) := by
    simp only [interval_part.j0, Bool.false_eq_true, if_false]
    rw [wrap_in_ (n := n / d * d) (by omega) (by omega), wrap_in_ (n := n - n / d * d) (by omega) (by omega), wrap_in_ (n := (n - n / d * d) * m) (by omega) (by omega), sfloor_ (by omega) (by omega) (by omega) (by omega)]
    simp only [Option.bind_some]
    rw [wrap_in_ (n := n / d * m) (by omega) (by omega), key, wrap_in_ (n := n * m / d) (by omega) (by omega)]
    unfold interval_out.f
    rw [if_neg (by omega), decide_eq_false (by omega)]
    rfl
  by_cases z : m = 0
  · rw [if_pos z]; exact last
  · rw [if_neg z]
    have ab : interval_abs.f (n / d) = some (if n / d < 0 then -(n / d) else n / d) := by
      unfold interval_abs.f
      split
      · rw [wrap_in_ (by omega) (by omega)]
      · rfl
    rw [ab]
    simp only [Option.bind_some]
    have le : (if n / d < 0 then -(n / d) else n / d) ≤ Int.tdiv 2000000000000000000 m := by
      rw [Int.tdiv_eq_ediv_of_nonneg (by omega)]
      refine Int.le_ediv_of_mul_le (by omega) ?_
      split
      · rw [Int.neg_mul]; omega
      · omega
    have up : Int.tdiv 2000000000000000000 m ≤ 2000000000000000000 := by
      rw [Int.tdiv_eq_ediv_of_nonneg (by omega)]; exact Int.ediv_le_self _ (by omega)
    have lo : 0 ≤ Int.tdiv 2000000000000000000 m := by
      rw [Int.tdiv_eq_ediv_of_nonneg (by omega)]; exact Int.ediv_nonneg (by omega) h2
    rw [wrap_in_ (by omega) (by omega), decide_eq_false (by omega)]
    exact last

/-! ### the Lean function interval_both: function 109 -/
def interval_both.f (k : Nat) (a0_0 : Int) (a0_1 : Int) (a1_0 : Int) (a1_1 : Int) : Option (Int) := (interval_Check.f k a0_0 a0_1).bind fun t247 => (if t247 = 0 then ((interval_Check.f k a1_0 a1_1).bind fun t248 => (some t248)) else (some t247))
theorem interval_both.mono : ∀ a0 a1 a2 a3 k, LeO (interval_both.f k a0 a1 a2 a3) (interval_both.f (k + 1) a0 a1 a2 a3) := by
  intro a0 a1 a2 a3 k
  unfold interval_both.f
  repeat' first
      | (with_reducible exact interval_Check.mono _ _ _)
      | (with_reducible exact LeO.refl _)
      | (with_reducible exact LeO.none _)
      | (with_reducible refine LeO.ite ?_ ?_)
      | (with_reducible refine LeO.bind ?_ (fun _ => ?_))
      | exact interval_Check.mono _ _ _
      | exact LeO.none _
      | refine LeO.ite ?_ ?_
      | refine LeO.bind ?_ (fun _ => ?_)

/-! ### the Lean function interval_times: function 110 -/
def interval_times.f (a0 : Int) (a1 : Int) : Option (Int × Bool) := if InR a0 ∧ InR a1 ∧ InR (a0 * a1) then some (a0 * a1, true) else none
theorem abs_f_ {x : Int} (h : InR x) : interval_abs.f x = some (if x < 0 then -x else x) := by
  obtain ⟨h1, h2⟩ := h
  unfold interval_abs.f
  split
  · rw [wrap_in_ (by omega) (by omega)]
  · rfl
theorem quo_ge_ {x y : Int} (y0 : y ≠ 0) (h : InR (x * y)) : (if x < 0 then -x else x) ≤ Int.tdiv 1000000000000000000 (if y < 0 then -y else y) ∧ Int.tdiv 1000000000000000000 (if y < 0 then -y else y) ≤ 1000000000000000000 := by
  obtain ⟨h1, h2⟩ := h
  rw [Int.tdiv_eq_ediv_of_nonneg (by omega)]
  constructor
  · refine Int.le_ediv_of_mul_le (by split <;> omega) ?_
    split <;> split
    · rw [Int.neg_mul_neg]; exact h2
    · rw [Int.neg_mul]; omega
    · rw [Int.mul_neg]; omega
    · exact h2
  · exact Int.ediv_le_self _ (by omega)

/-! ### the Lean function interval_Mul: function 97 -/
def interval_Mul.P (a b c d : Int) : Nat → Int
  | 0 => a * c
  | 1 => a * d
  | 2 => b * c
  | _ => b * d
def interval_Mul.L (a b c d : Int) : Nat → Int
  | 0 => 0
  | 1 => a * c
  | k + 2 => if interval_Mul.P a b c d (k + 1) < interval_Mul.L a b c d (k + 1) then interval_Mul.P a b c d (k + 1) else interval_Mul.L a b c d (k + 1)
def interval_Mul.H (a b c d : Int) : Nat → Int
  | 0 => 0
  | 1 => a * c
  | k + 2 => if interval_Mul.H a b c d (k + 1) < interval_Mul.P a b c d (k + 1) then interval_Mul.P a b c d (k + 1) else interval_Mul.H a b c d (k + 1)
def MulOk (a0_0 a0_1 a1_0 a1_1 : Int) : Prop := InR a0_0 ∧ a0_0 ≤ a0_1 ∧ InR a0_1 ∧ InR a1_0 ∧ a1_0 ≤ a1_1 ∧ InR a1_1 ∧ InR (a0_0 * a1_0) ∧ InR (a0_0 * a1_1) ∧ InR (a0_1 * a1_0) ∧ InR (a0_1 * a1_1)
instance (a b c d : Int) : Decidable (MulOk a b c d) := inferInstanceAs (Decidable (_ ∧ _ ∧ _ ∧ _ ∧ _ ∧ _ ∧ _ ∧ _ ∧ _ ∧ _))
def interval_Mul.f (a0_0 : Int) (a0_1 : Int) (a1_0 : Int) (a1_1 : Int) : Option (Int × Int × Int) :=
  if MulOk a0_0 a0_1 a1_0 a1_1 then some (interval_Mul.L a0_0 a0_1 a1_0 a1_1 4, interval_Mul.H a0_0 a0_1 a1_0 a1_1 4, 0) else none
theorem icheck_f_ {x y : Int} (g1 : InR x) (g2 : x ≤ y) (g3 : InR y) : interval_Check.f 1 x y = some 0 := by
  obtain ⟨a1, a2⟩ := g1
  obtain ⟨b1, b2⟩ := g3
  unfold interval_Check.f interval_out.f
  rw [if_neg (by omega), if_neg (by omega)]
  simp only [Option.bind_some, interval_Check.j0]
  rw [decide_eq_false (by omega), decide_eq_false (by omega)]
  simp only [Bool.false_eq_true, if_false]
  rw [if_neg (by omega)]
theorem both_f_ {a b c d : Int} (h1 : InR a) (h2 : a ≤ b) (h3 : InR b) (h4 : InR c) (h5 : c ≤ d) (h6 : InR d) : interval_both.f 1 a b c d = some 0 := by
  unfold interval_both.f
  rw [icheck_f_ h1 h2 h3, icheck_f_ h4 h5 h6]
  rfl
theorem times_f_ {x y : Int} (hx : InR x) (hy : InR y) (h : InR (x * y)) : interval_times.f x y = some (x * y, true) := by
  unfold interval_times.f
  rw [if_pos ⟨hx, hy, h⟩]
theorem MulOk.times_ {a b c d : Int} (h : MulOk a b c d) : interval_times.f a c = some (interval_Mul.P a b c d 0, true) ∧ interval_times.f a d = some (interval_Mul.P a b c d 1, true) ∧ interval_times.f b c = some (interval_Mul.P a b c d 2, true) ∧ interval_times.f b d = some (interval_Mul.P a b c d 3, true) := by
  obtain ⟨h1, h2, h3, h4, h5, h6, h7, h8, h9, h10⟩ := h
  exact ⟨times_f_ h1 h4 h7, times_f_ h1 h6 h8, times_f_ h3 h4 h9, times_f_ h3 h6 h10⟩

/-! ### the Lean function sun_Unit: function 61 -/
def sun_Unit.f (a0_0 : Int) (a0_1 : Int) (a1_0 : Int) (a1_1 : Int) : Option (Int × Int) := (sun_Clamp.f a0_0 a0_1).bind fun bt252 => ((sun_Clamp.f a1_0 a1_1).bind fun bt254 => ((interval_Mul.f bt252.1 bt252.2 bt254.1 bt254.2).bind fun bt256 => ((interval_Scale.f bt256.1 bt256.2.1 1 1000000000).bind fun bt260 => (some (bt260.1, bt260.2.1)))))

/-! ### the Lean function dial_Line: function 25 -/
mutual
def dial_Line.j0 : Nat → Int → Int → Bool → Option (Int × Int × Int)
  | 0, _, _, _ => none
  | k + 1, x0, x1, x20 => if x20 = true then (some (0, 0, 3)) else (if x1 < 6 then (dial_Line.j1 k x0 x1 true) else (dial_Line.j1 k x0 x1 (decide (x1 > 18))))
def dial_Line.j1 : Nat → Int → Int → Bool → Option (Int × Int × Int)
  | 0, _, _, _ => none
  | k + 1, x0, x1, x27 => if x27 = true then (some (0, 0, 1)) else ((trig_Sin.f k x0).bind fun bt265 => ((trig_Sin.f k (wrap64 (Int.tdiv (wrap64 ((wrap64 (x1 - 12)) * 1000000000)) 24))).bind fun bt269 => ((trig_Cos.f k (wrap64 (Int.tdiv (wrap64 ((wrap64 (x1 - 12)) * 1000000000)) 24))).bind fun bt273 => ((sun_Unit.f bt265.1 bt265.2.1 bt269.1 bt269.2.1).bind fun bt277 => ((trig_Arc.f k bt277.1 bt277.2 bt273.1 bt273.2.1).bind fun bt279 => (if bt279.2.2 = 0 then (if bt279.1 > 500000000 then (some (wrap64 (bt279.1 - 1000000000), wrap64 (bt279.2.1 - 1000000000), 0)) else (some (bt279.1, bt279.2.1, 0))) else (some (0, 0, bt279.2.2))))))))
end
def dial_Line.f (k : Nat) (a0 : Int) (a1 : Int) : Option (Int × Int × Int) := if a0 < 10000000 then (dial_Line.j0 k a0 a1 true) else (dial_Line.j0 k a0 a1 (decide (a0 > 220000000)))
theorem dial_Line.mono_l : ∀ k, (∀ y0 y1 y2, LeO (dial_Line.j0 k y0 y1 y2) (dial_Line.j0 (k + 1) y0 y1 y2)) ∧ (∀ y0 y1 y2, LeO (dial_Line.j1 k y0 y1 y2) (dial_Line.j1 (k + 1) y0 y1 y2))
  | 0 => ⟨fun _ _ _ r h => by simp [dial_Line.j0] at h, fun _ _ _ r h => by simp [dial_Line.j1] at h⟩
  | k + 1 => by
    obtain ⟨ih0, ih1⟩ := dial_Line.mono_l k
    refine ⟨?_, ?_⟩
    · intro y0 y1 y2
      unfold dial_Line.j0
      repeat' first
      | (with_reducible exact ih0 _ _ _)
      | (with_reducible exact ih1 _ _ _)
      | (with_reducible exact trig_Arc.mono _ _ _ _ _)
      | (with_reducible exact trig_Cos.mono _ _)
      | (with_reducible exact trig_Sin.mono _ _)
      | (with_reducible exact LeO.refl _)
      | (with_reducible exact LeO.none _)
      | (with_reducible refine LeO.ite ?_ ?_)
      | (with_reducible refine LeO.bind ?_ (fun _ => ?_))
      | exact ih0 _ _ _
      | exact ih1 _ _ _
      | exact trig_Arc.mono _ _ _ _ _
      | exact trig_Cos.mono _ _
      | exact trig_Sin.mono _ _
      | exact LeO.none _
      | refine LeO.ite ?_ ?_
      | refine LeO.bind ?_ (fun _ => ?_)
    · intro y0 y1 y2
      unfold dial_Line.j1
      repeat' first
      | (with_reducible exact ih0 _ _ _)
      | (with_reducible exact ih1 _ _ _)
      | (with_reducible exact trig_Arc.mono _ _ _ _ _)
      | (with_reducible exact trig_Cos.mono _ _)
      | (with_reducible exact trig_Sin.mono _ _)
      | (with_reducible exact LeO.refl _)
      | (with_reducible exact LeO.none _)
      | (with_reducible refine LeO.ite ?_ ?_)
      | (with_reducible refine LeO.bind ?_ (fun _ => ?_))
      | exact ih0 _ _ _
      | exact ih1 _ _ _
      | exact trig_Arc.mono _ _ _ _ _
      | exact trig_Cos.mono _ _
      | exact trig_Sin.mono _ _
      | exact LeO.none _
      | refine LeO.ite ?_ ?_
      | refine LeO.bind ?_ (fun _ => ?_)
theorem dial_Line.mono : ∀ a0 a1 k, LeO (dial_Line.f k a0 a1) (dial_Line.f (k + 1) a0 a1) := by
  intro a0 a1 k
  obtain ⟨ih0, ih1⟩ := dial_Line.mono_l k
  unfold dial_Line.f
  repeat' first
      | (with_reducible exact ih0 _ _ _)
      | (with_reducible exact ih1 _ _ _)
      | (with_reducible exact trig_Arc.mono _ _ _ _ _)
      | (with_reducible exact trig_Cos.mono _ _)
      | (with_reducible exact trig_Sin.mono _ _)
      | (with_reducible exact LeO.refl _)
      | (with_reducible exact LeO.none _)
      | (with_reducible refine LeO.ite ?_ ?_)
      | (with_reducible refine LeO.bind ?_ (fun _ => ?_))
      | exact ih0 _ _ _
      | exact ih1 _ _ _
      | exact trig_Arc.mono _ _ _ _ _
      | exact trig_Cos.mono _ _
      | exact trig_Sin.mono _ _
      | exact LeO.none _
      | refine LeO.ite ?_ ?_
      | refine LeO.bind ?_ (fun _ => ?_)

/-! ### the Lean function ephemeriskeep2_dialWorks: function 23 -/
def ephemeriskeep2_dialWorks.f (k : Nat)  : Option (Bool) := (dial_Line.f k 125000000 15).bind fun bt283 => (if bt283.2.2 = 0 then ((ephemeriskeep2_has.f bt283.1 bt283.2.1 97956638 50).bind fun t287 => (some t287)) else (none))
theorem ephemeriskeep2_dialWorks.mono : ∀ k, LeO (ephemeriskeep2_dialWorks.f k ) (ephemeriskeep2_dialWorks.f (k + 1) ) := by
  intro  k
  unfold ephemeriskeep2_dialWorks.f
  repeat' first
      | (with_reducible exact dial_Line.mono _ _ _)
      | (with_reducible exact LeO.refl _)
      | (with_reducible exact LeO.none _)
      | (with_reducible refine LeO.ite ?_ ?_)
      | (with_reducible refine LeO.bind ?_ (fun _ => ?_))
      | exact dial_Line.mono _ _ _
      | exact LeO.none _
      | refine LeO.ite ?_ ?_
      | refine LeO.bind ?_ (fun _ => ?_)

/-! ### the Lean function ephemeriskeep2_meets: function 26 -/
def ephemeriskeep2_meets.f (a0_0 : Int) (a0_1 : Int) (a1_0 : Int) (a1_1 : Int) : Option (Bool) := if a0_0 ≤ a1_1 then (some (decide (a1_0 ≤ a0_1))) else (some false)

/-! ### the Lean function ephemeriskeep2_DialSides: function 4 -/
def ephemeriskeep2_DialSides.f (k : Nat) (a0 : Int) (a1 : Int) : Option (Bool) := (ephemeriskeep2_dialWorks.f k).bind fun t290 => (if t290 = true then ((ephemeriskeep2_at.f a0 210000001).bind fun t291 => ((ephemeriskeep2_at.f a1 12).bind fun t292 => ((dial_Line.f k (wrap64 (10000000 + t291)) (wrap64 (6 + t292))).bind fun bt293 => ((dial_Line.f k (wrap64 (10000000 + t291)) (wrap64 (24 - (wrap64 (6 + t292))))).bind fun bt297 => ((dial_Line.f k (wrap64 (10000000 + t291)) (wrap64 ((wrap64 (6 + t292)) + 1))).bind fun bt301 => (if bt293.2.2 = 0 then (if bt297.2.2 = 0 then (if bt301.2.2 = 0 then ((ephemeriskeep2_meets.f bt293.1 bt293.2.1 (wrap64 ((wrap64 (-bt297.2.1)) - 2)) (wrap64 ((wrap64 (-bt297.1)) + 2))).bind fun t305 => (if t305 = true then (some (decide (bt293.2.1 < bt301.1))) else (none))) else (none)) else (none)) else (none))))))) else (none))
theorem ephemeriskeep2_DialSides.mono : ∀ a0 a1 k, LeO (ephemeriskeep2_DialSides.f k a0 a1) (ephemeriskeep2_DialSides.f (k + 1) a0 a1) := by
  intro a0 a1 k
  unfold ephemeriskeep2_DialSides.f
  repeat' first
      | (with_reducible exact dial_Line.mono _ _ _)
      | (with_reducible exact ephemeriskeep2_dialWorks.mono _)
      | (with_reducible exact LeO.refl _)
      | (with_reducible exact LeO.none _)
      | (with_reducible refine LeO.ite ?_ ?_)
      | (with_reducible refine LeO.bind ?_ (fun _ => ?_))
      | exact dial_Line.mono _ _ _
      | exact ephemeriskeep2_dialWorks.mono _
      | exact LeO.none _
      | refine LeO.ite ?_ ?_
      | refine LeO.bind ?_ (fun _ => ?_)
/-- THE ONE PURE STATEMENT of ephemeriskeep2_DialSides: yours. -/
def ephemeriskeep2_DialSides.Pure : Prop := ∀ (a0 : Int) (a1 : Int), (Lit.int .i64 a0).wf = true → (Lit.int .i64 a1).wf = true → ∃ k, ephemeriskeep2_DialSides.f k a0 a1 = some true

/-! ### the Lean function dial_Lines: function 27 -/
def dial_Lines.l0 : Nat → Int → List (S23) → Int → Option ((List (S23)) × Int)
  | 0, _, _, _ => none
  | k + 1, x0, x4, x5 => if x5 ≤ 18 then ((dial_Line.f k x0 x5).bind fun bt306 => (if bt306.2.2 = 0 then (if x4.length < 8796093022208 then (dial_Lines.l0 k x0 (x4 ++ [(⟨bt306.1, bt306.2.1⟩ : S23)]) (wrap64 (x5 + 1))) else (none)) else (some (([] : List (S23)), bt306.2.2)))) else (some (x4, 0))
def dial_Lines.f (k : Nat) (a0 : Int) : Option ((List (S23)) × Int) := dial_Lines.l0 k a0 ([] : List (S23)) 6
theorem dial_Lines.mono_l : ∀ k, (∀ y0 y1 y2, LeO (dial_Lines.l0 k y0 y1 y2) (dial_Lines.l0 (k + 1) y0 y1 y2))
  | 0 => fun _ _ _ r h => by simp [dial_Lines.l0] at h
  | k + 1 => by
    have ih0 := dial_Lines.mono_l k
    · intro y0 y1 y2
      unfold dial_Lines.l0
      repeat' first
      | (with_reducible exact ih0 _ _ _)
      | (with_reducible exact dial_Line.mono _ _ _)
      | (with_reducible exact LeO.refl _)
      | (with_reducible exact LeO.none _)
      | (with_reducible refine LeO.ite ?_ ?_)
      | (with_reducible refine LeO.bind ?_ (fun _ => ?_))
      | exact ih0 _ _ _
      | exact dial_Line.mono _ _ _
      | exact LeO.none _
      | refine LeO.ite ?_ ?_
      | refine LeO.bind ?_ (fun _ => ?_)
theorem dial_Lines.mono : ∀ a0 k, LeO (dial_Lines.f k a0) (dial_Lines.f (k + 1) a0) := by
  intro a0 k
  have ih0 := dial_Lines.mono_l k
  unfold dial_Lines.f
  repeat' first
      | (with_reducible exact ih0 _ _ _)
      | (with_reducible exact dial_Line.mono _ _ _)
      | (with_reducible exact LeO.refl _)
      | (with_reducible exact LeO.none _)
      | (with_reducible refine LeO.ite ?_ ?_)
      | (with_reducible refine LeO.bind ?_ (fun _ => ?_))
      | exact ih0 _ _ _
      | exact dial_Line.mono _ _ _
      | exact LeO.none _
      | refine LeO.ite ?_ ?_
      | refine LeO.bind ?_ (fun _ => ?_)

/-! ### the Lean function ephemeriskeep2_DialNoon: function 5 -/
def ephemeriskeep2_DialNoon.f (k : Nat) (a0 : Int) : Option (Bool) := (ephemeriskeep2_dialWorks.f k).bind fun t313 => (if t313 = true then ((ephemeriskeep2_at.f a0 210000001).bind fun t314 => ((dial_Lines.f k (wrap64 (10000000 + t314))).bind fun bt315 => (if bt315.2 = 0 then (if (bt315.1.length : Int) = 13 then (if 6 < (bt315.1.length : Int) then (if ((rd_T23 bt315.1 6).f0) ≤ 0 then (if ((rd_T23 bt315.1 6).f1) ≥ 0 then (if 0 < (bt315.1.length : Int) then ((ephemeriskeep2_meets.f ((rd_T23 bt315.1 0).f0) ((rd_T23 bt315.1 0).f1) (-250000100) (-249999900)).bind fun t322 => (if t322 = true then (if 12 < (bt315.1.length : Int) then ((ephemeriskeep2_meets.f ((rd_T23 bt315.1 12).f0) ((rd_T23 bt315.1 12).f1) 249999900 250000100).bind fun t324 => (some t324)) else (none)) else (none))) else (none)) else (none)) else (none)) else (none)) else (none)) else (none)))) else (none))
theorem ephemeriskeep2_DialNoon.mono : ∀ a0 k, LeO (ephemeriskeep2_DialNoon.f k a0) (ephemeriskeep2_DialNoon.f (k + 1) a0) := by
  intro a0 k
  unfold ephemeriskeep2_DialNoon.f
  repeat' first
      | (with_reducible exact dial_Lines.mono _ _)
      | (with_reducible exact ephemeriskeep2_dialWorks.mono _)
      | (with_reducible exact LeO.refl _)
      | (with_reducible exact LeO.none _)
      | (with_reducible refine LeO.ite ?_ ?_)
      | (with_reducible refine LeO.bind ?_ (fun _ => ?_))
      | exact dial_Lines.mono _ _
      | exact ephemeriskeep2_dialWorks.mono _
      | exact LeO.none _
      | refine LeO.ite ?_ ?_
      | refine LeO.bind ?_ (fun _ => ?_)
/-- THE ONE PURE STATEMENT of ephemeriskeep2_DialNoon: yours. -/
def ephemeriskeep2_DialNoon.Pure : Prop := ∀ (a0 : Int), (Lit.int .i64 a0).wf = true → ∃ k, ephemeriskeep2_DialNoon.f k a0 = some true

/-- THE ONE PURE STATEMENT of ephemeriskeep2_TrigInverts. -/
def ephemeriskeep2_TrigInverts.Pure : Prop := ∀ (a0_0 : Int) (a0_1 : Int), (Lit.int .i64 a0_0).wf = true → (Lit.int .i64 a0_1).wf = true → ∃ k, ephemeriskeep2_TrigInverts.f k a0_0 a0_1 = some true

end Go.Proofs.Ytmoffcpbmigngaa.JD
