-- Made by a program of this session (wip/hp.py, over the kit's print) out of the translation. Not trusted: Lean checks it.
import Derived.Test.YtoecglgbmhhdnaaJEx0
namespace Go.Proofs.Ytoecglgbmhhdnaa.JE
open Go.RowKit Go.Proofs.YtoecglgbmhhdnaaW.PrintWords Go.Proofs.YtoecglgbmhhdnaaW.PrintLast Go.Proofs.YtoecglgbmhhdnaaW.PrintMore
attribute [local go_sem] max2_int min2_int max_two min_two max_three min_three max_four min_four   -- for this text's walks alone
set_option linter.unusedVariables false
set_option linter.unusedSimpArgs false

theorem wrap_in_ {n : Int} (h : -9223372036854775808 ≤ n) (h' : n ≤ 9223372036854775807) : wrap64 n = n := by
  unfold wrap64; omega
/-- within the range of the bounds of intervals -/
def InR (x : Int) : Prop := -1000000000000000000 ≤ x ∧ x ≤ 1000000000000000000
instance (x : Int) : Decidable (InR x) := inferInstanceAs (Decidable (_ ∧ _))
theorem below_setg {B : Nat} {w W : World} {g j : Nat} {v : Value} (h : Below B w W) (hg : B ≤ g) : Below B w (W.setCell ⟨g, j, none⟩ v) := h.setCell hg _
/-- W is w with blocks added and orders drawn -/
class Gr_ (w : outParam World) (W : World) : Prop where
  at_ : ∀ (g : Nat) (o : Obj), w.heap[g]? = some o → W.heap[g]? = some o
  be_ : ∀ w0 : World, Below w0.heap.size w0 w → Below w0.heap.size w0 W
instance (priority := low) gr_refl_ (w : World) : Gr_ w w := ⟨fun _ _ h => h, fun _ h => h⟩
instance gr_alloc_ (w W : World) (o : Obj) [Gr_ w W] : Gr_ w (W.alloc o) := ⟨fun g _ h => blk_alloc (Gr_.at_ (w := w) (W := W) g _ h) o, fun w0 h => below_alloc (Gr_.be_ (w := w) (W := W) w0 h) o⟩
instance gr_drew_ (w W : World) [Gr_ w W] : Gr_ w W.drew := ⟨fun g _ h => blk_drew (Gr_.at_ (w := w) (W := W) g _ h), fun w0 h => below_drew (Gr_.be_ (w := w) (W := W) w0 h)⟩
instance gr_drewN_ (w W : World) (n : Nat) [Gr_ w W] : Gr_ w (W.drewN n) := ⟨fun g _ h => blk_drewN (Gr_.at_ (w := w) (W := W) g _ h) n, fun w0 h => pw_below_drewN (Gr_.be_ (w := w) (W := W) w0 h) n⟩
theorem grz_ {w W : World} [Gr_ w W] {g : Nat} {o : Obj} (h : w.heap[g]? = some o) : W.heap[g]? = some o := Gr_.at_ g o h
theorem hbz_ {w W w0 : World} [Gr_ w W] (h : Below w0.heap.size w0 w) : Below w0.heap.size w0 W := Gr_.be_ w0 h
theorem nxz_ {w W w1 : World} [Gr_ w W] {g : Nat} {o : Obj} (h : Aside0 (w.heap[g]? = some o)) (hb : Below W.heap.size W w1) : Aside0 (w1.heap[g]? = some o) := ⟨blk_below (grz_ (W := W) h.out) hb⟩
theorem hxz_ {w W w0 w1 : World} [Gr_ w W] (h : Aside0 (Below w0.heap.size w0 w)) (hb : Below W.heap.size W w1) : Aside0 (Below w0.heap.size w0 w1) := ⟨below_step (hbz_ (W := W) h.out) hb⟩
theorem nbz_ {W : World} {g h : Nat} {o : Obj} (e : W.heap[g]? = some o) (hg : h = W.heap.size) : Aside0 (g ≠ h) := ⟨by rw [hg]; exact Nat.ne_of_lt (blk_lt e)⟩
theorem bnz_ {W : World} {g h : Nat} {o : Obj} (e : W.heap[g]? = some o) (hg : h = W.heap.size) : Aside0 (h ≠ g) := ⟨by rw [hg]; exact Nat.ne_of_gt (blk_lt e)⟩
theorem gez_ {W w : World} {h : Nat} (e : Below w.heap.size w W) (hg : h = W.heap.size) : Aside0 (w.heap.size ≤ h) := ⟨by rw [hg]; exact below_size e⟩
/-- stores at two places: the order makes no difference -/
theorem setCell_comm_ (w : World) (b c i j : Nat) (x y : Value) (h : b ≠ c ∨ i ≠ j) : (w.setCell ⟨c, j, none⟩ y).setCell ⟨b, i, none⟩ x = (w.setCell ⟨b, i, none⟩ x).setCell ⟨c, j, none⟩ y := by
  unfold World.setCell
  congr 1
  apply Array.ext_getElem?
  intro k
  simp only [Array.getElem?_modify]
  by_cases h1 : b = k <;> by_cases h2 : c = k
  · subst h1; subst h2
    have hij : i ≠ j := h.resolve_left (fun z => z rfl)
    simp only [if_pos, Option.map_map]
    congr 1
    funext o
    cases o <;> simp only [Function.comp, Option.isSome_none, Bool.false_eq_true, if_false]
    rw [Array.setIfInBounds_comm _ _ hij]
  · simp only [if_pos h1, if_neg h2]
  · simp only [if_neg h1, if_pos h2]
  · simp only [if_neg h1, if_neg h2]
section
variable {P : Program} {ops : Array Oper} {Q : Exit → Act → World → Prop} {md : Region.Mode} {S : World → Prop} {ds : List Nat}
/-- a load that may come up behind a store elsewhere: both orders lead to one place, shown once -/
theorem late_ {i j : Nat} {N : Option Tmp} {v : Value} {oi oj : Oper} {fuel : Nat} {l : Array Bool} {a a1 : Act} {w W1 : World} (X : Prop) (S2 : World → Prop) (li lj lij : Array Bool) (hi : ops[i]? = some oi) (hj : ops[j]? = some oj) (hN : oi.dst = N) (hNj : oj.dst = none)
    (hc : ((Region.ready md ops l == [i, j] || Region.ready md ops l == [j, i]) && l.setIfInBounds i true == li && l.setIfInBounds j true == lj && Region.ready md ops lj == [i] && lj.setIfInBounds i true == lij) = true) (hdi : i ∉ ds) (hdj : j ∈ ds)
    (hy : YieldsIf P ops S2 oi v a) (hs : S2 w) (hs1 : S2 W1) (ha : a.put N v = a1)
    (h2 : ∀ K : Act → World → Prop, K a W1 → if Region.wanted oj (yielded ops a.tmps) = true then Oper.wp P oj a w K Q else K (a.put none undef) w)
    (hX : X) (b1 : X → wpAnyLast P md ops Q S ds (fuel + 1) li a1 w) (b2 : X → wpAnyLast P md ops Q S ds fuel lij a1 W1) : wpAnyLast P md ops Q S ds (fuel + 2) l a w := by
  simp only [Bool.and_eq_true, Bool.or_eq_true, beq_iff_eq] at hc
  obtain ⟨⟨⟨⟨c1, c2⟩, c3⟩, c4⟩, c5⟩ := hc
  subst ha
  subst hN
  have A1 : wpOp P ops Q i (fun a' w' => (i ∉ ds → S w → S w') ∧ wpAnyLast P md ops Q S ds (fuel + 1) (l.setIfInBounds i true) a' w') a w := by
    refine hy.wpOp hi hs ⟨fun _ h => h, ?_⟩
    rw [c2]
    exact b1 hX
  have A2 : wpOp P ops Q j (fun a' w' => (j ∉ ds → S w → S w') ∧ wpAnyLast P md ops Q S ds (fuel + 1) (l.setIfInBounds j true) a' w') a w := by
    refine wpOp_step hj (fun K hK => ?_)
    rw [hNj]
    refine h2 K (hK _ _ ⟨fun h => absurd hdj h, ?_⟩)
    rw [c3]
    refine wpAnyLast_all c4 (by simp) ?_
    intro k hk
    obtain rfl := List.mem_singleton.mp hk
    refine hy.wpOp hi hs1 ⟨fun _ h => h, ?_⟩
    rw [c5]
    exact b2 hX
  rcases c1 with c1 | c1
  · refine wpAnyLast_all c1 (by simp) ?_
    intro k hk
    rcases List.mem_cons.mp hk with rfl | hk
    · exact A1
    · obtain rfl := List.mem_singleton.mp hk
      exact A2
  · refine wpAnyLast_all c1 (by simp) ?_
    intro k hk
    rcases List.mem_cons.mp hk with rfl | hk
    · exact A2
    · obtain rfl := List.mem_singleton.mp hk
      exact A1
end
section
variable {P : Program} {ops : Array Oper} {Q : Exit → Act → World → Prop}
/-- a call of a function value in a plain region -/
theorem goesV_ {rest : List Oper} {oi : Oper} {a : Act} {w : World} (N : Option Tmp) (hd : oi.dst = N) (hg : oi.guard = none) {f : FuncId} {fn : Func} {xs : Array Operand} {ts : Array TypeId} {o : Operand} {cap : Array Value} (hf : P.funcs[f]? = some fn) (hname : (fn.name == "runtime.NumGoroutine") = false) (hb : fn.body.isSome = true)
    (hop : oi.op = .call { callee := .value o, args := xs, argTypes := ts }) (hv : a.eval o = .func (.func f) #[] cap) (args : Array Value) (hargs : xs.map a.eval = args)
    (h : Calls P f (args ++ cap) w fun e w' => ∃ v, e = .returned v ∧ wpList P ops Q rest (a.put N v) w') : wpList P ops Q (oi :: rest) a w := by
  refine wpList_plain hg fun K hK => ?_
  have he := enters_ hf hname hb (args ++ cap) w
  have hrun : (execOp a.eval oi).run P w = .ok (.enter f (args ++ cap)) w := by
    unfold execOp
    simp [hop, resolve, Deferred.ofValue, invoke, hv, hargs, he]
  unfold Oper.wp
  rw [hrun, Oper.upon_enter]
  refine h.mono fun e w'' hh => ?_
  obtain ⟨v, rfl, hk⟩ := hh
  subst hd
  exact hK _ _ hk
/-- The operation calls a function value. -/
theorem gate_value {rest : List Oper} {oi : Oper} {a : Act} {w : World} {x : Operand} {xs : Array Operand} {ts : Array TypeId} (_ho : oi.op = .call { callee := .value x, args := xs, argTypes := ts }) (h : wpList P ops Q (oi :: rest) a w) : wpList P ops Q (oi :: rest) a w := h
end
section
variable {P : Program} {ops : Array Oper} {Q : Exit → Act → World → Prop}
/-- a call in a plain region behind a guard that says yes -/
theorem goesW_ {rest : List Oper} {oi : Oper} {a : Act} {w : World} (N : Option Tmp) (hd : oi.dst = N) (hw : Region.wanted oi (yielded ops a.tmps) = true) {f : FuncId} {fn : Func} {xs : Array Operand} {ts : Array TypeId} (hf : P.funcs[f]? = some fn) (hname : (fn.name == "runtime.NumGoroutine") = false) (hb : fn.body.isSome = true) (args : Array Value)
    (hop : oi.op = .call { callee := .value (.func f), args := xs, argTypes := ts }) (hargs : xs.map a.eval = args)
    (h : Calls P f args w fun e w' => ∃ v, e = .returned v ∧ wpList P ops Q rest (a.put N v) w') : wpList P ops Q (oi :: rest) a w := by
  refine wpList_step fun K hK => ?_
  rw [if_pos hw]
  have he := enters_ hf hname hb args w
  have hrun : (execOp a.eval oi).run P w = .ok (.enter f args) w := by
    unfold execOp
    simp [hop, resolve, Deferred.ofValue, invoke, Act.eval, hargs, he]
  unfold Oper.wp
  rw [hrun, Oper.upon_enter]
  refine h.mono fun e w'' hh => ?_
  obtain ⟨v, rfl, hk⟩ := hh
  subst hd
  exact hK _ _ hk
/-- a call of a function value in a plain region behind a guard that says yes -/
theorem goesVW_ {rest : List Oper} {oi : Oper} {a : Act} {w : World} (N : Option Tmp) (hd : oi.dst = N) (hw : Region.wanted oi (yielded ops a.tmps) = true) {f : FuncId} {fn : Func} {xs : Array Operand} {ts : Array TypeId} {o : Operand} {cap : Array Value} (hf : P.funcs[f]? = some fn) (hname : (fn.name == "runtime.NumGoroutine") = false) (hb : fn.body.isSome = true)
    (hop : oi.op = .call { callee := .value o, args := xs, argTypes := ts }) (hv : a.eval o = .func (.func f) #[] cap) (args : Array Value) (hargs : xs.map a.eval = args)
    (h : Calls P f (args ++ cap) w fun e w' => ∃ v, e = .returned v ∧ wpList P ops Q rest (a.put N v) w') : wpList P ops Q (oi :: rest) a w := by
  refine wpList_step fun K hK => ?_
  rw [if_pos hw]
  have he := enters_ hf hname hb (args ++ cap) w
  have hrun : (execOp a.eval oi).run P w = .ok (.enter f (args ++ cap)) w := by
    unfold execOp
    simp [hop, resolve, Deferred.ofValue, invoke, hv, hargs, he]
  unfold Oper.wp
  rw [hrun, Oper.upon_enter]
  refine h.mono fun e w'' hh => ?_
  obtain ⟨v, rfl, hk⟩ := hh
  subst hd
  exact hK _ _ hk
end

/-! ### the Lean function chron_Check: function 22 -/
mutual
def chron_Check.j0 : Nat → Int → List (S37) → Bool → Option (Int)
  | 0, _, _, _ => none
  | k + 1, x0, x1, x13 => if x13 = true then (some 2) else (if x0 < 1 then (some 8) else (chron_Check.l0 k x0 x1 (x1.length : Int) 0))
def chron_Check.l0 : Nat → Int → List (S37) → Int → Int → Option (Int)
  | 0, _, _, _, _ => none
  | k + 1, x0, x16, x17, x18 => if x18 < x17 then (if 0 ≤ x18 then (if x18 < (x16.length : Int) then (if ((rd_T37 x16 x18).f0) < 0 then (chron_Check.j2 k x0 x16 x17 x18 true ((rd_T37 x16 x18).f0) ((rd_T37 x16 x18).f1) ((rd_T37 x16 x18).f2) ((rd_T37 x16 x18).f3)) else (if ((rd_T37 x16 x18).f0) ≥ x0 then (chron_Check.j2 k x0 x16 x17 x18 true ((rd_T37 x16 x18).f0) ((rd_T37 x16 x18).f1) ((rd_T37 x16 x18).f2) ((rd_T37 x16 x18).f3)) else (if ((rd_T37 x16 x18).f1) < 0 then (chron_Check.j2 k x0 x16 x17 x18 true ((rd_T37 x16 x18).f0) ((rd_T37 x16 x18).f1) ((rd_T37 x16 x18).f2) ((rd_T37 x16 x18).f3)) else (if ((rd_T37 x16 x18).f1) ≥ x0 then (chron_Check.j2 k x0 x16 x17 x18 true ((rd_T37 x16 x18).f0) ((rd_T37 x16 x18).f1) ((rd_T37 x16 x18).f2) ((rd_T37 x16 x18).f3)) else (if ((rd_T37 x16 x18).f2) < (-8000000) then (chron_Check.j2 k x0 x16 x17 x18 true ((rd_T37 x16 x18).f0) ((rd_T37 x16 x18).f1) ((rd_T37 x16 x18).f2) ((rd_T37 x16 x18).f3)) else (chron_Check.j2 k x0 x16 x17 x18 (decide (((rd_T37 x16 x18).f3) > 8000000)) ((rd_T37 x16 x18).f0) ((rd_T37 x16 x18).f1) ((rd_T37 x16 x18).f2) ((rd_T37 x16 x18).f3))))))) else (none)) else (none)) else (some 0)
def chron_Check.j2 : Nat → Int → List (S37) → Int → Int → Bool → Int → Int → Int → Int → Option (Int)
  | 0, _, _, _, _, _, _, _, _, _ => none
  | k + 1, x0, x16, x17, x18, x51, x103000, x103001, x103002, x103003 => if x51 = true then (some 3) else (if x103000 = x103001 then (some 1) else (if x103002 > x103003 then (some 9) else (chron_Check.l0 k x0 x16 x17 (wrap64 (x18 + 1)))))
end
def chron_Check.f (k : Nat) (a0 : Int) (l1 : List (S37)) : Option (Int) := if a0 > 12 then (chron_Check.j0 k a0 l1 true) else (chron_Check.j0 k a0 l1 (decide ((l1.length : Int) > 40)))
theorem chron_Check.mono_l : ∀ k, (∀ y0 y1 y2, LeO (chron_Check.j0 k y0 y1 y2) (chron_Check.j0 (k + 1) y0 y1 y2)) ∧ (∀ y0 y1 y2 y3, LeO (chron_Check.l0 k y0 y1 y2 y3) (chron_Check.l0 (k + 1) y0 y1 y2 y3)) ∧ (∀ y0 y1 y2 y3 y4 y5 y6 y7 y8, LeO (chron_Check.j2 k y0 y1 y2 y3 y4 y5 y6 y7 y8) (chron_Check.j2 (k + 1) y0 y1 y2 y3 y4 y5 y6 y7 y8))
  | 0 => ⟨fun _ _ _ r h => by simp [chron_Check.j0] at h, fun _ _ _ _ r h => by simp [chron_Check.l0] at h, fun _ _ _ _ _ _ _ _ _ r h => by simp [chron_Check.j2] at h⟩
  | k + 1 => by
    obtain ⟨ih0, ih1, ih2⟩ := chron_Check.mono_l k
    refine ⟨?_, ?_, ?_⟩
    · intro y0 y1 y2
      unfold chron_Check.j0
      repeat' first
      | (with_reducible exact ih0 _ _ _)
      | (with_reducible exact ih1 _ _ _ _)
      | (with_reducible exact ih2 _ _ _ _ _ _ _ _ _)
      | (with_reducible exact LeO.refl _)
      | (with_reducible exact LeO.none _)
      | (with_reducible refine LeO.ite ?_ ?_)
      | (with_reducible refine LeO.bind ?_ (fun _ => ?_))
      | exact ih0 _ _ _
      | exact ih1 _ _ _ _
      | exact ih2 _ _ _ _ _ _ _ _ _
      | exact LeO.none _
      | refine LeO.ite ?_ ?_
      | refine LeO.bind ?_ (fun _ => ?_)
    · intro y0 y1 y2 y3
      unfold chron_Check.l0
      repeat' first
      | (with_reducible exact ih0 _ _ _)
      | (with_reducible exact ih1 _ _ _ _)
      | (with_reducible exact ih2 _ _ _ _ _ _ _ _ _)
      | (with_reducible exact LeO.refl _)
      | (with_reducible exact LeO.none _)
      | (with_reducible refine LeO.ite ?_ ?_)
      | (with_reducible refine LeO.bind ?_ (fun _ => ?_))
      | exact ih0 _ _ _
      | exact ih1 _ _ _ _
      | exact ih2 _ _ _ _ _ _ _ _ _
      | exact LeO.none _
      | refine LeO.ite ?_ ?_
      | refine LeO.bind ?_ (fun _ => ?_)
    · intro y0 y1 y2 y3 y4 y5 y6 y7 y8
      unfold chron_Check.j2
      repeat' first
      | (with_reducible exact ih0 _ _ _)
      | (with_reducible exact ih1 _ _ _ _)
      | (with_reducible exact ih2 _ _ _ _ _ _ _ _ _)
      | (with_reducible exact LeO.refl _)
      | (with_reducible exact LeO.none _)
      | (with_reducible refine LeO.ite ?_ ?_)
      | (with_reducible refine LeO.bind ?_ (fun _ => ?_))
      | exact ih0 _ _ _
      | exact ih1 _ _ _ _
      | exact ih2 _ _ _ _ _ _ _ _ _
      | exact LeO.none _
      | refine LeO.ite ?_ ?_
      | refine LeO.bind ?_ (fun _ => ?_)
theorem chron_Check.mono : ∀ a0 a1 k, LeO (chron_Check.f k a0 a1) (chron_Check.f (k + 1) a0 a1) := by
  intro a0 a1 k
  obtain ⟨ih0, ih1, ih2⟩ := chron_Check.mono_l k
  unfold chron_Check.f
  repeat' first
      | (with_reducible exact ih0 _ _ _)
      | (with_reducible exact ih1 _ _ _ _)
      | (with_reducible exact ih2 _ _ _ _ _ _ _ _ _)
      | (with_reducible exact LeO.refl _)
      | (with_reducible exact LeO.none _)
      | (with_reducible refine LeO.ite ?_ ?_)
      | (with_reducible refine LeO.bind ?_ (fun _ => ?_))
      | exact ih0 _ _ _
      | exact ih1 _ _ _ _
      | exact ih2 _ _ _ _ _ _ _ _ _
      | exact LeO.none _
      | refine LeO.ite ?_ ?_
      | refine LeO.bind ?_ (fun _ => ?_)

/-! ### the Lean function chron_most: function 23 -/
mutual
def chron_most.l0 : Nat → Int → List (S37) → List (List Int) → Int → Int → Option ((List (List Int)) × Bool)
  | 0, _, _, _, _, _ => none
  | k + 1, x0, x1, x6, x18, x19 => if x19 < x18 then (if 0 ≤ x0 then (if (x0 : Int).toNat ≤ 35184372088832 then (if 0 ≤ x19 then (if x19 < (x6.length : Int) then ((some (x6.set (x19 : Int).toNat (List.replicate (x0 : Int).toNat 0) : List (List Int))).bind fun y109 => (chron_most.l1 k x0 x1 y109 x19 x18 x19 ((rd_L2 y109 x19).length : Int) 0)) else (none)) else (none)) else (none)) else (none)) else (chron_most.l2 k x0 x6 x1 (x1.length : Int) 0)
def chron_most.l1 : Nat → Int → List (S37) → List (List Int) → Int → Int → Int → Int → Int → Option ((List (List Int)) × Bool)
  | 0, _, _, _, _, _, _, _, _ => none
  | k + 1, x0, x1, x6, x7, x18, x19, x31, x32 => if x32 < x31 then (if x7 = x32 then (chron_most.l1 k x0 x1 x6 x7 x18 x19 x31 (wrap64 (x32 + 1))) else (if 0 ≤ x7 then (if x7 < (x6.length : Int) then (if 0 ≤ x32 then (if x32 < ((rd_L2 x6 x7).length : Int) then (chron_most.l1 k x0 x1 (x6.set (x7 : Int).toNat ((rd_L2 x6 x7).set (x32 : Int).toNat 1000000000)) x7 x18 x19 x31 (wrap64 (x32 + 1))) else (none)) else (none)) else (none)) else (none))) else (chron_most.l0 k x0 x1 x6 x18 (wrap64 (x19 + 1)))
def chron_most.l2 : Nat → Int → List (List Int) → List (S37) → Int → Int → Option ((List (List Int)) × Bool)
  | 0, _, _, _, _, _ => none
  | k + 1, x0, x6, x46, x47, x48 => if x48 < x47 then (if 0 ≤ x48 then (if x48 < (x46.length : Int) then (if 0 ≤ ((rd_T37 x46 x48).f0) then (if ((rd_T37 x46 x48).f0) < (x6.length : Int) then (if 0 ≤ ((rd_T37 x46 x48).f1) then (if ((rd_T37 x46 x48).f1) < ((rd_L2 x6 ((rd_T37 x46 x48).f0)).length : Int) then ((some (x6.set (((rd_T37 x46 x48).f0) : Int).toNat ((rd_L2 x6 ((rd_T37 x46 x48).f0)).set (((rd_T37 x46 x48).f1) : Int).toNat (mn (rd (rd_L2 x6 ((rd_T37 x46 x48).f0)) ((rd_T37 x46 x48).f1)) ((rd_T37 x46 x48).f3))) : List (List Int))).bind fun y122 => (if ((rd_T37 x46 x48).f1) < (x6.length : Int) then (if ((rd_T37 x46 x48).f0) < ((rd_L2 y122 ((rd_T37 x46 x48).f1)).length : Int) then (chron_most.l2 k x0 (y122.set (((rd_T37 x46 x48).f1) : Int).toNat ((rd_L2 y122 ((rd_T37 x46 x48).f1)).set (((rd_T37 x46 x48).f0) : Int).toNat (mn (rd (rd_L2 y122 ((rd_T37 x46 x48).f1)) ((rd_T37 x46 x48).f0)) (wrap64 (-((rd_T37 x46 x48).f2)))))) x46 x47 (wrap64 (x48 + 1))) else (none)) else (none))) else (none)) else (none)) else (none)) else (none)) else (none)) else (none)) else (chron_most.l3 k x0 x6 x0 0)
def chron_most.l3 : Nat → Int → List (List Int) → Int → Int → Option ((List (List Int)) × Bool)
  | 0, _, _, _, _ => none
  | k + 1, x0, x6, x94, x95 => if x95 < x94 then (chron_most.l4 k x0 x6 x95 x94 x95 x0 0) else (some (x6, true))
def chron_most.l4 : Nat → Int → List (List Int) → Int → Int → Int → Int → Int → Option ((List (List Int)) × Bool)
  | 0, _, _, _, _, _, _, _ => none
  | k + 1, x0, x6, x11, x94, x95, x98, x99 => if x99 < x98 then (chron_most.l5 k x0 x6 x11 x99 x94 x95 x98 x99 x0 0) else (chron_most.l6 k x0 x6 x94 x95 x0 0)
def chron_most.l5 : Nat → Int → List (List Int) → Int → Int → Int → Int → Int → Int → Int → Int → Option ((List (List Int)) × Bool)
  | 0, _, _, _, _, _, _, _, _, _, _ => none
  | k + 1, x0, x6, x11, x12, x94, x95, x98, x99, x102, x103 => if x103 < x102 then (if 0 ≤ x12 then (if x12 < (x6.length : Int) then (if 0 ≤ x11 then (if x11 < ((rd_L2 x6 x12).length : Int) then (if (rd (rd_L2 x6 x12) x11) < 1000000000 then (if x11 < (x6.length : Int) then (if 0 ≤ x103 then (if x103 < ((rd_L2 x6 x11).length : Int) then (if (rd (rd_L2 x6 x11) x103) < 1000000000 then (if x103 < ((rd_L2 x6 x12).length : Int) then (chron_most.l5 k x0 (x6.set (x12 : Int).toNat ((rd_L2 x6 x12).set (x103 : Int).toNat (mn (rd (rd_L2 x6 x12) x103) (wrap64 ((rd (rd_L2 x6 x12) x11) + (rd (rd_L2 x6 x11) x103)))))) x11 x12 x94 x95 x98 x99 x102 (wrap64 (x103 + 1))) else (none)) else (chron_most.l5 k x0 x6 x11 x12 x94 x95 x98 x99 x102 (wrap64 (x103 + 1)))) else (none)) else (none)) else (none)) else (chron_most.l5 k x0 x6 x11 x12 x94 x95 x98 x99 x102 (wrap64 (x103 + 1)))) else (none)) else (none)) else (none)) else (none)) else (chron_most.l4 k x0 x6 x11 x94 x95 x98 (wrap64 (x99 + 1)))
def chron_most.l6 : Nat → Int → List (List Int) → Int → Int → Int → Int → Option ((List (List Int)) × Bool)
  | 0, _, _, _, _, _, _ => none
  | k + 1, x0, x6, x94, x95, x155, x156 => if x156 < x155 then (if 0 ≤ x156 then (if x156 < (x6.length : Int) then (if x156 < ((rd_L2 x6 x156).length : Int) then (if (rd (rd_L2 x6 x156) x156) < 0 then (some (([] : List (List Int)), false)) else (chron_most.l6 k x0 x6 x94 x95 x155 (wrap64 (x156 + 1)))) else (none)) else (none)) else (none)) else (chron_most.l3 k x0 x6 x94 (wrap64 (x95 + 1)))
end
def chron_most.f (k : Nat) (a0 : Int) (l1 : List (S37)) : Option ((List (List Int)) × Bool) := if 0 ≤ a0 then (if (a0 : Int).toNat ≤ 11728124029610 then ((some (List.replicate (a0 : Int).toNat [] : List (List Int))).bind fun y103 => (chron_most.l0 k a0 l1 y103 (y103.length : Int) 0)) else (none)) else (none)
theorem chron_most.mono_l : ∀ k, (∀ y0 y1 y2 y3 y4, LeO (chron_most.l0 k y0 y1 y2 y3 y4) (chron_most.l0 (k + 1) y0 y1 y2 y3 y4)) ∧ (∀ y0 y1 y2 y3 y4 y5 y6 y7, LeO (chron_most.l1 k y0 y1 y2 y3 y4 y5 y6 y7) (chron_most.l1 (k + 1) y0 y1 y2 y3 y4 y5 y6 y7)) ∧ (∀ y0 y1 y2 y3 y4, LeO (chron_most.l2 k y0 y1 y2 y3 y4) (chron_most.l2 (k + 1) y0 y1 y2 y3 y4)) ∧ (∀ y0 y1 y2 y3, LeO (chron_most.l3 k y0 y1 y2 y3) (chron_most.l3 (k + 1) y0 y1 y2 y3)) ∧ (∀ y0 y1 y2 y3 y4 y5 y6, LeO (chron_most.l4 k y0 y1 y2 y3 y4 y5 y6) (chron_most.l4 (k + 1) y0 y1 y2 y3 y4 y5 y6)) ∧ (∀ y0 y1 y2 y3 y4 y5 y6 y7 y8 y9, LeO (chron_most.l5 k y0 y1 y2 y3 y4 y5 y6 y7 y8 y9) (chron_most.l5 (k + 1) y0 y1 y2 y3 y4 y5 y6 y7 y8 y9)) ∧ (∀ y0 y1 y2 y3 y4 y5, LeO (chron_most.l6 k y0 y1 y2 y3 y4 y5) (chron_most.l6 (k + 1) y0 y1 y2 y3 y4 y5))
  | 0 => ⟨fun _ _ _ _ _ r h => by simp [chron_most.l0] at h, fun _ _ _ _ _ _ _ _ r h => by simp [chron_most.l1] at h, fun _ _ _ _ _ r h => by simp [chron_most.l2] at h, fun _ _ _ _ r h => by simp [chron_most.l3] at h, fun _ _ _ _ _ _ _ r h => by simp [chron_most.l4] at h, fun _ _ _ _ _ _ _ _ _ _ r h => by simp [chron_most.l5] at h, fun _ _ _ _ _ _ r h => by simp [chron_most.l6] at h⟩
  | k + 1 => by
    obtain ⟨ih0, ih1, ih2, ih3, ih4, ih5, ih6⟩ := chron_most.mono_l k
    refine ⟨?_, ?_, ?_, ?_, ?_, ?_, ?_⟩
    · intro y0 y1 y2 y3 y4
      unfold chron_most.l0
      repeat' first
      | (with_reducible exact ih0 _ _ _ _ _)
      | (with_reducible exact ih1 _ _ _ _ _ _ _ _)
      | (with_reducible exact ih2 _ _ _ _ _)
      | (with_reducible exact ih3 _ _ _ _)
      | (with_reducible exact ih4 _ _ _ _ _ _ _)
      | (with_reducible exact ih5 _ _ _ _ _ _ _ _ _ _)
      | (with_reducible exact ih6 _ _ _ _ _ _)
      | (with_reducible exact LeO.refl _)
      | (with_reducible exact LeO.none _)
      | (with_reducible refine LeO.ite ?_ ?_)
      | (with_reducible refine LeO.bind ?_ (fun _ => ?_))
      | exact ih0 _ _ _ _ _
      | exact ih1 _ _ _ _ _ _ _ _
      | exact ih2 _ _ _ _ _
      | exact ih3 _ _ _ _
      | exact ih4 _ _ _ _ _ _ _
      | exact ih5 _ _ _ _ _ _ _ _ _ _
      | exact ih6 _ _ _ _ _ _
      | exact LeO.none _
      | refine LeO.ite ?_ ?_
      | refine LeO.bind ?_ (fun _ => ?_)
    · intro y0 y1 y2 y3 y4 y5 y6 y7
      unfold chron_most.l1
      repeat' first
      | (with_reducible exact ih0 _ _ _ _ _)
      | (with_reducible exact ih1 _ _ _ _ _ _ _ _)
      | (with_reducible exact ih2 _ _ _ _ _)
      | (with_reducible exact ih3 _ _ _ _)
      | (with_reducible exact ih4 _ _ _ _ _ _ _)
      | (with_reducible exact ih5 _ _ _ _ _ _ _ _ _ _)
      | (with_reducible exact ih6 _ _ _ _ _ _)
      | (with_reducible exact LeO.refl _)
      | (with_reducible exact LeO.none _)
      | (with_reducible refine LeO.ite ?_ ?_)
      | (with_reducible refine LeO.bind ?_ (fun _ => ?_))
      | exact ih0 _ _ _ _ _
      | exact ih1 _ _ _ _ _ _ _ _
      | exact ih2 _ _ _ _ _
      | exact ih3 _ _ _ _
      | exact ih4 _ _ _ _ _ _ _
      | exact ih5 _ _ _ _ _ _ _ _ _ _
      | exact ih6 _ _ _ _ _ _
      | exact LeO.none _
      | refine LeO.ite ?_ ?_
      | refine LeO.bind ?_ (fun _ => ?_)
    · intro y0 y1 y2 y3 y4
      unfold chron_most.l2
      repeat' first
      | (with_reducible exact ih0 _ _ _ _ _)
      | (with_reducible exact ih1 _ _ _ _ _ _ _ _)
      | (with_reducible exact ih2 _ _ _ _ _)
      | (with_reducible exact ih3 _ _ _ _)
      | (with_reducible exact ih4 _ _ _ _ _ _ _)
      | (with_reducible exact ih5 _ _ _ _ _ _ _ _ _ _)
      | (with_reducible exact ih6 _ _ _ _ _ _)
      | (with_reducible exact LeO.refl _)
      | (with_reducible exact LeO.none _)
      | (with_reducible refine LeO.ite ?_ ?_)
      | (with_reducible refine LeO.bind ?_ (fun _ => ?_))
      | exact ih0 _ _ _ _ _
      | exact ih1 _ _ _ _ _ _ _ _
      | exact ih2 _ _ _ _ _
      | exact ih3 _ _ _ _
      | exact ih4 _ _ _ _ _ _ _
      | exact ih5 _ _ _ _ _ _ _ _ _ _
      | exact ih6 _ _ _ _ _ _
      | exact LeO.none _
      | refine LeO.ite ?_ ?_
      | refine LeO.bind ?_ (fun _ => ?_)
    · intro y0 y1 y2 y3
      unfold chron_most.l3
      repeat' first
      | (with_reducible exact ih0 _ _ _ _ _)
      | (with_reducible exact ih1 _ _ _ _ _ _ _ _)
      | (with_reducible exact ih2 _ _ _ _ _)
      | (with_reducible exact ih3 _ _ _ _)
      | (with_reducible exact ih4 _ _ _ _ _ _ _)
      | (with_reducible exact ih5 _ _ _ _ _ _ _ _ _ _)
      | (with_reducible exact ih6 _ _ _ _ _ _)
      | (with_reducible exact LeO.refl _)
      | (with_reducible exact LeO.none _)
      | (with_reducible refine LeO.ite ?_ ?_)
      | (with_reducible refine LeO.bind ?_ (fun _ => ?_))
      | exact ih0 _ _ _ _ _
      | exact ih1 _ _ _ _ _ _ _ _
      | exact ih2 _ _ _ _ _
      | exact ih3 _ _ _ _
      | exact ih4 _ _ _ _ _ _ _
      | exact ih5 _ _ _ _ _ _ _ _ _ _
      | exact ih6 _ _ _ _ _ _
      | exact LeO.none _
      | refine LeO.ite ?_ ?_
      | refine LeO.bind ?_ (fun _ => ?_)
    · intro y0 y1 y2 y3 y4 y5 y6
      unfold chron_most.l4
      repeat' first
      | (with_reducible exact ih0 _ _ _ _ _)
      | (with_reducible exact ih1 _ _ _ _ _ _ _ _)
      | (with_reducible exact ih2 _ _ _ _ _)
      | (with_reducible exact ih3 _ _ _ _)
      | (with_reducible exact ih4 _ _ _ _ _ _ _)
      | (with_reducible exact ih5 _ _ _ _ _ _ _ _ _ _)
      | (with_reducible exact ih6 _ _ _ _ _ _)
      | (with_reducible exact LeO.refl _)
      | (with_reducible exact LeO.none _)
      | (with_reducible refine LeO.ite ?_ ?_)
      | (with_reducible refine LeO.bind ?_ (fun _ => ?_))
      | exact ih0 _ _ _ _ _
      | exact ih1 _ _ _ _ _ _ _ _
      | exact ih2 _ _ _ _ _
      | exact ih3 _ _ _ _
      | exact ih4 _ _ _ _ _ _ _
      | exact ih5 _ _ _ _ _ _ _ _ _ _
      | exact ih6 _ _ _ _ _ _
      | exact LeO.none _
      | refine LeO.ite ?_ ?_
      | refine LeO.bind ?_ (fun _ => ?_)
    · intro y0 y1 y2 y3 y4 y5 y6 y7 y8 y9
      unfold chron_most.l5
      repeat' first
      | (with_reducible exact ih0 _ _ _ _ _)
      | (with_reducible exact ih1 _ _ _ _ _ _ _ _)
      | (with_reducible exact ih2 _ _ _ _ _)
      | (with_reducible exact ih3 _ _ _ _)
      | (with_reducible exact ih4 _ _ _ _ _ _ _)
      | (with_reducible exact ih5 _ _ _ _ _ _ _ _ _ _)
      | (with_reducible exact ih6 _ _ _ _ _ _)
      | (with_reducible exact LeO.refl _)
      | (with_reducible exact LeO.none _)
      | (with_reducible refine LeO.ite ?_ ?_)
      | (with_reducible refine LeO.bind ?_ (fun _ => ?_))
      | exact ih0 _ _ _ _ _
      | exact ih1 _ _ _ _ _ _ _ _
      | exact ih2 _ _ _ _ _
      | exact ih3 _ _ _ _
      | exact ih4 _ _ _ _ _ _ _
      | exact ih5 _ _ _ _ _ _ _ _ _ _
      | exact ih6 _ _ _ _ _ _
      | exact LeO.none _
      | refine LeO.ite ?_ ?_
      | refine LeO.bind ?_ (fun _ => ?_)
    · intro y0 y1 y2 y3 y4 y5
      unfold chron_most.l6
      repeat' first
      | (with_reducible exact ih0 _ _ _ _ _)
      | (with_reducible exact ih1 _ _ _ _ _ _ _ _)
      | (with_reducible exact ih2 _ _ _ _ _)
      | (with_reducible exact ih3 _ _ _ _)
      | (with_reducible exact ih4 _ _ _ _ _ _ _)
      | (with_reducible exact ih5 _ _ _ _ _ _ _ _ _ _)
      | (with_reducible exact ih6 _ _ _ _ _ _)
      | (with_reducible exact LeO.refl _)
      | (with_reducible exact LeO.none _)
      | (with_reducible refine LeO.ite ?_ ?_)
      | (with_reducible refine LeO.bind ?_ (fun _ => ?_))
      | exact ih0 _ _ _ _ _
      | exact ih1 _ _ _ _ _ _ _ _
      | exact ih2 _ _ _ _ _
      | exact ih3 _ _ _ _
      | exact ih4 _ _ _ _ _ _ _
      | exact ih5 _ _ _ _ _ _ _ _ _ _
      | exact ih6 _ _ _ _ _ _
      | exact LeO.none _
      | refine LeO.ite ?_ ?_
      | refine LeO.bind ?_ (fun _ => ?_)
theorem chron_most.mono : ∀ a0 a1 k, LeO (chron_most.f k a0 a1) (chron_most.f (k + 1) a0 a1) := by
  intro a0 a1 k
  obtain ⟨ih0, ih1, ih2, ih3, ih4, ih5, ih6⟩ := chron_most.mono_l k
  unfold chron_most.f
  repeat' first
      | (with_reducible exact ih0 _ _ _ _ _)
      | (with_reducible exact ih1 _ _ _ _ _ _ _ _)
      | (with_reducible exact ih2 _ _ _ _ _)
      | (with_reducible exact ih3 _ _ _ _)
      | (with_reducible exact ih4 _ _ _ _ _ _ _)
      | (with_reducible exact ih5 _ _ _ _ _ _ _ _ _ _)
      | (with_reducible exact ih6 _ _ _ _ _ _)
      | (with_reducible exact LeO.refl _)
      | (with_reducible exact LeO.none _)
      | (with_reducible refine LeO.ite ?_ ?_)
      | (with_reducible refine LeO.bind ?_ (fun _ => ?_))
      | exact ih0 _ _ _ _ _
      | exact ih1 _ _ _ _ _ _ _ _
      | exact ih2 _ _ _ _ _
      | exact ih3 _ _ _ _
      | exact ih4 _ _ _ _ _ _ _
      | exact ih5 _ _ _ _ _ _ _ _ _ _
      | exact ih6 _ _ _ _ _ _
      | exact LeO.none _
      | refine LeO.ite ?_ ?_
      | refine LeO.bind ?_ (fun _ => ?_)

/-! ### the Lean function chron_Tightest: function 9 -/
mutual
def chron_Tightest.l0 : Nat → Int → List (List Int) → List (List (S34)) → Int → Int → Option ((List (List (S34))) × Int)
  | 0, _, _, _, _, _ => none
  | k + 1, x0, x7, x9, x29, x30 => if x30 < x29 then (chron_Tightest.l1 k x0 x7 x9 x30 x29 x30 x0 0) else (some (x9, 0))
def chron_Tightest.l1 : Nat → Int → List (List Int) → List (List (S34)) → Int → Int → Int → Int → Int → Option ((List (List (S34))) × Int)
  | 0, _, _, _, _, _, _, _, _ => none
  | k + 1, x0, x7, x9, x10, x29, x30, x33, x34 => if x34 < x33 then (if 0 ≤ x10 then (if x10 < (x9.length : Int) then (if 0 ≤ x34 then (if x34 < (x7.length : Int) then (if x10 < ((rd_L2 x7 x34).length : Int) then (if x10 < (x7.length : Int) then (if x34 < ((rd_L2 x7 x10).length : Int) then (if (rd_L4 x9 x10).length < 8796093022208 then (chron_Tightest.l1 k x0 x7 (x9.set (x10 : Int).toNat ((rd_L4 x9 x10) ++ [(⟨wrap64 (-(rd (rd_L2 x7 x34) x10)), rd (rd_L2 x7 x10) x34⟩ : S34)])) x10 x29 x30 x33 (wrap64 (x34 + 1))) else (none)) else (none)) else (none)) else (none)) else (none)) else (none)) else (none)) else (none)) else (chron_Tightest.l0 k x0 x7 x9 x29 (wrap64 (x30 + 1)))
end
def chron_Tightest.f (k : Nat) (a0 : Int) (l1 : List (S37)) : Option ((List (List (S34))) × Int) := (chron_Check.f k a0 l1).bind fun t146 => (if t146 = 0 then ((chron_most.f k a0 l1).bind fun bt147 => (if bt147.2 = true then (if 0 ≤ a0 then (if (a0 : Int).toNat ≤ 11728124029610 then ((some (List.replicate (a0 : Int).toNat [] : List (List (S34)))).bind fun y151 => (chron_Tightest.l0 k a0 bt147.1 y151 (y151.length : Int) 0)) else (none)) else (none)) else (some (([] : List (List (S34))), 10)))) else (some (([] : List (List (S34))), t146)))
theorem chron_Tightest.mono_l : ∀ k, (∀ y0 y1 y2 y3 y4, LeO (chron_Tightest.l0 k y0 y1 y2 y3 y4) (chron_Tightest.l0 (k + 1) y0 y1 y2 y3 y4)) ∧ (∀ y0 y1 y2 y3 y4 y5 y6 y7, LeO (chron_Tightest.l1 k y0 y1 y2 y3 y4 y5 y6 y7) (chron_Tightest.l1 (k + 1) y0 y1 y2 y3 y4 y5 y6 y7))
  | 0 => ⟨fun _ _ _ _ _ r h => by simp [chron_Tightest.l0] at h, fun _ _ _ _ _ _ _ _ r h => by simp [chron_Tightest.l1] at h⟩
  | k + 1 => by
    obtain ⟨ih0, ih1⟩ := chron_Tightest.mono_l k
    refine ⟨?_, ?_⟩
    · intro y0 y1 y2 y3 y4
      unfold chron_Tightest.l0
      repeat' first
      | (with_reducible exact ih0 _ _ _ _ _)
      | (with_reducible exact ih1 _ _ _ _ _ _ _ _)
      | (with_reducible exact chron_Check.mono _ _ _)
      | (with_reducible exact chron_most.mono _ _ _)
      | (with_reducible exact LeO.refl _)
      | (with_reducible exact LeO.none _)
      | (with_reducible refine LeO.ite ?_ ?_)
      | (with_reducible refine LeO.bind ?_ (fun _ => ?_))
      | exact ih0 _ _ _ _ _
      | exact ih1 _ _ _ _ _ _ _ _
      | exact chron_Check.mono _ _ _
      | exact chron_most.mono _ _ _
      | exact LeO.none _
      | refine LeO.ite ?_ ?_
      | refine LeO.bind ?_ (fun _ => ?_)
    · intro y0 y1 y2 y3 y4 y5 y6 y7
      unfold chron_Tightest.l1
      repeat' first
      | (with_reducible exact ih0 _ _ _ _ _)
      | (with_reducible exact ih1 _ _ _ _ _ _ _ _)
      | (with_reducible exact chron_Check.mono _ _ _)
      | (with_reducible exact chron_most.mono _ _ _)
      | (with_reducible exact LeO.refl _)
      | (with_reducible exact LeO.none _)
      | (with_reducible refine LeO.ite ?_ ?_)
      | (with_reducible refine LeO.bind ?_ (fun _ => ?_))
      | exact ih0 _ _ _ _ _
      | exact ih1 _ _ _ _ _ _ _ _
      | exact chron_Check.mono _ _ _
      | exact chron_most.mono _ _ _
      | exact LeO.none _
      | refine LeO.ite ?_ ?_
      | refine LeO.bind ?_ (fun _ => ?_)
theorem chron_Tightest.mono : ∀ a0 a1 k, LeO (chron_Tightest.f k a0 a1) (chron_Tightest.f (k + 1) a0 a1) := by
  intro a0 a1 k
  obtain ⟨ih0, ih1⟩ := chron_Tightest.mono_l k
  unfold chron_Tightest.f
  repeat' first
      | (with_reducible exact ih0 _ _ _ _ _)
      | (with_reducible exact ih1 _ _ _ _ _ _ _ _)
      | (with_reducible exact chron_Check.mono _ _ _)
      | (with_reducible exact chron_most.mono _ _ _)
      | (with_reducible exact LeO.refl _)
      | (with_reducible exact LeO.none _)
      | (with_reducible refine LeO.ite ?_ ?_)
      | (with_reducible refine LeO.bind ?_ (fun _ => ?_))
      | exact ih0 _ _ _ _ _
      | exact ih1 _ _ _ _ _ _ _ _
      | exact chron_Check.mono _ _ _
      | exact chron_most.mono _ _ _
      | exact LeO.none _
      | refine LeO.ite ?_ ?_
      | refine LeO.bind ?_ (fun _ => ?_)

/-! ### the Lean function ephemeristop_sChron: function 6 -/
def ephemeristop_sChron.f (k : Nat)  : Option (Bool) := (chron_Tightest.f k 2 (([(⟨0, 1, 10, 20⟩ : S37)] : List (S37)))).bind fun bt166 => (if bt166.2 = 0 then (if (bt166.1.length : Int) = 2 then (if 0 < (bt166.1.length : Int) then (if ((rd_L4 bt166.1 0).length : Int) = 2 then (if 1 < ((rd_L4 bt166.1 0).length : Int) then (some (((rd_T34 (rd_L4 bt166.1 0) 1).f0) == 10 && (((rd_T34 (rd_L4 bt166.1 0) 1).f1) == 20))) else (none)) else (some false)) else (none)) else (some false)) else (some false))
theorem ephemeristop_sChron.mono : ∀ k, LeO (ephemeristop_sChron.f k ) (ephemeristop_sChron.f (k + 1) ) := by
  intro  k
  unfold ephemeristop_sChron.f
  repeat' first
      | (with_reducible exact chron_Tightest.mono _ _ _)
      | (with_reducible exact LeO.refl _)
      | (with_reducible exact LeO.none _)
      | (with_reducible refine LeO.ite ?_ ?_)
      | (with_reducible refine LeO.bind ?_ (fun _ => ?_))
      | exact chron_Tightest.mono _ _ _
      | exact LeO.none _
      | refine LeO.ite ?_ ?_
      | refine LeO.bind ?_ (fun _ => ?_)

/-! ### the Lean function ephemeristop_sAt: function 8 -/
def ephemeristop_sAt.f (a0 : Int) (a1 : Int) : Option (Int) := if a1 = 0 then (none) else (some (Int.tmod (wrap64 ((Int.tmod a0 a1) + a1)) a1))

/-! ### the Lean function ephemeristop_sEvents: function 7 -/
mutual
def ephemeristop_sEvents.l0 : Nat → List Int → Int → List (S37) → List (S37) → Int → Int → Option (Int × (List (S37)))
  | 0, _, _, _, _, _, _ => none
  | k + 1, x0, x6, x7, x16, x17, x18 => if x18 < x17 then (if 0 ≤ x18 then (if x18 < (x16.length : Int) then (if x18 = 20 then (ephemeristop_sEvents.j1 k x0 x6 x7 x16 x17 x18 true ((rd_T37 x16 x18).f0) ((rd_T37 x16 x18).f1) ((rd_T37 x16 x18).f2) ((rd_T37 x16 x18).f3)) else (ephemeristop_sEvents.j1 k x0 x6 x7 x16 x17 x18 (decide (x6 < 2)) ((rd_T37 x16 x18).f0) ((rd_T37 x16 x18).f1) ((rd_T37 x16 x18).f2) ((rd_T37 x16 x18).f3))) else (none)) else (none)) else (some (x6, x7))
def ephemeristop_sEvents.j1 : Nat → List Int → Int → List (S37) → List (S37) → Int → Int → Bool → Int → Int → Int → Int → Option (Int × (List (S37)))
  | 0, _, _, _, _, _, _, _, _, _, _, _ => none
  | k + 1, x0, x6, x7, x16, x17, x18, x28, x175000, x175001, x175002, x175003 => if x28 = true then (some (x6, x7)) else ((ephemeristop_sAt.f x175000 x6).bind fun t175 => ((ephemeristop_sAt.f x175001 (wrap64 (x6 - 1))).bind fun t176 => (if x6 = 0 then (none) else (if 0 ≤ (Int.tmod (wrap64 ((wrap64 (t175 + 1)) + t176)) x6) then (if (Int.tmod (wrap64 ((wrap64 (t175 + 1)) + t176)) x6) < (x0.length : Int) then (if 0 ≤ t175 then (if t175 < (x0.length : Int) then ((ephemeristop_sAt.f x175002 50).bind fun t179 => ((ephemeristop_sAt.f x175003 50).bind fun t180 => (if x7.length < 4398046511104 then (ephemeristop_sEvents.l0 k x0 x6 (x7 ++ [(⟨t175, Int.tmod (wrap64 ((wrap64 (t175 + 1)) + t176)) x6, wrap64 ((wrap64 ((Int.tmod (rd x0 (Int.tmod (wrap64 ((wrap64 (t175 + 1)) + t176)) x6)) 10000) - (Int.tmod (rd x0 t175) 10000))) - t179), wrap64 ((wrap64 ((Int.tmod (rd x0 (Int.tmod (wrap64 ((wrap64 (t175 + 1)) + t176)) x6)) 10000) - (Int.tmod (rd x0 t175) 10000))) + t180)⟩ : S37)]) x16 x17 (wrap64 (x18 + 1))) else (none)))) else (none)) else (none)) else (none)) else (none)))))
end
def ephemeristop_sEvents.f (k : Nat) (l0 : List Int) (l1 : List (S37)) : Option (Int × (List (S37))) := ephemeristop_sEvents.l0 k l0 (mn (l0.length : Int) 8) ([] : List (S37)) l1 (l1.length : Int) 0
theorem ephemeristop_sEvents.mono_l : ∀ k, (∀ y0 y1 y2 y3 y4 y5, LeO (ephemeristop_sEvents.l0 k y0 y1 y2 y3 y4 y5) (ephemeristop_sEvents.l0 (k + 1) y0 y1 y2 y3 y4 y5)) ∧ (∀ y0 y1 y2 y3 y4 y5 y6 y7 y8 y9 y10, LeO (ephemeristop_sEvents.j1 k y0 y1 y2 y3 y4 y5 y6 y7 y8 y9 y10) (ephemeristop_sEvents.j1 (k + 1) y0 y1 y2 y3 y4 y5 y6 y7 y8 y9 y10))
  | 0 => ⟨fun _ _ _ _ _ _ r h => by simp [ephemeristop_sEvents.l0] at h, fun _ _ _ _ _ _ _ _ _ _ _ r h => by simp [ephemeristop_sEvents.j1] at h⟩
  | k + 1 => by
    obtain ⟨ih0, ih1⟩ := ephemeristop_sEvents.mono_l k
    refine ⟨?_, ?_⟩
    · intro y0 y1 y2 y3 y4 y5
      unfold ephemeristop_sEvents.l0
      repeat' first
      | (with_reducible exact ih0 _ _ _ _ _ _)
      | (with_reducible exact ih1 _ _ _ _ _ _ _ _ _ _ _)
      | (with_reducible exact LeO.refl _)
      | (with_reducible exact LeO.none _)
      | (with_reducible refine LeO.ite ?_ ?_)
      | (with_reducible refine LeO.bind ?_ (fun _ => ?_))
      | exact ih0 _ _ _ _ _ _
      | exact ih1 _ _ _ _ _ _ _ _ _ _ _
      | exact LeO.none _
      | refine LeO.ite ?_ ?_
      | refine LeO.bind ?_ (fun _ => ?_)
    · intro y0 y1 y2 y3 y4 y5 y6 y7 y8 y9 y10
      unfold ephemeristop_sEvents.j1
      repeat' first
      | (with_reducible exact ih0 _ _ _ _ _ _)
      | (with_reducible exact ih1 _ _ _ _ _ _ _ _ _ _ _)
      | (with_reducible exact LeO.refl _)
      | (with_reducible exact LeO.none _)
      | (with_reducible refine LeO.ite ?_ ?_)
      | (with_reducible refine LeO.bind ?_ (fun _ => ?_))
      | exact ih0 _ _ _ _ _ _
      | exact ih1 _ _ _ _ _ _ _ _ _ _ _
      | exact LeO.none _
      | refine LeO.ite ?_ ?_
      | refine LeO.bind ?_ (fun _ => ?_)
theorem ephemeristop_sEvents.mono : ∀ a0 a1 k, LeO (ephemeristop_sEvents.f k a0 a1) (ephemeristop_sEvents.f (k + 1) a0 a1) := by
  intro a0 a1 k
  obtain ⟨ih0, ih1⟩ := ephemeristop_sEvents.mono_l k
  unfold ephemeristop_sEvents.f
  repeat' first
      | (with_reducible exact ih0 _ _ _ _ _ _)
      | (with_reducible exact ih1 _ _ _ _ _ _ _ _ _ _ _)
      | (with_reducible exact LeO.refl _)
      | (with_reducible exact LeO.none _)
      | (with_reducible refine LeO.ite ?_ ?_)
      | (with_reducible refine LeO.bind ?_ (fun _ => ?_))
      | exact ih0 _ _ _ _ _ _
      | exact ih1 _ _ _ _ _ _ _ _ _ _ _
      | exact LeO.none _
      | refine LeO.ite ?_ ?_
      | refine LeO.bind ?_ (fun _ => ?_)

/-! ### the Lean function ephemeristop_TopChron: function 3 -/
mutual
def ephemeristop_TopChron.j0 : Nat → List (S37) → Int → Int → Int → List (List (S34)) → Bool → Option (Bool)
 | 0, _, _, _, _, _, _ => none
 | k + 1, x1, x2, x3, x9, x10, x65 => if x65 = true then (none) else (if 0 ≤ x2 then (if x2 < (x10.length : Int) then (if 0 ≤ x3 then (if x3 < ((rd_L4 x10 x2).length : Int) then (if ((rd_T34 (rd_L4 x10 x2) x3).f1) ≥ 1000000 then (ephemeristop_TopChron.j1 k x1 x2 x3 x9 true ((rd_T34 (rd_L4 x10 x2) x3).f0) ((rd_T34 (rd_L4 x10 x2) x3).f1)) else (ephemeristop_TopChron.j1 k x1 x2 x3 x9 (decide (((rd_T34 (rd_L4 x10 x2) x3).f0) ≤ (-1000000))) ((rd_T34 (rd_L4 x10 x2) x3).f0) ((rd_T34 (rd_L4 x10 x2) x3).f1))) else (none)) else (none)) else (none)) else (none))
def ephemeristop_TopChron.j1 : Nat → List (S37) → Int → Int → Int → Bool → Int → Int → Option (Bool)
 | 0, _, _, _, _, _, _, _ => none
 | k + 1, x1, x2, x3, x9, x80, x199000, x199001 => if x80 = true then (some (decide (x199001 ≥ x199000))) else ((some (([] : List (S37)) : List (S37))).bind fun y199 => (if y199.length + x1.length < 4398046511104 then ((some (y199 ++ x1 : List (S37))).bind fun y202 => ((some (([(⟨x2, x3, x199000, x199000⟩ : S37)] : List (S37)) : List (S37))).bind fun y205 => (if y202.length + y205.length < 4398046511104 then ((chron_Tightest.f k x9 (y202 ++ y205)).bind fun bt211 => (if bt211.2 = 0 then (if (bt211.1.length : Int) = x9 then (if 0 ≤ x2 then (if x2 < (bt211.1.length : Int) then (if ((rd_L4 bt211.1 x2).length : Int) = x9 then (if 0 ≤ x3 then (if x3 < ((rd_L4 bt211.1 x2).length : Int) then (ephemeristop_TopChron.j2 k x1 x2 x3 x9 (!(((rd_T34 (rd_L4 bt211.1 x2) x3).f0) == x199000) || (!(((rd_T34 (rd_L4 bt211.1 x2) x3).f1) == x199000))) x199000 x199001) else (none)) else (none)) else (ephemeristop_TopChron.j2 k x1 x2 x3 x9 true x199000 x199001)) else (none)) else (none)) else (ephemeristop_TopChron.j2 k x1 x2 x3 x9 true x199000 x199001)) else (ephemeristop_TopChron.j2 k x1 x2 x3 x9 true x199000 x199001))) else (none)))) else (none)))
def ephemeristop_TopChron.j2 : Nat → List (S37) → Int → Int → Int → Bool → Int → Int → Option (Bool)
 | 0, _, _, _, _, _, _, _ => none
 | k + 1, x1, x2, x3, x9, x138, x199000, x199001 => if x138 = true then (none) else ((some (([] : List (S37)) : List (S37))).bind fun y218 => (if y218.length + x1.length < 4398046511104 then ((some (y218 ++ x1 : List (S37))).bind fun y221 => ((some (([(⟨x2, x3, x199001, x199001⟩ : S37)] : List (S37)) : List (S37))).bind fun y224 => (if y221.length + y224.length < 4398046511104 then ((chron_Tightest.f k x9 (y221 ++ y224)).bind fun bt230 => (if bt230.2 = 0 then (if (bt230.1.length : Int) = x9 then (if 0 ≤ x2 then (if x2 < (bt230.1.length : Int) then (if ((rd_L4 bt230.1 x2).length : Int) = x9 then (if 0 ≤ x3 then (if x3 < ((rd_L4 bt230.1 x2).length : Int) then (ephemeristop_TopChron.j3 k x1 x2 x3 x9 (!(((rd_T34 (rd_L4 bt230.1 x2) x3).f0) == x199001) || (!(((rd_T34 (rd_L4 bt230.1 x2) x3).f1) == x199001))) x199000 x199001) else (none)) else (none)) else (ephemeristop_TopChron.j3 k x1 x2 x3 x9 true x199000 x199001)) else (none)) else (none)) else (ephemeristop_TopChron.j3 k x1 x2 x3 x9 true x199000 x199001)) else (ephemeristop_TopChron.j3 k x1 x2 x3 x9 true x199000 x199001))) else (none)))) else (none)))
def ephemeristop_TopChron.j3 : Nat → List (S37) → Int → Int → Int → Bool → Int → Int → Option (Bool)
 | 0, _, _, _, _, _, _, _ => none
 | k + 1, x1, x2, x3, x9, x138, x199000, x199001 => if x138 = true then (none) else ((some (([] : List (S37)) : List (S37))).bind fun y237 => (if y237.length + x1.length < 4398046511104 then ((some (y237 ++ x1 : List (S37))).bind fun y240 => ((some (([(⟨x2, x3, wrap64 (x199001 + 1), wrap64 (x199001 + 5)⟩ : S37)] : List (S37)) : List (S37))).bind fun y243 => (if y240.length + y243.length < 4398046511104 then ((chron_Tightest.f k x9 (y240 ++ y243)).bind fun bt249 => ((some (([] : List (S37)) : List (S37))).bind fun y253 => (if y253.length + x1.length < 4398046511104 then ((some (y253 ++ x1 : List (S37))).bind fun y256 => ((some (([(⟨x2, x3, wrap64 (x199000 - 5), wrap64 (x199000 - 1)⟩ : S37)] : List (S37)) : List (S37))).bind fun y259 => (if y256.length + y259.length < 4398046511104 then ((chron_Tightest.f k x9 (y256 ++ y259)).bind fun bt265 => (if bt249.2 = 10 then (some (bt265.2 == 10)) else (none))) else (none)))) else (none)))) else (none)))) else (none)))
end
def ephemeristop_TopChron.f (k : Nat) (l0 : List Int) (l1 : List (S37)) (a2 : Int) (a3 : Int) : Option (Bool) := (ephemeristop_sChron.f k).bind fun t184 => (if t184 = true then ((ephemeristop_sEvents.f k l0 l1).bind fun bt185 => (if bt185.1 < 2 then (some true) else ((ephemeristop_sAt.f a2 bt185.1).bind fun t189 => ((ephemeristop_sAt.f a3 (wrap64 (bt185.1 - 1))).bind fun t190 => (if bt185.1 = 0 then (none) else ((chron_Tightest.f k bt185.1 bt185.2).bind fun bt191 => (if bt191.2 = 0 then (if (bt191.1.length : Int) = bt185.1 then (if 0 ≤ t189 then (if t189 < (bt191.1.length : Int) then (ephemeristop_TopChron.j0 k bt185.2 t189 (Int.tmod (wrap64 ((wrap64 (t189 + 1)) + t190)) bt185.1) bt185.1 bt191.1 (((rd_L4 bt191.1 t189).length : Int) != bt185.1)) else (none)) else (none)) else (ephemeristop_TopChron.j0 k bt185.2 t189 (Int.tmod (wrap64 ((wrap64 (t189 + 1)) + t190)) bt185.1) bt185.1 bt191.1 true)) else (ephemeristop_TopChron.j0 k bt185.2 t189 (Int.tmod (wrap64 ((wrap64 (t189 + 1)) + t190)) bt185.1) bt185.1 bt191.1 true)))))))) else (none))
theorem ephemeristop_TopChron.mono_l : ∀ k, (∀ y0 y1 y2 y3 y4 y5, LeO (ephemeristop_TopChron.j0 k y0 y1 y2 y3 y4 y5) (ephemeristop_TopChron.j0 (k + 1) y0 y1 y2 y3 y4 y5)) ∧ (∀ y0 y1 y2 y3 y4 y5 y6, LeO (ephemeristop_TopChron.j1 k y0 y1 y2 y3 y4 y5 y6) (ephemeristop_TopChron.j1 (k + 1) y0 y1 y2 y3 y4 y5 y6)) ∧ (∀ y0 y1 y2 y3 y4 y5 y6, LeO (ephemeristop_TopChron.j2 k y0 y1 y2 y3 y4 y5 y6) (ephemeristop_TopChron.j2 (k + 1) y0 y1 y2 y3 y4 y5 y6)) ∧ (∀ y0 y1 y2 y3 y4 y5 y6, LeO (ephemeristop_TopChron.j3 k y0 y1 y2 y3 y4 y5 y6) (ephemeristop_TopChron.j3 (k + 1) y0 y1 y2 y3 y4 y5 y6))
 | 0 => ⟨fun _ _ _ _ _ _ r h => by simp [ephemeristop_TopChron.j0] at h, fun _ _ _ _ _ _ _ r h => by simp [ephemeristop_TopChron.j1] at h, fun _ _ _ _ _ _ _ r h => by simp [ephemeristop_TopChron.j2] at h, fun _ _ _ _ _ _ _ r h => by simp [ephemeristop_TopChron.j3] at h⟩
 | k + 1 => by
  obtain ⟨ih0, ih1, ih2, ih3⟩ := ephemeristop_TopChron.mono_l k
  refine ⟨?_, ?_, ?_, ?_⟩
  ·
   intro y0 y1 y2 y3 y4 y5
   unfold ephemeristop_TopChron.j0
   repeat' first
   | (with_reducible exact ih0 _ _ _ _ _ _)
   | (with_reducible exact ih1 _ _ _ _ _ _ _)
   | (with_reducible exact ih2 _ _ _ _ _ _ _)
   | (with_reducible exact ih3 _ _ _ _ _ _ _)
   | (with_reducible exact chron_Tightest.mono _ _ _)
   | (with_reducible exact ephemeristop_sChron.mono _)
   | (with_reducible exact ephemeristop_sEvents.mono _ _ _)
   | (with_reducible exact LeO.refl _)
   | (with_reducible exact LeO.none _)
   | (with_reducible refine LeO.ite ?_ ?_)
   | (with_reducible refine LeO.bind ?_ (fun _ => ?_))
   | exact ih0 _ _ _ _ _ _
   | exact ih1 _ _ _ _ _ _ _
   | exact ih2 _ _ _ _ _ _ _
   | exact ih3 _ _ _ _ _ _ _
   | exact chron_Tightest.mono _ _ _
   | exact ephemeristop_sChron.mono _
   | exact ephemeristop_sEvents.mono _ _ _
   | exact LeO.none _
   | refine LeO.ite ?_ ?_
   | refine LeO.bind ?_ (fun _ => ?_)
  ·
   intro y0 y1 y2 y3 y4 y5 y6
   unfold ephemeristop_TopChron.j1
   repeat' first
   | (with_reducible exact ih0 _ _ _ _ _ _)
   | (with_reducible exact ih1 _ _ _ _ _ _ _)
   | (with_reducible exact ih2 _ _ _ _ _ _ _)
   | (with_reducible exact ih3 _ _ _ _ _ _ _)
   | (with_reducible exact chron_Tightest.mono _ _ _)
   | (with_reducible exact ephemeristop_sChron.mono _)
   | (with_reducible exact ephemeristop_sEvents.mono _ _ _)
   | (with_reducible exact LeO.refl _)
   | (with_reducible exact LeO.none _)
   | (with_reducible refine LeO.ite ?_ ?_)
   | (with_reducible refine LeO.bind ?_ (fun _ => ?_))
   | exact ih0 _ _ _ _ _ _
   | exact ih1 _ _ _ _ _ _ _
   | exact ih2 _ _ _ _ _ _ _
   | exact ih3 _ _ _ _ _ _ _
   | exact chron_Tightest.mono _ _ _
   | exact ephemeristop_sChron.mono _
   | exact ephemeristop_sEvents.mono _ _ _
   | exact LeO.none _
   | refine LeO.ite ?_ ?_
   | refine LeO.bind ?_ (fun _ => ?_)
  ·
   intro y0 y1 y2 y3 y4 y5 y6
   unfold ephemeristop_TopChron.j2
   repeat' first
   | (with_reducible exact ih0 _ _ _ _ _ _)
   | (with_reducible exact ih1 _ _ _ _ _ _ _)
   | (with_reducible exact ih2 _ _ _ _ _ _ _)
   | (with_reducible exact ih3 _ _ _ _ _ _ _)
   | (with_reducible exact chron_Tightest.mono _ _ _)
   | (with_reducible exact ephemeristop_sChron.mono _)
   | (with_reducible exact ephemeristop_sEvents.mono _ _ _)
   | (with_reducible exact LeO.refl _)
   | (with_reducible exact LeO.none _)
   | (with_reducible refine LeO.ite ?_ ?_)
   | (with_reducible refine LeO.bind ?_ (fun _ => ?_))
   | exact ih0 _ _ _ _ _ _
   | exact ih1 _ _ _ _ _ _ _
   | exact ih2 _ _ _ _ _ _ _
   | exact ih3 _ _ _ _ _ _ _
   | exact chron_Tightest.mono _ _ _
   | exact ephemeristop_sChron.mono _
   | exact ephemeristop_sEvents.mono _ _ _
   | exact LeO.none _
   | refine LeO.ite ?_ ?_
   | refine LeO.bind ?_ (fun _ => ?_)
  ·
   intro y0 y1 y2 y3 y4 y5 y6
   unfold ephemeristop_TopChron.j3
   repeat' first
   | (with_reducible exact ih0 _ _ _ _ _ _)
   | (with_reducible exact ih1 _ _ _ _ _ _ _)
   | (with_reducible exact ih2 _ _ _ _ _ _ _)
   | (with_reducible exact ih3 _ _ _ _ _ _ _)
   | (with_reducible exact chron_Tightest.mono _ _ _)
   | (with_reducible exact ephemeristop_sChron.mono _)
   | (with_reducible exact ephemeristop_sEvents.mono _ _ _)
   | (with_reducible exact LeO.refl _)
   | (with_reducible exact LeO.none _)
   | (with_reducible refine LeO.ite ?_ ?_)
   | (with_reducible refine LeO.bind ?_ (fun _ => ?_))
   | exact ih0 _ _ _ _ _ _
   | exact ih1 _ _ _ _ _ _ _
   | exact ih2 _ _ _ _ _ _ _
   | exact ih3 _ _ _ _ _ _ _
   | exact chron_Tightest.mono _ _ _
   | exact ephemeristop_sChron.mono _
   | exact ephemeristop_sEvents.mono _ _ _
   | exact LeO.none _
   | refine LeO.ite ?_ ?_
   | refine LeO.bind ?_ (fun _ => ?_)
theorem ephemeristop_TopChron.mono : ∀ a0 a1 a2 a3 k, LeO (ephemeristop_TopChron.f k a0 a1 a2 a3) (ephemeristop_TopChron.f (k + 1) a0 a1 a2 a3) := by
 intro a0 a1 a2 a3 k
 obtain ⟨ih0, ih1, ih2, ih3⟩ := ephemeristop_TopChron.mono_l k
 unfold ephemeristop_TopChron.f
 repeat' first
   | (with_reducible exact ih0 _ _ _ _ _ _)
   | (with_reducible exact ih1 _ _ _ _ _ _ _)
   | (with_reducible exact ih2 _ _ _ _ _ _ _)
   | (with_reducible exact ih3 _ _ _ _ _ _ _)
   | (with_reducible exact chron_Tightest.mono _ _ _)
   | (with_reducible exact ephemeristop_sChron.mono _)
   | (with_reducible exact ephemeristop_sEvents.mono _ _ _)
   | (with_reducible exact LeO.refl _)
   | (with_reducible exact LeO.none _)
   | (with_reducible refine LeO.ite ?_ ?_)
   | (with_reducible refine LeO.bind ?_ (fun _ => ?_))
   | exact ih0 _ _ _ _ _ _
   | exact ih1 _ _ _ _ _ _ _
   | exact ih2 _ _ _ _ _ _ _
   | exact ih3 _ _ _ _ _ _ _
   | exact chron_Tightest.mono _ _ _
   | exact ephemeristop_sChron.mono _
   | exact ephemeristop_sEvents.mono _ _ _
   | exact LeO.none _
   | refine LeO.ite ?_ ?_
   | refine LeO.bind ?_ (fun _ => ?_)

/-- THE ONE PURE STATEMENT of ephemeristop_TopChron. -/
def ephemeristop_TopChron.Pure : Prop := ∀ (l0 : List Int) (l1 : List (S37)) (a2 : Int) (a3 : Int), l0.length ≤ maxLen → l0.length * 8 ≤ 140737488351232 → (∀ x ∈ l0, (Lit.int .i64 x).wf = true) → l1.length ≤ maxLen → (∀ x ∈ l1, (Lit.int .i64 x.f0).wf = true ∧ (Lit.int .i64 x.f1).wf = true ∧ (Lit.int .i64 x.f2).wf = true ∧ (Lit.int .i64 x.f3).wf = true) → (Lit.int .i64 a2).wf = true → (Lit.int .i64 a3).wf = true → ∃ k, ephemeristop_TopChron.f k l0 l1 a2 a3 = some true

end Go.Proofs.Ytoecglgbmhhdnaa.JE
