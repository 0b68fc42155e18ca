-- Made by a program of this session (wip/hp.py, over the kit's print) out of the translation. Not trusted: Lean checks it.
import Derived.Test.YtoecglgbmhhdnaaDoorJBx0
namespace Go.Proofs.YtoecglgbmhhdnaaDoor.JB
open Go.RowKit Go.Proofs.YtoecglgbmhhdnaaDoorW.PrintWords Go.Proofs.YtoecglgbmhhdnaaDoorW.PrintLast Go.Proofs.YtoecglgbmhhdnaaDoorW.PrintMore
attribute [local go_sem] max2_int min2_int max_two min_two max_three min_three max_four min_four   -- for this text's walks alone
set_option linter.unusedVariables false
set_option linter.unusedSimpArgs false

theorem wrap_in_ {n : Int} (h : -9223372036854775808 ≤ n) (h' : n ≤ 9223372036854775807) : wrap64 n = n := by
  unfold wrap64; omega
theorem sz1_ (b : UInt8) : (⟨#[b]⟩ : ByteArray).size = 1 := rfl
/-- within the range of the bounds of intervals -/
def InR (x : Int) : Prop := -1000000000000000000 ≤ x ∧ x ≤ 1000000000000000000
instance (x : Int) : Decidable (InR x) := inferInstanceAs (Decidable (_ ∧ _))
theorem below_setg {B : Nat} {w W : World} {g j : Nat} {v : Value} (h : Below B w W) (hg : B ≤ g) : Below B w (W.setCell ⟨g, j, none⟩ v) := h.setCell hg _
/-- W is w with blocks added and orders drawn -/
class Gr_ (w : outParam World) (W : World) : Prop where
  at_ : ∀ (g : Nat) (o : Obj), w.heap[g]? = some o → W.heap[g]? = some o
  be_ : ∀ w0 : World, Below w0.heap.size w0 w → Below w0.heap.size w0 W
instance (priority := low) gr_refl_ (w : World) : Gr_ w w := ⟨fun _ _ h => h, fun _ h => h⟩
instance gr_alloc_ (w W : World) (o : Obj) [Gr_ w W] : Gr_ w (W.alloc o) := ⟨fun g _ h => blk_alloc (Gr_.at_ (w := w) (W := W) g _ h) o, fun w0 h => below_alloc (Gr_.be_ (w := w) (W := W) w0 h) o⟩
instance gr_drew_ (w W : World) [Gr_ w W] : Gr_ w W.drew := ⟨fun g _ h => blk_drew (Gr_.at_ (w := w) (W := W) g _ h), fun w0 h => below_drew (Gr_.be_ (w := w) (W := W) w0 h)⟩
instance gr_drewN_ (w W : World) (n : Nat) [Gr_ w W] : Gr_ w (W.drewN n) := ⟨fun g _ h => blk_drewN (Gr_.at_ (w := w) (W := W) g _ h) n, fun w0 h => pw_below_drewN (Gr_.be_ (w := w) (W := W) w0 h) n⟩
theorem grz_ {w W : World} [Gr_ w W] {g : Nat} {o : Obj} (h : w.heap[g]? = some o) : W.heap[g]? = some o := Gr_.at_ g o h
theorem hbz_ {w W w0 : World} [Gr_ w W] (h : Below w0.heap.size w0 w) : Below w0.heap.size w0 W := Gr_.be_ w0 h
theorem nxz_ {w W w1 : World} [Gr_ w W] {g : Nat} {o : Obj} (h : Aside0 (w.heap[g]? = some o)) (hb : Below W.heap.size W w1) : Aside0 (w1.heap[g]? = some o) := ⟨blk_below (grz_ (W := W) h.out) hb⟩
theorem hxz_ {w W w0 w1 : World} [Gr_ w W] (h : Aside0 (Below w0.heap.size w0 w)) (hb : Below W.heap.size W w1) : Aside0 (Below w0.heap.size w0 w1) := ⟨below_step (hbz_ (W := W) h.out) hb⟩
theorem nbz_ {W : World} {g h : Nat} {o : Obj} (e : W.heap[g]? = some o) (hg : h = W.heap.size) : Aside0 (g ≠ h) := ⟨by rw [hg]; exact Nat.ne_of_lt (blk_lt e)⟩
theorem bnz_ {W : World} {g h : Nat} {o : Obj} (e : W.heap[g]? = some o) (hg : h = W.heap.size) : Aside0 (h ≠ g) := ⟨by rw [hg]; exact Nat.ne_of_gt (blk_lt e)⟩
theorem gez_ {W w : World} {h : Nat} (e : Below w.heap.size w W) (hg : h = W.heap.size) : Aside0 (w.heap.size ≤ h) := ⟨by rw [hg]; exact below_size e⟩
/-- stores at two places: the order makes no difference -/
theorem setCell_comm_ (w : World) (b c i j : Nat) (x y : Value) (h : b ≠ c ∨ i ≠ j) : (w.setCell ⟨c, j, none⟩ y).setCell ⟨b, i, none⟩ x = (w.setCell ⟨b, i, none⟩ x).setCell ⟨c, j, none⟩ y := by
  unfold World.setCell
  congr 1
  apply Array.ext_getElem?
  intro k
  simp only [Array.getElem?_modify]
  by_cases h1 : b = k <;> by_cases h2 : c = k
  · subst h1; subst h2
    have hij : i ≠ j := h.resolve_left (fun z => z rfl)
    simp only [if_pos, Option.map_map]
    congr 1
    funext o
    cases o <;> simp only [Function.comp, Option.isSome_none, Bool.false_eq_true, if_false]
    rw [Array.setIfInBounds_comm _ _ hij]
  · simp only [if_pos h1, if_neg h2]
  · simp only [if_neg h1, if_pos h2]
  · simp only [if_neg h1, if_neg h2]
section
variable {P : Program} {ops : Array Oper} {Q : Exit → Act → World → Prop} {md : Region.Mode} {S : World → Prop} {ds : List Nat}
/-- a load that may come up behind a store elsewhere: both orders lead to one place, shown once -/
theorem late_ {i j : Nat} {N : Option Tmp} {v : Value} {oi oj : Oper} {fuel : Nat} {l : Array Bool} {a a1 : Act} {w W1 : World} (X : Prop) (S2 : World → Prop) (li lj lij : Array Bool) (hi : ops[i]? = some oi) (hj : ops[j]? = some oj) (hN : oi.dst = N) (hNj : oj.dst = none)
    (hc : ((Region.ready md ops l == [i, j] || Region.ready md ops l == [j, i]) && l.setIfInBounds i true == li && l.setIfInBounds j true == lj && Region.ready md ops lj == [i] && lj.setIfInBounds i true == lij) = true) (hdi : i ∉ ds) (hdj : j ∈ ds)
    (hy : YieldsIf P ops S2 oi v a) (hs : S2 w) (hs1 : S2 W1) (ha : a.put N v = a1)
    (h2 : ∀ K : Act → World → Prop, K a W1 → if Region.wanted oj (yielded ops a.tmps) = true then Oper.wp P oj a w K Q else K (a.put none undef) w)
    (hX : X) (b1 : X → wpAnyLast P md ops Q S ds (fuel + 1) li a1 w) (b2 : X → wpAnyLast P md ops Q S ds fuel lij a1 W1) : wpAnyLast P md ops Q S ds (fuel + 2) l a w := by
  simp only [Bool.and_eq_true, Bool.or_eq_true, beq_iff_eq] at hc
  obtain ⟨⟨⟨⟨c1, c2⟩, c3⟩, c4⟩, c5⟩ := hc
  subst ha
  subst hN
  have A1 : wpOp P ops Q i (fun a' w' => (i ∉ ds → S w → S w') ∧ wpAnyLast P md ops Q S ds (fuel + 1) (l.setIfInBounds i true) a' w') a w := by
    refine hy.wpOp hi hs ⟨fun _ h => h, ?_⟩
    rw [c2]
    exact b1 hX
  have A2 : wpOp P ops Q j (fun a' w' => (j ∉ ds → S w → S w') ∧ wpAnyLast P md ops Q S ds (fuel + 1) (l.setIfInBounds j true) a' w') a w := by
    refine wpOp_step hj (fun K hK => ?_)
    rw [hNj]
    refine h2 K (hK _ _ ⟨fun h => absurd hdj h, ?_⟩)
    rw [c3]
    refine wpAnyLast_all c4 (by simp) ?_
    intro k hk
    obtain rfl := List.mem_singleton.mp hk
    refine hy.wpOp hi hs1 ⟨fun _ h => h, ?_⟩
    rw [c5]
    exact b2 hX
  rcases c1 with c1 | c1
  · refine wpAnyLast_all c1 (by simp) ?_
    intro k hk
    rcases List.mem_cons.mp hk with rfl | hk
    · exact A1
    · obtain rfl := List.mem_singleton.mp hk
      exact A2
  · refine wpAnyLast_all c1 (by simp) ?_
    intro k hk
    rcases List.mem_cons.mp hk with rfl | hk
    · exact A2
    · obtain rfl := List.mem_singleton.mp hk
      exact A1
end
section
variable {P : Program} {ops : Array Oper} {Q : Exit → Act → World → Prop}
/-- a call of a function value in a plain region -/
theorem goesV_ {rest : List Oper} {oi : Oper} {a : Act} {w : World} (N : Option Tmp) (hd : oi.dst = N) (hg : oi.guard = none) {f : FuncId} {fn : Func} {xs : Array Operand} {ts : Array TypeId} {o : Operand} {cap : Array Value} (hf : P.funcs[f]? = some fn) (hname : (fn.name == "runtime.NumGoroutine") = false) (hb : fn.body.isSome = true)
    (hop : oi.op = .call { callee := .value o, args := xs, argTypes := ts }) (hv : a.eval o = .func (.func f) #[] cap) (args : Array Value) (hargs : xs.map a.eval = args)
    (h : Calls P f (args ++ cap) w fun e w' => ∃ v, e = .returned v ∧ wpList P ops Q rest (a.put N v) w') : wpList P ops Q (oi :: rest) a w := by
  refine wpList_plain hg fun K hK => ?_
  have he := enters_ hf hname hb (args ++ cap) w
  have hrun : (execOp a.eval oi).run P w = .ok (.enter f (args ++ cap)) w := by
    unfold execOp
    simp [hop, resolve, Deferred.ofValue, invoke, hv, hargs, he]
  unfold Oper.wp
  rw [hrun, Oper.upon_enter]
  refine h.mono fun e w'' hh => ?_
  obtain ⟨v, rfl, hk⟩ := hh
  subst hd
  exact hK _ _ hk
/-- The operation calls a function value. -/
theorem gate_value {rest : List Oper} {oi : Oper} {a : Act} {w : World} {x : Operand} {xs : Array Operand} {ts : Array TypeId} (_ho : oi.op = .call { callee := .value x, args := xs, argTypes := ts }) (h : wpList P ops Q (oi :: rest) a w) : wpList P ops Q (oi :: rest) a w := h
end
section
variable {P : Program} {ops : Array Oper} {Q : Exit → Act → World → Prop}
/-- a call in a plain region behind a guard that says yes -/
theorem goesW_ {rest : List Oper} {oi : Oper} {a : Act} {w : World} (N : Option Tmp) (hd : oi.dst = N) (hw : Region.wanted oi (yielded ops a.tmps) = true) {f : FuncId} {fn : Func} {xs : Array Operand} {ts : Array TypeId} (hf : P.funcs[f]? = some fn) (hname : (fn.name == "runtime.NumGoroutine") = false) (hb : fn.body.isSome = true) (args : Array Value)
    (hop : oi.op = .call { callee := .value (.func f), args := xs, argTypes := ts }) (hargs : xs.map a.eval = args)
    (h : Calls P f args w fun e w' => ∃ v, e = .returned v ∧ wpList P ops Q rest (a.put N v) w') : wpList P ops Q (oi :: rest) a w := by
  refine wpList_step fun K hK => ?_
  rw [if_pos hw]
  have he := enters_ hf hname hb args w
  have hrun : (execOp a.eval oi).run P w = .ok (.enter f args) w := by
    unfold execOp
    simp [hop, resolve, Deferred.ofValue, invoke, Act.eval, hargs, he]
  unfold Oper.wp
  rw [hrun, Oper.upon_enter]
  refine h.mono fun e w'' hh => ?_
  obtain ⟨v, rfl, hk⟩ := hh
  subst hd
  exact hK _ _ hk
/-- a call of a function value in a plain region behind a guard that says yes -/
theorem goesVW_ {rest : List Oper} {oi : Oper} {a : Act} {w : World} (N : Option Tmp) (hd : oi.dst = N) (hw : Region.wanted oi (yielded ops a.tmps) = true) {f : FuncId} {fn : Func} {xs : Array Operand} {ts : Array TypeId} {o : Operand} {cap : Array Value} (hf : P.funcs[f]? = some fn) (hname : (fn.name == "runtime.NumGoroutine") = false) (hb : fn.body.isSome = true)
    (hop : oi.op = .call { callee := .value o, args := xs, argTypes := ts }) (hv : a.eval o = .func (.func f) #[] cap) (args : Array Value) (hargs : xs.map a.eval = args)
    (h : Calls P f (args ++ cap) w fun e w' => ∃ v, e = .returned v ∧ wpList P ops Q rest (a.put N v) w') : wpList P ops Q (oi :: rest) a w := by
  refine wpList_step fun K hK => ?_
  rw [if_pos hw]
  have he := enters_ hf hname hb (args ++ cap) w
  have hrun : (execOp a.eval oi).run P w = .ok (.enter f (args ++ cap)) w := by
    unfold execOp
    simp [hop, resolve, Deferred.ofValue, invoke, hv, hargs, he]
  unfold Oper.wp
  rw [hrun, Oper.upon_enter]
  refine h.mono fun e w'' hh => ?_
  obtain ⟨v, rfl, hk⟩ := hh
  subst hd
  exact hK _ _ hk
end

/-! ### the Lean function notice_Check: function 19 -/
mutual
def notice_Check.j0 : Nat → Bool → Int → Int → ByteArray → Int → Option (Int)
  | 0, _, _, _, _, _ => none
  | k + 1, x31, x102000, x102001, x102002, x102003 => if x31 = true then (some 3) else (if (x102002.size : Int) > 200 then (some 2) else (notice_Check.l0 k (x102002.size : Int) 0 x102000 x102001 x102002 x102003))
def notice_Check.l0 : Nat → Int → Int → Int → Int → ByteArray → Int → Option (Int)
  | 0, _, _, _, _, _, _ => none
  | k + 1, x38, x39, x102000, x102001, x102002, x102003 => if x39 < x38 then (if 0 ≤ x39 then (if x39 < (x102002.size : Int) then (if (bt x102002 x39) < 32 then (some 4) else (if (bt x102002 x39) > 126 then (some 4) else (notice_Check.l0 k x38 (wrap64 (x39 + 1)) x102000 x102001 x102002 x102003))) else (none)) else (none)) else (some 0)
end
def notice_Check.f (k : Nat) (a0_0 : Int) (a0_1 : Int) (a0_2 : ByteArray) (a0_3 : Int) : Option (Int) := if a0_0 < 0 then (notice_Check.j0 k true a0_0 a0_1 a0_2 a0_3) else (if a0_0 ≥ 8 then (notice_Check.j0 k true a0_0 a0_1 a0_2 a0_3) else (if a0_1 < 1 then (notice_Check.j0 k true a0_0 a0_1 a0_2 a0_3) else (if a0_1 > 2147483647 then (notice_Check.j0 k true a0_0 a0_1 a0_2 a0_3) else (if a0_3 < 0 then (notice_Check.j0 k true a0_0 a0_1 a0_2 a0_3) else (notice_Check.j0 k (decide (a0_3 ≥ 2147483647)) a0_0 a0_1 a0_2 a0_3)))))
theorem notice_Check.mono_l : ∀ k, (∀ y0 y1 y2 y3 y4, LeO (notice_Check.j0 k y0 y1 y2 y3 y4) (notice_Check.j0 (k + 1) y0 y1 y2 y3 y4)) ∧ (∀ y0 y1 y2 y3 y4 y5, LeO (notice_Check.l0 k y0 y1 y2 y3 y4 y5) (notice_Check.l0 (k + 1) y0 y1 y2 y3 y4 y5))
  | 0 => ⟨fun _ _ _ _ _ r h => by simp [notice_Check.j0] at h, fun _ _ _ _ _ _ r h => by simp [notice_Check.l0] at h⟩
  | k + 1 => by
    obtain ⟨ih0, ih1⟩ := notice_Check.mono_l k
    refine ⟨?_, ?_⟩
    · intro y0 y1 y2 y3 y4
      unfold notice_Check.j0
      repeat' first
      | (with_reducible exact ih0 _ _ _ _ _)
      | (with_reducible exact ih1 _ _ _ _ _ _)
      | (with_reducible exact LeO.refl _)
      | (with_reducible exact LeO.none _)
      | (with_reducible refine LeO.ite ?_ ?_)
      | (with_reducible refine LeO.bind ?_ (fun _ => ?_))
      | exact ih0 _ _ _ _ _
      | exact ih1 _ _ _ _ _ _
      | exact LeO.none _
      | refine LeO.ite ?_ ?_
      | refine LeO.bind ?_ (fun _ => ?_)
    · intro y0 y1 y2 y3 y4 y5
      unfold notice_Check.l0
      repeat' first
      | (with_reducible exact ih0 _ _ _ _ _)
      | (with_reducible exact ih1 _ _ _ _ _ _)
      | (with_reducible exact LeO.refl _)
      | (with_reducible exact LeO.none _)
      | (with_reducible refine LeO.ite ?_ ?_)
      | (with_reducible refine LeO.bind ?_ (fun _ => ?_))
      | exact ih0 _ _ _ _ _
      | exact ih1 _ _ _ _ _ _
      | exact LeO.none _
      | refine LeO.ite ?_ ?_
      | refine LeO.bind ?_ (fun _ => ?_)
theorem notice_Check.mono : ∀ a0 a1 a2 a3 k, LeO (notice_Check.f k a0 a1 a2 a3) (notice_Check.f (k + 1) a0 a1 a2 a3) := by
  intro a0 a1 a2 a3 k
  obtain ⟨ih0, ih1⟩ := notice_Check.mono_l k
  unfold notice_Check.f
  repeat' first
      | (with_reducible exact ih0 _ _ _ _ _)
      | (with_reducible exact ih1 _ _ _ _ _ _)
      | (with_reducible exact LeO.refl _)
      | (with_reducible exact LeO.none _)
      | (with_reducible refine LeO.ite ?_ ?_)
      | (with_reducible refine LeO.bind ?_ (fun _ => ?_))
      | exact ih0 _ _ _ _ _
      | exact ih1 _ _ _ _ _ _
      | exact LeO.none _
      | refine LeO.ite ?_ ?_
      | refine LeO.bind ?_ (fun _ => ?_)

/-! ### the Lean function strconv_Itoa_25: function 25 -/
/-- the decimal digits of a number of at most that many -/
def dig_ : Nat → Nat → List UInt8
  | 0, _ => []
  | k + 1, n => if n < 10 then [UInt8.ofNat (48 + n)] else dig_ k (n / 10) ++ [UInt8.ofNat (48 + n % 10)]
def strconv_Itoa_25.f (a0 : Int) : Option ByteArray := if 0 ≤ a0 ∧ a0 < 10000000000 then some ⟨(dig_ 10 a0.toNat).toArray⟩ else none

/-! ### the Lean function notice_sum: function 20 -/
def notice_sum.l0 : Nat → Int → Int → ByteArray → Int → Int → Option (Int)
  | 0, _, _, _, _, _ => none
  | k + 1, x0, x5, x6, x22, x23 => if x23 < x22 then (if 0 ≤ x23 then (if x23 < (x6.size : Int) then (notice_sum.l0 k x0 (Int.tmod (wrap64 ((wrap64 ((wrap64 (x5 * 257)) + (wrap64 (bt x6 x23)))) + 1)) 2147483647) x6 x22 (wrap64 (x23 + 1))) else (none)) else (none)) else (some (Int.tmod (wrap64 ((wrap64 (x5 * 257)) + x0)) 2147483647))
def notice_sum.f (k : Nat) (a0 : Int) (a1_0 : Int) (a1_1 : Int) (a1_2 : ByteArray) (a1_3 : Int) : Option (Int) := (strconv_Itoa_25.f a1_0).bind fun t103 => (if t103.size + 1 ≤ 9223372036854775807 then ((strconv_Itoa_25.f a1_1).bind fun t104 => (if (t103 ++ (⟨#[32]⟩ : ByteArray)).size + t104.size ≤ 9223372036854775807 then (if ((t103 ++ (⟨#[32]⟩ : ByteArray)) ++ t104).size + 1 ≤ 9223372036854775807 then (if (((t103 ++ (⟨#[32]⟩ : ByteArray)) ++ t104) ++ (⟨#[32]⟩ : ByteArray)).size + a1_2.size ≤ 9223372036854775807 then (notice_sum.l0 k a0 a0 ((((t103 ++ (⟨#[32]⟩ : ByteArray)) ++ t104) ++ (⟨#[32]⟩ : ByteArray)) ++ a1_2) (((((t103 ++ (⟨#[32]⟩ : ByteArray)) ++ t104) ++ (⟨#[32]⟩ : ByteArray)) ++ a1_2).size : Int) 0) else (none)) else (none)) else (none))) else (none))
theorem notice_sum.mono_l : ∀ k, (∀ y0 y1 y2 y3 y4, LeO (notice_sum.l0 k y0 y1 y2 y3 y4) (notice_sum.l0 (k + 1) y0 y1 y2 y3 y4))
  | 0 => fun _ _ _ _ _ r h => by simp [notice_sum.l0] at h
  | k + 1 => by
    have ih0 := notice_sum.mono_l k
    · intro y0 y1 y2 y3 y4
      unfold notice_sum.l0
      repeat' first
      | (with_reducible exact ih0 _ _ _ _ _)
      | (with_reducible exact LeO.refl _)
      | (with_reducible exact LeO.none _)
      | (with_reducible refine LeO.ite ?_ ?_)
      | (with_reducible refine LeO.bind ?_ (fun _ => ?_))
      | exact ih0 _ _ _ _ _
      | exact LeO.none _
      | refine LeO.ite ?_ ?_
      | refine LeO.bind ?_ (fun _ => ?_)
theorem notice_sum.mono : ∀ a0 a1 a2 a3 a4 k, LeO (notice_sum.f k a0 a1 a2 a3 a4) (notice_sum.f (k + 1) a0 a1 a2 a3 a4) := by
  intro a0 a1 a2 a3 a4 k
  have ih0 := notice_sum.mono_l k
  unfold notice_sum.f
  repeat' first
      | (with_reducible exact ih0 _ _ _ _ _)
      | (with_reducible exact LeO.refl _)
      | (with_reducible exact LeO.none _)
      | (with_reducible refine LeO.ite ?_ ?_)
      | (with_reducible refine LeO.bind ?_ (fun _ => ?_))
      | exact ih0 _ _ _ _ _
      | exact LeO.none _
      | refine LeO.ite ?_ ?_
      | refine LeO.bind ?_ (fun _ => ?_)

/-! ### the Lean function notice_Sign: function 10 -/
def notice_Sign.f (k : Nat) (a0 : Int) (a1_0 : Int) (a1_1 : Int) (a1_2 : ByteArray) (a1_3 : Int) : Option (Int × Int × ByteArray × Int × Int) := (notice_Check.f k a1_0 a1_1 a1_2 0).bind fun t107 => (if t107 = 0 then (if a0 < 1 then (some (0, 0, (⟨#[]⟩ : ByteArray), 0, 1)) else (if a0 > 1000000000 then (some (0, 0, (⟨#[]⟩ : ByteArray), 0, 1)) else ((notice_sum.f k a0 a1_0 a1_1 a1_2 0).bind fun t108 => (some (a1_0, a1_1, a1_2, t108, 0))))) else (some (0, 0, (⟨#[]⟩ : ByteArray), 0, t107)))
theorem notice_Sign.mono : ∀ a0 a1 a2 a3 a4 k, LeO (notice_Sign.f k a0 a1 a2 a3 a4) (notice_Sign.f (k + 1) a0 a1 a2 a3 a4) := by
  intro a0 a1 a2 a3 a4 k
  unfold notice_Sign.f
  repeat' first
      | (with_reducible exact notice_Check.mono _ _ _ _ _)
      | (with_reducible exact notice_sum.mono _ _ _ _ _ _)
      | (with_reducible exact LeO.refl _)
      | (with_reducible exact LeO.none _)
      | (with_reducible refine LeO.ite ?_ ?_)
      | (with_reducible refine LeO.bind ?_ (fun _ => ?_))
      | exact notice_Check.mono _ _ _ _ _
      | exact notice_sum.mono _ _ _ _ _ _
      | exact LeO.none _
      | refine LeO.ite ?_ ?_
      | refine LeO.bind ?_ (fun _ => ?_)

/-! ### the Lean function notice_Write: function 18 -/
def notice_Write.f (k : Nat) (a0_0 : Int) (a0_1 : Int) (a0_2 : ByteArray) (a0_3 : Int) : Option (ByteArray × Int) := (notice_Check.f k a0_0 a0_1 a0_2 a0_3).bind fun t110 => (if t110 = 0 then ((strconv_Itoa_25.f a0_0).bind fun t111 => (if t111.size + 1 ≤ 9223372036854775807 then ((strconv_Itoa_25.f a0_1).bind fun t112 => (if (t111 ++ (⟨#[32]⟩ : ByteArray)).size + t112.size ≤ 9223372036854775807 then (if ((t111 ++ (⟨#[32]⟩ : ByteArray)) ++ t112).size + 1 ≤ 9223372036854775807 then ((strconv_Itoa_25.f a0_3).bind fun t113 => (if (((t111 ++ (⟨#[32]⟩ : ByteArray)) ++ t112) ++ (⟨#[32]⟩ : ByteArray)).size + t113.size ≤ 9223372036854775807 then (if ((((t111 ++ (⟨#[32]⟩ : ByteArray)) ++ t112) ++ (⟨#[32]⟩ : ByteArray)) ++ t113).size + 1 ≤ 9223372036854775807 then (if (((((t111 ++ (⟨#[32]⟩ : ByteArray)) ++ t112) ++ (⟨#[32]⟩ : ByteArray)) ++ t113) ++ (⟨#[32]⟩ : ByteArray)).size + a0_2.size ≤ 9223372036854775807 then (some ((((((t111 ++ (⟨#[32]⟩ : ByteArray)) ++ t112) ++ (⟨#[32]⟩ : ByteArray)) ++ t113) ++ (⟨#[32]⟩ : ByteArray)) ++ a0_2, 0)) else (none)) else (none)) else (none))) else (none)) else (none))) else (none))) else (some ((⟨#[]⟩ : ByteArray), t110)))
theorem notice_Write.mono : ∀ a0 a1 a2 a3 k, LeO (notice_Write.f k a0 a1 a2 a3) (notice_Write.f (k + 1) a0 a1 a2 a3) := by
  intro a0 a1 a2 a3 k
  unfold notice_Write.f
  repeat' first
      | (with_reducible exact notice_Check.mono _ _ _ _ _)
      | (with_reducible exact LeO.refl _)
      | (with_reducible exact LeO.none _)
      | (with_reducible refine LeO.ite ?_ ?_)
      | (with_reducible refine LeO.bind ?_ (fun _ => ?_))
      | exact notice_Check.mono _ _ _ _ _
      | exact LeO.none _
      | refine LeO.ite ?_ ?_
      | refine LeO.bind ?_ (fun _ => ?_)

/-! ### the Lean function ephemeriskeep2_noticeWorks: function 7 -/
def ephemeriskeep2_noticeWorks.f (k : Nat)  : Option (Bool) := (notice_Sign.f k 1 0 1 (⟨#[97]⟩ : ByteArray) 0).bind fun bt114 => ((notice_Write.f k bt114.1 bt114.2.1 bt114.2.2.1 bt114.2.2.2.1).bind fun bt120 => (if bt114.2.2.2.2 = 0 then (if bt114.2.2.2.1 = 930818648 then (if bt120.2 = 0 then (some (bt120.1.toList == ([48, 32, 49, 32, 57, 51, 48, 56, 49, 56, 54, 52, 56, 32, 97] : List UInt8))) else (none)) else (none)) else (none)))
theorem ephemeriskeep2_noticeWorks.mono : ∀ k, LeO (ephemeriskeep2_noticeWorks.f k ) (ephemeriskeep2_noticeWorks.f (k + 1) ) := by
  intro  k
  unfold ephemeriskeep2_noticeWorks.f
  repeat' first
      | (with_reducible exact notice_Sign.mono _ _ _ _ _ _)
      | (with_reducible exact notice_Write.mono _ _ _ _ _)
      | (with_reducible exact LeO.refl _)
      | (with_reducible exact LeO.none _)
      | (with_reducible refine LeO.ite ?_ ?_)
      | (with_reducible refine LeO.bind ?_ (fun _ => ?_))
      | exact notice_Sign.mono _ _ _ _ _ _
      | exact notice_Write.mono _ _ _ _ _
      | exact LeO.none _
      | refine LeO.ite ?_ ?_
      | refine LeO.bind ?_ (fun _ => ?_)

/-! ### the Lean function ephemeriskeep2_at: function 8 -/
def ephemeriskeep2_at.f (a0 : Int) (a1 : Int) : Option (Int) := if a1 = 0 then (none) else (some (Int.tmod (wrap64 ((Int.tmod a0 a1) + a1)) a1))

/-! ### the Lean function ephemeriskeep2_plain: function 9 -/
/-- a byte of a text that is permitted -/
def pl_ (b : UInt8) : UInt8 := 32 + b % 95
/-- a text of which a byte was changed -/
def setb_ (s : ByteArray) (i v : Int) : Option ByteArray := if 0 ≤ i ∧ i < s.size ∧ 0 ≤ v ∧ v < 256 then some ⟨s.data.setIfInBounds i.toNat (UInt8.ofNat v.toNat)⟩ else none
def ephemeriskeep2_plain.f (a0 : ByteArray) : Option ByteArray := if a0.size ≤ 9223372036854775807 then some ⟨((a0.data.toList.map pl_).take 200).toArray⟩ else none

/-! ### the Lean function notice_Right: function 11 -/
def notice_Right.f (k : Nat) (a0 : Int) (a1_0 : Int) (a1_1 : Int) (a1_2 : ByteArray) (a1_3 : Int) : Option (Bool × Int) := (notice_Check.f k a1_0 a1_1 a1_2 a1_3).bind fun t123 => (if t123 = 0 then (if a0 < 1 then (some (false, 1)) else (if a0 > 1000000000 then (some (false, 1)) else ((notice_sum.f k a0 a1_0 a1_1 a1_2 a1_3).bind fun t124 => (some ((a1_3 == t124), 0))))) else (some (false, t123)))
theorem notice_Right.mono : ∀ a0 a1 a2 a3 a4 k, LeO (notice_Right.f k a0 a1 a2 a3 a4) (notice_Right.f (k + 1) a0 a1 a2 a3 a4) := by
  intro a0 a1 a2 a3 a4 k
  unfold notice_Right.f
  repeat' first
      | (with_reducible exact notice_Check.mono _ _ _ _ _)
      | (with_reducible exact notice_sum.mono _ _ _ _ _ _)
      | (with_reducible exact LeO.refl _)
      | (with_reducible exact LeO.none _)
      | (with_reducible refine LeO.ite ?_ ?_)
      | (with_reducible refine LeO.bind ?_ (fun _ => ?_))
      | exact notice_Check.mono _ _ _ _ _
      | exact notice_sum.mono _ _ _ _ _ _
      | exact LeO.none _
      | refine LeO.ite ?_ ?_
      | refine LeO.bind ?_ (fun _ => ?_)

/-! ### the Lean function ephemeriskeep2_NoticeBytes: function 4 -/
def ephemeriskeep2_NoticeBytes.j0 : Nat → Int → Int → Int → Bool → Int → Int → ByteArray → Int → Option (Bool)
  | 0, _, _, _, _, _, _, _, _ => none
  | k + 1, x0, x2, x3, x51, x137000, x137001, x137002, x137003 => if x51 = true then (none) else (if (x137002.size : Int) = 0 then (some true) else ((ephemeriskeep2_at.f x2 (x137002.size : Int)).bind fun t139 => (if 0 ≤ t139 then (if t139 < (x137002.size : Int) then (if (bt x137002 t139) = ((32 + (Int.tmod x3 95)) % 256) then (some true) else ((setb_ x137002 t139 ((32 + (Int.tmod x3 95)) % 256)).bind fun t140 => ((notice_Right.f k x0 x137000 x137001 t140 x137003).bind fun bt141 => (if bt141.2 = 0 then (some (!bt141.1)) else (none))))) else (none)) else (none))))
def ephemeriskeep2_NoticeBytes.f (k : Nat) (a0 : Int) (a1_0 : Int) (a1_1 : Int) (a1_2 : ByteArray) (a1_3 : Int) (a2 : Int) (a3 : Int) : Option (Bool) := (ephemeriskeep2_noticeWorks.f k).bind fun t126 => (if t126 = true then ((ephemeriskeep2_at.f a0 1000000000).bind fun t127 => ((ephemeriskeep2_at.f a1_0 8).bind fun t128 => ((ephemeriskeep2_at.f a1_1 2147483647).bind fun t129 => ((ephemeriskeep2_plain.f a1_2).bind fun t130 => ((notice_Sign.f k (wrap64 (1 + t127)) t128 (wrap64 (1 + t129)) t130 0).bind fun bt131 => ((notice_Right.f k (wrap64 (1 + t127)) bt131.1 bt131.2.1 bt131.2.2.1 bt131.2.2.2.1).bind fun bt137 => (if bt131.2.2.2.2 = 0 then (if bt137.2 = 0 then (ephemeriskeep2_NoticeBytes.j0 k (wrap64 (1 + t127)) a2 a3 (!bt137.1) bt131.1 bt131.2.1 bt131.2.2.1 bt131.2.2.2.1) else (ephemeriskeep2_NoticeBytes.j0 k (wrap64 (1 + t127)) a2 a3 true bt131.1 bt131.2.1 bt131.2.2.1 bt131.2.2.2.1)) else (ephemeriskeep2_NoticeBytes.j0 k (wrap64 (1 + t127)) a2 a3 true bt131.1 bt131.2.1 bt131.2.2.1 bt131.2.2.2.1)))))))) else (none))
theorem ephemeriskeep2_NoticeBytes.mono_l : ∀ k, (∀ y0 y1 y2 y3 y4 y5 y6 y7, LeO (ephemeriskeep2_NoticeBytes.j0 k y0 y1 y2 y3 y4 y5 y6 y7) (ephemeriskeep2_NoticeBytes.j0 (k + 1) y0 y1 y2 y3 y4 y5 y6 y7))
  | 0 => fun _ _ _ _ _ _ _ _ r h => by simp [ephemeriskeep2_NoticeBytes.j0] at h
  | k + 1 => by
    have ih0 := ephemeriskeep2_NoticeBytes.mono_l k
    · intro y0 y1 y2 y3 y4 y5 y6 y7
      unfold ephemeriskeep2_NoticeBytes.j0
      repeat' first
      | (with_reducible exact ih0 _ _ _ _ _ _ _ _)
      | (with_reducible exact ephemeriskeep2_noticeWorks.mono _)
      | (with_reducible exact notice_Right.mono _ _ _ _ _ _)
      | (with_reducible exact notice_Sign.mono _ _ _ _ _ _)
      | (with_reducible exact LeO.refl _)
      | (with_reducible exact LeO.none _)
      | (with_reducible refine LeO.ite ?_ ?_)
      | (with_reducible refine LeO.bind ?_ (fun _ => ?_))
      | exact ih0 _ _ _ _ _ _ _ _
      | exact ephemeriskeep2_noticeWorks.mono _
      | exact notice_Right.mono _ _ _ _ _ _
      | exact notice_Sign.mono _ _ _ _ _ _
      | exact LeO.none _
      | refine LeO.ite ?_ ?_
      | refine LeO.bind ?_ (fun _ => ?_)
theorem ephemeriskeep2_NoticeBytes.mono : ∀ a0 a1 a2 a3 a4 a5 a6 k, LeO (ephemeriskeep2_NoticeBytes.f k a0 a1 a2 a3 a4 a5 a6) (ephemeriskeep2_NoticeBytes.f (k + 1) a0 a1 a2 a3 a4 a5 a6) := by
  intro a0 a1 a2 a3 a4 a5 a6 k
  have ih0 := ephemeriskeep2_NoticeBytes.mono_l k
  unfold ephemeriskeep2_NoticeBytes.f
  repeat' first
      | (with_reducible exact ih0 _ _ _ _ _ _ _ _)
      | (with_reducible exact ephemeriskeep2_noticeWorks.mono _)
      | (with_reducible exact notice_Right.mono _ _ _ _ _ _)
      | (with_reducible exact notice_Sign.mono _ _ _ _ _ _)
      | (with_reducible exact LeO.refl _)
      | (with_reducible exact LeO.none _)
      | (with_reducible refine LeO.ite ?_ ?_)
      | (with_reducible refine LeO.bind ?_ (fun _ => ?_))
      | exact ih0 _ _ _ _ _ _ _ _
      | exact ephemeriskeep2_noticeWorks.mono _
      | exact notice_Right.mono _ _ _ _ _ _
      | exact notice_Sign.mono _ _ _ _ _ _
      | exact LeO.none _
      | refine LeO.ite ?_ ?_
      | refine LeO.bind ?_ (fun _ => ?_)

/-- THE ONE PURE STATEMENT of ephemeriskeep2_NoticeBytes. -/
def ephemeriskeep2_NoticeBytes.Pure : Prop := ∀ (a0 : Int) (a1_0 : Int) (a1_1 : Int) (a1_2 : ByteArray) (a1_3 : Int) (a2 : Int) (a3 : Int), (Lit.int .i64 a0).wf = true → (Lit.int .i64 a1_0).wf = true → (Lit.int .i64 a1_1).wf = true → a1_2.size ≤ maxLen → (Lit.int .i64 a1_3).wf = true → (Lit.int .i64 a2).wf = true → (Lit.int .u8 a3).wf = true → ∃ k, ephemeriskeep2_NoticeBytes.f k a0 a1_0 a1_1 a1_2 a1_3 a2 a3 = some true

end Go.Proofs.YtoecglgbmhhdnaaDoor.JB
