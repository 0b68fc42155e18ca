-- Made by a program of this session (wip/hp.py, over the kit's print) out of the translation. Not trusted: Lean checks it.
import Derived.Test.YtimehbdleognkaaJEx0
namespace Go.Proofs.Ytimehbdleognkaa.JE
open Go.RowKit Go.Proofs.YtimehbdleognkaaW.PrintWords Go.Proofs.YtimehbdleognkaaW.PrintLast Go.Proofs.YtimehbdleognkaaW.PrintMore
attribute [local go_sem] max2_int min2_int max_two min_two max_three min_three max_four min_four   -- for this text's walks alone
set_option linter.unusedVariables false
set_option linter.unusedSimpArgs false

theorem wrap_in_ {n : Int} (h : -9223372036854775808 ≤ n) (h' : n ≤ 9223372036854775807) : wrap64 n = n := by
  unfold wrap64; omega
theorem sz1_ (b : UInt8) : (⟨#[b]⟩ : ByteArray).size = 1 := rfl
/-- within the range of the bounds of intervals -/
def InR (x : Int) : Prop := -1000000000000000000 ≤ x ∧ x ≤ 1000000000000000000
instance (x : Int) : Decidable (InR x) := inferInstanceAs (Decidable (_ ∧ _))
theorem below_setg {B : Nat} {w W : World} {g j : Nat} {v : Value} (h : Below B w W) (hg : B ≤ g) : Below B w (W.setCell ⟨g, j, none⟩ v) := h.setCell hg _
/-- W is w with blocks added and orders drawn -/
class Gr_ (w : outParam World) (W : World) : Prop where
  at_ : ∀ (g : Nat) (o : Obj), w.heap[g]? = some o → W.heap[g]? = some o
  be_ : ∀ w0 : World, Below w0.heap.size w0 w → Below w0.heap.size w0 W
instance (priority := low) gr_refl_ (w : World) : Gr_ w w := ⟨fun _ _ h => h, fun _ h => h⟩
instance gr_alloc_ (w W : World) (o : Obj) [Gr_ w W] : Gr_ w (W.alloc o) := ⟨fun g _ h => blk_alloc (Gr_.at_ (w := w) (W := W) g _ h) o, fun w0 h => below_alloc (Gr_.be_ (w := w) (W := W) w0 h) o⟩
instance gr_drew_ (w W : World) [Gr_ w W] : Gr_ w W.drew := ⟨fun g _ h => blk_drew (Gr_.at_ (w := w) (W := W) g _ h), fun w0 h => below_drew (Gr_.be_ (w := w) (W := W) w0 h)⟩
instance gr_drewN_ (w W : World) (n : Nat) [Gr_ w W] : Gr_ w (W.drewN n) := ⟨fun g _ h => blk_drewN (Gr_.at_ (w := w) (W := W) g _ h) n, fun w0 h => pw_below_drewN (Gr_.be_ (w := w) (W := W) w0 h) n⟩
theorem grz_ {w W : World} [Gr_ w W] {g : Nat} {o : Obj} (h : w.heap[g]? = some o) : W.heap[g]? = some o := Gr_.at_ g o h
theorem hbz_ {w W w0 : World} [Gr_ w W] (h : Below w0.heap.size w0 w) : Below w0.heap.size w0 W := Gr_.be_ w0 h
theorem nxz_ {w W w1 : World} [Gr_ w W] {g : Nat} {o : Obj} (h : Aside0 (w.heap[g]? = some o)) (hb : Below W.heap.size W w1) : Aside0 (w1.heap[g]? = some o) := ⟨blk_below (grz_ (W := W) h.out) hb⟩
theorem hxz_ {w W w0 w1 : World} [Gr_ w W] (h : Aside0 (Below w0.heap.size w0 w)) (hb : Below W.heap.size W w1) : Aside0 (Below w0.heap.size w0 w1) := ⟨below_step (hbz_ (W := W) h.out) hb⟩
theorem nbz_ {W : World} {g h : Nat} {o : Obj} (e : W.heap[g]? = some o) (hg : h = W.heap.size) : Aside0 (g ≠ h) := ⟨by rw [hg]; exact Nat.ne_of_lt (blk_lt e)⟩
theorem bnz_ {W : World} {g h : Nat} {o : Obj} (e : W.heap[g]? = some o) (hg : h = W.heap.size) : Aside0 (h ≠ g) := ⟨by rw [hg]; exact Nat.ne_of_gt (blk_lt e)⟩
theorem gez_ {W w : World} {h : Nat} (e : Below w.heap.size w W) (hg : h = W.heap.size) : Aside0 (w.heap.size ≤ h) := ⟨by rw [hg]; exact below_size e⟩
/-- stores at two places: the order makes no difference -/
theorem setCell_comm_ (w : World) (b c i j : Nat) (x y : Value) (h : b ≠ c ∨ i ≠ j) : (w.setCell ⟨c, j, none⟩ y).setCell ⟨b, i, none⟩ x = (w.setCell ⟨b, i, none⟩ x).setCell ⟨c, j, none⟩ y := by
  unfold World.setCell
  congr 1
  apply Array.ext_getElem?
  intro k
  simp only [Array.getElem?_modify]
  by_cases h1 : b = k <;> by_cases h2 : c = k
  · subst h1; subst h2
    have hij : i ≠ j := h.resolve_left (fun z => z rfl)
    simp only [if_pos, Option.map_map]
    congr 1
    funext o
    cases o <;> simp only [Function.comp, Option.isSome_none, Bool.false_eq_true, if_false]
    rw [Array.setIfInBounds_comm _ _ hij]
  · simp only [if_pos h1, if_neg h2]
  · simp only [if_neg h1, if_pos h2]
  · simp only [if_neg h1, if_neg h2]
section
variable {P : Program} {ops : Array Oper} {Q : Exit → Act → World → Prop} {md : Region.Mode} {S : World → Prop} {ds : List Nat}
/-- a load that may come up behind a store elsewhere: both orders lead to one place, shown once -/
theorem late_ {i j : Nat} {N : Option Tmp} {v : Value} {oi oj : Oper} {fuel : Nat} {l : Array Bool} {a a1 : Act} {w W1 : World} (X : Prop) (S2 : World → Prop) (li lj lij : Array Bool) (hi : ops[i]? = some oi) (hj : ops[j]? = some oj) (hN : oi.dst = N) (hNj : oj.dst = none)
    (hc : ((Region.ready md ops l == [i, j] || Region.ready md ops l == [j, i]) && l.setIfInBounds i true == li && l.setIfInBounds j true == lj && Region.ready md ops lj == [i] && lj.setIfInBounds i true == lij) = true) (hdi : i ∉ ds) (hdj : j ∈ ds)
    (hy : YieldsIf P ops S2 oi v a) (hs : S2 w) (hs1 : S2 W1) (ha : a.put N v = a1)
    (h2 : ∀ K : Act → World → Prop, K a W1 → if Region.wanted oj (yielded ops a.tmps) = true then Oper.wp P oj a w K Q else K (a.put none undef) w)
    (hX : X) (b1 : X → wpAnyLast P md ops Q S ds (fuel + 1) li a1 w) (b2 : X → wpAnyLast P md ops Q S ds fuel lij a1 W1) : wpAnyLast P md ops Q S ds (fuel + 2) l a w := by
  simp only [Bool.and_eq_true, Bool.or_eq_true, beq_iff_eq] at hc
  obtain ⟨⟨⟨⟨c1, c2⟩, c3⟩, c4⟩, c5⟩ := hc
  subst ha
  subst hN
  have A1 : wpOp P ops Q i (fun a' w' => (i ∉ ds → S w → S w') ∧ wpAnyLast P md ops Q S ds (fuel + 1) (l.setIfInBounds i true) a' w') a w := by
    refine hy.wpOp hi hs ⟨fun _ h => h, ?_⟩
    rw [c2]
    exact b1 hX
  have A2 : wpOp P ops Q j (fun a' w' => (j ∉ ds → S w → S w') ∧ wpAnyLast P md ops Q S ds (fuel + 1) (l.setIfInBounds j true) a' w') a w := by
    refine wpOp_step hj (fun K hK => ?_)
    rw [hNj]
    refine h2 K (hK _ _ ⟨fun h => absurd hdj h, ?_⟩)
    rw [c3]
    refine wpAnyLast_all c4 (by simp) ?_
    intro k hk
    obtain rfl := List.mem_singleton.mp hk
    refine hy.wpOp hi hs1 ⟨fun _ h => h, ?_⟩
    rw [c5]
    exact b2 hX
  rcases c1 with c1 | c1
  · refine wpAnyLast_all c1 (by simp) ?_
    intro k hk
    rcases List.mem_cons.mp hk with rfl | hk
    · exact A1
    · obtain rfl := List.mem_singleton.mp hk
      exact A2
  · refine wpAnyLast_all c1 (by simp) ?_
    intro k hk
    rcases List.mem_cons.mp hk with rfl | hk
    · exact A2
    · obtain rfl := List.mem_singleton.mp hk
      exact A1
end
section
variable {P : Program} {ops : Array Oper} {Q : Exit → Act → World → Prop}
/-- a call of a function value in a plain region -/
theorem goesV_ {rest : List Oper} {oi : Oper} {a : Act} {w : World} (N : Option Tmp) (hd : oi.dst = N) (hg : oi.guard = none) {f : FuncId} {fn : Func} {xs : Array Operand} {ts : Array TypeId} {o : Operand} {cap : Array Value} (hf : P.funcs[f]? = some fn) (hname : (fn.name == "runtime.NumGoroutine") = false) (hb : fn.body.isSome = true)
    (hop : oi.op = .call { callee := .value o, args := xs, argTypes := ts }) (hv : a.eval o = .func (.func f) #[] cap) (args : Array Value) (hargs : xs.map a.eval = args)
    (h : Calls P f (args ++ cap) w fun e w' => ∃ v, e = .returned v ∧ wpList P ops Q rest (a.put N v) w') : wpList P ops Q (oi :: rest) a w := by
  refine wpList_plain hg fun K hK => ?_
  have he := enters_ hf hname hb (args ++ cap) w
  have hrun : (execOp a.eval oi).run P w = .ok (.enter f (args ++ cap)) w := by
    unfold execOp
    simp [hop, resolve, Deferred.ofValue, invoke, hv, hargs, he]
  unfold Oper.wp
  rw [hrun, Oper.upon_enter]
  refine h.mono fun e w'' hh => ?_
  obtain ⟨v, rfl, hk⟩ := hh
  subst hd
  exact hK _ _ hk
/-- The operation calls a function value. -/
theorem gate_value {rest : List Oper} {oi : Oper} {a : Act} {w : World} {x : Operand} {xs : Array Operand} {ts : Array TypeId} (_ho : oi.op = .call { callee := .value x, args := xs, argTypes := ts }) (h : wpList P ops Q (oi :: rest) a w) : wpList P ops Q (oi :: rest) a w := h
end
section
variable {P : Program} {ops : Array Oper} {Q : Exit → Act → World → Prop}
/-- a call in a plain region behind a guard that says yes -/
theorem goesW_ {rest : List Oper} {oi : Oper} {a : Act} {w : World} (N : Option Tmp) (hd : oi.dst = N) (hw : Region.wanted oi (yielded ops a.tmps) = true) {f : FuncId} {fn : Func} {xs : Array Operand} {ts : Array TypeId} (hf : P.funcs[f]? = some fn) (hname : (fn.name == "runtime.NumGoroutine") = false) (hb : fn.body.isSome = true) (args : Array Value)
    (hop : oi.op = .call { callee := .value (.func f), args := xs, argTypes := ts }) (hargs : xs.map a.eval = args)
    (h : Calls P f args w fun e w' => ∃ v, e = .returned v ∧ wpList P ops Q rest (a.put N v) w') : wpList P ops Q (oi :: rest) a w := by
  refine wpList_step fun K hK => ?_
  rw [if_pos hw]
  have he := enters_ hf hname hb args w
  have hrun : (execOp a.eval oi).run P w = .ok (.enter f args) w := by
    unfold execOp
    simp [hop, resolve, Deferred.ofValue, invoke, Act.eval, hargs, he]
  unfold Oper.wp
  rw [hrun, Oper.upon_enter]
  refine h.mono fun e w'' hh => ?_
  obtain ⟨v, rfl, hk⟩ := hh
  subst hd
  exact hK _ _ hk
/-- a call of a function value in a plain region behind a guard that says yes -/
theorem goesVW_ {rest : List Oper} {oi : Oper} {a : Act} {w : World} (N : Option Tmp) (hd : oi.dst = N) (hw : Region.wanted oi (yielded ops a.tmps) = true) {f : FuncId} {fn : Func} {xs : Array Operand} {ts : Array TypeId} {o : Operand} {cap : Array Value} (hf : P.funcs[f]? = some fn) (hname : (fn.name == "runtime.NumGoroutine") = false) (hb : fn.body.isSome = true)
    (hop : oi.op = .call { callee := .value o, args := xs, argTypes := ts }) (hv : a.eval o = .func (.func f) #[] cap) (args : Array Value) (hargs : xs.map a.eval = args)
    (h : Calls P f (args ++ cap) w fun e w' => ∃ v, e = .returned v ∧ wpList P ops Q rest (a.put N v) w') : wpList P ops Q (oi :: rest) a w := by
  refine wpList_step fun K hK => ?_
  rw [if_pos hw]
  have he := enters_ hf hname hb (args ++ cap) w
  have hrun : (execOp a.eval oi).run P w = .ok (.enter f (args ++ cap)) w := by
    unfold execOp
    simp [hop, resolve, Deferred.ofValue, invoke, hv, hargs, he]
  unfold Oper.wp
  rw [hrun, Oper.upon_enter]
  refine h.mono fun e w'' hh => ?_
  obtain ⟨v, rfl, hk⟩ := hh
  subst hd
  exact hK _ _ hk
end

/-! ### the Lean function series_beyond: function 25 -/
def series_beyond.f (a0 : Int) (a1 : Int) : Option (Bool) := if a0 < (wrap64 (-a1)) then (some true) else (some (decide (a0 > a1)))

/-! ### the Lean function series_Check: function 19 -/
mutual
def series_Check.j0 : Nat → Bool → Int → Int → List (S51) → Int → Option (Int)
  | 0, _, _, _, _, _ => none
  | k + 1, x26, x102000, x102001, x102002, x102003 => if x26 = true then (some 3) else (series_Check.l0 k x102002 (x102002.length : Int) 0)
def series_Check.l0 : Nat → List (S51) → Int → Int → Option (Int)
  | 0, _, _, _ => none
  | k + 1, x28, x29, x30 => if x30 < x29 then (if 0 ≤ x30 then (if x30 < (x28.length : Int) then ((series_beyond.f ((rd_T51 x28 x30).f0) 1000000000).bind fun t106 => (if t106 = true then (some 3) else (if ((rd_T51 x28 x30).f1) < 0 then (some 3) else (if ((rd_T51 x28 x30).f1) ≥ 1000000000 then (some 3) else ((series_beyond.f ((rd_T51 x28 x30).f2) 4000000000000000).bind fun t107 => (if t107 = true then (some 3) else (series_Check.l0 k x28 x29 (wrap64 (x30 + 1))))))))) else (none)) else (none)) else (some 0)
end
def series_Check.f (k : Nat) (a0_0 : Int) (a0_1 : Int) (l0_2 : List (S51)) (a0_3 : Int) : Option (Int) := if (l0_2.length : Int) > 40 then (some 2) else ((series_beyond.f a0_0 1000000000).bind fun t102 => (if t102 = true then (series_Check.j0 k true a0_0 a0_1 l0_2 a0_3) else ((series_beyond.f a0_1 4000000000000000).bind fun t103 => (if t103 = true then (series_Check.j0 k true a0_0 a0_1 l0_2 a0_3) else (if a0_3 < 0 then (series_Check.j0 k true a0_0 a0_1 l0_2 a0_3) else (series_Check.j0 k (decide (a0_3 > 100000000)) a0_0 a0_1 l0_2 a0_3))))))
theorem series_Check.mono_l : ∀ k, (∀ y0 y1 y2 y3 y4, LeO (series_Check.j0 k y0 y1 y2 y3 y4) (series_Check.j0 (k + 1) y0 y1 y2 y3 y4)) ∧ (∀ y0 y1 y2, LeO (series_Check.l0 k y0 y1 y2) (series_Check.l0 (k + 1) y0 y1 y2))
  | 0 => ⟨fun _ _ _ _ _ r h => by simp [series_Check.j0] at h, fun _ _ _ r h => by simp [series_Check.l0] at h⟩
  | k + 1 => by
    obtain ⟨ih0, ih1⟩ := series_Check.mono_l k
    refine ⟨?_, ?_⟩
    · intro y0 y1 y2 y3 y4
      unfold series_Check.j0
      repeat' first
      | (with_reducible exact ih0 _ _ _ _ _)
      | (with_reducible exact ih1 _ _ _)
      | (with_reducible exact LeO.refl _)
      | (with_reducible exact LeO.none _)
      | (with_reducible refine LeO.ite ?_ ?_)
      | (with_reducible refine LeO.bind ?_ (fun _ => ?_))
      | exact ih0 _ _ _ _ _
      | exact ih1 _ _ _
      | exact LeO.none _
      | refine LeO.ite ?_ ?_
      | refine LeO.bind ?_ (fun _ => ?_)
    · intro y0 y1 y2
      unfold series_Check.l0
      repeat' first
      | (with_reducible exact ih0 _ _ _ _ _)
      | (with_reducible exact ih1 _ _ _)
      | (with_reducible exact LeO.refl _)
      | (with_reducible exact LeO.none _)
      | (with_reducible refine LeO.ite ?_ ?_)
      | (with_reducible refine LeO.bind ?_ (fun _ => ?_))
      | exact ih0 _ _ _ _ _
      | exact ih1 _ _ _
      | exact LeO.none _
      | refine LeO.ite ?_ ?_
      | refine LeO.bind ?_ (fun _ => ?_)
theorem series_Check.mono : ∀ a0 a1 a2 a3 k, LeO (series_Check.f k a0 a1 a2 a3) (series_Check.f (k + 1) a0 a1 a2 a3) := by
  intro a0 a1 a2 a3 k
  obtain ⟨ih0, ih1⟩ := series_Check.mono_l k
  unfold series_Check.f
  repeat' first
      | (with_reducible exact ih0 _ _ _ _ _)
      | (with_reducible exact ih1 _ _ _)
      | (with_reducible exact LeO.refl _)
      | (with_reducible exact LeO.none _)
      | (with_reducible refine LeO.ite ?_ ?_)
      | (with_reducible refine LeO.bind ?_ (fun _ => ?_))
      | exact ih0 _ _ _ _ _
      | exact ih1 _ _ _
      | exact LeO.none _
      | refine LeO.ite ?_ ?_
      | refine LeO.bind ?_ (fun _ => ?_)

/-! ### the Lean function series_Valid: function 29 -/
def series_Valid.f (a0 : Int) : Option (Bool) := if a0 ≥ (-345600000000000) then (some (decide (a0 < 345600086400000))) else (some false)

/-! ### the Lean function series_check: function 23 -/
def series_check.f (k : Nat) (a0_0 : Int) (a0_1 : Int) (l0_2 : List (S51)) (a0_3 : Int) (a1 : Int) : Option (Int) := (series_Check.f k a0_0 a0_1 l0_2 a0_3).bind fun t109 => (if t109 = 0 then ((series_Valid.f a1).bind fun t110 => (if t110 = true then (some 0) else (some 3))) else (some t109))
theorem series_check.mono : ∀ a0 a1 a2 a3 a4 k, LeO (series_check.f k a0 a1 a2 a3 a4) (series_check.f (k + 1) a0 a1 a2 a3 a4) := by
  intro a0 a1 a2 a3 a4 k
  unfold series_check.f
  repeat' first
      | (with_reducible exact series_Check.mono _ _ _ _ _)
      | (with_reducible exact LeO.refl _)
      | (with_reducible exact LeO.none _)
      | (with_reducible refine LeO.ite ?_ ?_)
      | (with_reducible refine LeO.bind ?_ (fun _ => ?_))
      | exact series_Check.mono _ _ _ _ _
      | exact LeO.none _
      | refine LeO.ite ?_ ?_
      | refine LeO.bind ?_ (fun _ => ?_)

/-! ### the Lean function interval_Floor: function 20 -/
def interval_Floor.f (a0 : Int) (a1 : Int) : Option (Int) := if a1 = 0 then (none) else (if (Int.tmod a0 a1) = 0 then (some (wrap64 (Int.tdiv a0 a1))) else (if ((decide (a0 < 0)) != (decide (a1 < 0))) = true then (some (wrap64 ((wrap64 (Int.tdiv a0 a1)) - 1))) else (some (wrap64 (Int.tdiv a0 a1)))))

/-! ### the Lean function series_Turned: function 30 -/
def series_Turned.j0 : Nat → Int → Int → Int → Int → Int → Option (Int)
  | 0, _, _, _, _, _ => none
  | k + 1, x0, x5, x6, x7, x8 => if x5 < 0 then ((interval_Floor.f x0 86400000).bind fun t113 => ((interval_Floor.f (wrap64 ((wrap64 (-(wrap64 ((Int.tmod (wrap64 ((Int.tmod (wrap64 (x7 * (wrap64 (Int.tdiv x8 1000)))) 1000000000000000) * 1000)) 1000000000000000) + (Int.tmod (wrap64 (x7 * (Int.tmod x8 1000))) 1000000000000000))))) + (wrap64 ((wrap64 (t113 * x6)) + (wrap64 (Int.tdiv (wrap64 ((wrap64 (x0 - (wrap64 (t113 * 86400000)))) * x6)) 86400000)))))) 1000000000000000).bind fun t114 => (some (wrap64 ((wrap64 ((wrap64 (-(wrap64 ((Int.tmod (wrap64 ((Int.tmod (wrap64 (x7 * (wrap64 (Int.tdiv x8 1000)))) 1000000000000000) * 1000)) 1000000000000000) + (Int.tmod (wrap64 (x7 * (Int.tmod x8 1000))) 1000000000000000))))) + (wrap64 ((wrap64 (t113 * x6)) + (wrap64 (Int.tdiv (wrap64 ((wrap64 (x0 - (wrap64 (t113 * 86400000)))) * x6)) 86400000)))))) - (wrap64 (t114 * 1000000000000000))))))) else ((interval_Floor.f x0 86400000).bind fun t115 => ((interval_Floor.f (wrap64 ((wrap64 ((Int.tmod (wrap64 ((Int.tmod (wrap64 (x7 * (wrap64 (Int.tdiv x8 1000)))) 1000000000000000) * 1000)) 1000000000000000) + (Int.tmod (wrap64 (x7 * (Int.tmod x8 1000))) 1000000000000000))) + (wrap64 ((wrap64 (t115 * x6)) + (wrap64 (Int.tdiv (wrap64 ((wrap64 (x0 - (wrap64 (t115 * 86400000)))) * x6)) 86400000)))))) 1000000000000000).bind fun t116 => (some (wrap64 ((wrap64 ((wrap64 ((Int.tmod (wrap64 ((Int.tmod (wrap64 (x7 * (wrap64 (Int.tdiv x8 1000)))) 1000000000000000) * 1000)) 1000000000000000) + (Int.tmod (wrap64 (x7 * (Int.tmod x8 1000))) 1000000000000000))) + (wrap64 ((wrap64 (t115 * x6)) + (wrap64 (Int.tdiv (wrap64 ((wrap64 (x0 - (wrap64 (t115 * 86400000)))) * x6)) 86400000)))))) - (wrap64 (t116 * 1000000000000000)))))))
def series_Turned.f (k : Nat) (a0 : Int) (a1 : Int) : Option (Int) := (interval_Floor.f a1 86400000).bind fun t111 => ((interval_Floor.f a0 1000000000000000).bind fun t112 => (if t111 < 0 then (series_Turned.j0 k a0 t111 (wrap64 (a1 - (wrap64 (t111 * 86400000)))) (wrap64 (a0 - (wrap64 (t112 * 1000000000000000)))) (wrap64 (-t111))) else (series_Turned.j0 k a0 t111 (wrap64 (a1 - (wrap64 (t111 * 86400000)))) (wrap64 (a0 - (wrap64 (t112 * 1000000000000000)))) t111)))
theorem series_Turned.mono_l : ∀ k, (∀ y0 y1 y2 y3 y4, LeO (series_Turned.j0 k y0 y1 y2 y3 y4) (series_Turned.j0 (k + 1) y0 y1 y2 y3 y4))
  | 0 => fun _ _ _ _ _ r h => by simp [series_Turned.j0] at h
  | k + 1 => by
    have ih0 := series_Turned.mono_l k
    · intro y0 y1 y2 y3 y4
      unfold series_Turned.j0
      repeat' first
      | (with_reducible exact ih0 _ _ _ _ _)
      | (with_reducible exact LeO.refl _)
      | (with_reducible exact LeO.none _)
      | (with_reducible refine LeO.ite ?_ ?_)
      | (with_reducible refine LeO.bind ?_ (fun _ => ?_))
      | exact ih0 _ _ _ _ _
      | exact LeO.none _
      | refine LeO.ite ?_ ?_
      | refine LeO.bind ?_ (fun _ => ?_)
theorem series_Turned.mono : ∀ a0 a1 k, LeO (series_Turned.f k a0 a1) (series_Turned.f (k + 1) a0 a1) := by
  intro a0 a1 k
  have ih0 := series_Turned.mono_l k
  unfold series_Turned.f
  repeat' first
      | (with_reducible exact ih0 _ _ _ _ _)
      | (with_reducible exact LeO.refl _)
      | (with_reducible exact LeO.none _)
      | (with_reducible refine LeO.ite ?_ ?_)
      | (with_reducible refine LeO.bind ?_ (fun _ => ?_))
      | exact ih0 _ _ _ _ _
      | exact LeO.none _
      | refine LeO.ite ?_ ?_
      | refine LeO.bind ?_ (fun _ => ?_)

/-! ### the Lean function interval_out: function 40 -/
def interval_out.f (a0 : Int) : Option (Bool) := if a0 < (-1000000000000000000) then (some true) else (some (decide (a0 > 1000000000000000000)))

/-! ### the Lean function interval_Check: function 36 -/
def interval_Check.j0 : Nat → Bool → Int → Int → Option (Int)
  | 0, _, _, _ => none
  | k + 1, x10, x118000, x118001 => if x10 = true then (some 3) else (if x118000 > x118001 then (some 9) else (some 0))
def interval_Check.f (k : Nat) (a0_0 : Int) (a0_1 : Int) : Option (Int) := (interval_out.f a0_0).bind fun t118 => (if t118 = true then (interval_Check.j0 k true a0_0 a0_1) else ((interval_out.f a0_1).bind fun t119 => (interval_Check.j0 k t119 a0_0 a0_1)))
theorem interval_Check.mono_l : ∀ k, (∀ y0 y1 y2, LeO (interval_Check.j0 k y0 y1 y2) (interval_Check.j0 (k + 1) y0 y1 y2))
  | 0 => fun _ _ _ r h => by simp [interval_Check.j0] at h
  | k + 1 => by
    have ih0 := interval_Check.mono_l k
    · intro y0 y1 y2
      unfold interval_Check.j0
      repeat' first
      | (with_reducible exact ih0 _ _ _)
      | (with_reducible exact LeO.refl _)
      | (with_reducible exact LeO.none _)
      | (with_reducible refine LeO.ite ?_ ?_)
      | (with_reducible refine LeO.bind ?_ (fun _ => ?_))
      | exact ih0 _ _ _
      | exact LeO.none _
      | refine LeO.ite ?_ ?_
      | refine LeO.bind ?_ (fun _ => ?_)
theorem interval_Check.mono : ∀ a0 a1 k, LeO (interval_Check.f k a0 a1) (interval_Check.f (k + 1) a0 a1) := by
  intro a0 a1 k
  have ih0 := interval_Check.mono_l k
  unfold interval_Check.f
  repeat' first
      | (with_reducible exact ih0 _ _ _)
      | (with_reducible exact LeO.refl _)
      | (with_reducible exact LeO.none _)
      | (with_reducible refine LeO.ite ?_ ?_)
      | (with_reducible refine LeO.bind ?_ (fun _ => ?_))
      | exact ih0 _ _ _
      | exact LeO.none _
      | refine LeO.ite ?_ ?_
      | refine LeO.bind ?_ (fun _ => ?_)

/-! ### the Lean function trig_out: function 41 -/
def trig_out.f (a0 : Int) : Option (Bool) := if a0 < (-1000000000000000000) then (some true) else (some (decide (a0 > 1000000000000000000)))

/-! ### the Lean function trig_Reduced: function 42 -/
def trig_Reduced.f (a0 : Int) : Option (Int) := (interval_Floor.f a0 1000000000).bind fun t120 => (some (wrap64 (a0 - (wrap64 (t120 * 1000000000)))))

/-! ### the Lean function trig_mul: function 47 -/
def trig_mul.f (a0 : Int) (a1 : Int) : Option (Int) := some (wrap64 ((wrap64 ((a0 / 1073741824) * (a1 / 1073741824))) + ((wrap64 ((wrap64 ((wrap64 ((a0 / 1073741824) * (Go.bits .and .i64 a1 1073741823))) + (wrap64 ((Go.bits .and .i64 a0 1073741823) * (a1 / 1073741824))))) + ((wrap64 ((Go.bits .and .i64 a0 1073741823) * (Go.bits .and .i64 a1 1073741823))) / 1073741824))) / 1073741824)))

/-! ### the Lean function trig_octant: function 43 -/
def trig_octant.l0 : Nat → Int → Int → Int → Int → Int → Int → Option (Int × Int)
  | 0, _, _, _, _, _, _ => none
  | k + 1, x5, x6, x7, x8, x9, x10 => if x10 ≤ 9 then ((trig_mul.f x9 x5).bind fun t122 => (if (wrap64 ((wrap64 ((wrap64 ((wrap64 (2 * x10)) - 1)) * 2)) * x10)) = 0 then (none) else ((trig_mul.f x8 x5).bind fun t123 => (if (wrap64 ((wrap64 (2 * x10)) * (wrap64 ((wrap64 (2 * x10)) + 1)))) = 0 then (none) else (if (Int.tmod x10 2) = 1 then (trig_octant.l0 k x5 (wrap64 (x6 - (wrap64 (Int.tdiv t123 (wrap64 ((wrap64 (2 * x10)) * (wrap64 ((wrap64 (2 * x10)) + 1)))))))) (wrap64 (x7 - (wrap64 (Int.tdiv t122 (wrap64 ((wrap64 ((wrap64 ((wrap64 (2 * x10)) - 1)) * 2)) * x10)))))) (wrap64 (Int.tdiv t123 (wrap64 ((wrap64 (2 * x10)) * (wrap64 ((wrap64 (2 * x10)) + 1)))))) (wrap64 (Int.tdiv t122 (wrap64 ((wrap64 ((wrap64 ((wrap64 (2 * x10)) - 1)) * 2)) * x10)))) (wrap64 (x10 + 1))) else (trig_octant.l0 k x5 (wrap64 (x6 + (wrap64 (Int.tdiv t123 (wrap64 ((wrap64 (2 * x10)) * (wrap64 ((wrap64 (2 * x10)) + 1)))))))) (wrap64 (x7 + (wrap64 (Int.tdiv t122 (wrap64 ((wrap64 ((wrap64 ((wrap64 (2 * x10)) - 1)) * 2)) * x10)))))) (wrap64 (Int.tdiv t123 (wrap64 ((wrap64 (2 * x10)) * (wrap64 ((wrap64 (2 * x10)) + 1)))))) (wrap64 (Int.tdiv t122 (wrap64 ((wrap64 ((wrap64 ((wrap64 (2 * x10)) - 1)) * 2)) * x10)))) (wrap64 (x10 + 1)))))))) else (some (mx 0 x6, mn 1152921504606846976 x7))
def trig_octant.f (k : Nat) (a0 : Int) : Option (Int × Int) := (trig_mul.f (wrap64 ((wrap64 (a0 * 7244019458)) + (wrap64 (Int.tdiv (wrap64 (a0 * 77122842)) 1000000000)))) (wrap64 ((wrap64 (a0 * 7244019458)) + (wrap64 (Int.tdiv (wrap64 (a0 * 77122842)) 1000000000))))).bind fun t121 => (trig_octant.l0 k t121 (wrap64 ((wrap64 (a0 * 7244019458)) + (wrap64 (Int.tdiv (wrap64 (a0 * 77122842)) 1000000000)))) 1152921504606846976 (wrap64 ((wrap64 (a0 * 7244019458)) + (wrap64 (Int.tdiv (wrap64 (a0 * 77122842)) 1000000000)))) 1152921504606846976 1)
theorem trig_octant.mono_l : ∀ k, (∀ y0 y1 y2 y3 y4 y5, LeO (trig_octant.l0 k y0 y1 y2 y3 y4 y5) (trig_octant.l0 (k + 1) y0 y1 y2 y3 y4 y5))
  | 0 => fun _ _ _ _ _ _ r h => by simp [trig_octant.l0] at h
  | k + 1 => by
    have ih0 := trig_octant.mono_l k
    · intro y0 y1 y2 y3 y4 y5
      unfold trig_octant.l0
      repeat' first
      | (with_reducible exact ih0 _ _ _ _ _ _)
      | (with_reducible exact LeO.refl _)
      | (with_reducible exact LeO.none _)
      | (with_reducible refine LeO.ite ?_ ?_)
      | (with_reducible refine LeO.bind ?_ (fun _ => ?_))
      | exact ih0 _ _ _ _ _ _
      | exact LeO.none _
      | refine LeO.ite ?_ ?_
      | refine LeO.bind ?_ (fun _ => ?_)
theorem trig_octant.mono : ∀ a0 k, LeO (trig_octant.f k a0) (trig_octant.f (k + 1) a0) := by
  intro a0 k
  have ih0 := trig_octant.mono_l k
  unfold trig_octant.f
  repeat' first
      | (with_reducible exact ih0 _ _ _ _ _ _)
      | (with_reducible exact LeO.refl _)
      | (with_reducible exact LeO.none _)
      | (with_reducible refine LeO.ite ?_ ?_)
      | (with_reducible refine LeO.bind ?_ (fun _ => ?_))
      | exact ih0 _ _ _ _ _ _
      | exact LeO.none _
      | refine LeO.ite ?_ ?_
      | refine LeO.bind ?_ (fun _ => ?_)

/-! ### the Lean function trig_rounded: function 44 -/
def trig_rounded.f (a0 : Int) : Option (Int × Int) := some (mx (-1000000000) (wrap64 (((wrap64 ((wrap64 ((a0 / 1073741824) * 1000000000)) + ((wrap64 ((Go.bits .and .i64 a0 1073741823) * 1000000000)) / 1073741824))) / 1073741824) - 1)), mn 1000000000 (wrap64 (((wrap64 ((wrap64 ((a0 / 1073741824) * 1000000000)) + ((wrap64 ((Go.bits .and .i64 a0 1073741823) * 1000000000)) / 1073741824))) / 1073741824) + 2)))

/-! ### the Lean function trig_minus: function 45 -/
def trig_minus.f (a0_0 : Int) (a0_1 : Int) : Option (Int × Int) := some (wrap64 (-a0_1), wrap64 (-a0_0))

/-! ### the Lean function trig_Sin: function 37 -/
def trig_Sin.j0 : Nat → Int → Int → Int → Option (Int × Int × Int)
  | 0, _, _, _ => none
  | k + 1, x4, x6, x7 => if x4 = 0 then ((trig_rounded.f x6).bind fun bt134 => (some (bt134.1, bt134.2, 0))) else (if x4 = 1 then ((trig_rounded.f x7).bind fun bt136 => (some (bt136.1, bt136.2, 0))) else (if x4 = 2 then ((trig_rounded.f x6).bind fun bt138 => ((trig_minus.f bt138.1 bt138.2).bind fun bt140 => (some (bt140.1, bt140.2, 0)))) else ((trig_rounded.f x7).bind fun bt142 => ((trig_minus.f bt142.1 bt142.2).bind fun bt144 => (some (bt144.1, bt144.2, 0))))))
def trig_Sin.f (k : Nat) (a0 : Int) : Option (Int × Int × Int) := (trig_out.f a0).bind fun t128 => (if t128 = true then (some (0, 0, 3)) else ((trig_Reduced.f a0).bind fun t129 => (if (Int.tmod t129 250000000) ≤ 125000000 then ((trig_octant.f k (Int.tmod t129 250000000)).bind fun bt130 => (trig_Sin.j0 k (wrap64 (Int.tdiv t129 250000000)) bt130.1 bt130.2)) else ((trig_octant.f k (wrap64 (250000000 - (Int.tmod t129 250000000)))).bind fun bt132 => (trig_Sin.j0 k (wrap64 (Int.tdiv t129 250000000)) bt132.2 bt132.1)))))
theorem trig_Sin.mono_l : ∀ k, (∀ y0 y1 y2, LeO (trig_Sin.j0 k y0 y1 y2) (trig_Sin.j0 (k + 1) y0 y1 y2))
  | 0 => fun _ _ _ r h => by simp [trig_Sin.j0] at h
  | k + 1 => by
    have ih0 := trig_Sin.mono_l k
    · intro y0 y1 y2
      unfold trig_Sin.j0
      repeat' first
      | (with_reducible exact ih0 _ _ _)
      | (with_reducible exact trig_octant.mono _ _)
      | (with_reducible exact LeO.refl _)
      | (with_reducible exact LeO.none _)
      | (with_reducible refine LeO.ite ?_ ?_)
      | (with_reducible refine LeO.bind ?_ (fun _ => ?_))
      | exact ih0 _ _ _
      | exact trig_octant.mono _ _
      | exact LeO.none _
      | refine LeO.ite ?_ ?_
      | refine LeO.bind ?_ (fun _ => ?_)
theorem trig_Sin.mono : ∀ a0 k, LeO (trig_Sin.f k a0) (trig_Sin.f (k + 1) a0) := by
  intro a0 k
  have ih0 := trig_Sin.mono_l k
  unfold trig_Sin.f
  repeat' first
      | (with_reducible exact ih0 _ _ _)
      | (with_reducible exact trig_octant.mono _ _)
      | (with_reducible exact LeO.refl _)
      | (with_reducible exact LeO.none _)
      | (with_reducible refine LeO.ite ?_ ?_)
      | (with_reducible refine LeO.bind ?_ (fun _ => ?_))
      | exact ih0 _ _ _
      | exact trig_octant.mono _ _
      | exact LeO.none _
      | refine LeO.ite ?_ ?_
      | refine LeO.bind ?_ (fun _ => ?_)

/-! ### the Lean function trig_passes: function 38 -/
def trig_passes.f (a0_0 : Int) (a0_1 : Int) (a1 : Int) : Option (Bool) := (interval_Floor.f (wrap64 (a0_1 - a1)) 1000000000).bind fun t147 => (some (decide ((wrap64 (t147 * 1000000000)) ≥ (wrap64 (a0_0 - a1)))))

/-! ### the Lean function trig_SinOver: function 31 -/
def trig_SinOver.f (k : Nat) (a0_0 : Int) (a0_1 : Int) : Option (Int × Int × Int) := (interval_Check.f k a0_0 a0_1).bind fun t150 => (if t150 = 0 then ((trig_Sin.f k a0_0).bind fun bt151 => ((trig_Sin.f k a0_1).bind fun bt155 => ((trig_passes.f a0_0 a0_1 250000000).bind fun t160 => (if t160 = true then ((trig_passes.f a0_0 a0_1 750000000).bind fun t161 => (if t161 = true then (some ((-1000000000), 1000000000, 0)) else (some (mn bt151.1 bt155.1, 1000000000, 0)))) else ((trig_passes.f a0_0 a0_1 750000000).bind fun t162 => (if t162 = true then (some ((-1000000000), mx bt151.2.1 bt155.2.1, 0)) else (some (mn bt151.1 bt155.1, mx bt151.2.1 bt155.2.1, 0)))))))) else (some (0, 0, t150)))
theorem trig_SinOver.mono : ∀ a0 a1 k, LeO (trig_SinOver.f k a0 a1) (trig_SinOver.f (k + 1) a0 a1) := by
  intro a0 a1 k
  unfold trig_SinOver.f
  repeat' first
      | (with_reducible exact interval_Check.mono _ _ _)
      | (with_reducible exact trig_Sin.mono _ _)
      | (with_reducible exact LeO.refl _)
      | (with_reducible exact LeO.none _)
      | (with_reducible refine LeO.ite ?_ ?_)
      | (with_reducible refine LeO.bind ?_ (fun _ => ?_))
      | exact interval_Check.mono _ _ _
      | exact trig_Sin.mono _ _
      | exact LeO.none _
      | refine LeO.ite ?_ ?_
      | refine LeO.bind ?_ (fun _ => ?_)

/-! ### the Lean function interval_abs: function 46 -/
def interval_abs.f (a0 : Int) : Option (Int) := if a0 < 0 then (some (wrap64 (-a0))) else (some a0)

/-! ### the Lean function interval_part: function 39 -/
def interval_part.j0 : Nat → Int → Int → Int → Int → Bool → Option (Int × Bool)
  | 0, _, _, _, _, _ => none
  | k + 1, x0, x1, x2, x8, x21 => if x21 = true then (some (0, false)) else ((interval_Floor.f (wrap64 ((wrap64 (x0 - (wrap64 (x8 * x2)))) * x1)) x2).bind fun t165 => ((interval_out.f (wrap64 ((wrap64 (x8 * x1)) + t165))).bind fun t166 => (some (wrap64 ((wrap64 (x8 * x1)) + t165), !t166))))
def interval_part.f (k : Nat) (a0 : Int) (a1 : Int) (a2 : Int) : Option (Int × Bool) := (interval_Floor.f a0 a2).bind fun t163 => (if a1 = 0 then (interval_part.j0 k a0 a1 a2 t163 false) else ((interval_abs.f t163).bind fun t164 => (interval_part.j0 k a0 a1 a2 t163 (decide (t164 > (wrap64 (Int.tdiv (2000000000000000000 : Int) a1)))))))
theorem interval_part.mono_l : ∀ k, (∀ y0 y1 y2 y3 y4, LeO (interval_part.j0 k y0 y1 y2 y3 y4) (interval_part.j0 (k + 1) y0 y1 y2 y3 y4))
  | 0 => fun _ _ _ _ _ r h => by simp [interval_part.j0] at h
  | k + 1 => by
    have ih0 := interval_part.mono_l k
    · intro y0 y1 y2 y3 y4
      unfold interval_part.j0
      repeat' first
      | (with_reducible exact ih0 _ _ _ _ _)
      | (with_reducible exact LeO.refl _)
      | (with_reducible exact LeO.none _)
      | (with_reducible refine LeO.ite ?_ ?_)
      | (with_reducible refine LeO.bind ?_ (fun _ => ?_))
      | exact ih0 _ _ _ _ _
      | exact LeO.none _
      | refine LeO.ite ?_ ?_
      | refine LeO.bind ?_ (fun _ => ?_)
theorem interval_part.mono : ∀ a0 a1 a2 k, LeO (interval_part.f k a0 a1 a2) (interval_part.f (k + 1) a0 a1 a2) := by
  intro a0 a1 a2 k
  have ih0 := interval_part.mono_l k
  unfold interval_part.f
  repeat' first
      | (with_reducible exact ih0 _ _ _ _ _)
      | (with_reducible exact LeO.refl _)
      | (with_reducible exact LeO.none _)
      | (with_reducible refine LeO.ite ?_ ?_)
      | (with_reducible refine LeO.bind ?_ (fun _ => ?_))
      | exact ih0 _ _ _ _ _
      | exact LeO.none _
      | refine LeO.ite ?_ ?_
      | refine LeO.bind ?_ (fun _ => ?_)

/-! ### the Lean function interval_Scale: function 32 -/
def interval_Scale.lo (a0_0 a0_1 a1 a2 : Int) : Int := if a1 < 0 then (-a0_1) * (-a1) / a2 else a0_0 * a1 / a2
def interval_Scale.hi (a0_0 a0_1 a1 a2 : Int) : Int := if a1 < 0 then -(a0_0 * (-a1) / a2) else -((-a0_1) * a1 / a2)
def ScaleOk (a0_0 a0_1 a1 a2 : Int) : Prop := InR a0_0 ∧ a0_0 ≤ a0_1 ∧ InR a0_1 ∧ -1000000000 ≤ a1 ∧ a1 ≤ 1000000000 ∧ 1 ≤ a2 ∧ a2 ≤ 1000000000 ∧ InR (interval_Scale.lo a0_0 a0_1 a1 a2) ∧ InR (interval_Scale.hi a0_0 a0_1 a1 a2)
instance (a b c d : Int) : Decidable (ScaleOk a b c d) := inferInstanceAs (Decidable (_ ∧ _ ∧ _ ∧ _ ∧ _ ∧ _ ∧ _ ∧ _ ∧ _))
def interval_Scale.f (a0_0 : Int) (a0_1 : Int) (a1 : Int) (a2 : Int) : Option (Int × Int × Int) :=
  if ScaleOk a0_0 a0_1 a1 a2 then some (interval_Scale.lo a0_0 a0_1 a1 a2, interval_Scale.hi a0_0 a0_1 a1 a2, 0) else none
theorem sfloor_ {a b : Int} (hb : 0 < b) (hb' : b ≤ 9000000000000000000) (ha : -9000000000000000000 ≤ a) (ha' : a ≤ 9000000000000000000) : interval_Floor.f a b = some (a / b) := by
  have e := Int.emod_add_mul_ediv a b
  have m0 := Int.emod_nonneg a (show b ≠ 0 by omega)
  have m1 := Int.emod_lt_of_pos a hb
  unfold interval_Floor.f
  rw [if_neg (by omega)]
  rcases Int.le_total 0 a with h0 | h0
  · have d0 : 0 ≤ a / b := Int.ediv_nonneg h0 (by omega)
    have d1 : a / b ≤ a := Int.ediv_le_self _ h0
    rw [Int.tdiv_eq_ediv_of_nonneg h0, wrap_in_ (n := a / b) (by omega) (by omega), decide_eq_false (show ¬ a < 0 by omega), decide_eq_false (show ¬ b < 0 by omega)]
    simp
  · have hm : Int.tmod a b = -((-a) % b) := by rw [← Int.tmod_eq_emod_of_nonneg (by omega), Int.neg_tmod, Int.neg_neg]
    have hd : Int.tdiv a b = -((-a) / b) := by rw [← Int.tdiv_eq_ediv_of_nonneg (by omega), Int.neg_tdiv, Int.neg_neg]
    have e' := Int.emod_add_mul_ediv (-a) b
    have m0' := Int.emod_nonneg (-a) (show b ≠ 0 by omega)
    have m1' := Int.emod_lt_of_pos (-a) hb
    have d0 : 0 ≤ (-a) / b := Int.ediv_nonneg (by omega) (by omega)
    have d1 : (-a) / b ≤ -a := Int.ediv_le_self _ (by omega)
    rw [hm, hd, wrap_in_ (n := -((-a) / b)) (by omega) (by omega)]
    clear hm hd e m0 m1
    generalize (-a) / b = q at *
    generalize (-a) % b = m at *
    have n1 : b * (-q) = -(b * q) := Int.mul_neg b q
    have bq : 0 ≤ b * q := Int.mul_nonneg (by omega) d0
    have n2 : b * (-q - 1) = -(b * q) - b := by rw [Int.mul_sub, n1, Int.mul_one]
    by_cases z : m = 0
    · rw [if_pos (by omega)]
      congr 1
      rw [show a = b * (-q) by omega, Int.mul_ediv_cancel_left _ (by omega)]
    · rw [if_neg (by omega), decide_eq_true (show a < 0 by omega), decide_eq_false (show ¬ b < 0 by omega), wrap_in_ (by omega) (by omega)]
      simp only [Bool.true_bne, Bool.not_false, if_true]
      congr 1
      rw [show a = (b - m) + b * (-q - 1) by omega, Int.add_mul_ediv_left _ _ (by omega), Int.ediv_eq_zero_of_lt (by omega) (by omega)]; omega
theorem part_f_ {n m d : Int} (h1 : InR n) (h2 : 0 ≤ m) (h3 : m ≤ 1000000000) (h4 : 1 ≤ d) (h5 : d ≤ 1000000000) (h6 : InR (n * m / d)) : interval_part.f 1 n m d = some (n * m / d, true) := by
  obtain ⟨a1, a2⟩ := h1
  obtain ⟨b1, b2⟩ := h6
  have e := Int.emod_add_mul_ediv n d
  have m0 := Int.emod_nonneg n (show d ≠ 0 by omega)
  have m1 := Int.emod_lt_of_pos n (show 0 < d by omega)
  have q1 : n / d ≤ 1000000000000000000 := Int.ediv_le_of_le_mul (by omega) (by have : 1000000000000000000 * 1 ≤ 1000000000000000000 * d := Int.mul_le_mul_of_nonneg_left h4 (by omega); omega)
  have q0 : -1000000000000000000 ≤ n / d := Int.le_ediv_of_mul_le (by omega) (by have : 1000000000000000000 * 1 ≤ 1000000000000000000 * d := Int.mul_le_mul_of_nonneg_left h4 (by omega); rw [Int.neg_mul]; omega)
  -- the two parts of the quotient
  have key : n / d * m + (n - n / d * d) * m / d = n * m / d := by
    have : n * m = (n - n / d * d) * m + (n / d * m) * d := by
      rw [Int.sub_mul, Int.mul_right_comm (n / d) d m]; omega
    rw [this, Int.add_mul_ediv_right _ _ (by omega)]; omega
  have r : n - n / d * d = n % d := by rw [Int.mul_comm (n / d) d]; omega
  have p0 : 0 ≤ (n - n / d * d) * m := by rw [r]; exact Int.mul_nonneg m0 h2
  have p1 : (n - n / d * d) * m ≤ d * m := by rw [r]; exact Int.mul_le_mul_of_nonneg_right (by omega) h2
  have p2 : d * m ≤ 1000000000 * m := Int.mul_le_mul_of_nonneg_right h5 h2
  have t0 : 0 ≤ (n - n / d * d) * m / d := Int.ediv_nonneg p0 (by omega)
  have t1 : (n - n / d * d) * m / d ≤ m := Int.ediv_le_of_le_mul (by omega) (by rw [Int.mul_comm m d]; exact p1)
  have w1 : n / d * d = n - n % d := by omega
  unfold interval_part.f
  rw [sfloor_ (by omega) (by omega) (by omega) (by omega)]
  simp only [Option.bind_some]
  have last : interval_part.j0 1 n m d (n / d) false = some (n * m / d, true) := by
    simp only [interval_part.j0, Bool.false_eq_true, if_false]
    rw [wrap_in_ (n := n / d * d) (by omega) (by omega), wrap_in_ (n := n - n / d * d) (by omega) (by omega), wrap_in_ (n := (n - n / d * d) * m) (by omega) (by omega), sfloor_ (by omega) (by omega) (by omega) (by omega)]
    simp only [Option.bind_some]
    rw [wrap_in_ (n := n / d * m) (by omega) (by omega), key, wrap_in_ (n := n * m / d) (by omega) (by omega)]
    unfold interval_out.f
    rw [if_neg (by omega), decide_eq_false (by omega)]
    rfl
  by_cases z : m = 0
  · rw [if_pos z]; exact last
  · rw [if_neg z]
    have ab : interval_abs.f (n / d) = some (if n / d < 0 then -(n / d) else n / d) := by
      unfold interval_abs.f
      split
      · rw [wrap_in_ (by omega) (by omega)]
      · rfl
    rw [ab]
    simp only [Option.bind_some]
    have le : (if n / d < 0 then -(n / d) else n / d) ≤ Int.tdiv 2000000000000000000 m := by
      rw [Int.tdiv_eq_ediv_of_nonneg (by omega)]
      refine Int.le_ediv_of_mul_le (by omega) ?_
      split
      · rw [Int.neg_mul]; omega
      · omega
    have up : Int.tdiv 2000000000000000000 m ≤ 2000000000000000000 := by
      rw [Int.tdiv_eq_ediv_of_nonneg (by omega)]; exact Int.ediv_le_self _ (by omega)
    have lo : 0 ≤ Int.tdiv 2000000000000000000 m := by
      rw [Int.tdiv_eq_ediv_of_nonneg (by omega)]; exact Int.ediv_nonneg (by omega) h2
    rw [wrap_in_ (by omega) (by omega), decide_eq_false (by omega)]
    exact last

/-! ### the Lean function series_sum: function 24 -/
def series_sum.l0 : Nat → Int → List (S51) → Int → Int → Int → Int → Option (Int × Int)
  | 0, _, _, _, _, _, _ => none
  | k + 1, x1, x25, x26, x27, x170000, x170001 => if x27 < x26 then (if 0 ≤ x27 then (if x27 < (x25.length : Int) then ((series_Turned.f k ((rd_T51 x25 x27).f2) x1).bind fun t172 => ((trig_SinOver.f k (wrap64 ((wrap64 (Int.tdiv t172 1000000)) + ((rd_T51 x25 x27).f1))) (wrap64 ((wrap64 ((wrap64 (Int.tdiv t172 1000000)) + ((rd_T51 x25 x27).f1))) + 1))).bind fun bt173 => ((interval_Scale.f bt173.1 bt173.2.1 ((rd_T51 x25 x27).f0) 1000000000).bind fun bt177 => (series_sum.l0 k x1 x25 x26 (wrap64 (x27 + 1)) (wrap64 (x170000 + bt177.1)) (wrap64 (x170001 + bt177.2.1)))))) else (none)) else (none)) else (some (x170000, x170001))
def series_sum.f (k : Nat) (a0_0 : Int) (a0_1 : Int) (l0_2 : List (S51)) (a0_3 : Int) (a1 : Int) : Option (Int × Int) := series_sum.l0 k a1 l0_2 (l0_2.length : Int) 0 (wrap64 (a0_0 - a0_3)) (wrap64 (a0_0 + a0_3))
theorem series_sum.mono_l : ∀ k, (∀ y0 y1 y2 y3 y4 y5, LeO (series_sum.l0 k y0 y1 y2 y3 y4 y5) (series_sum.l0 (k + 1) y0 y1 y2 y3 y4 y5))
  | 0 => fun _ _ _ _ _ _ r h => by simp [series_sum.l0] at h
  | k + 1 => by
    have ih0 := series_sum.mono_l k
    · intro y0 y1 y2 y3 y4 y5
      unfold series_sum.l0
      repeat' first
      | (with_reducible exact ih0 _ _ _ _ _ _)
      | (with_reducible exact series_Turned.mono _ _ _)
      | (with_reducible exact trig_SinOver.mono _ _ _)
      | (with_reducible exact LeO.refl _)
      | (with_reducible exact LeO.none _)
      | (with_reducible refine LeO.ite ?_ ?_)
      | (with_reducible refine LeO.bind ?_ (fun _ => ?_))
      | exact ih0 _ _ _ _ _ _
      | exact series_Turned.mono _ _ _
      | exact trig_SinOver.mono _ _ _
      | exact LeO.none _
      | refine LeO.ite ?_ ?_
      | refine LeO.bind ?_ (fun _ => ?_)
theorem series_sum.mono : ∀ a0 a1 a2 a3 a4 k, LeO (series_sum.f k a0 a1 a2 a3 a4) (series_sum.f (k + 1) a0 a1 a2 a3 a4) := by
  intro a0 a1 a2 a3 a4 k
  have ih0 := series_sum.mono_l k
  unfold series_sum.f
  repeat' first
      | (with_reducible exact ih0 _ _ _ _ _ _)
      | (with_reducible exact series_Turned.mono _ _ _)
      | (with_reducible exact trig_SinOver.mono _ _ _)
      | (with_reducible exact LeO.refl _)
      | (with_reducible exact LeO.none _)
      | (with_reducible refine LeO.ite ?_ ?_)
      | (with_reducible refine LeO.bind ?_ (fun _ => ?_))
      | exact ih0 _ _ _ _ _ _
      | exact series_Turned.mono _ _ _
      | exact trig_SinOver.mono _ _ _
      | exact LeO.none _
      | refine LeO.ite ?_ ?_
      | refine LeO.bind ?_ (fun _ => ?_)

/-! ### the Lean function series_Reduced: function 28 -/
def series_Reduced.f (a0_0 : Int) (a0_1 : Int) : Option (Int × Int) := (interval_Floor.f a0_0 1000000000).bind fun t183 => (some (wrap64 (a0_0 - (wrap64 (t183 * 1000000000))), wrap64 (a0_1 - (wrap64 (t183 * 1000000000)))))

/-! ### the Lean function series_Angle: function 33 -/
def series_Angle.f (k : Nat) (a0_0 : Int) (a0_1 : Int) (l0_2 : List (S51)) (a0_3 : Int) (a1 : Int) : Option (Int × Int × Int) := (series_check.f k a0_0 a0_1 l0_2 a0_3 a1).bind fun t186 => (if t186 = 0 then ((series_sum.f k a0_0 a0_1 l0_2 a0_3 a1).bind fun bt187 => ((series_Turned.f k a0_1 a1).bind fun t189 => ((series_Reduced.f (wrap64 (bt187.1 + (wrap64 (Int.tdiv t189 1000000)))) (wrap64 ((wrap64 (bt187.2 + (wrap64 (Int.tdiv t189 1000000)))) + 1))).bind fun bt191 => (some (bt191.1, bt191.2, 0))))) else (some (0, 0, t186)))
theorem series_Angle.mono : ∀ a0 a1 a2 a3 a4 k, LeO (series_Angle.f k a0 a1 a2 a3 a4) (series_Angle.f (k + 1) a0 a1 a2 a3 a4) := by
  intro a0 a1 a2 a3 a4 k
  unfold series_Angle.f
  repeat' first
      | (with_reducible exact series_Turned.mono _ _ _)
      | (with_reducible exact series_check.mono _ _ _ _ _ _)
      | (with_reducible exact series_sum.mono _ _ _ _ _ _)
      | (with_reducible exact LeO.refl _)
      | (with_reducible exact LeO.none _)
      | (with_reducible refine LeO.ite ?_ ?_)
      | (with_reducible refine LeO.bind ?_ (fun _ => ?_))
      | exact series_Turned.mono _ _ _
      | exact series_check.mono _ _ _ _ _ _
      | exact series_sum.mono _ _ _ _ _ _
      | exact LeO.none _
      | refine LeO.ite ?_ ?_
      | refine LeO.bind ?_ (fun _ => ?_)

/-! ### the Lean function moon_Series: function 34 -/
def moon_Series.f  : Option (Int × Int × (List (S51)) × Int) := some (392048814, 36601101305556, (([(⟨17468817, 99384016, 36291647083333⟩ : S51), (⟨3538964, 134030564, 31434736861111⟩ : S51), (⟨1828650, 233414580, 67726383944444⟩ : S51), (⟨593383, 198768032, 72583294166666⟩ : S51), (⟨(-514211), 84888545, 2737778555556⟩ : S51), (⟨(-317589), 297001062, 73496390222222⟩ : S51)] : List (S51))), 20000)

/-! ### the Lean function moon_Longitude: function 26 -/
def moon_Longitude.f (k : Nat) (a0 : Int) : Option (Int × Int × Int) := (moon_Series.f).bind fun bt198 => ((series_Angle.f k bt198.1 bt198.2.1 bt198.2.2.1 bt198.2.2.2 a0).bind fun bt204 => (some (bt204.1, bt204.2.1, bt204.2.2)))
theorem moon_Longitude.mono : ∀ a0 k, LeO (moon_Longitude.f k a0) (moon_Longitude.f (k + 1) a0) := by
  intro a0 k
  unfold moon_Longitude.f
  repeat' first
      | (with_reducible exact series_Angle.mono _ _ _ _ _ _)
      | (with_reducible exact LeO.refl _)
      | (with_reducible exact LeO.none _)
      | (with_reducible refine LeO.ite ?_ ?_)
      | (with_reducible refine LeO.bind ?_ (fun _ => ?_))
      | exact series_Angle.mono _ _ _ _ _ _
      | exact LeO.none _
      | refine LeO.ite ?_ ?_
      | refine LeO.bind ?_ (fun _ => ?_)

/-! ### the Lean function sun_Series: function 35 -/
def sun_Series.f  : Option (Int × Int × (List (S51)) × Int) := some (775342092, 2737909333333, (([(⟨5318339, 84888545, 2737778555556⟩ : S51), (⟨55536, 169777090, 5475557111112⟩ : S51)] : List (S51))), 2000)

/-! ### the Lean function sun_Longitude: function 27 -/
def sun_Longitude.f (k : Nat) (a0 : Int) : Option (Int × Int × Int) := (sun_Series.f).bind fun bt212 => ((series_Angle.f k bt212.1 bt212.2.1 bt212.2.2.1 bt212.2.2.2 a0).bind fun bt218 => (some (bt218.1, bt218.2.1, bt218.2.2)))
theorem sun_Longitude.mono : ∀ a0 k, LeO (sun_Longitude.f k a0) (sun_Longitude.f (k + 1) a0) := by
  intro a0 k
  unfold sun_Longitude.f
  repeat' first
      | (with_reducible exact series_Angle.mono _ _ _ _ _ _)
      | (with_reducible exact LeO.refl _)
      | (with_reducible exact LeO.none _)
      | (with_reducible refine LeO.ite ?_ ?_)
      | (with_reducible refine LeO.bind ?_ (fun _ => ?_))
      | exact series_Angle.mono _ _ _ _ _ _
      | exact LeO.none _
      | refine LeO.ite ?_ ?_
      | refine LeO.bind ?_ (fun _ => ?_)

/-! ### the Lean function moon_Elongation: function 21 -/
def moon_Elongation.f (k : Nat) (a0 : Int) : Option (Int × Int × Int) := (moon_Longitude.f k a0).bind fun bt222 => (if bt222.2.2 = 0 then ((sun_Longitude.f k a0).bind fun bt226 => ((series_Reduced.f (wrap64 (bt222.1 - bt226.2.1)) (wrap64 (bt222.2.1 - bt226.1))).bind fun bt230 => (some (bt230.1, bt230.2, 0)))) else (some (0, 0, bt222.2.2)))
theorem moon_Elongation.mono : ∀ a0 k, LeO (moon_Elongation.f k a0) (moon_Elongation.f (k + 1) a0) := by
  intro a0 k
  unfold moon_Elongation.f
  repeat' first
      | (with_reducible exact moon_Longitude.mono _ _)
      | (with_reducible exact sun_Longitude.mono _ _)
      | (with_reducible exact LeO.refl _)
      | (with_reducible exact LeO.none _)
      | (with_reducible refine LeO.ite ?_ ?_)
      | (with_reducible refine LeO.bind ?_ (fun _ => ?_))
      | exact moon_Longitude.mono _ _
      | exact sun_Longitude.mono _ _
      | exact LeO.none _
      | refine LeO.ite ?_ ?_
      | refine LeO.bind ?_ (fun _ => ?_)

/-! ### the Lean function series_After: function 22 -/
def series_After.j0 : Nat → Int → Int → Bool → Option (Int)
  | 0, _, _, _ => none
  | k + 1, x5, x7, x25 => if x25 = true then (some 1) else (if x7 < 0 then (if x5 > (-500000000) then (some (-1)) else (some 0)) else (some 0))
def series_After.f (k : Nat) (a0_0 : Int) (a0_1 : Int) (a1 : Int) : Option (Int) := (interval_Floor.f (wrap64 ((wrap64 (a0_0 - a1)) + 500000000)) 1000000000).bind fun t233 => (if (wrap64 ((wrap64 (a0_0 - a1)) - (wrap64 (t233 * 1000000000)))) > 0 then (series_After.j0 k (wrap64 ((wrap64 (a0_0 - a1)) - (wrap64 (t233 * 1000000000)))) (wrap64 ((wrap64 (a0_1 - a1)) - (wrap64 (t233 * 1000000000)))) (decide ((wrap64 ((wrap64 (a0_1 - a1)) - (wrap64 (t233 * 1000000000)))) < 500000000))) else (series_After.j0 k (wrap64 ((wrap64 (a0_0 - a1)) - (wrap64 (t233 * 1000000000)))) (wrap64 ((wrap64 (a0_1 - a1)) - (wrap64 (t233 * 1000000000)))) false))
theorem series_After.mono_l : ∀ k, (∀ y0 y1 y2, LeO (series_After.j0 k y0 y1 y2) (series_After.j0 (k + 1) y0 y1 y2))
  | 0 => fun _ _ _ r h => by simp [series_After.j0] at h
  | k + 1 => by
    have ih0 := series_After.mono_l k
    · intro y0 y1 y2
      unfold series_After.j0
      repeat' first
      | (with_reducible exact ih0 _ _ _)
      | (with_reducible exact LeO.refl _)
      | (with_reducible exact LeO.none _)
      | (with_reducible refine LeO.ite ?_ ?_)
      | (with_reducible refine LeO.bind ?_ (fun _ => ?_))
      | exact ih0 _ _ _
      | exact LeO.none _
      | refine LeO.ite ?_ ?_
      | refine LeO.bind ?_ (fun _ => ?_)
theorem series_After.mono : ∀ a0 a1 a2 k, LeO (series_After.f k a0 a1 a2) (series_After.f (k + 1) a0 a1 a2) := by
  intro a0 a1 a2 k
  have ih0 := series_After.mono_l k
  unfold series_After.f
  repeat' first
      | (with_reducible exact ih0 _ _ _)
      | (with_reducible exact LeO.refl _)
      | (with_reducible exact LeO.none _)
      | (with_reducible refine LeO.ite ?_ ?_)
      | (with_reducible refine LeO.bind ?_ (fun _ => ?_))
      | exact ih0 _ _ _
      | exact LeO.none _
      | refine LeO.ite ?_ ?_
      | refine LeO.bind ?_ (fun _ => ?_)

/-! ### the Lean function phase_Sign: function 15 -/
def phase_Sign.f (k : Nat) (a0 : Int) (a1 : Int) : Option (Int) := (moon_Elongation.f k a1).bind fun bt234 => (if bt234.2.2 = 0 then ((series_After.f k bt234.1 bt234.2.1 (wrap64 (a0 * 250000000))).bind fun t238 => (some t238)) else (some 0))
theorem phase_Sign.mono : ∀ a0 a1 k, LeO (phase_Sign.f k a0 a1) (phase_Sign.f (k + 1) a0 a1) := by
  intro a0 a1 k
  unfold phase_Sign.f
  repeat' first
      | (with_reducible exact moon_Elongation.mono _ _)
      | (with_reducible exact series_After.mono _ _ _ _)
      | (with_reducible exact LeO.refl _)
      | (with_reducible exact LeO.none _)
      | (with_reducible refine LeO.ite ?_ ?_)
      | (with_reducible refine LeO.bind ?_ (fun _ => ?_))
      | exact moon_Elongation.mono _ _
      | exact series_After.mono _ _ _ _
      | exact LeO.none _
      | refine LeO.ite ?_ ?_
      | refine LeO.bind ?_ (fun _ => ?_)

/-! ### the Lean function series_Narrow: function 16 -/
mutual
def series_Narrow.l0 (sg : Nat → Int → Option Int) : Nat → Int → Int → Int → Int → Option (Int × Int × Int)
  | 0, _, _, _, _ => none
  | k + 1, x0, x1, x2, x3 => if (wrap64 (x1 - x0)) > x2 then ((sg k (wrap64 (x0 + (wrap64 (Int.tdiv (wrap64 (x1 - x0)) 2))))).bind fun t240 => (if t240 < 0 then (series_Narrow.l0 sg k (wrap64 (x0 + (wrap64 (Int.tdiv (wrap64 (x1 - x0)) 2)))) x1 x2 x3) else (if t240 > 0 then (series_Narrow.l0 sg k x0 (wrap64 (x0 + (wrap64 (Int.tdiv (wrap64 (x1 - x0)) 2)))) x2 x3) else (series_Narrow.l1 sg k x0 x1 x2 x3 (wrap64 (x0 + (wrap64 (Int.tdiv (wrap64 (x1 - x0)) 2)))) (wrap64 (x0 + (wrap64 (Int.tdiv (wrap64 (x1 - x0)) 2)))))))) else (some (x0, x1, 0))
def series_Narrow.l1 (sg : Nat → Int → Option Int) : Nat → Int → Int → Int → Int → Int → Int → Option (Int × Int × Int)
  | 0, _, _, _, _, _, _ => none
  | k + 1, x0, x1, x2, x3, x10, x12 => if (wrap64 (x12 - x0)) > 1 then ((sg k (wrap64 (x0 + (wrap64 (Int.tdiv (wrap64 (x12 - x0)) 2))))).bind fun t241 => (if t241 < 0 then (series_Narrow.l1 sg k (wrap64 (x0 + (wrap64 (Int.tdiv (wrap64 (x12 - x0)) 2)))) x1 x2 x3 x10 x12) else (series_Narrow.l1 sg k x0 x1 x2 x3 x10 (wrap64 (x0 + (wrap64 (Int.tdiv (wrap64 (x12 - x0)) 2))))))) else (series_Narrow.l2 sg k x0 x1 x2 x3 x10)
def series_Narrow.l2 (sg : Nat → Int → Option Int) : Nat → Int → Int → Int → Int → Int → Option (Int × Int × Int)
  | 0, _, _, _, _, _ => none
  | k + 1, x0, x1, x2, x3, x14 => if (wrap64 (x1 - x14)) > 1 then ((sg k (wrap64 (x14 + (wrap64 (Int.tdiv (wrap64 (x1 - x14)) 2))))).bind fun t242 => (if t242 > 0 then (series_Narrow.l2 sg k x0 (wrap64 (x14 + (wrap64 (Int.tdiv (wrap64 (x1 - x14)) 2)))) x2 x3 x14) else (series_Narrow.l2 sg k x0 x1 x2 x3 (wrap64 (x14 + (wrap64 (Int.tdiv (wrap64 (x1 - x14)) 2))))))) else (if (wrap64 (x1 - x0)) > x2 then (some (0, 0, 11)) else (some (x0, x1, 0)))
end
def series_Narrow.f (sg : Nat → Int → Option Int) (k : Nat) (a0 : Int) (a1 : Int) (a2 : Int) (a3 : Int) : Option (Int × Int × Int) := series_Narrow.l0 sg k a0 a1 a2 a3
theorem series_Narrow.mono_l {sg : Nat → Int → Option Int} (hm : ∀ x k, LeO (sg k x) (sg (k + 1) x)) : ∀ k, (∀ y0 y1 y2 y3, LeO (series_Narrow.l0 sg k y0 y1 y2 y3) (series_Narrow.l0 sg (k + 1) y0 y1 y2 y3)) ∧ (∀ y0 y1 y2 y3 y4 y5, LeO (series_Narrow.l1 sg k y0 y1 y2 y3 y4 y5) (series_Narrow.l1 sg (k + 1) y0 y1 y2 y3 y4 y5)) ∧ (∀ y0 y1 y2 y3 y4, LeO (series_Narrow.l2 sg k y0 y1 y2 y3 y4) (series_Narrow.l2 sg (k + 1) y0 y1 y2 y3 y4))
  | 0 => ⟨fun _ _ _ _ r h => by simp [series_Narrow.l0] at h, fun _ _ _ _ _ _ r h => by simp [series_Narrow.l1] at h, fun _ _ _ _ _ r h => by simp [series_Narrow.l2] at h⟩
  | k + 1 => by
    obtain ⟨ih0, ih1, ih2⟩ := series_Narrow.mono_l hm k
    refine ⟨?_, ?_, ?_⟩
    · intro y0 y1 y2 y3
      unfold series_Narrow.l0
      repeat' first
      | (with_reducible exact ih0 _ _ _ _)
      | (with_reducible exact ih1 _ _ _ _ _ _)
      | (with_reducible exact ih2 _ _ _ _ _)
      | (with_reducible exact hm _ _)
      | (with_reducible exact LeO.refl _)
      | (with_reducible exact LeO.none _)
      | (with_reducible refine LeO.ite ?_ ?_)
      | (with_reducible refine LeO.bind ?_ (fun _ => ?_))
      | exact ih0 _ _ _ _
      | exact ih1 _ _ _ _ _ _
      | exact ih2 _ _ _ _ _
      | exact hm _ _
      | exact LeO.none _
      | refine LeO.ite ?_ ?_
      | refine LeO.bind ?_ (fun _ => ?_)
    · intro y0 y1 y2 y3 y4 y5
      unfold series_Narrow.l1
      repeat' first
      | (with_reducible exact ih0 _ _ _ _)
      | (with_reducible exact ih1 _ _ _ _ _ _)
      | (with_reducible exact ih2 _ _ _ _ _)
      | (with_reducible exact hm _ _)
      | (with_reducible exact LeO.refl _)
      | (with_reducible exact LeO.none _)
      | (with_reducible refine LeO.ite ?_ ?_)
      | (with_reducible refine LeO.bind ?_ (fun _ => ?_))
      | exact ih0 _ _ _ _
      | exact ih1 _ _ _ _ _ _
      | exact ih2 _ _ _ _ _
      | exact hm _ _
      | exact LeO.none _
      | refine LeO.ite ?_ ?_
      | refine LeO.bind ?_ (fun _ => ?_)
    · intro y0 y1 y2 y3 y4
      unfold series_Narrow.l2
      repeat' first
      | (with_reducible exact ih0 _ _ _ _)
      | (with_reducible exact ih1 _ _ _ _ _ _)
      | (with_reducible exact ih2 _ _ _ _ _)
      | (with_reducible exact hm _ _)
      | (with_reducible exact LeO.refl _)
      | (with_reducible exact LeO.none _)
      | (with_reducible refine LeO.ite ?_ ?_)
      | (with_reducible refine LeO.bind ?_ (fun _ => ?_))
      | exact ih0 _ _ _ _
      | exact ih1 _ _ _ _ _ _
      | exact ih2 _ _ _ _ _
      | exact hm _ _
      | exact LeO.none _
      | refine LeO.ite ?_ ?_
      | refine LeO.bind ?_ (fun _ => ?_)
theorem series_Narrow.mono {sg : Nat → Int → Option Int} (hm : ∀ x k, LeO (sg k x) (sg (k + 1) x)) : ∀ a0 a1 a2 a3 k, LeO (series_Narrow.f sg k a0 a1 a2 a3) (series_Narrow.f sg (k + 1) a0 a1 a2 a3) := by
  intro a0 a1 a2 a3 k
  obtain ⟨ih0, ih1, ih2⟩ := series_Narrow.mono_l hm k
  unfold series_Narrow.f
  repeat' first
      | (with_reducible exact ih0 _ _ _ _)
      | (with_reducible exact ih1 _ _ _ _ _ _)
      | (with_reducible exact ih2 _ _ _ _ _)
      | (with_reducible exact hm _ _)
      | (with_reducible exact LeO.refl _)
      | (with_reducible exact LeO.none _)
      | (with_reducible refine LeO.ite ?_ ?_)
      | (with_reducible refine LeO.bind ?_ (fun _ => ?_))
      | exact ih0 _ _ _ _
      | exact ih1 _ _ _ _ _ _
      | exact ih2 _ _ _ _ _
      | exact hm _ _
      | exact LeO.none _
      | refine LeO.ite ?_ ?_
      | refine LeO.bind ?_ (fun _ => ?_)

/-! ### the Lean function phase_Find: function 8 -/
def phase_Find.lo (a0 a1 : Int) : Int := (wrap64 ((wrap64 ((wrap64 (977949455 + (wrap64 (a0 * 2551442878)))) + (wrap64 (a1 * 637860719)))) - 172800000))
def phase_Find.hi (a0 a1 : Int) : Int := (wrap64 ((wrap64 ((wrap64 (977949455 + (wrap64 (a0 * 2551442878)))) + (wrap64 (a1 * 637860719)))) + 172800000))
def phase_Find.f (k : Nat) (a0 : Int) (a1 : Int) : Option (Int × Int × Int) :=
  if 0 ≤ a1 ∧ a1 ≤ 3 ∧ -100000 ≤ a0 ∧ a0 ≤ 100000 then (phase_Sign.f k a1 (phase_Find.lo a0 a1)).bind fun s => if s < 0 then (phase_Sign.f k a1 (phase_Find.hi a0 a1)).bind fun u => if 0 < u then series_Narrow.f (fun k x => phase_Sign.f k a1 x) k (phase_Find.lo a0 a1) (phase_Find.hi a0 a1) 600000 0 else none else none else none
theorem phase_Find.mono : ∀ a0 a1 k, LeO (phase_Find.f k a0 a1) (phase_Find.f (k + 1) a0 a1) := by
  intro a0 a1 k
  unfold phase_Find.f
  refine LeO.ite ?_ (LeO.refl _)
  refine LeO.bind (phase_Sign.mono _ _ _) (fun _ => LeO.ite ?_ (LeO.refl _))
  refine LeO.bind (phase_Sign.mono _ _ _) (fun _ => LeO.ite ?_ (LeO.refl _))
  exact series_Narrow.mono (sg := fun k x => phase_Sign.f k a1 x) (fun x k => phase_Sign.mono a1 x k) _ _ _ _ k

/-! ### the Lean function moon_North: function 11 -/
def moon_North.f  : Option (Int × Int × (List (S51)) × Int) := some (0, 0, (([(⟨14244783, 648500531, 36748195111111⟩ : S51), (⟨779450, 747884547, 73039842194444⟩ : S51), (⟨771369, 450883485, (-456548027778)⟩ : S51)] : List (S51))), 20000)

/-! ### the Lean function series_Value: function 18 -/
def series_Value.f (k : Nat) (a0_0 : Int) (a0_1 : Int) (l0_2 : List (S51)) (a0_3 : Int) (a1 : Int) : Option (Int × Int × Int) := (series_check.f k a0_0 a0_1 l0_2 a0_3 a1).bind fun t245 => (if t245 = 0 then ((series_sum.f k a0_0 a0_1 l0_2 a0_3 a1).bind fun bt246 => (some (bt246.1, bt246.2, 0))) else (some (0, 0, t245)))
theorem series_Value.mono : ∀ a0 a1 a2 a3 a4 k, LeO (series_Value.f k a0 a1 a2 a3 a4) (series_Value.f (k + 1) a0 a1 a2 a3 a4) := by
  intro a0 a1 a2 a3 a4 k
  unfold series_Value.f
  repeat' first
      | (with_reducible exact series_check.mono _ _ _ _ _ _)
      | (with_reducible exact series_sum.mono _ _ _ _ _ _)
      | (with_reducible exact LeO.refl _)
      | (with_reducible exact LeO.none _)
      | (with_reducible refine LeO.ite ?_ ?_)
      | (with_reducible refine LeO.bind ?_ (fun _ => ?_))
      | exact series_check.mono _ _ _ _ _ _
      | exact series_sum.mono _ _ _ _ _ _
      | exact LeO.none _
      | refine LeO.ite ?_ ?_
      | refine LeO.bind ?_ (fun _ => ?_)

/-! ### the Lean function moon_Latitude: function 9 -/
def moon_Latitude.f (k : Nat) (a0 : Int) : Option (Int × Int × Int) := (moon_North.f).bind fun bt249 => ((series_Value.f k bt249.1 bt249.2.1 bt249.2.2.1 bt249.2.2.2 a0).bind fun bt255 => (some (bt255.1, bt255.2.1, bt255.2.2)))
theorem moon_Latitude.mono : ∀ a0 k, LeO (moon_Latitude.f k a0) (moon_Latitude.f (k + 1) a0) := by
  intro a0 k
  unfold moon_Latitude.f
  repeat' first
      | (with_reducible exact series_Value.mono _ _ _ _ _ _)
      | (with_reducible exact LeO.refl _)
      | (with_reducible exact LeO.none _)
      | (with_reducible refine LeO.ite ?_ ?_)
      | (with_reducible refine LeO.bind ?_ (fun _ => ?_))
      | exact series_Value.mono _ _ _ _ _ _
      | exact LeO.none _
      | refine LeO.ite ?_ ?_
      | refine LeO.bind ?_ (fun _ => ?_)

/-! ### the Lean function interval_Ceil: function 12 -/
def interval_Ceil.f (a0 : Int) (a1 : Int) : Option (Int) := (interval_Floor.f (wrap64 (-a0)) a1).bind fun t258 => (some (wrap64 (-t258)))

/-! ### the Lean function series_Slope: function 10 -/
mutual
def series_Slope.l0 : Nat → Int → List (S51) → Int → Int → Int → Int → List (S51) → Int → Option (Int × Int × Int)
  | 0, _, _, _, _, _, _, _, _ => none
  | k + 1, x5, x17, x18, x19, x260000, x260001, x260002, x260003 => if x19 < x18 then (if 0 ≤ x19 then (if x19 < (x17.length : Int) then (if ((rd_T51 x17 x19).f0) < 0 then (series_Slope.j1 k x5 (wrap64 (-((rd_T51 x17 x19).f0))) ((rd_T51 x17 x19).f2) x17 x18 x19 x260000 x260001 x260002 x260003) else (series_Slope.j1 k x5 ((rd_T51 x17 x19).f0) ((rd_T51 x17 x19).f2) x17 x18 x19 x260000 x260001 x260002 x260003)) else (none)) else (none)) else ((interval_Floor.f x260001 1000000).bind fun t262 => ((interval_Ceil.f x260001 1000000).bind fun t263 => (some (wrap64 (t262 - x5), wrap64 (t263 + x5), 0))))
def series_Slope.j1 : Nat → Int → Int → Int → List (S51) → Int → Int → Int → Int → List (S51) → Int → Option (Int × Int × Int)
  | 0, _, _, _, _, _, _, _, _, _, _ => none
  | k + 1, x5, x8, x9, x17, x18, x19, x260000, x260001, x260002, x260003 => if x9 < 0 then ((interval_Ceil.f (wrap64 (-x9)) 1000000).bind fun t266 => ((interval_Ceil.f (wrap64 (x8 * t266)) 1000000000).bind fun t267 => ((interval_Ceil.f (wrap64 (t267 * 44)) 7).bind fun t268 => (series_Slope.l0 k (wrap64 (x5 + t268)) x17 x18 (wrap64 (x19 + 1)) x260000 x260001 x260002 x260003)))) else ((interval_Ceil.f x9 1000000).bind fun t269 => ((interval_Ceil.f (wrap64 (x8 * t269)) 1000000000).bind fun t270 => ((interval_Ceil.f (wrap64 (t270 * 44)) 7).bind fun t271 => (series_Slope.l0 k (wrap64 (x5 + t271)) x17 x18 (wrap64 (x19 + 1)) x260000 x260001 x260002 x260003))))
end
def series_Slope.f (k : Nat) (a0_0 : Int) (a0_1 : Int) (l0_2 : List (S51)) (a0_3 : Int) : Option (Int × Int × Int) := (series_Check.f k a0_0 a0_1 l0_2 a0_3).bind fun t261 => (if t261 = 0 then (series_Slope.l0 k 0 l0_2 (l0_2.length : Int) 0 a0_0 a0_1 l0_2 a0_3) else (some (0, 0, t261)))
theorem series_Slope.mono_l : ∀ k, (∀ y0 y1 y2 y3 y4 y5 y6 y7, LeO (series_Slope.l0 k y0 y1 y2 y3 y4 y5 y6 y7) (series_Slope.l0 (k + 1) y0 y1 y2 y3 y4 y5 y6 y7)) ∧ (∀ y0 y1 y2 y3 y4 y5 y6 y7 y8 y9, LeO (series_Slope.j1 k y0 y1 y2 y3 y4 y5 y6 y7 y8 y9) (series_Slope.j1 (k + 1) y0 y1 y2 y3 y4 y5 y6 y7 y8 y9))
  | 0 => ⟨fun _ _ _ _ _ _ _ _ r h => by simp [series_Slope.l0] at h, fun _ _ _ _ _ _ _ _ _ _ r h => by simp [series_Slope.j1] at h⟩
  | k + 1 => by
    obtain ⟨ih0, ih1⟩ := series_Slope.mono_l k
    refine ⟨?_, ?_⟩
    · intro y0 y1 y2 y3 y4 y5 y6 y7
      unfold series_Slope.l0
      repeat' first
      | (with_reducible exact ih0 _ _ _ _ _ _ _ _)
      | (with_reducible exact ih1 _ _ _ _ _ _ _ _ _ _)
      | (with_reducible exact series_Check.mono _ _ _ _ _)
      | (with_reducible exact LeO.refl _)
      | (with_reducible exact LeO.none _)
      | (with_reducible refine LeO.ite ?_ ?_)
      | (with_reducible refine LeO.bind ?_ (fun _ => ?_))
      | exact ih0 _ _ _ _ _ _ _ _
      | exact ih1 _ _ _ _ _ _ _ _ _ _
      | exact series_Check.mono _ _ _ _ _
      | exact LeO.none _
      | refine LeO.ite ?_ ?_
      | refine LeO.bind ?_ (fun _ => ?_)
    · intro y0 y1 y2 y3 y4 y5 y6 y7 y8 y9
      unfold series_Slope.j1
      repeat' first
      | (with_reducible exact ih0 _ _ _ _ _ _ _ _)
      | (with_reducible exact ih1 _ _ _ _ _ _ _ _ _ _)
      | (with_reducible exact series_Check.mono _ _ _ _ _)
      | (with_reducible exact LeO.refl _)
      | (with_reducible exact LeO.none _)
      | (with_reducible refine LeO.ite ?_ ?_)
      | (with_reducible refine LeO.bind ?_ (fun _ => ?_))
      | exact ih0 _ _ _ _ _ _ _ _
      | exact ih1 _ _ _ _ _ _ _ _ _ _
      | exact series_Check.mono _ _ _ _ _
      | exact LeO.none _
      | refine LeO.ite ?_ ?_
      | refine LeO.bind ?_ (fun _ => ?_)
theorem series_Slope.mono : ∀ a0 a1 a2 a3 k, LeO (series_Slope.f k a0 a1 a2 a3) (series_Slope.f (k + 1) a0 a1 a2 a3) := by
  intro a0 a1 a2 a3 k
  obtain ⟨ih0, ih1⟩ := series_Slope.mono_l k
  unfold series_Slope.f
  repeat' first
      | (with_reducible exact ih0 _ _ _ _ _ _ _ _)
      | (with_reducible exact ih1 _ _ _ _ _ _ _ _ _ _)
      | (with_reducible exact series_Check.mono _ _ _ _ _)
      | (with_reducible exact LeO.refl _)
      | (with_reducible exact LeO.none _)
      | (with_reducible refine LeO.ite ?_ ?_)
      | (with_reducible refine LeO.bind ?_ (fun _ => ?_))
      | exact ih0 _ _ _ _ _ _ _ _
      | exact ih1 _ _ _ _ _ _ _ _ _ _
      | exact series_Check.mono _ _ _ _ _
      | exact LeO.none _
      | refine LeO.ite ?_ ?_
      | refine LeO.bind ?_ (fun _ => ?_)

/-! ### the Lean function eclipse_Limits: function 13 -/
def eclipse_Limits.f (a0 : Int) : Option (Int × Int) := if a0 = 0 then (some (2500000, 4100000)) else (some (1300000, 2700000))

/-! ### the Lean function eclipse_size: function 14 -/
def eclipse_size.f (a0_0 : Int) (a0_1 : Int) : Option (Int × Int) := if a0_0 ≥ 0 then (some (a0_0, a0_1)) else (if a0_1 ≤ 0 then (some (wrap64 (-a0_1), wrap64 (-a0_0))) else (some (0, mx (wrap64 (-a0_0)) a0_1)))

/-! ### the Lean function eclipse_Find: function 6 -/
def eclipse_Find.j0 : Nat → Int → Int → Bool → Option (Int × Int × Int × Int × Int × Int × Int × Int)
  | 0, _, _, _ => none
  | k + 1, x0, x1, x22 => if x22 = true then (some (0, 0, 0, 0, 0, 0, 0, 1)) else ((phase_Find.f k x0 x1).bind fun bt275 => (if bt275.2.2 = 0 then ((moon_Latitude.f k bt275.1).bind fun bt279 => ((moon_North.f).bind fun bt283 => ((series_Slope.f k bt283.1 bt283.2.1 bt283.2.2.1 bt283.2.2.2).bind fun bt289 => ((interval_Ceil.f (wrap64 ((mx (wrap64 (-bt289.1)) bt289.2.1) * (wrap64 (bt275.2.1 - bt275.1)))) 86400000).bind fun t293 => ((eclipse_Limits.f x1).bind fun bt295 => ((eclipse_size.f (wrap64 (bt279.1 - t293)) (wrap64 (bt279.2.1 + t293))).bind fun bt297 => (if bt297.1 > bt295.2 then (some (0, bt275.1, bt275.2.1, wrap64 (bt279.1 - t293), wrap64 (bt279.2.1 + t293), 0, 0, 0)) else (if bt297.2 < bt295.1 then (if bt295.2 = 0 then (none) else ((interval_Ceil.f (wrap64 ((wrap64 (bt295.2 - bt297.1)) * 1000)) bt295.2).bind fun t300 => (some (2, bt275.1, bt275.2.1, wrap64 (bt279.1 - t293), wrap64 (bt279.2.1 + t293), wrap64 (Int.tdiv (wrap64 ((wrap64 (bt295.2 - bt297.2)) * 1000)) bt295.2), t300, 0)))) else (if bt297.1 > bt295.1 then (if bt297.2 < bt295.2 then (if bt295.2 = 0 then (none) else ((interval_Ceil.f (wrap64 ((wrap64 (bt295.2 - bt297.1)) * 1000)) bt295.2).bind fun t301 => (some (1, bt275.1, bt275.2.1, wrap64 (bt279.1 - t293), wrap64 (bt279.2.1 + t293), wrap64 (Int.tdiv (wrap64 ((wrap64 (bt295.2 - bt297.2)) * 1000)) bt295.2), t301, 0)))) else (some (0, 0, 0, 0, 0, 0, 0, 11))) else (some (0, 0, 0, 0, 0, 0, 0, 11))))))))))) else (some (0, 0, 0, 0, 0, 0, 0, bt275.2.2))))
def eclipse_Find.f (k : Nat) (a0 : Int) (a1 : Int) : Option (Int × Int × Int × Int × Int × Int × Int × Int) := if a1 = 0 then (eclipse_Find.j0 k a0 a1 false) else (eclipse_Find.j0 k a0 a1 (a1 != 2))
theorem eclipse_Find.mono_l : ∀ k, (∀ y0 y1 y2, LeO (eclipse_Find.j0 k y0 y1 y2) (eclipse_Find.j0 (k + 1) y0 y1 y2))
  | 0 => fun _ _ _ r h => by simp [eclipse_Find.j0] at h
  | k + 1 => by
    have ih0 := eclipse_Find.mono_l k
    · intro y0 y1 y2
      unfold eclipse_Find.j0
      repeat' first
      | (with_reducible exact ih0 _ _ _)
      | (with_reducible exact moon_Latitude.mono _ _)
      | (with_reducible exact phase_Find.mono _ _ _)
      | (with_reducible exact series_Slope.mono _ _ _ _ _)
      | (with_reducible exact LeO.refl _)
      | (with_reducible exact LeO.none _)
      | (with_reducible refine LeO.ite ?_ ?_)
      | (with_reducible refine LeO.bind ?_ (fun _ => ?_))
      | exact ih0 _ _ _
      | exact moon_Latitude.mono _ _
      | exact phase_Find.mono _ _ _
      | exact series_Slope.mono _ _ _ _ _
      | exact LeO.none _
      | refine LeO.ite ?_ ?_
      | refine LeO.bind ?_ (fun _ => ?_)
theorem eclipse_Find.mono : ∀ a0 a1 k, LeO (eclipse_Find.f k a0 a1) (eclipse_Find.f (k + 1) a0 a1) := by
  intro a0 a1 k
  have ih0 := eclipse_Find.mono_l k
  unfold eclipse_Find.f
  repeat' first
      | (with_reducible exact ih0 _ _ _)
      | (with_reducible exact moon_Latitude.mono _ _)
      | (with_reducible exact phase_Find.mono _ _ _)
      | (with_reducible exact series_Slope.mono _ _ _ _ _)
      | (with_reducible exact LeO.refl _)
      | (with_reducible exact LeO.none _)
      | (with_reducible refine LeO.ite ?_ ?_)
      | (with_reducible refine LeO.bind ?_ (fun _ => ?_))
      | exact ih0 _ _ _
      | exact moon_Latitude.mono _ _
      | exact phase_Find.mono _ _ _
      | exact series_Slope.mono _ _ _ _ _
      | exact LeO.none _
      | refine LeO.ite ?_ ?_
      | refine LeO.bind ?_ (fun _ => ?_)

/-! ### the Lean function eclipse_Next: function 5 -/
def eclipse_Next.l0 : Nat → Int → Int → Int → Option (Int × Int)
  | 0, _, _, _ => none
  | k + 1, x0, x1, x10 => if x10 < 24 then ((eclipse_Find.f k (wrap64 (x0 + x10)) x1).bind fun bt302 => (if bt302.2.2.2.2.2.2.2 = 0 then (if bt302.1 = 0 then (eclipse_Next.l0 k x0 x1 (wrap64 (x10 + 1))) else (some (wrap64 (x0 + x10), 0))) else (some (0, bt302.2.2.2.2.2.2.2)))) else (some (0, 6))
def eclipse_Next.f (k : Nat) (a0 : Int) (a1 : Int) : Option (Int × Int) := eclipse_Next.l0 k a0 a1 0
theorem eclipse_Next.mono_l : ∀ k, (∀ y0 y1 y2, LeO (eclipse_Next.l0 k y0 y1 y2) (eclipse_Next.l0 (k + 1) y0 y1 y2))
  | 0 => fun _ _ _ r h => by simp [eclipse_Next.l0] at h
  | k + 1 => by
    have ih0 := eclipse_Next.mono_l k
    · intro y0 y1 y2
      unfold eclipse_Next.l0
      repeat' first
      | (with_reducible exact ih0 _ _ _)
      | (with_reducible exact eclipse_Find.mono _ _ _)
      | (with_reducible exact LeO.refl _)
      | (with_reducible exact LeO.none _)
      | (with_reducible refine LeO.ite ?_ ?_)
      | (with_reducible refine LeO.bind ?_ (fun _ => ?_))
      | exact ih0 _ _ _
      | exact eclipse_Find.mono _ _ _
      | exact LeO.none _
      | refine LeO.ite ?_ ?_
      | refine LeO.bind ?_ (fun _ => ?_)
theorem eclipse_Next.mono : ∀ a0 a1 k, LeO (eclipse_Next.f k a0 a1) (eclipse_Next.f (k + 1) a0 a1) := by
  intro a0 a1 k
  have ih0 := eclipse_Next.mono_l k
  unfold eclipse_Next.f
  repeat' first
      | (with_reducible exact ih0 _ _ _)
      | (with_reducible exact eclipse_Find.mono _ _ _)
      | (with_reducible exact LeO.refl _)
      | (with_reducible exact LeO.none _)
      | (with_reducible refine LeO.ite ?_ ?_)
      | (with_reducible refine LeO.bind ?_ (fun _ => ?_))
      | exact ih0 _ _ _
      | exact eclipse_Find.mono _ _ _
      | exact LeO.none _
      | refine LeO.ite ?_ ?_
      | refine LeO.bind ?_ (fun _ => ?_)

/-! ### the Lean function ephemeriskeep2_has: function 7 -/
def ephemeriskeep2_has.f (a0_0 : Int) (a0_1 : Int) (a1 : Int) (a2 : Int) : Option (Bool) := if a0_0 ≤ a1 then (if a1 ≤ a0_1 then (some (decide ((wrap64 (a0_1 - a0_0)) ≤ a2))) else (some false)) else (some false)

/-! ### the Lean function ephemeriskeep2_eclipseWorks: function 4 -/
def ephemeriskeep2_eclipseWorks.f (k : Nat)  : Option (Bool) := (eclipse_Find.f k 24719 0).bind fun bt312 => ((eclipse_Next.f k 24714 0).bind fun bt321 => (if bt312.2.2.2.2.2.2.2 = 0 then (if bt312.1 = 2 then ((ephemeriskeep2_has.f bt312.2.2.2.1 bt312.2.2.2.2.1 1695151 91000).bind fun t323 => (if t323 = true then (if bt321.2 = 0 then (some (bt321.1 == 24719)) else (none)) else (none))) else (none)) else (none)))
theorem ephemeriskeep2_eclipseWorks.mono : ∀ k, LeO (ephemeriskeep2_eclipseWorks.f k ) (ephemeriskeep2_eclipseWorks.f (k + 1) ) := by
  intro  k
  unfold ephemeriskeep2_eclipseWorks.f
  repeat' first
      | (with_reducible exact eclipse_Find.mono _ _ _)
      | (with_reducible exact eclipse_Next.mono _ _ _)
      | (with_reducible exact LeO.refl _)
      | (with_reducible exact LeO.none _)
      | (with_reducible refine LeO.ite ?_ ?_)
      | (with_reducible refine LeO.bind ?_ (fun _ => ?_))
      | exact eclipse_Find.mono _ _ _
      | exact eclipse_Next.mono _ _ _
      | exact LeO.none _
      | refine LeO.ite ?_ ?_
      | refine LeO.bind ?_ (fun _ => ?_)

/-! ### the Lean function ephemeriskeep2_EclipseSeasons: function 3 -/
def ephemeriskeep2_EclipseSeasons.f (k : Nat) (a0 : Int) : Option (Bool) := (ephemeriskeep2_eclipseWorks.f k).bind fun t324 => (if t324 = true then ((eclipse_Next.f k (Int.tmod a0 90000) 0).bind fun bt325 => (if bt325.2 = 11 then (if bt325.1 = 0 then (some true) else (if bt325.2 = 0 then (if bt325.1 ≥ (Int.tmod a0 90000) then (some (decide (bt325.1 < (wrap64 ((Int.tmod a0 90000) + 8))))) else (none)) else (none))) else (if bt325.2 = 0 then (if bt325.1 ≥ (Int.tmod a0 90000) then (some (decide (bt325.1 < (wrap64 ((Int.tmod a0 90000) + 8))))) else (none)) else (none)))) else (none))
theorem ephemeriskeep2_EclipseSeasons.mono : ∀ a0 k, LeO (ephemeriskeep2_EclipseSeasons.f k a0) (ephemeriskeep2_EclipseSeasons.f (k + 1) a0) := by
  intro a0 k
  unfold ephemeriskeep2_EclipseSeasons.f
  repeat' first
      | (with_reducible exact eclipse_Next.mono _ _ _)
      | (with_reducible exact ephemeriskeep2_eclipseWorks.mono _)
      | (with_reducible exact LeO.refl _)
      | (with_reducible exact LeO.none _)
      | (with_reducible refine LeO.ite ?_ ?_)
      | (with_reducible refine LeO.bind ?_ (fun _ => ?_))
      | exact eclipse_Next.mono _ _ _
      | exact ephemeriskeep2_eclipseWorks.mono _
      | exact LeO.none _
      | refine LeO.ite ?_ ?_
      | refine LeO.bind ?_ (fun _ => ?_)
/-- THE ONE PURE STATEMENT of ephemeriskeep2_EclipseSeasons: yours. -/
def ephemeriskeep2_EclipseSeasons.Pure : Prop := ∀ (a0 : Int), (Lit.int .i64 a0).wf = true → ∃ k, ephemeriskeep2_EclipseSeasons.f k a0 = some true

end Go.Proofs.Ytimehbdleognkaa.JE
