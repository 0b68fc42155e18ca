-- Made by a program of this session (wip/hp.py, over the kit's print) out of the translation. Not trusted: Lean checks it.
import Derived.Test.YtmoffcpbmigngaaJMx0
import Derived.LoopN
namespace Go.Proofs.Ytmoffcpbmigngaa.JM
open Go.RowKit Go.Proofs.YtmoffcpbmigngaaW.PrintWords Go.Proofs.YtmoffcpbmigngaaW.PrintLast Go.Proofs.YtmoffcpbmigngaaW.PrintMore
attribute [local go_sem] max2_int min2_int max_two min_two max_three min_three max_four min_four   -- for this text's walks alone
set_option linter.unusedVariables false
set_option linter.unusedSimpArgs false

theorem wrap_in_ {n : Int} (h : -9223372036854775808 ≤ n) (h' : n ≤ 9223372036854775807) : wrap64 n = n := by
  unfold wrap64; omega
/-- within the range of the bounds of intervals -/
def InR (x : Int) : Prop := -1000000000000000000 ≤ x ∧ x ≤ 1000000000000000000
instance (x : Int) : Decidable (InR x) := inferInstanceAs (Decidable (_ ∧ _))
theorem below_setg {B : Nat} {w W : World} {g j : Nat} {v : Value} (h : Below B w W) (hg : B ≤ g) : Below B w (W.setCell ⟨g, j, none⟩ v) := h.setCell hg _
/-- W is w with blocks added and orders drawn -/
class Gr_ (w : outParam World) (W : World) : Prop where
  at_ : ∀ (g : Nat) (o : Obj), w.heap[g]? = some o → W.heap[g]? = some o
  be_ : ∀ w0 : World, Below w0.heap.size w0 w → Below w0.heap.size w0 W
instance (priority := low) gr_refl_ (w : World) : Gr_ w w := ⟨fun _ _ h => h, fun _ h => h⟩
instance gr_alloc_ (w W : World) (o : Obj) [Gr_ w W] : Gr_ w (W.alloc o) := ⟨fun g _ h => blk_alloc (Gr_.at_ (w := w) (W := W) g _ h) o, fun w0 h => below_alloc (Gr_.be_ (w := w) (W := W) w0 h) o⟩
instance gr_drew_ (w W : World) [Gr_ w W] : Gr_ w W.drew := ⟨fun g _ h => blk_drew (Gr_.at_ (w := w) (W := W) g _ h), fun w0 h => below_drew (Gr_.be_ (w := w) (W := W) w0 h)⟩
instance gr_drewN_ (w W : World) (n : Nat) [Gr_ w W] : Gr_ w (W.drewN n) := ⟨fun g _ h => blk_drewN (Gr_.at_ (w := w) (W := W) g _ h) n, fun w0 h => pw_below_drewN (Gr_.be_ (w := w) (W := W) w0 h) n⟩
theorem gr_ {w W : World} [Gr_ w W] {g : Nat} {o : Obj} (h : w.heap[g]? = some o) : W.heap[g]? = some o := Gr_.at_ g o h
theorem hb_ {w W w0 : World} [Gr_ w W] (h : Below w0.heap.size w0 w) : Below w0.heap.size w0 W := Gr_.be_ w0 h
theorem nx_ {w W w1 : World} [Gr_ w W] {g : Nat} {o : Obj} (h : Aside0 (w.heap[g]? = some o)) (hb : Below W.heap.size W w1) : Aside0 (w1.heap[g]? = some o) := ⟨blk_below (gr_ (W := W) h.out) hb⟩
theorem hx_ {w W w0 w1 : World} [Gr_ w W] (h : Aside0 (Below w0.heap.size w0 w)) (hb : Below W.heap.size W w1) : Aside0 (Below w0.heap.size w0 w1) := ⟨below_step (hb_ (W := W) h.out) hb⟩
theorem nb_ {W : World} {g h : Nat} {o : Obj} (e : W.heap[g]? = some o) (hg : h = W.heap.size) : Aside0 (g ≠ h) := ⟨by rw [hg]; exact Nat.ne_of_lt (blk_lt e)⟩
theorem bn_ {W : World} {g h : Nat} {o : Obj} (e : W.heap[g]? = some o) (hg : h = W.heap.size) : Aside0 (h ≠ g) := ⟨by rw [hg]; exact Nat.ne_of_gt (blk_lt e)⟩
theorem ge_ {W w : World} {h : Nat} (e : Below w.heap.size w W) (hg : h = W.heap.size) : Aside0 (w.heap.size ≤ h) := ⟨by rw [hg]; exact below_size e⟩
/-- stores at two places: the order makes no difference -/
theorem setCell_comm_ (w : World) (b c i j : Nat) (x y : Value) (h : b ≠ c ∨ i ≠ j) : (w.setCell ⟨c, j, none⟩ y).setCell ⟨b, i, none⟩ x = (w.setCell ⟨b, i, none⟩ x).setCell ⟨c, j, none⟩ y := by
  unfold World.setCell
  congr 1
  apply Array.ext_getElem?
  intro k
  simp only [Array.getElem?_modify]
  by_cases h1 : b = k <;> by_cases h2 : c = k
  · subst h1; subst h2
    have hij : i ≠ j := h.resolve_left (fun z => z rfl)
    simp only [if_pos, Option.map_map]
    congr 1
    funext o
    cases o <;> simp only [Function.comp, Option.isSome_none, Bool.false_eq_true, if_false]
    rw [Array.setIfInBounds_comm _ _ hij]
  · simp only [if_pos h1, if_neg h2]
  · simp only [if_neg h1, if_pos h2]
  · simp only [if_neg h1, if_neg h2]
section
variable {P : Program} {ops : Array Oper} {Q : Exit → Act → World → Prop} {md : Region.Mode} {S : World → Prop} {ds : List Nat}
/-- a load that may come up behind a store elsewhere: both orders lead to one place, shown once -/
theorem late_ {i j : Nat} {N : Option Tmp} {v : Value} {oi oj : Oper} {fuel : Nat} {l : Array Bool} {a a1 : Act} {w W1 : World} (X : Prop) (S2 : World → Prop) (li lj lij : Array Bool) (hi : ops[i]? = some oi) (hj : ops[j]? = some oj) (hN : oi.dst = N) (hNj : oj.dst = none)
    (hc : ((Region.ready md ops l == [i, j] || Region.ready md ops l == [j, i]) && l.setIfInBounds i true == li && l.setIfInBounds j true == lj && Region.ready md ops lj == [i] && lj.setIfInBounds i true == lij) = true) (hdi : i ∉ ds) (hdj : j ∈ ds)
    (hy : YieldsIf P ops S2 oi v a) (hs : S2 w) (hs1 : S2 W1) (ha : a.put N v = a1)
    (h2 : ∀ K : Act → World → Prop, K a W1 → if Region.wanted oj (yielded ops a.tmps) = true then Oper.wp P oj a w K Q else K (a.put none undef) w)
    (hX : X) (b1 : X → wpAnyLast P md ops Q S ds (fuel + 1) li a1 w) (b2 : X → wpAnyLast P md ops Q S ds fuel lij a1 W1) : wpAnyLast P md ops Q S ds (fuel + 2) l a w := by
  simp only [Bool.and_eq_true, Bool.or_eq_true, beq_iff_eq] at hc
  obtain ⟨⟨⟨⟨c1, c2⟩, c3⟩, c4⟩, c5⟩ := hc
  subst ha
  subst hN
  have A1 : wpOp P ops Q i (fun a' w' => (i ∉ ds → S w → S w') ∧ wpAnyLast P md ops Q S ds (fuel + 1) (l.setIfInBounds i true) a' w') a w := by
    refine hy.wpOp hi hs ⟨fun _ h => h, ?_⟩
    rw [c2]
    exact b1 hX
  have A2 : wpOp P ops Q j (fun a' w' => (j ∉ ds → S w → S w') ∧ wpAnyLast P md ops Q S ds (fuel + 1) (l.setIfInBounds j true) a' w') a w := by
    refine wpOp_step hj (fun K hK => ?_)
    rw [hNj]
    refine h2 K (hK _ _ ⟨fun h => absurd hdj h, ?_⟩)
    rw [c3]
    refine wpAnyLast_all c4 (by simp) ?_
    intro k hk
    obtain rfl := List.mem_singleton.mp hk
    refine hy.wpOp hi hs1 ⟨fun _ h => h, ?_⟩
    rw [c5]
    exact b2 hX
  rcases c1 with c1 | c1
  · refine wpAnyLast_all c1 (by simp) ?_
    intro k hk
    rcases List.mem_cons.mp hk with rfl | hk
    · exact A1
    · obtain rfl := List.mem_singleton.mp hk
      exact A2
  · refine wpAnyLast_all c1 (by simp) ?_
    intro k hk
    rcases List.mem_cons.mp hk with rfl | hk
    · exact A2
    · obtain rfl := List.mem_singleton.mp hk
      exact A1
end
section
variable {P : Program} {ops : Array Oper} {Q : Exit → Act → World → Prop}
/-- a call of a function value in a plain region -/
theorem goesV_ {rest : List Oper} {oi : Oper} {a : Act} {w : World} (N : Option Tmp) (hd : oi.dst = N) (hg : oi.guard = none) {f : FuncId} {fn : Func} {xs : Array Operand} {ts : Array TypeId} {o : Operand} {cap : Array Value} (hf : P.funcs[f]? = some fn) (hname : (fn.name == "runtime.NumGoroutine") = false) (hb : fn.body.isSome = true)
    (hop : oi.op = .call { callee := .value o, args := xs, argTypes := ts }) (hv : a.eval o = .func (.func f) #[] cap) (args : Array Value) (hargs : xs.map a.eval = args)
    (h : Calls P f (args ++ cap) w fun e w' => ∃ v, e = .returned v ∧ wpList P ops Q rest (a.put N v) w') : wpList P ops Q (oi :: rest) a w := by
  refine wpList_plain hg fun K hK => ?_
  have he := enters_ hf hname hb (args ++ cap) w
  have hrun : (execOp a.eval oi).run P w = .ok (.enter f (args ++ cap)) w := by
    unfold execOp
    simp [hop, resolve, Deferred.ofValue, invoke, hv, hargs, he]
  unfold Oper.wp
  rw [hrun, Oper.upon_enter]
  refine h.mono fun e w'' hh => ?_
  obtain ⟨v, rfl, hk⟩ := hh
  subst hd
  exact hK _ _ hk
/-- The operation calls a function value. -/
theorem gate_value {rest : List Oper} {oi : Oper} {a : Act} {w : World} {x : Operand} {xs : Array Operand} {ts : Array TypeId} (_ho : oi.op = .call { callee := .value x, args := xs, argTypes := ts }) (h : wpList P ops Q (oi :: rest) a w) : wpList P ops Q (oi :: rest) a w := h
end
section
variable {P : Program} {ops : Array Oper} {Q : Exit → Act → World → Prop}
/-- a call in a plain region behind a guard that says yes -/
theorem goesW_ {rest : List Oper} {oi : Oper} {a : Act} {w : World} (N : Option Tmp) (hd : oi.dst = N) (hw : Region.wanted oi (yielded ops a.tmps) = true) {f : FuncId} {fn : Func} {xs : Array Operand} {ts : Array TypeId} (hf : P.funcs[f]? = some fn) (hname : (fn.name == "runtime.NumGoroutine") = false) (hb : fn.body.isSome = true) (args : Array Value)
    (hop : oi.op = .call { callee := .value (.func f), args := xs, argTypes := ts }) (hargs : xs.map a.eval = args)
    (h : Calls P f args w fun e w' => ∃ v, e = .returned v ∧ wpList P ops Q rest (a.put N v) w') : wpList P ops Q (oi :: rest) a w := by
  refine wpList_step fun K hK => ?_
  rw [if_pos hw]
  have he := enters_ hf hname hb args w
  have hrun : (execOp a.eval oi).run P w = .ok (.enter f args) w := by
    unfold execOp
    simp [hop, resolve, Deferred.ofValue, invoke, Act.eval, hargs, he]
  unfold Oper.wp
  rw [hrun, Oper.upon_enter]
  refine h.mono fun e w'' hh => ?_
  obtain ⟨v, rfl, hk⟩ := hh
  subst hd
  exact hK _ _ hk
/-- a call of a function value in a plain region behind a guard that says yes -/
theorem goesVW_ {rest : List Oper} {oi : Oper} {a : Act} {w : World} (N : Option Tmp) (hd : oi.dst = N) (hw : Region.wanted oi (yielded ops a.tmps) = true) {f : FuncId} {fn : Func} {xs : Array Operand} {ts : Array TypeId} {o : Operand} {cap : Array Value} (hf : P.funcs[f]? = some fn) (hname : (fn.name == "runtime.NumGoroutine") = false) (hb : fn.body.isSome = true)
    (hop : oi.op = .call { callee := .value o, args := xs, argTypes := ts }) (hv : a.eval o = .func (.func f) #[] cap) (args : Array Value) (hargs : xs.map a.eval = args)
    (h : Calls P f (args ++ cap) w fun e w' => ∃ v, e = .returned v ∧ wpList P ops Q rest (a.put N v) w') : wpList P ops Q (oi :: rest) a w := by
  refine wpList_step fun K hK => ?_
  rw [if_pos hw]
  have he := enters_ hf hname hb (args ++ cap) w
  have hrun : (execOp a.eval oi).run P w = .ok (.enter f (args ++ cap)) w := by
    unfold execOp
    simp [hop, resolve, Deferred.ofValue, invoke, hv, hargs, he]
  unfold Oper.wp
  rw [hrun, Oper.upon_enter]
  refine h.mono fun e w'' hh => ?_
  obtain ⟨v, rfl, hk⟩ := hh
  subst hd
  exact hK _ _ hk
end

/-! ### the Lean function ephemeriskeep2_at: function 24 -/
def ephemeriskeep2_at.f (a0 : Int) (a1 : Int) : Option (Int) := if a1 = 0 then (none) else (some (Int.tmod (wrap64 ((Int.tmod a0 a1) + a1)) a1))

/-! ### the Lean function ephemeriskeep2_instant: function 29 -/
def ephemeriskeep2_instant.f (a0 : Int) : Option (Int) := (ephemeriskeep2_at.f a0 604800000000000).bind fun t101 => (some (wrap64 (t101 - 302400000000000)))

/-! ### the Lean function series_Valid: function 89 -/
def series_Valid.f (a0 : Int) : Option (Bool) := if a0 ≥ (-345600000000000) then (some (decide (a0 < 345600086400000))) else (some false)

/-! ### the Lean function series_beyond: function 111 -/
def series_beyond.f (a0 : Int) (a1 : Int) : Option (Bool) := if a0 < (wrap64 (-a1)) then (some true) else (some (decide (a0 > a1)))

/-! ### the Lean function series_Check: function 104 -/
mutual
def series_Check.j0 : Nat → Bool → Int → Int → List (S93) → Int → Option (Int)
 | 0, _, _, _, _, _ => none
 | k + 1, x26, x103000, x103001, x103002, x103003 => if x26 = true then (some 3) else (series_Check.l0 k x103002 (x103002.length : Int) 0)
def series_Check.l0 : Nat → List (S93) → Int → Int → Option (Int)
 | 0, _, _, _ => none
 | k + 1, x28, x29, x30 => if x30 < x29 then (if 0 ≤ x30 then (if x30 < (x28.length : Int) then ((series_beyond.f ((rd_T93 x28 x30).f0) 1000000000).bind fun t107 => (if t107 = true then (some 3) else (if ((rd_T93 x28 x30).f1) < 0 then (some 3) else (if ((rd_T93 x28 x30).f1) ≥ 1000000000 then (some 3) else ((series_beyond.f ((rd_T93 x28 x30).f2) 4000000000000000).bind fun t108 => (if t108 = true then (some 3) else (series_Check.l0 k x28 x29 (wrap64 (x30 + 1))))))))) else (none)) else (none)) else (some 0)
end
def series_Check.f (k : Nat) (a0_0 : Int) (a0_1 : Int) (l0_2 : List (S93)) (a0_3 : Int) : Option (Int) := if (l0_2.length : Int) > 40 then (some 2) else ((series_beyond.f a0_0 1000000000).bind fun t103 => (if t103 = true then (series_Check.j0 k true a0_0 a0_1 l0_2 a0_3) else ((series_beyond.f a0_1 4000000000000000).bind fun t104 => (if t104 = true then (series_Check.j0 k true a0_0 a0_1 l0_2 a0_3) else (if a0_3 < 0 then (series_Check.j0 k true a0_0 a0_1 l0_2 a0_3) else (series_Check.j0 k (decide (a0_3 > 100000000)) a0_0 a0_1 l0_2 a0_3))))))
theorem series_Check.mono_l : ∀ k, (∀ y0 y1 y2 y3 y4, LeO (series_Check.j0 k y0 y1 y2 y3 y4) (series_Check.j0 (k + 1) y0 y1 y2 y3 y4)) ∧ (∀ y0 y1 y2, LeO (series_Check.l0 k y0 y1 y2) (series_Check.l0 (k + 1) y0 y1 y2))
 | 0 => ⟨fun _ _ _ _ _ r h => by simp [series_Check.j0] at h, fun _ _ _ r h => by simp [series_Check.l0] at h⟩
 | k + 1 => by
  obtain ⟨ih0, ih1⟩ := series_Check.mono_l k
  refine ⟨?_, ?_⟩
  ·
   intro y0 y1 y2 y3 y4
   unfold series_Check.j0
   repeat' first
   | (with_reducible exact ih0 _ _ _ _ _)
   | (with_reducible exact ih1 _ _ _)
   | (with_reducible exact LeO.refl _)
   | (with_reducible exact LeO.none _)
   | (with_reducible refine LeO.ite ?_ ?_)
   | (with_reducible refine LeO.bind ?_ (fun _ => ?_))
   | exact ih0 _ _ _ _ _
   | exact ih1 _ _ _
   | exact LeO.none _
   | refine LeO.ite ?_ ?_
   | refine LeO.bind ?_ (fun _ => ?_)
  ·
   intro y0 y1 y2
   unfold series_Check.l0
   repeat' first
   | (with_reducible exact ih0 _ _ _ _ _)
   | (with_reducible exact ih1 _ _ _)
   | (with_reducible exact LeO.refl _)
   | (with_reducible exact LeO.none _)
   | (with_reducible refine LeO.ite ?_ ?_)
   | (with_reducible refine LeO.bind ?_ (fun _ => ?_))
   | exact ih0 _ _ _ _ _
   | exact ih1 _ _ _
   | exact LeO.none _
   | refine LeO.ite ?_ ?_
   | refine LeO.bind ?_ (fun _ => ?_)
theorem series_Check.mono : ∀ a0 a1 a2 a3 k, LeO (series_Check.f k a0 a1 a2 a3) (series_Check.f (k + 1) a0 a1 a2 a3) := by
 intro a0 a1 a2 a3 k
 obtain ⟨ih0, ih1⟩ := series_Check.mono_l k
 unfold series_Check.f
 repeat' first
   | (with_reducible exact ih0 _ _ _ _ _)
   | (with_reducible exact ih1 _ _ _)
   | (with_reducible exact LeO.refl _)
   | (with_reducible exact LeO.none _)
   | (with_reducible refine LeO.ite ?_ ?_)
   | (with_reducible refine LeO.bind ?_ (fun _ => ?_))
   | exact ih0 _ _ _ _ _
   | exact ih1 _ _ _
   | exact LeO.none _
   | refine LeO.ite ?_ ?_
   | refine LeO.bind ?_ (fun _ => ?_)

/-! ### the Lean function series_check: function 98 -/
def series_check.f (k : Nat) (a0_0 : Int) (a0_1 : Int) (l0_2 : List (S93)) (a0_3 : Int) (a1 : Int) : Option (Int) := (series_Check.f k a0_0 a0_1 l0_2 a0_3).bind fun t110 => (if t110 = 0 then ((series_Valid.f a1).bind fun t111 => (if t111 = true then (some 0) else (some 3))) else (some t110))
theorem series_check.mono : ∀ a0 a1 a2 a3 a4 k, LeO (series_check.f k a0 a1 a2 a3 a4) (series_check.f (k + 1) a0 a1 a2 a3 a4) := by
 intro a0 a1 a2 a3 a4 k
 unfold series_check.f
 repeat' first
   | (with_reducible exact series_Check.mono _ _ _ _ _)
   | (with_reducible exact LeO.refl _)
   | (with_reducible exact LeO.none _)
   | (with_reducible refine LeO.ite ?_ ?_)
   | (with_reducible refine LeO.bind ?_ (fun _ => ?_))
   | exact series_Check.mono _ _ _ _ _
   | exact LeO.none _
   | refine LeO.ite ?_ ?_
   | refine LeO.bind ?_ (fun _ => ?_)

/-! ### the Lean function interval_Floor: function 60 -/
def interval_Floor.f (a0 : Int) (a1 : Int) : Option (Int) := if a1 = 0 then (none) else (if (Int.tmod a0 a1) = 0 then (some (wrap64 (Int.tdiv a0 a1))) else (if ((decide (a0 < 0)) != (decide (a1 < 0))) = true then (some (wrap64 ((wrap64 (Int.tdiv a0 a1)) - 1))) else (some (wrap64 (Int.tdiv a0 a1)))))

/-! ### the Lean function trig_Reduced: function 57 -/
def trig_Reduced.f (a0 : Int) : Option (Int) := (interval_Floor.f a0 1000000000).bind fun t112 => (some (wrap64 (a0 - (wrap64 (t112 * 1000000000)))))

/-! ### the Lean function trig_out: function 91 -/
def trig_out.f (a0 : Int) : Option (Bool) := if a0 < (-1000000000000000000) then (some true) else (some (decide (a0 > 1000000000000000000)))

/-! ### the Lean function trig_mul: function 107 -/
def trig_mul.f (a0 : Int) (a1 : Int) : Option (Int) := some (wrap64 ((wrap64 ((a0 / 1073741824) * (a1 / 1073741824))) + ((wrap64 ((wrap64 ((wrap64 ((a0 / 1073741824) * (Go.bits .and .i64 a1 1073741823))) + (wrap64 ((Go.bits .and .i64 a0 1073741823) * (a1 / 1073741824))))) + ((wrap64 ((Go.bits .and .i64 a0 1073741823) * (Go.bits .and .i64 a1 1073741823))) / 1073741824))) / 1073741824)))

/-! ### the Lean function trig_octant: function 92 -/
def trig_octant.l0 : Nat → Int → Int → Int → Int → Int → Int → Option (Int × Int)
 | 0, _, _, _, _, _, _ => none
 | k + 1, x5, x6, x7, x8, x9, x10 => if x10 ≤ 9 then ((trig_mul.f x9 x5).bind fun t114 => (if (wrap64 ((wrap64 ((wrap64 ((wrap64 (2 * x10)) - 1)) * 2)) * x10)) = 0 then (none) else ((trig_mul.f x8 x5).bind fun t115 => (if (wrap64 ((wrap64 (2 * x10)) * (wrap64 ((wrap64 (2 * x10)) + 1)))) = 0 then (none) else (if (Int.tmod x10 2) = 1 then (trig_octant.l0 k x5 (wrap64 (x6 - (wrap64 (Int.tdiv t115 (wrap64 ((wrap64 (2 * x10)) * (wrap64 ((wrap64 (2 * x10)) + 1)))))))) (wrap64 (x7 - (wrap64 (Int.tdiv t114 (wrap64 ((wrap64 ((wrap64 ((wrap64 (2 * x10)) - 1)) * 2)) * x10)))))) (wrap64 (Int.tdiv t115 (wrap64 ((wrap64 (2 * x10)) * (wrap64 ((wrap64 (2 * x10)) + 1)))))) (wrap64 (Int.tdiv t114 (wrap64 ((wrap64 ((wrap64 ((wrap64 (2 * x10)) - 1)) * 2)) * x10)))) (wrap64 (x10 + 1))) else (trig_octant.l0 k x5 (wrap64 (x6 + (wrap64 (Int.tdiv t115 (wrap64 ((wrap64 (2 * x10)) * (wrap64 ((wrap64 (2 * x10)) + 1)))))))) (wrap64 (x7 + (wrap64 (Int.tdiv t114 (wrap64 ((wrap64 ((wrap64 ((wrap64 (2 * x10)) - 1)) * 2)) * x10)))))) (wrap64 (Int.tdiv t115 (wrap64 ((wrap64 (2 * x10)) * (wrap64 ((wrap64 (2 * x10)) + 1)))))) (wrap64 (Int.tdiv t114 (wrap64 ((wrap64 ((wrap64 ((wrap64 (2 * x10)) - 1)) * 2)) * x10)))) (wrap64 (x10 + 1)))))))) else (some (mx 0 x6, mn 1152921504606846976 x7))
def trig_octant.f (k : Nat) (a0 : Int) : Option (Int × Int) := (trig_mul.f (wrap64 ((wrap64 (a0 * 7244019458)) + (wrap64 (Int.tdiv (wrap64 (a0 * 77122842)) 1000000000)))) (wrap64 ((wrap64 (a0 * 7244019458)) + (wrap64 (Int.tdiv (wrap64 (a0 * 77122842)) 1000000000))))).bind fun t113 => (trig_octant.l0 k t113 (wrap64 ((wrap64 (a0 * 7244019458)) + (wrap64 (Int.tdiv (wrap64 (a0 * 77122842)) 1000000000)))) 1152921504606846976 (wrap64 ((wrap64 (a0 * 7244019458)) + (wrap64 (Int.tdiv (wrap64 (a0 * 77122842)) 1000000000)))) 1152921504606846976 1)
theorem trig_octant.mono_l : ∀ k, (∀ y0 y1 y2 y3 y4 y5, LeO (trig_octant.l0 k y0 y1 y2 y3 y4 y5) (trig_octant.l0 (k + 1) y0 y1 y2 y3 y4 y5))
 | 0 => fun _ _ _ _ _ _ r h => by simp [trig_octant.l0] at h
 | k + 1 => by
  have ih0 := trig_octant.mono_l k
  ·
   intro y0 y1 y2 y3 y4 y5
   unfold trig_octant.l0
   repeat' first
   | (with_reducible exact ih0 _ _ _ _ _ _)
   | (with_reducible exact LeO.refl _)
   | (with_reducible exact LeO.none _)
   | (with_reducible refine LeO.ite ?_ ?_)
   | (with_reducible refine LeO.bind ?_ (fun _ => ?_))
   | exact ih0 _ _ _ _ _ _
   | exact LeO.none _
   | refine LeO.ite ?_ ?_
   | refine LeO.bind ?_ (fun _ => ?_)
theorem trig_octant.mono : ∀ a0 k, LeO (trig_octant.f k a0) (trig_octant.f (k + 1) a0) := by
 intro a0 k
 have ih0 := trig_octant.mono_l k
 unfold trig_octant.f
 repeat' first
   | (with_reducible exact ih0 _ _ _ _ _ _)
   | (with_reducible exact LeO.refl _)
   | (with_reducible exact LeO.none _)
   | (with_reducible refine LeO.ite ?_ ?_)
   | (with_reducible refine LeO.bind ?_ (fun _ => ?_))
   | exact ih0 _ _ _ _ _ _
   | exact LeO.none _
   | refine LeO.ite ?_ ?_
   | refine LeO.bind ?_ (fun _ => ?_)

/-! ### the Lean function trig_rounded: function 93 -/
def trig_rounded.f (a0 : Int) : Option (Int × Int) := some (mx (-1000000000) (wrap64 (((wrap64 ((wrap64 ((a0 / 1073741824) * 1000000000)) + ((wrap64 ((Go.bits .and .i64 a0 1073741823) * 1000000000)) / 1073741824))) / 1073741824) - 1)), mn 1000000000 (wrap64 (((wrap64 ((wrap64 ((a0 / 1073741824) * 1000000000)) + ((wrap64 ((Go.bits .and .i64 a0 1073741823) * 1000000000)) / 1073741824))) / 1073741824) + 2)))

/-! ### the Lean function trig_minus: function 94 -/
def trig_minus.f (a0_0 : Int) (a0_1 : Int) : Option (Int × Int) := some (wrap64 (-a0_1), wrap64 (-a0_0))

/-! ### the Lean function trig_Sin: function 51 -/
def trig_Sin.j0 : Nat → Int → Int → Int → Option (Int × Int × Int)
 | 0, _, _, _ => none
 | k + 1, x4, x6, x7 => if x4 = 0 then ((trig_rounded.f x6).bind fun bt126 => (some (bt126.1, bt126.2, 0))) else (if x4 = 1 then ((trig_rounded.f x7).bind fun bt128 => (some (bt128.1, bt128.2, 0))) else (if x4 = 2 then ((trig_rounded.f x6).bind fun bt130 => ((trig_minus.f bt130.1 bt130.2).bind fun bt132 => (some (bt132.1, bt132.2, 0)))) else ((trig_rounded.f x7).bind fun bt134 => ((trig_minus.f bt134.1 bt134.2).bind fun bt136 => (some (bt136.1, bt136.2, 0))))))
def trig_Sin.f (k : Nat) (a0 : Int) : Option (Int × Int × Int) := (trig_out.f a0).bind fun t120 => (if t120 = true then (some (0, 0, 3)) else ((trig_Reduced.f a0).bind fun t121 => (if (Int.tmod t121 250000000) ≤ 125000000 then ((trig_octant.f k (Int.tmod t121 250000000)).bind fun bt122 => (trig_Sin.j0 k (wrap64 (Int.tdiv t121 250000000)) bt122.1 bt122.2)) else ((trig_octant.f k (wrap64 (250000000 - (Int.tmod t121 250000000)))).bind fun bt124 => (trig_Sin.j0 k (wrap64 (Int.tdiv t121 250000000)) bt124.2 bt124.1)))))
theorem trig_Sin.mono_l : ∀ k, (∀ y0 y1 y2, LeO (trig_Sin.j0 k y0 y1 y2) (trig_Sin.j0 (k + 1) y0 y1 y2))
 | 0 => fun _ _ _ r h => by simp [trig_Sin.j0] at h
 | k + 1 => by
  have ih0 := trig_Sin.mono_l k
  ·
   intro y0 y1 y2
   unfold trig_Sin.j0
   repeat' first
   | (with_reducible exact ih0 _ _ _)
   | (with_reducible exact trig_octant.mono _ _)
   | (with_reducible exact LeO.refl _)
   | (with_reducible exact LeO.none _)
   | (with_reducible refine LeO.ite ?_ ?_)
   | (with_reducible refine LeO.bind ?_ (fun _ => ?_))
   | exact ih0 _ _ _
   | exact trig_octant.mono _ _
   | exact LeO.none _
   | refine LeO.ite ?_ ?_
   | refine LeO.bind ?_ (fun _ => ?_)
theorem trig_Sin.mono : ∀ a0 k, LeO (trig_Sin.f k a0) (trig_Sin.f (k + 1) a0) := by
 intro a0 k
 have ih0 := trig_Sin.mono_l k
 unfold trig_Sin.f
 repeat' first
   | (with_reducible exact ih0 _ _ _)
   | (with_reducible exact trig_octant.mono _ _)
   | (with_reducible exact LeO.refl _)
   | (with_reducible exact LeO.none _)
   | (with_reducible refine LeO.ite ?_ ?_)
   | (with_reducible refine LeO.bind ?_ (fun _ => ?_))
   | exact ih0 _ _ _
   | exact trig_octant.mono _ _
   | exact LeO.none _
   | refine LeO.ite ?_ ?_
   | refine LeO.bind ?_ (fun _ => ?_)

/-! ### the Lean function interval_out: function 95 -/
def interval_out.f (a0 : Int) : Option (Bool) := if a0 < (-1000000000000000000) then (some true) else (some (decide (a0 > 1000000000000000000)))

/-! ### the Lean function interval_Check: function 55 -/
def interval_Check.j0 : Nat → Bool → Int → Int → Option (Int)
 | 0, _, _, _ => none
 | k + 1, x10, x139000, x139001 => if x10 = true then (some 3) else (if x139000 > x139001 then (some 9) else (some 0))
def interval_Check.f (k : Nat) (a0_0 : Int) (a0_1 : Int) : Option (Int) := (interval_out.f a0_0).bind fun t139 => (if t139 = true then (interval_Check.j0 k true a0_0 a0_1) else ((interval_out.f a0_1).bind fun t140 => (interval_Check.j0 k t140 a0_0 a0_1)))
theorem interval_Check.mono_l : ∀ k, (∀ y0 y1 y2, LeO (interval_Check.j0 k y0 y1 y2) (interval_Check.j0 (k + 1) y0 y1 y2))
 | 0 => fun _ _ _ r h => by simp [interval_Check.j0] at h
 | k + 1 => by
  have ih0 := interval_Check.mono_l k
  ·
   intro y0 y1 y2
   unfold interval_Check.j0
   repeat' first
   | (with_reducible exact ih0 _ _ _)
   | (with_reducible exact LeO.refl _)
   | (with_reducible exact LeO.none _)
   | (with_reducible refine LeO.ite ?_ ?_)
   | (with_reducible refine LeO.bind ?_ (fun _ => ?_))
   | exact ih0 _ _ _
   | exact LeO.none _
   | refine LeO.ite ?_ ?_
   | refine LeO.bind ?_ (fun _ => ?_)
theorem interval_Check.mono : ∀ a0 a1 k, LeO (interval_Check.f k a0 a1) (interval_Check.f (k + 1) a0 a1) := by
 intro a0 a1 k
 have ih0 := interval_Check.mono_l k
 unfold interval_Check.f
 repeat' first
   | (with_reducible exact ih0 _ _ _)
   | (with_reducible exact LeO.refl _)
   | (with_reducible exact LeO.none _)
   | (with_reducible refine LeO.ite ?_ ?_)
   | (with_reducible refine LeO.bind ?_ (fun _ => ?_))
   | exact ih0 _ _ _
   | exact LeO.none _
   | refine LeO.ite ?_ ?_
   | refine LeO.bind ?_ (fun _ => ?_)

/-! ### the Lean function trig_passes: function 56 -/
def trig_passes.f (a0_0 : Int) (a0_1 : Int) (a1 : Int) : Option (Bool) := (interval_Floor.f (wrap64 (a0_1 - a1)) 1000000000).bind fun t142 => (some (decide ((wrap64 (t142 * 1000000000)) ≥ (wrap64 (a0_0 - a1)))))

/-! ### the Lean function trig_SinOver: function 17 -/
def trig_SinOver.f (k : Nat) (a0_0 : Int) (a0_1 : Int) : Option (Int × Int × Int) := (interval_Check.f k a0_0 a0_1).bind fun t145 => (if t145 = 0 then ((trig_Sin.f k a0_0).bind fun bt146 => ((trig_Sin.f k a0_1).bind fun bt150 => ((trig_passes.f a0_0 a0_1 250000000).bind fun t155 => (if t155 = true then ((trig_passes.f a0_0 a0_1 750000000).bind fun t156 => (if t156 = true then (some ((-1000000000), 1000000000, 0)) else (some (mn bt146.1 bt150.1, 1000000000, 0)))) else ((trig_passes.f a0_0 a0_1 750000000).bind fun t157 => (if t157 = true then (some ((-1000000000), mx bt146.2.1 bt150.2.1, 0)) else (some (mn bt146.1 bt150.1, mx bt146.2.1 bt150.2.1, 0)))))))) else (some (0, 0, t145)))
theorem trig_SinOver.mono : ∀ a0 a1 k, LeO (trig_SinOver.f k a0 a1) (trig_SinOver.f (k + 1) a0 a1) := by
 intro a0 a1 k
 unfold trig_SinOver.f
 repeat' first
   | (with_reducible exact interval_Check.mono _ _ _)
   | (with_reducible exact trig_Sin.mono _ _)
   | (with_reducible exact LeO.refl _)
   | (with_reducible exact LeO.none _)
   | (with_reducible refine LeO.ite ?_ ?_)
   | (with_reducible refine LeO.bind ?_ (fun _ => ?_))
   | exact interval_Check.mono _ _ _
   | exact trig_Sin.mono _ _
   | exact LeO.none _
   | refine LeO.ite ?_ ?_
   | refine LeO.bind ?_ (fun _ => ?_)

/-! ### the Lean function interval_abs: function 112 -/
def interval_abs.f (a0 : Int) : Option (Int) := if a0 < 0 then (some (wrap64 (-a0))) else (some a0)

/-! ### the Lean function interval_part: function 106 -/
def interval_part.j0 : Nat → Int → Int → Int → Int → Bool → Option (Int × Bool)
 | 0, _, _, _, _, _ => none
 | k + 1, x0, x1, x2, x8, x21 => if x21 = true then (some (0, false)) else ((interval_Floor.f (wrap64 ((wrap64 (x0 - (wrap64 (x8 * x2)))) * x1)) x2).bind fun t160 => ((interval_out.f (wrap64 ((wrap64 (x8 * x1)) + t160))).bind fun t161 => (some (wrap64 ((wrap64 (x8 * x1)) + t160), !t161))))
def interval_part.f (k : Nat) (a0 : Int) (a1 : Int) (a2 : Int) : Option (Int × Bool) := (interval_Floor.f a0 a2).bind fun t158 => (if a1 = 0 then (interval_part.j0 k a0 a1 a2 t158 false) else ((interval_abs.f t158).bind fun t159 => (interval_part.j0 k a0 a1 a2 t158 (decide (t159 > (wrap64 (Int.tdiv (2000000000000000000 : Int) a1)))))))
theorem interval_part.mono_l : ∀ k, (∀ y0 y1 y2 y3 y4, LeO (interval_part.j0 k y0 y1 y2 y3 y4) (interval_part.j0 (k + 1) y0 y1 y2 y3 y4))
 | 0 => fun _ _ _ _ _ r h => by simp [interval_part.j0] at h
 | k + 1 => by
  have ih0 := interval_part.mono_l k
  ·
   intro y0 y1 y2 y3 y4
   unfold interval_part.j0
   repeat' first
   | (with_reducible exact ih0 _ _ _ _ _)
   | (with_reducible exact LeO.refl _)
   | (with_reducible exact LeO.none _)
   | (with_reducible refine LeO.ite ?_ ?_)
   | (with_reducible refine LeO.bind ?_ (fun _ => ?_))
   | exact ih0 _ _ _ _ _
   | exact LeO.none _
   | refine LeO.ite ?_ ?_
   | refine LeO.bind ?_ (fun _ => ?_)
theorem interval_part.mono : ∀ a0 a1 a2 k, LeO (interval_part.f k a0 a1 a2) (interval_part.f (k + 1) a0 a1 a2) := by
 intro a0 a1 a2 k
 have ih0 := interval_part.mono_l k
 unfold interval_part.f
 repeat' first
   | (with_reducible exact ih0 _ _ _ _ _)
   | (with_reducible exact LeO.refl _)
   | (with_reducible exact LeO.none _)
   | (with_reducible refine LeO.ite ?_ ?_)
   | (with_reducible refine LeO.bind ?_ (fun _ => ?_))
   | exact ih0 _ _ _ _ _
   | exact LeO.none _
   | refine LeO.ite ?_ ?_
   | refine LeO.bind ?_ (fun _ => ?_)

/-! ### the Lean function interval_Scale: function 81 -/
def interval_Scale.lo (a0_0 a0_1 a1 a2 : Int) : Int := if a1 < 0 then (-a0_1) * (-a1) / a2 else a0_0 * a1 / a2
def interval_Scale.hi (a0_0 a0_1 a1 a2 : Int) : Int := if a1 < 0 then -(a0_0 * (-a1) / a2) else -((-a0_1) * a1 / a2)
def ScaleOk (a0_0 a0_1 a1 a2 : Int) : Prop := InR a0_0 ∧ a0_0 ≤ a0_1 ∧ InR a0_1 ∧ -1000000000 ≤ a1 ∧ a1 ≤ 1000000000 ∧ 1 ≤ a2 ∧ a2 ≤ 1000000000 ∧ InR (interval_Scale.lo a0_0 a0_1 a1 a2) ∧ InR (interval_Scale.hi a0_0 a0_1 a1 a2)
instance (a b c d : Int) : Decidable (ScaleOk a b c d) := inferInstanceAs (Decidable (_ ∧ _ ∧ _ ∧ _ ∧ _ ∧ _ ∧ _ ∧ _ ∧ _))
def interval_Scale.f (a0_0 : Int) (a0_1 : Int) (a1 : Int) (a2 : Int) : Option (Int × Int × Int) :=
  if ScaleOk a0_0 a0_1 a1 a2 then some (interval_Scale.lo a0_0 a0_1 a1 a2, interval_Scale.hi a0_0 a0_1 a1 a2, 0) else none
theorem sfloor_ {a b : Int} (hb : 0 < b) (hb' : b ≤ 9000000000000000000) (ha : -9000000000000000000 ≤ a) (ha' : a ≤ 9000000000000000000) : interval_Floor.f a b = some (a / b) := by
  have e := Int.emod_add_mul_ediv a b
  have m0 := Int.emod_nonneg a (show b ≠ 0 by omega)
  have m1 := Int.emod_lt_of_pos a hb
  unfold interval_Floor.f
  rw [if_neg (by omega)]
  rcases Int.le_total 0 a with h0 | h0
  · have d0 : 0 ≤ a / b := Int.ediv_nonneg h0 (by omega)
    have d1 : a / b ≤ a := Int.ediv_le_self _ h0
    rw [Int.tdiv_eq_ediv_of_nonneg h0, wrap_in_ (n := a / b) (by omega) (by omega), decide_eq_false (show ¬ a < 0 by omega), decide_eq_false (show ¬ b < 0 by omega)]
    simp
  · have hm : Int.tmod a b = -((-a) % b) := by rw [← Int.tmod_eq_emod_of_nonneg (by omega), Int.neg_tmod, Int.neg_neg]
    have hd : Int.tdiv a b = -((-a) / b) := by rw [← Int.tdiv_eq_ediv_of_nonneg (by omega), Int.neg_tdiv, Int.neg_neg]
    have e' := Int.emod_add_mul_ediv (-a) b
    have m0' := Int.emod_nonneg (-a) (show b ≠ 0 by omega)
    have m1' := Int.emod_lt_of_pos (-a) hb
    have d0 : 0 ≤ (-a) / b := Int.ediv_nonneg (by omega) (by omega)
    have d1 : (-a) / b ≤ -a := Int.ediv_le_self _ (by omega)
    rw [hm, hd, wrap_in_ (n := -((-a) / b)) (by omega) (by omega)]
    clear hm hd e m0 m1
    generalize (-a) / b = q at *
    generalize (-a) % b = m at *
    have n1 : b * (-q) = -(b * q) := Int.mul_neg b q
    have bq : 0 ≤ b * q := Int.mul_nonneg (by omega) d0
    have n2 : b * (-q - 1) = -(b * q) - b := by rw [Int.mul_sub, n1, Int.mul_one]
    by_cases z : m = 0
    · rw [if_pos (by omega)]
      congr 1
      rw [show a = b * (-q) by omega, Int.mul_ediv_cancel_left _ (by omega)]
    · rw [if_neg (by omega), decide_eq_true (show a < 0 by omega), decide_eq_false (show ¬ b < 0 by omega), wrap_in_ (by omega) (by omega)]
      simp only [Bool.true_bne, Bool.not_false, if_true]
      congr 1
      rw [show a = (b - m) + b * (-q - 1) by omega, Int.add_mul_ediv_left _ _ (by omega), Int.ediv_eq_zero_of_lt (by omega) (by omega)]; omega
theorem part_f_ {n m d : Int} (h1 : InR n) (h2 : 0 ≤ m) (h3 : m ≤ 1000000000) (h4 : 1 ≤ d) (h5 : d ≤ 1000000000) (h6 : InR (n * m / d)) : interval_part.f 1 n m d = some (n * m / d, true) := by
  obtain ⟨a1, a2⟩ := h1
  obtain ⟨b1, b2⟩ := h6
  have e := Int.emod_add_mul_ediv n d
  have m0 := Int.emod_nonneg n (show d ≠ 0 by omega)
  have m1 := Int.emod_lt_of_pos n (show 0 < d by omega)
  have q1 : n / d ≤ 1000000000000000000 := Int.ediv_le_of_le_mul (by omega) (by have : 1000000000000000000 * 1 ≤ 1000000000000000000 * d := Int.mul_le_mul_of_nonneg_left h4 (by omega); omega)
  have q0 : -1000000000000000000 ≤ n / d := Int.le_ediv_of_mul_le (by omega) (by have : 1000000000000000000 * 1 ≤ 1000000000000000000 * d := Int.mul_le_mul_of_nonneg_left h4 (by omega); rw [Int.neg_mul]; omega)
  -- the two parts of the quotient
  have key : n / d * m + (n - n / d * d) * m / d = n * m / d := by
    have : n * m = (n - n / d * d) * m + (n / d * m) * d := by
      rw [Int.sub_mul, Int.mul_right_comm (n / d) d m]; omega
    rw [this, Int.add_mul_ediv_right _ _ (by omega)]; omega
  have r : n - n / d * d = n % d := by rw [Int.mul_comm (n / d) d]; omega
  have p0 : 0 ≤ (n - n / d * d) * m := by rw [r]; exact Int.mul_nonneg m0 h2
  have p1 : (n - n / d * d) * m ≤ d * m := by rw [r]; exact Int.mul_le_mul_of_nonneg_right (by omega) h2
  have p2 : d * m ≤ 1000000000 * m := Int.mul_le_mul_of_nonneg_right h5 h2
  have t0 : 0 ≤ (n - n / d * d) * m / d := Int.ediv_nonneg p0 (by omega)
  have t1 : (n - n / d * d) * m / d ≤ m := Int.ediv_le_of_le_mul (by omega) (by rw [Int.mul_comm m d]; exact p1)
  have w1 : n / d * d = n - n % d := by omega
  unfold interval_part.f
  rw [sfloor_ (by omega) (by omega) (by omega) (by omega)]
  simp only [Option.bind_some]
  have last : interval_part.j0 1 n m d (n / d) false = some (n * m / d, true) := by
    simp only [interval_part.j0, Bool.false_eq_true, if_false]
    rw [wrap_in_ (n := n / d * d) (by omega) (by omega), wrap_in_ (n := n - n / d * d) (by omega) (by omega), wrap_in_ (n := (n - n / d * d) * m) (by omega) (by omega), sfloor_ (by omega) (by omega) (by omega) (by omega)]
    simp only [Option.bind_some]
    rw [wrap_in_ (n := n / d * m) (by omega) (by omega), key, wrap_in_ (n := n * m / d) (by omega) (by omega)]
    unfold interval_out.f
    rw [if_neg (by omega), decide_eq_false (by omega)]
    rfl
  by_cases z : m = 0
  · rw [if_pos z]; exact last
  · rw [if_neg z]
    have ab : interval_abs.f (n / d) = some (if n / d < 0 then -(n / d) else n / d) := by
      unfold interval_abs.f
      split
      · rw [wrap_in_ (by omega) (by omega)]
      · rfl
    rw [ab]
    simp only [Option.bind_some]
    have le : (if n / d < 0 then -(n / d) else n / d) ≤ Int.tdiv 2000000000000000000 m := by
      rw [Int.tdiv_eq_ediv_of_nonneg (by omega)]
      refine Int.le_ediv_of_mul_le (by omega) ?_
      split
      · rw [Int.neg_mul]; omega
      · omega
    have up : Int.tdiv 2000000000000000000 m ≤ 2000000000000000000 := by
      rw [Int.tdiv_eq_ediv_of_nonneg (by omega)]; exact Int.ediv_le_self _ (by omega)
    have lo : 0 ≤ Int.tdiv 2000000000000000000 m := by
      rw [Int.tdiv_eq_ediv_of_nonneg (by omega)]; exact Int.ediv_nonneg (by omega) h2
    rw [wrap_in_ (by omega) (by omega), decide_eq_false (by omega)]
    exact last

/-! ### the Lean function series_Turned: function 100 -/
def series_Turned.j0 : Nat → Int → Int → Int → Int → Int → Option (Int)
 | 0, _, _, _, _, _ => none
 | k + 1, x0, x5, x6, x7, x8 => if x5 < 0 then ((interval_Floor.f x0 86400000).bind fun t164 => ((interval_Floor.f (wrap64 ((wrap64 (-(wrap64 ((Int.tmod (wrap64 ((Int.tmod (wrap64 (x7 * (wrap64 (Int.tdiv x8 1000)))) 1000000000000000) * 1000)) 1000000000000000) + (Int.tmod (wrap64 (x7 * (Int.tmod x8 1000))) 1000000000000000))))) + (wrap64 ((wrap64 (t164 * x6)) + (wrap64 (Int.tdiv (wrap64 ((wrap64 (x0 - (wrap64 (t164 * 86400000)))) * x6)) 86400000)))))) 1000000000000000).bind fun t165 => (some (wrap64 ((wrap64 ((wrap64 (-(wrap64 ((Int.tmod (wrap64 ((Int.tmod (wrap64 (x7 * (wrap64 (Int.tdiv x8 1000)))) 1000000000000000) * 1000)) 1000000000000000) + (Int.tmod (wrap64 (x7 * (Int.tmod x8 1000))) 1000000000000000))))) + (wrap64 ((wrap64 (t164 * x6)) + (wrap64 (Int.tdiv (wrap64 ((wrap64 (x0 - (wrap64 (t164 * 86400000)))) * x6)) 86400000)))))) - (wrap64 (t165 * 1000000000000000))))))) else ((interval_Floor.f x0 86400000).bind fun t166 => ((interval_Floor.f (wrap64 ((wrap64 ((Int.tmod (wrap64 ((Int.tmod (wrap64 (x7 * (wrap64 (Int.tdiv x8 1000)))) 1000000000000000) * 1000)) 1000000000000000) + (Int.tmod (wrap64 (x7 * (Int.tmod x8 1000))) 1000000000000000))) + (wrap64 ((wrap64 (t166 * x6)) + (wrap64 (Int.tdiv (wrap64 ((wrap64 (x0 - (wrap64 (t166 * 86400000)))) * x6)) 86400000)))))) 1000000000000000).bind fun t167 => (some (wrap64 ((wrap64 ((wrap64 ((Int.tmod (wrap64 ((Int.tmod (wrap64 (x7 * (wrap64 (Int.tdiv x8 1000)))) 1000000000000000) * 1000)) 1000000000000000) + (Int.tmod (wrap64 (x7 * (Int.tmod x8 1000))) 1000000000000000))) + (wrap64 ((wrap64 (t166 * x6)) + (wrap64 (Int.tdiv (wrap64 ((wrap64 (x0 - (wrap64 (t166 * 86400000)))) * x6)) 86400000)))))) - (wrap64 (t167 * 1000000000000000)))))))
def series_Turned.f (k : Nat) (a0 : Int) (a1 : Int) : Option (Int) := (interval_Floor.f a1 86400000).bind fun t162 => ((interval_Floor.f a0 1000000000000000).bind fun t163 => (if t162 < 0 then (series_Turned.j0 k a0 t162 (wrap64 (a1 - (wrap64 (t162 * 86400000)))) (wrap64 (a0 - (wrap64 (t163 * 1000000000000000)))) (wrap64 (-t162))) else (series_Turned.j0 k a0 t162 (wrap64 (a1 - (wrap64 (t162 * 86400000)))) (wrap64 (a0 - (wrap64 (t163 * 1000000000000000)))) t162)))
theorem series_Turned.mono_l : ∀ k, (∀ y0 y1 y2 y3 y4, LeO (series_Turned.j0 k y0 y1 y2 y3 y4) (series_Turned.j0 (k + 1) y0 y1 y2 y3 y4))
 | 0 => fun _ _ _ _ _ r h => by simp [series_Turned.j0] at h
 | k + 1 => by
  have ih0 := series_Turned.mono_l k
  ·
   intro y0 y1 y2 y3 y4
   unfold series_Turned.j0
   repeat' first
   | (with_reducible exact ih0 _ _ _ _ _)
   | (with_reducible exact LeO.refl _)
   | (with_reducible exact LeO.none _)
   | (with_reducible refine LeO.ite ?_ ?_)
   | (with_reducible refine LeO.bind ?_ (fun _ => ?_))
   | exact ih0 _ _ _ _ _
   | exact LeO.none _
   | refine LeO.ite ?_ ?_
   | refine LeO.bind ?_ (fun _ => ?_)
theorem series_Turned.mono : ∀ a0 a1 k, LeO (series_Turned.f k a0 a1) (series_Turned.f (k + 1) a0 a1) := by
 intro a0 a1 k
 have ih0 := series_Turned.mono_l k
 unfold series_Turned.f
 repeat' first
   | (with_reducible exact ih0 _ _ _ _ _)
   | (with_reducible exact LeO.refl _)
   | (with_reducible exact LeO.none _)
   | (with_reducible refine LeO.ite ?_ ?_)
   | (with_reducible refine LeO.bind ?_ (fun _ => ?_))
   | exact ih0 _ _ _ _ _
   | exact LeO.none _
   | refine LeO.ite ?_ ?_
   | refine LeO.bind ?_ (fun _ => ?_)

/-! ### the Lean function series_sum: function 99 -/
def series_sum.l0 : Nat → Int → List (S93) → Int → Int → Int → Int → Option (Int × Int)
 | 0, _, _, _, _, _, _ => none
 | k + 1, x1, x25, x26, x27, x171000, x171001 => if x27 < x26 then (if 0 ≤ x27 then (if x27 < (x25.length : Int) then ((series_Turned.f k ((rd_T93 x25 x27).f2) x1).bind fun t173 => ((trig_SinOver.f k (wrap64 ((wrap64 (Int.tdiv t173 1000000)) + ((rd_T93 x25 x27).f1))) (wrap64 ((wrap64 ((wrap64 (Int.tdiv t173 1000000)) + ((rd_T93 x25 x27).f1))) + 1))).bind fun bt174 => ((interval_Scale.f bt174.1 bt174.2.1 ((rd_T93 x25 x27).f0) 1000000000).bind fun bt178 => (series_sum.l0 k x1 x25 x26 (wrap64 (x27 + 1)) (wrap64 (x171000 + bt178.1)) (wrap64 (x171001 + bt178.2.1)))))) else (none)) else (none)) else (some (x171000, x171001))
def series_sum.f (k : Nat) (a0_0 : Int) (a0_1 : Int) (l0_2 : List (S93)) (a0_3 : Int) (a1 : Int) : Option (Int × Int) := series_sum.l0 k a1 l0_2 (l0_2.length : Int) 0 (wrap64 (a0_0 - a0_3)) (wrap64 (a0_0 + a0_3))
theorem series_sum.mono_l : ∀ k, (∀ y0 y1 y2 y3 y4 y5, LeO (series_sum.l0 k y0 y1 y2 y3 y4 y5) (series_sum.l0 (k + 1) y0 y1 y2 y3 y4 y5))
 | 0 => fun _ _ _ _ _ _ r h => by simp [series_sum.l0] at h
 | k + 1 => by
  have ih0 := series_sum.mono_l k
  ·
   intro y0 y1 y2 y3 y4 y5
   unfold series_sum.l0
   repeat' first
   | (with_reducible exact ih0 _ _ _ _ _ _)
   | (with_reducible exact series_Turned.mono _ _ _)
   | (with_reducible exact trig_SinOver.mono _ _ _)
   | (with_reducible exact LeO.refl _)
   | (with_reducible exact LeO.none _)
   | (with_reducible refine LeO.ite ?_ ?_)
   | (with_reducible refine LeO.bind ?_ (fun _ => ?_))
   | exact ih0 _ _ _ _ _ _
   | exact series_Turned.mono _ _ _
   | exact trig_SinOver.mono _ _ _
   | exact LeO.none _
   | refine LeO.ite ?_ ?_
   | refine LeO.bind ?_ (fun _ => ?_)
theorem series_sum.mono : ∀ a0 a1 a2 a3 a4 k, LeO (series_sum.f k a0 a1 a2 a3 a4) (series_sum.f (k + 1) a0 a1 a2 a3 a4) := by
 intro a0 a1 a2 a3 a4 k
 have ih0 := series_sum.mono_l k
 unfold series_sum.f
 repeat' first
   | (with_reducible exact ih0 _ _ _ _ _ _)
   | (with_reducible exact series_Turned.mono _ _ _)
   | (with_reducible exact trig_SinOver.mono _ _ _)
   | (with_reducible exact LeO.refl _)
   | (with_reducible exact LeO.none _)
   | (with_reducible refine LeO.ite ?_ ?_)
   | (with_reducible refine LeO.bind ?_ (fun _ => ?_))
   | exact ih0 _ _ _ _ _ _
   | exact series_Turned.mono _ _ _
   | exact trig_SinOver.mono _ _ _
   | exact LeO.none _
   | refine LeO.ite ?_ ?_
   | refine LeO.bind ?_ (fun _ => ?_)

/-! ### the Lean function series_Value: function 66 -/
def series_Value.f (k : Nat) (a0_0 : Int) (a0_1 : Int) (l0_2 : List (S93)) (a0_3 : Int) (a1 : Int) : Option (Int × Int × Int) := (series_check.f k a0_0 a0_1 l0_2 a0_3 a1).bind fun t184 => (if t184 = 0 then ((series_sum.f k a0_0 a0_1 l0_2 a0_3 a1).bind fun bt185 => (some (bt185.1, bt185.2, 0))) else (some (0, 0, t184)))
theorem series_Value.mono : ∀ a0 a1 a2 a3 a4 k, LeO (series_Value.f k a0 a1 a2 a3 a4) (series_Value.f (k + 1) a0 a1 a2 a3 a4) := by
 intro a0 a1 a2 a3 a4 k
 unfold series_Value.f
 repeat' first
   | (with_reducible exact series_check.mono _ _ _ _ _ _)
   | (with_reducible exact series_sum.mono _ _ _ _ _ _)
   | (with_reducible exact LeO.refl _)
   | (with_reducible exact LeO.none _)
   | (with_reducible refine LeO.ite ?_ ?_)
   | (with_reducible refine LeO.bind ?_ (fun _ => ?_))
   | exact series_check.mono _ _ _ _ _ _
   | exact series_sum.mono _ _ _ _ _ _
   | exact LeO.none _
   | refine LeO.ite ?_ ?_
   | refine LeO.bind ?_ (fun _ => ?_)

/-! ### the Lean function moon_North: function 67 -/
def moon_North.f  : Option (Int × Int × (List (S93)) × Int) := some (0, 0, (([(⟨14244783, 648500531, 36748195111111⟩ : S93), (⟨779450, 747884547, 73039842194444⟩ : S93), (⟨771369, 450883485, (-456548027778)⟩ : S93)] : List (S93))), 20000)

/-! ### the Lean function moon_Latitude: function 33 -/
def moon_Latitude.f (k : Nat) (a0 : Int) : Option (Int × Int × Int) := (moon_North.f).bind fun bt192 => ((series_Value.f k bt192.1 bt192.2.1 bt192.2.2.1 bt192.2.2.2 a0).bind fun bt198 => (some (bt198.1, bt198.2.1, bt198.2.2)))
theorem moon_Latitude.mono : ∀ a0 k, LeO (moon_Latitude.f k a0) (moon_Latitude.f (k + 1) a0) := by
 intro a0 k
 unfold moon_Latitude.f
 repeat' first
   | (with_reducible exact series_Value.mono _ _ _ _ _ _)
   | (with_reducible exact LeO.refl _)
   | (with_reducible exact LeO.none _)
   | (with_reducible refine LeO.ite ?_ ?_)
   | (with_reducible refine LeO.bind ?_ (fun _ => ?_))
   | exact series_Value.mono _ _ _ _ _ _
   | exact LeO.none _
   | refine LeO.ite ?_ ?_
   | refine LeO.bind ?_ (fun _ => ?_)

/-! ### the Lean function ephemeriskeep2_has: function 54 -/
def ephemeriskeep2_has.f (a0_0 : Int) (a0_1 : Int) (a1 : Int) (a2 : Int) : Option (Bool) := if a0_0 ≤ a1 then (if a1 ≤ a0_1 then (some (decide ((wrap64 (a0_1 - a0_0)) ≤ a2))) else (some false)) else (some false)

/-! ### the Lean function series_Reduced: function 85 -/
def series_Reduced.f (a0_0 : Int) (a0_1 : Int) : Option (Int × Int) := (interval_Floor.f a0_0 1000000000).bind fun t204 => (some (wrap64 (a0_0 - (wrap64 (t204 * 1000000000))), wrap64 (a0_1 - (wrap64 (t204 * 1000000000)))))

/-! ### the Lean function series_Angle: function 62 -/
def series_Angle.f (k : Nat) (a0_0 : Int) (a0_1 : Int) (l0_2 : List (S93)) (a0_3 : Int) (a1 : Int) : Option (Int × Int × Int) := (series_check.f k a0_0 a0_1 l0_2 a0_3 a1).bind fun t207 => (if t207 = 0 then ((series_sum.f k a0_0 a0_1 l0_2 a0_3 a1).bind fun bt208 => ((series_Turned.f k a0_1 a1).bind fun t210 => ((series_Reduced.f (wrap64 (bt208.1 + (wrap64 (Int.tdiv t210 1000000)))) (wrap64 ((wrap64 (bt208.2 + (wrap64 (Int.tdiv t210 1000000)))) + 1))).bind fun bt212 => (some (bt212.1, bt212.2, 0))))) else (some (0, 0, t207)))
theorem series_Angle.mono : ∀ a0 a1 a2 a3 a4 k, LeO (series_Angle.f k a0 a1 a2 a3 a4) (series_Angle.f (k + 1) a0 a1 a2 a3 a4) := by
 intro a0 a1 a2 a3 a4 k
 unfold series_Angle.f
 repeat' first
   | (with_reducible exact series_Turned.mono _ _ _)
   | (with_reducible exact series_check.mono _ _ _ _ _ _)
   | (with_reducible exact series_sum.mono _ _ _ _ _ _)
   | (with_reducible exact LeO.refl _)
   | (with_reducible exact LeO.none _)
   | (with_reducible refine LeO.ite ?_ ?_)
   | (with_reducible refine LeO.bind ?_ (fun _ => ?_))
   | exact series_Turned.mono _ _ _
   | exact series_check.mono _ _ _ _ _ _
   | exact series_sum.mono _ _ _ _ _ _
   | exact LeO.none _
   | refine LeO.ite ?_ ?_
   | refine LeO.bind ?_ (fun _ => ?_)

/-! ### the Lean function moon_Series: function 103 -/
def moon_Series.f  : Option (Int × Int × (List (S93)) × Int) := some (392048814, 36601101305556, (([(⟨17468817, 99384016, 36291647083333⟩ : S93), (⟨3538964, 134030564, 31434736861111⟩ : S93), (⟨1828650, 233414580, 67726383944444⟩ : S93), (⟨593383, 198768032, 72583294166666⟩ : S93), (⟨(-514211), 84888545, 2737778555556⟩ : S93), (⟨(-317589), 297001062, 73496390222222⟩ : S93)] : List (S93))), 20000)

/-! ### the Lean function moon_Longitude: function 65 -/
def moon_Longitude.f (k : Nat) (a0 : Int) : Option (Int × Int × Int) := (moon_Series.f).bind fun bt219 => ((series_Angle.f k bt219.1 bt219.2.1 bt219.2.2.1 bt219.2.2.2 a0).bind fun bt225 => (some (bt225.1, bt225.2.1, bt225.2.2)))
theorem moon_Longitude.mono : ∀ a0 k, LeO (moon_Longitude.f k a0) (moon_Longitude.f (k + 1) a0) := by
 intro a0 k
 unfold moon_Longitude.f
 repeat' first
   | (with_reducible exact series_Angle.mono _ _ _ _ _ _)
   | (with_reducible exact LeO.refl _)
   | (with_reducible exact LeO.none _)
   | (with_reducible refine LeO.ite ?_ ?_)
   | (with_reducible refine LeO.bind ?_ (fun _ => ?_))
   | exact series_Angle.mono _ _ _ _ _ _
   | exact LeO.none _
   | refine LeO.ite ?_ ?_
   | refine LeO.bind ?_ (fun _ => ?_)

/-! ### the Lean function ephemeriskeep2_moonWorks: function 32 -/
def ephemeriskeep2_moonWorks.f (k : Nat)  : Option (Bool) := (moon_Longitude.f k 0).bind fun bt228 => ((moon_Latitude.f k 0).bind fun bt232 => (if bt228.2.2 = 0 then ((ephemeriskeep2_has.f bt228.1 bt228.2.1 406718613 40030).bind fun t236 => (if t236 = true then (if bt232.2.2 = 0 then ((ephemeriskeep2_has.f bt232.1 bt232.2.1 (-11989968) 40030).bind fun t237 => (some t237)) else (none)) else (none))) else (none)))
theorem ephemeriskeep2_moonWorks.mono : ∀ k, LeO (ephemeriskeep2_moonWorks.f k ) (ephemeriskeep2_moonWorks.f (k + 1) ) := by
 intro  k
 unfold ephemeriskeep2_moonWorks.f
 repeat' first
   | (with_reducible exact moon_Latitude.mono _ _)
   | (with_reducible exact moon_Longitude.mono _ _)
   | (with_reducible exact LeO.refl _)
   | (with_reducible exact LeO.none _)
   | (with_reducible refine LeO.ite ?_ ?_)
   | (with_reducible refine LeO.bind ?_ (fun _ => ?_))
   | exact moon_Latitude.mono _ _
   | exact moon_Longitude.mono _ _
   | exact LeO.none _
   | refine LeO.ite ?_ ?_
   | refine LeO.bind ?_ (fun _ => ?_)

/-! ### the Lean function trig_CosOver: function 18 -/
def trig_CosOver.f (k : Nat) (a0_0 : Int) (a0_1 : Int) : Option (Int × Int × Int) := (interval_Check.f k a0_0 a0_1).bind fun t240 => (if t240 = 0 then ((trig_Reduced.f a0_0).bind fun t241 => ((trig_SinOver.f k (wrap64 (a0_0 + (wrap64 ((wrap64 (t241 + 250000000)) - a0_0)))) (mn (wrap64 (a0_1 + (wrap64 ((wrap64 (t241 + 250000000)) - a0_0)))) (wrap64 ((wrap64 (a0_0 + (wrap64 ((wrap64 (t241 + 250000000)) - a0_0)))) + 1000000000)))).bind fun bt242 => (some (bt242.1, bt242.2.1, bt242.2.2)))) else (some (0, 0, t240)))
theorem trig_CosOver.mono : ∀ a0 a1 k, LeO (trig_CosOver.f k a0 a1) (trig_CosOver.f (k + 1) a0 a1) := by
 intro a0 a1 k
 unfold trig_CosOver.f
 repeat' first
   | (with_reducible exact interval_Check.mono _ _ _)
   | (with_reducible exact trig_SinOver.mono _ _ _)
   | (with_reducible exact LeO.refl _)
   | (with_reducible exact LeO.none _)
   | (with_reducible refine LeO.ite ?_ ?_)
   | (with_reducible refine LeO.bind ?_ (fun _ => ?_))
   | exact interval_Check.mono _ _ _
   | exact trig_SinOver.mono _ _ _
   | exact LeO.none _
   | refine LeO.ite ?_ ?_
   | refine LeO.bind ?_ (fun _ => ?_)

/-! ### the Lean function trig_reaches: function 108 -/
def trig_reaches.f (k : Nat) (a0 : Int) (a1 : Int) : Option (Bool) := (trig_octant.f k a1).bind fun bt245 => (some (decide ((wrap64 ((bt245.1 / 536870912) * 2147483648)) ≤ (wrap64 (a0 * (bt245.2 / 536870912))))))
theorem trig_reaches.mono : ∀ a0 a1 k, LeO (trig_reaches.f k a0 a1) (trig_reaches.f (k + 1) a0 a1) := by
 intro a0 a1 k
 unfold trig_reaches.f
 repeat' first
   | (with_reducible exact trig_octant.mono _ _)
   | (with_reducible exact LeO.refl _)
   | (with_reducible exact LeO.none _)
   | (with_reducible refine LeO.ite ?_ ?_)
   | (with_reducible refine LeO.bind ?_ (fun _ => ?_))
   | exact trig_octant.mono _ _
   | exact LeO.none _
   | refine LeO.ite ?_ ?_
   | refine LeO.bind ?_ (fun _ => ?_)

/-! ### the Lean function trig_acute: function 96 -/
mutual
def trig_acute.l0 : Nat → Int → Int → Option (Int)
 | 0, _, _ => none
 | k + 1, x0, x1 => if x1 ≥ 2147483648 then (trig_acute.l0 k (x0 / 2) (x1 / 2)) else (trig_acute.l1 k x0 x1)
def trig_acute.l1 : Nat → Int → Int → Option (Int)
 | 0, _, _ => none
 | k + 1, x0, x1 => if x1 < 1073741824 then (trig_acute.l1 k (wrap64 (x0 * 2)) (wrap64 (x1 * 2))) else (if x1 = 0 then (none) else (trig_acute.l2 k (wrap64 (Int.tdiv (wrap64 (x0 * 2147483648)) x1)) ((wrap64 ((wrap64 (Int.tdiv (wrap64 (x0 * 2147483648)) x1)) * 125000000)) / 2147483648) 0))
def trig_acute.l2 : Nat → Int → Int → Int → Option (Int)
 | 0, _, _, _ => none
 | k + 1, x5, x6, x30 => if x30 < 4 then ((trig_octant.f k x6).bind fun bt247 => (if (wrap64 (Int.tdiv (wrap64 ((wrap64 ((bt247.2 / 1073741824) * 2147483648)) + (wrap64 (x5 * (bt247.1 / 1073741824))))) 159154943)) = 0 then (none) else (trig_acute.l2 k x5 (mx 0 (mn 125000000 (wrap64 (x6 - (wrap64 (Int.tdiv (wrap64 ((wrap64 ((bt247.1 / 1073741824) * 2147483648)) - (wrap64 (x5 * (bt247.2 / 1073741824))))) (wrap64 (Int.tdiv (wrap64 ((wrap64 ((bt247.2 / 1073741824) * 2147483648)) + (wrap64 (x5 * (bt247.1 / 1073741824))))) 159154943)))))))) (wrap64 (x30 + 1))))) else (trig_acute.l3 k x5 x6)
def trig_acute.j4 : Nat → Int → Int → Option (Int)
 | 0, _, _ => none
 | k + 1, x5, x6 => trig_acute.l4 k x5 x6
def trig_acute.l4 : Nat → Int → Int → Option (Int)
 | 0, _, _ => none
 | k + 1, x5, x6 => if x6 < 125000000 then ((trig_reaches.f k x5 (wrap64 (x6 + 1))).bind fun t250 => (if t250 = true then (trig_acute.l4 k x5 (wrap64 (x6 + 1))) else (some x6))) else (some x6)
def trig_acute.l3 : Nat → Int → Int → Option (Int)
 | 0, _, _ => none
 | k + 1, x5, x6 => if x6 > 0 then ((trig_reaches.f k x5 x6).bind fun t249 => (if t249 = true then (trig_acute.j4 k x5 x6) else (trig_acute.l3 k x5 (wrap64 (x6 - 1))))) else (trig_acute.j4 k x5 x6)
end
def trig_acute.f (k : Nat) (a0 : Int) (a1 : Int) : Option (Int) := trig_acute.l0 k a0 a1
theorem trig_acute.mono_l : ∀ k, (∀ y0 y1, LeO (trig_acute.l0 k y0 y1) (trig_acute.l0 (k + 1) y0 y1)) ∧ (∀ y0 y1, LeO (trig_acute.l1 k y0 y1) (trig_acute.l1 (k + 1) y0 y1)) ∧ (∀ y0 y1 y2, LeO (trig_acute.l2 k y0 y1 y2) (trig_acute.l2 (k + 1) y0 y1 y2)) ∧ (∀ y0 y1, LeO (trig_acute.j4 k y0 y1) (trig_acute.j4 (k + 1) y0 y1)) ∧ (∀ y0 y1, LeO (trig_acute.l4 k y0 y1) (trig_acute.l4 (k + 1) y0 y1)) ∧ (∀ y0 y1, LeO (trig_acute.l3 k y0 y1) (trig_acute.l3 (k + 1) y0 y1))
 | 0 => ⟨fun _ _ r h => by simp [trig_acute.l0] at h, fun _ _ r h => by simp [trig_acute.l1] at h, fun _ _ _ r h => by simp [trig_acute.l2] at h, fun _ _ r h => by simp [trig_acute.j4] at h, fun _ _ r h => by simp [trig_acute.l4] at h, fun _ _ r h => by simp [trig_acute.l3] at h⟩
 | k + 1 => by
  obtain ⟨ih0, ih1, ih2, ih3, ih4, ih5⟩ := trig_acute.mono_l k
  refine ⟨?_, ?_, ?_, ?_, ?_, ?_⟩
  ·
   intro y0 y1
   unfold trig_acute.l0
   repeat' first
   | (with_reducible exact ih0 _ _)
   | (with_reducible exact ih1 _ _)
   | (with_reducible exact ih2 _ _ _)
   | (with_reducible exact ih3 _ _)
   | (with_reducible exact ih4 _ _)
   | (with_reducible exact ih5 _ _)
   | (with_reducible exact trig_octant.mono _ _)
   | (with_reducible exact trig_reaches.mono _ _ _)
   | (with_reducible exact LeO.refl _)
   | (with_reducible exact LeO.none _)
   | (with_reducible refine LeO.ite ?_ ?_)
   | (with_reducible refine LeO.bind ?_ (fun _ => ?_))
   | exact ih0 _ _
   | exact ih1 _ _
   | exact ih2 _ _ _
   | exact ih3 _ _
   | exact ih4 _ _
   | exact ih5 _ _
   | exact trig_octant.mono _ _
   | exact trig_reaches.mono _ _ _
   | exact LeO.none _
   | refine LeO.ite ?_ ?_
   | refine LeO.bind ?_ (fun _ => ?_)
  ·
   intro y0 y1
   unfold trig_acute.l1
   repeat' first
   | (with_reducible exact ih0 _ _)
   | (with_reducible exact ih1 _ _)
   | (with_reducible exact ih2 _ _ _)
   | (with_reducible exact ih3 _ _)
   | (with_reducible exact ih4 _ _)
   | (with_reducible exact ih5 _ _)
   | (with_reducible exact trig_octant.mono _ _)
   | (with_reducible exact trig_reaches.mono _ _ _)
   | (with_reducible exact LeO.refl _)
   | (with_reducible exact LeO.none _)
   | (with_reducible refine LeO.ite ?_ ?_)
   | (with_reducible refine LeO.bind ?_ (fun _ => ?_))
   | exact ih0 _ _
   | exact ih1 _ _
   | exact ih2 _ _ _
   | exact ih3 _ _
   | exact ih4 _ _
   | exact ih5 _ _
   | exact trig_octant.mono _ _
   | exact trig_reaches.mono _ _ _
   | exact LeO.none _
   | refine LeO.ite ?_ ?_
   | refine LeO.bind ?_ (fun _ => ?_)
  ·
   intro y0 y1 y2
   unfold trig_acute.l2
   repeat' first
   | (with_reducible exact ih0 _ _)
   | (with_reducible exact ih1 _ _)
   | (with_reducible exact ih2 _ _ _)
   | (with_reducible exact ih3 _ _)
   | (with_reducible exact ih4 _ _)
   | (with_reducible exact ih5 _ _)
   | (with_reducible exact trig_octant.mono _ _)
   | (with_reducible exact trig_reaches.mono _ _ _)
   | (with_reducible exact LeO.refl _)
   | (with_reducible exact LeO.none _)
   | (with_reducible refine LeO.ite ?_ ?_)
   | (with_reducible refine LeO.bind ?_ (fun _ => ?_))
   | exact ih0 _ _
   | exact ih1 _ _
   | exact ih2 _ _ _
   | exact ih3 _ _
   | exact ih4 _ _
   | exact ih5 _ _
   | exact trig_octant.mono _ _
   | exact trig_reaches.mono _ _ _
   | exact LeO.none _
   | refine LeO.ite ?_ ?_
   | refine LeO.bind ?_ (fun _ => ?_)
  ·
   intro y0 y1
   unfold trig_acute.j4
   repeat' first
   | (with_reducible exact ih0 _ _)
   | (with_reducible exact ih1 _ _)
   | (with_reducible exact ih2 _ _ _)
   | (with_reducible exact ih3 _ _)
   | (with_reducible exact ih4 _ _)
   | (with_reducible exact ih5 _ _)
   | (with_reducible exact trig_octant.mono _ _)
   | (with_reducible exact trig_reaches.mono _ _ _)
   | (with_reducible exact LeO.refl _)
   | (with_reducible exact LeO.none _)
   | (with_reducible refine LeO.ite ?_ ?_)
   | (with_reducible refine LeO.bind ?_ (fun _ => ?_))
   | exact ih0 _ _
   | exact ih1 _ _
   | exact ih2 _ _ _
   | exact ih3 _ _
   | exact ih4 _ _
   | exact ih5 _ _
   | exact trig_octant.mono _ _
   | exact trig_reaches.mono _ _ _
   | exact LeO.none _
   | refine LeO.ite ?_ ?_
   | refine LeO.bind ?_ (fun _ => ?_)
  ·
   intro y0 y1
   unfold trig_acute.l4
   repeat' first
   | (with_reducible exact ih0 _ _)
   | (with_reducible exact ih1 _ _)
   | (with_reducible exact ih2 _ _ _)
   | (with_reducible exact ih3 _ _)
   | (with_reducible exact ih4 _ _)
   | (with_reducible exact ih5 _ _)
   | (with_reducible exact trig_octant.mono _ _)
   | (with_reducible exact trig_reaches.mono _ _ _)
   | (with_reducible exact LeO.refl _)
   | (with_reducible exact LeO.none _)
   | (with_reducible refine LeO.ite ?_ ?_)
   | (with_reducible refine LeO.bind ?_ (fun _ => ?_))
   | exact ih0 _ _
   | exact ih1 _ _
   | exact ih2 _ _ _
   | exact ih3 _ _
   | exact ih4 _ _
   | exact ih5 _ _
   | exact trig_octant.mono _ _
   | exact trig_reaches.mono _ _ _
   | exact LeO.none _
   | refine LeO.ite ?_ ?_
   | refine LeO.bind ?_ (fun _ => ?_)
  ·
   intro y0 y1
   unfold trig_acute.l3
   repeat' first
   | (with_reducible exact ih0 _ _)
   | (with_reducible exact ih1 _ _)
   | (with_reducible exact ih2 _ _ _)
   | (with_reducible exact ih3 _ _)
   | (with_reducible exact ih4 _ _)
   | (with_reducible exact ih5 _ _)
   | (with_reducible exact trig_octant.mono _ _)
   | (with_reducible exact trig_reaches.mono _ _ _)
   | (with_reducible exact LeO.refl _)
   | (with_reducible exact LeO.none _)
   | (with_reducible refine LeO.ite ?_ ?_)
   | (with_reducible refine LeO.bind ?_ (fun _ => ?_))
   | exact ih0 _ _
   | exact ih1 _ _
   | exact ih2 _ _ _
   | exact ih3 _ _
   | exact ih4 _ _
   | exact ih5 _ _
   | exact trig_octant.mono _ _
   | exact trig_reaches.mono _ _ _
   | exact LeO.none _
   | refine LeO.ite ?_ ?_
   | refine LeO.bind ?_ (fun _ => ?_)
theorem trig_acute.mono : ∀ a0 a1 k, LeO (trig_acute.f k a0 a1) (trig_acute.f (k + 1) a0 a1) := by
 intro a0 a1 k
 obtain ⟨ih0, ih1, ih2, ih3, ih4, ih5⟩ := trig_acute.mono_l k
 unfold trig_acute.f
 repeat' first
   | (with_reducible exact ih0 _ _)
   | (with_reducible exact ih1 _ _)
   | (with_reducible exact ih2 _ _ _)
   | (with_reducible exact ih3 _ _)
   | (with_reducible exact ih4 _ _)
   | (with_reducible exact ih5 _ _)
   | (with_reducible exact trig_octant.mono _ _)
   | (with_reducible exact trig_reaches.mono _ _ _)
   | (with_reducible exact LeO.refl _)
   | (with_reducible exact LeO.none _)
   | (with_reducible refine LeO.ite ?_ ?_)
   | (with_reducible refine LeO.bind ?_ (fun _ => ?_))
   | exact ih0 _ _
   | exact ih1 _ _
   | exact ih2 _ _ _
   | exact ih3 _ _
   | exact ih4 _ _
   | exact ih5 _ _
   | exact trig_octant.mono _ _
   | exact trig_reaches.mono _ _ _
   | exact LeO.none _
   | refine LeO.ite ?_ ?_
   | refine LeO.bind ?_ (fun _ => ?_)

/-! ### the Lean function trig_direction: function 58 -/
mutual
def trig_direction.j0 : Nat → Int → Int → Int → Int → Option (Int × Int)
 | 0, _, _, _, _ => none
 | k + 1, x0, x1, x5, x6 => if x6 < 0 then (trig_direction.j1 k x0 x1 x5 (wrap64 (-x6))) else (trig_direction.j1 k x0 x1 x5 x6)
def trig_direction.j1 : Nat → Int → Int → Int → Int → Option (Int × Int)
 | 0, _, _, _, _ => none
 | k + 1, x0, x1, x5, x6 => if x5 ≤ x6 then ((trig_acute.f k x5 x6).bind fun t253 => (trig_direction.j2 k x0 x1 (wrap64 (t253 - 1)) (wrap64 (t253 + 2)))) else ((trig_acute.f k x6 x5).bind fun t254 => (trig_direction.j2 k x0 x1 (wrap64 ((wrap64 (250000000 - t254)) - 2)) (wrap64 ((wrap64 (250000000 - t254)) + 1))))
def trig_direction.j2 : Nat → Int → Int → Int → Int → Option (Int × Int)
 | 0, _, _, _, _ => none
 | k + 1, x0, x1, x253000, x253001 => if x1 < 0 then (if x0 < 0 then ((trig_minus.f (wrap64 (500000000 - x253001)) (wrap64 (500000000 - x253000))).bind fun bt255 => (some (bt255.1, bt255.2))) else (some (wrap64 (500000000 - x253001), wrap64 (500000000 - x253000)))) else (if x0 < 0 then ((trig_minus.f x253000 x253001).bind fun bt257 => (some (bt257.1, bt257.2))) else (some (x253000, x253001)))
end
def trig_direction.f (k : Nat) (a0 : Int) (a1 : Int) : Option (Int × Int) := if a0 < 0 then (trig_direction.j0 k a0 a1 (wrap64 (-a0)) a1) else (trig_direction.j0 k a0 a1 a0 a1)
theorem trig_direction.mono_l : ∀ k, (∀ y0 y1 y2 y3, LeO (trig_direction.j0 k y0 y1 y2 y3) (trig_direction.j0 (k + 1) y0 y1 y2 y3)) ∧ (∀ y0 y1 y2 y3, LeO (trig_direction.j1 k y0 y1 y2 y3) (trig_direction.j1 (k + 1) y0 y1 y2 y3)) ∧ (∀ y0 y1 y2 y3, LeO (trig_direction.j2 k y0 y1 y2 y3) (trig_direction.j2 (k + 1) y0 y1 y2 y3))
 | 0 => ⟨fun _ _ _ _ r h => by simp [trig_direction.j0] at h, fun _ _ _ _ r h => by simp [trig_direction.j1] at h, fun _ _ _ _ r h => by simp [trig_direction.j2] at h⟩
 | k + 1 => by
  obtain ⟨ih0, ih1, ih2⟩ := trig_direction.mono_l k
  refine ⟨?_, ?_, ?_⟩
  ·
   intro y0 y1 y2 y3
   unfold trig_direction.j0
   repeat' first
   | (with_reducible exact ih0 _ _ _ _)
   | (with_reducible exact ih1 _ _ _ _)
   | (with_reducible exact ih2 _ _ _ _)
   | (with_reducible exact trig_acute.mono _ _ _)
   | (with_reducible exact LeO.refl _)
   | (with_reducible exact LeO.none _)
   | (with_reducible refine LeO.ite ?_ ?_)
   | (with_reducible refine LeO.bind ?_ (fun _ => ?_))
   | exact ih0 _ _ _ _
   | exact ih1 _ _ _ _
   | exact ih2 _ _ _ _
   | exact trig_acute.mono _ _ _
   | exact LeO.none _
   | refine LeO.ite ?_ ?_
   | refine LeO.bind ?_ (fun _ => ?_)
  ·
   intro y0 y1 y2 y3
   unfold trig_direction.j1
   repeat' first
   | (with_reducible exact ih0 _ _ _ _)
   | (with_reducible exact ih1 _ _ _ _)
   | (with_reducible exact ih2 _ _ _ _)
   | (with_reducible exact trig_acute.mono _ _ _)
   | (with_reducible exact LeO.refl _)
   | (with_reducible exact LeO.none _)
   | (with_reducible refine LeO.ite ?_ ?_)
   | (with_reducible refine LeO.bind ?_ (fun _ => ?_))
   | exact ih0 _ _ _ _
   | exact ih1 _ _ _ _
   | exact ih2 _ _ _ _
   | exact trig_acute.mono _ _ _
   | exact LeO.none _
   | refine LeO.ite ?_ ?_
   | refine LeO.bind ?_ (fun _ => ?_)
  ·
   intro y0 y1 y2 y3
   unfold trig_direction.j2
   repeat' first
   | (with_reducible exact ih0 _ _ _ _)
   | (with_reducible exact ih1 _ _ _ _)
   | (with_reducible exact ih2 _ _ _ _)
   | (with_reducible exact trig_acute.mono _ _ _)
   | (with_reducible exact LeO.refl _)
   | (with_reducible exact LeO.none _)
   | (with_reducible refine LeO.ite ?_ ?_)
   | (with_reducible refine LeO.bind ?_ (fun _ => ?_))
   | exact ih0 _ _ _ _
   | exact ih1 _ _ _ _
   | exact ih2 _ _ _ _
   | exact trig_acute.mono _ _ _
   | exact LeO.none _
   | refine LeO.ite ?_ ?_
   | refine LeO.bind ?_ (fun _ => ?_)
theorem trig_direction.mono : ∀ a0 a1 k, LeO (trig_direction.f k a0 a1) (trig_direction.f (k + 1) a0 a1) := by
 intro a0 a1 k
 obtain ⟨ih0, ih1, ih2⟩ := trig_direction.mono_l k
 unfold trig_direction.f
 repeat' first
   | (with_reducible exact ih0 _ _ _ _)
   | (with_reducible exact ih1 _ _ _ _)
   | (with_reducible exact ih2 _ _ _ _)
   | (with_reducible exact trig_acute.mono _ _ _)
   | (with_reducible exact LeO.refl _)
   | (with_reducible exact LeO.none _)
   | (with_reducible refine LeO.ite ?_ ?_)
   | (with_reducible refine LeO.bind ?_ (fun _ => ?_))
   | exact ih0 _ _ _ _
   | exact ih1 _ _ _ _
   | exact ih2 _ _ _ _
   | exact trig_acute.mono _ _ _
   | exact LeO.none _
   | refine LeO.ite ?_ ?_
   | refine LeO.bind ?_ (fun _ => ?_)

/-! ### the Lean function trig_root: function 59 -/
def trig_root.l0 : Nat → Int → Int → Int → Option (Int)
 | 0, _, _, _ => none
 | k + 1, x0, x3, x4 => if x3 < x4 then (if (wrap64 (Int.tdiv (wrap64 ((wrap64 (x3 + x4)) + 1)) 2)) = 0 then (none) else (if (wrap64 (Int.tdiv (wrap64 ((wrap64 (x3 + x4)) + 1)) 2)) ≤ (wrap64 (Int.tdiv x0 (wrap64 (Int.tdiv (wrap64 ((wrap64 (x3 + x4)) + 1)) 2)))) then (trig_root.l0 k x0 (wrap64 (Int.tdiv (wrap64 ((wrap64 (x3 + x4)) + 1)) 2)) x4) else (trig_root.l0 k x0 x3 (wrap64 ((wrap64 (Int.tdiv (wrap64 ((wrap64 (x3 + x4)) + 1)) 2)) - 1))))) else (some x3)
def trig_root.f (k : Nat) (a0 : Int) : Option (Int) := trig_root.l0 k a0 0 2147483648
theorem trig_root.mono_l : ∀ k, (∀ y0 y1 y2, LeO (trig_root.l0 k y0 y1 y2) (trig_root.l0 (k + 1) y0 y1 y2))
 | 0 => fun _ _ _ r h => by simp [trig_root.l0] at h
 | k + 1 => by
  have ih0 := trig_root.mono_l k
  ·
   intro y0 y1 y2
   unfold trig_root.l0
   repeat' first
   | (with_reducible exact ih0 _ _ _)
   | (with_reducible exact LeO.refl _)
   | (with_reducible exact LeO.none _)
   | (with_reducible refine LeO.ite ?_ ?_)
   | (with_reducible refine LeO.bind ?_ (fun _ => ?_))
   | exact ih0 _ _ _
   | exact LeO.none _
   | refine LeO.ite ?_ ?_
   | refine LeO.bind ?_ (fun _ => ?_)
theorem trig_root.mono : ∀ a0 k, LeO (trig_root.f k a0) (trig_root.f (k + 1) a0) := by
 intro a0 k
 have ih0 := trig_root.mono_l k
 unfold trig_root.f
 repeat' first
   | (with_reducible exact ih0 _ _ _)
   | (with_reducible exact LeO.refl _)
   | (with_reducible exact LeO.none _)
   | (with_reducible refine LeO.ite ?_ ?_)
   | (with_reducible refine LeO.bind ?_ (fun _ => ?_))
   | exact ih0 _ _ _
   | exact LeO.none _
   | refine LeO.ite ?_ ?_
   | refine LeO.bind ?_ (fun _ => ?_)

/-! ### the Lean function trig_ArcSin: function 19 -/
def trig_ArcSin.f (k : Nat) (a0_0 : Int) (a0_1 : Int) : Option (Int × Int × Int) := (interval_Check.f k a0_0 a0_1).bind fun t261 => (if t261 = 0 then ((trig_root.f k (wrap64 (1000000000000000000 - (wrap64 ((mx (-1000000000) (mn 1000000000 a0_0)) * (mx (-1000000000) (mn 1000000000 a0_0))))))).bind fun t262 => ((trig_direction.f k (mx (-1000000000) (mn 1000000000 a0_0)) t262).bind fun bt263 => ((trig_root.f k (wrap64 (1000000000000000000 - (wrap64 ((mx (-1000000000) (mn 1000000000 a0_1)) * (mx (-1000000000) (mn 1000000000 a0_1))))))).bind fun t266 => ((trig_direction.f k (mx (-1000000000) (mn 1000000000 a0_1)) t266).bind fun bt267 => (some (mx (-250000000) (wrap64 (bt263.1 - 1)), mn 250000000 (wrap64 (bt267.2 + 1)), 0)))))) else (some (0, 0, t261)))
theorem trig_ArcSin.mono : ∀ a0 a1 k, LeO (trig_ArcSin.f k a0 a1) (trig_ArcSin.f (k + 1) a0 a1) := by
 intro a0 a1 k
 unfold trig_ArcSin.f
 repeat' first
   | (with_reducible exact interval_Check.mono _ _ _)
   | (with_reducible exact trig_direction.mono _ _ _)
   | (with_reducible exact trig_root.mono _ _)
   | (with_reducible exact LeO.refl _)
   | (with_reducible exact LeO.none _)
   | (with_reducible refine LeO.ite ?_ ?_)
   | (with_reducible refine LeO.bind ?_ (fun _ => ?_))
   | exact interval_Check.mono _ _ _
   | exact trig_direction.mono _ _ _
   | exact trig_root.mono _ _
   | exact LeO.none _
   | refine LeO.ite ?_ ?_
   | refine LeO.bind ?_ (fun _ => ?_)

/-! ### the Lean function trig_Arc: function 20 -/
/-- one corner more: its direction is taken into the interval -/
def trig_Arc.stp (k : Nat) (y x f0 : Int) (s : Int × Int) : Option (Int × Int) :=
  (trig_direction.f k y x).bind fun d => (interval_Floor.f (wrap64 ((wrap64 (d.1 - f0)) + 500000000)) 1000000000).bind fun q => some (mn s.1 (wrap64 (d.1 - wrap64 (q * 1000000000))), mx s.2 (wrap64 (d.2 - wrap64 (q * 1000000000))))
def ArcOk (a0_0 a0_1 a1_0 a1_1 : Int) : Prop := InR a0_0 ∧ a0_0 ≤ a0_1 ∧ InR a0_1 ∧ InR a1_0 ∧ a1_0 ≤ a1_1 ∧ InR a1_1
instance (a b c d : Int) : Decidable (ArcOk a b c d) := inferInstanceAs (Decidable (_ ∧ _ ∧ _ ∧ _ ∧ _ ∧ _))
def trig_Arc.f (k : Nat) (a0_0 : Int) (a0_1 : Int) (a1_0 : Int) (a1_1 : Int) : Option (Int × Int × Int) :=
  if ArcOk a0_0 a0_1 a1_0 a1_1 then
    (if a0_0 ≤ 0 ∧ 0 ≤ a0_1 ∧ a1_0 ≤ 0 ∧ 0 ≤ a1_1 then some (0, 0, 11) else
    (trig_direction.f k a0_0 a1_0).bind fun d => (trig_Arc.stp k a0_0 a1_1 d.1 d).bind fun s1 => (trig_Arc.stp k a0_1 a1_0 d.1 s1).bind fun s2 => (trig_Arc.stp k a0_1 a1_1 d.1 s2).bind fun s3 =>
      if 400000000 < wrap64 (s3.2 - s3.1) then some (0, 0, 11) else (interval_Floor.f s3.1 1000000000).bind fun q => some (wrap64 (s3.1 - wrap64 (q * 1000000000)), wrap64 (s3.2 - wrap64 (q * 1000000000)), 0))
  else none
theorem trig_Arc.stp_mono (k : Nat) (y x f0 : Int) (s : Int × Int) : LeO (trig_Arc.stp k y x f0 s) (trig_Arc.stp (k + 1) y x f0 s) := by
  unfold trig_Arc.stp
  exact LeO.bind (trig_direction.mono _ _ _) (fun _ _ h => h)
theorem trig_Arc.mono : ∀ a0 a1 a2 a3 k, LeO (trig_Arc.f k a0 a1 a2 a3) (trig_Arc.f (k + 1) a0 a1 a2 a3) := by
  intro a0 a1 a2 a3 k
  unfold trig_Arc.f
  refine LeO.ite ?_ (fun _ h => h)
  refine LeO.ite (LeO.refl _) ?_
  refine LeO.bind (trig_direction.mono _ _ _) (fun _ => ?_)
  refine LeO.bind (trig_Arc.stp_mono _ _ _ _ _) (fun _ => ?_)
  refine LeO.bind (trig_Arc.stp_mono _ _ _ _ _) (fun _ => ?_)
  exact LeO.bind (trig_Arc.stp_mono _ _ _ _ _) (fun _ _ h => h)
theorem acheck_ {x y : Int} (g1 : InR x) (g2 : x ≤ y) (g3 : InR y) : interval_Check.f 1 x y = some 0 := by
  obtain ⟨a1, a2⟩ := g1
  obtain ⟨b1, b2⟩ := g3
  unfold interval_Check.f interval_out.f
  rw [if_neg (by omega), if_neg (by omega)]
  simp only [Option.bind_some, interval_Check.j0]
  rw [decide_eq_false (by omega), decide_eq_false (by omega)]
  simp only [Bool.false_eq_true, if_false]
  rw [if_neg (by omega)]

/-! ### the Lean function trig_Cos: function 53 -/
def trig_Cos.f (k : Nat) (a0 : Int) : Option (Int × Int × Int) := (trig_out.f a0).bind fun t271 => (if t271 = true then (some (0, 0, 3)) else ((trig_Reduced.f a0).bind fun t272 => ((trig_Sin.f k (wrap64 (t272 + 250000000))).bind fun bt273 => (some (bt273.1, bt273.2.1, bt273.2.2)))))
theorem trig_Cos.mono : ∀ a0 k, LeO (trig_Cos.f k a0) (trig_Cos.f (k + 1) a0) := by
 intro a0 k
 unfold trig_Cos.f
 repeat' first
   | (with_reducible exact trig_Sin.mono _ _)
   | (with_reducible exact LeO.refl _)
   | (with_reducible exact LeO.none _)
   | (with_reducible refine LeO.ite ?_ ?_)
   | (with_reducible refine LeO.bind ?_ (fun _ => ?_))
   | exact trig_Sin.mono _ _
   | exact LeO.none _
   | refine LeO.ite ?_ ?_
   | refine LeO.bind ?_ (fun _ => ?_)

/-! ### the Lean function sun_Clamp: function 70 -/
def sun_Clamp.f (a0_0 : Int) (a0_1 : Int) : Option (Int × Int) := some (mx (-1000000000) (mn 1000000000 a0_0), mx (-1000000000) (mn 1000000000 a0_1))

/-! ### the Lean function interval_both: function 109 -/
def interval_both.f (k : Nat) (a0_0 : Int) (a0_1 : Int) (a1_0 : Int) (a1_1 : Int) : Option (Int) := (interval_Check.f k a0_0 a0_1).bind fun t280 => (if t280 = 0 then ((interval_Check.f k a1_0 a1_1).bind fun t281 => (some t281)) else (some t280))
theorem interval_both.mono : ∀ a0 a1 a2 a3 k, LeO (interval_both.f k a0 a1 a2 a3) (interval_both.f (k + 1) a0 a1 a2 a3) := by
 intro a0 a1 a2 a3 k
 unfold interval_both.f
 repeat' first
   | (with_reducible exact interval_Check.mono _ _ _)
   | (with_reducible exact LeO.refl _)
   | (with_reducible exact LeO.none _)
   | (with_reducible refine LeO.ite ?_ ?_)
   | (with_reducible refine LeO.bind ?_ (fun _ => ?_))
   | exact interval_Check.mono _ _ _
   | exact LeO.none _
   | refine LeO.ite ?_ ?_
   | refine LeO.bind ?_ (fun _ => ?_)

/-! ### the Lean function interval_times: function 110 -/
def interval_times.f (a0 : Int) (a1 : Int) : Option (Int × Bool) := if InR a0 ∧ InR a1 ∧ InR (a0 * a1) then some (a0 * a1, true) else none
theorem abs_f_ {x : Int} (h : InR x) : interval_abs.f x = some (if x < 0 then -x else x) := by
  obtain ⟨h1, h2⟩ := h
  unfold interval_abs.f
  split
  · rw [wrap_in_ (by omega) (by omega)]
  · rfl
theorem quo_ge_ {x y : Int} (y0 : y ≠ 0) (h : InR (x * y)) : (if x < 0 then -x else x) ≤ Int.tdiv 1000000000000000000 (if y < 0 then -y else y) ∧ Int.tdiv 1000000000000000000 (if y < 0 then -y else y) ≤ 1000000000000000000 := by
  obtain ⟨h1, h2⟩ := h
  rw [Int.tdiv_eq_ediv_of_nonneg (by omega)]
  constructor
  · refine Int.le_ediv_of_mul_le (by split <;> omega) ?_
    split <;> split
    · rw [Int.neg_mul_neg]; exact h2
    · rw [Int.neg_mul]; omega
    · rw [Int.mul_neg]; omega
    · exact h2
  · exact Int.ediv_le_self _ (by omega)

/-! ### the Lean function interval_Mul: function 97 -/
def interval_Mul.P (a b c d : Int) : Nat → Int
  | 0 => a * c
  | 1 => a * d
  | 2 => b * c
  | _ => b * d
def interval_Mul.L (a b c d : Int) : Nat → Int
  | 0 => 0
  | 1 => a * c
  | k + 2 => if interval_Mul.P a b c d (k + 1) < interval_Mul.L a b c d (k + 1) then interval_Mul.P a b c d (k + 1) else interval_Mul.L a b c d (k + 1)
def interval_Mul.H (a b c d : Int) : Nat → Int
  | 0 => 0
  | 1 => a * c
  | k + 2 => if interval_Mul.H a b c d (k + 1) < interval_Mul.P a b c d (k + 1) then interval_Mul.P a b c d (k + 1) else interval_Mul.H a b c d (k + 1)
def MulOk (a0_0 a0_1 a1_0 a1_1 : Int) : Prop := InR a0_0 ∧ a0_0 ≤ a0_1 ∧ InR a0_1 ∧ InR a1_0 ∧ a1_0 ≤ a1_1 ∧ InR a1_1 ∧ InR (a0_0 * a1_0) ∧ InR (a0_0 * a1_1) ∧ InR (a0_1 * a1_0) ∧ InR (a0_1 * a1_1)
instance (a b c d : Int) : Decidable (MulOk a b c d) := inferInstanceAs (Decidable (_ ∧ _ ∧ _ ∧ _ ∧ _ ∧ _ ∧ _ ∧ _ ∧ _ ∧ _))
def interval_Mul.f (a0_0 : Int) (a0_1 : Int) (a1_0 : Int) (a1_1 : Int) : Option (Int × Int × Int) :=
  if MulOk a0_0 a0_1 a1_0 a1_1 then some (interval_Mul.L a0_0 a0_1 a1_0 a1_1 4, interval_Mul.H a0_0 a0_1 a1_0 a1_1 4, 0) else none
theorem icheck_f_ {x y : Int} (g1 : InR x) (g2 : x ≤ y) (g3 : InR y) : interval_Check.f 1 x y = some 0 := by
  obtain ⟨a1, a2⟩ := g1
  obtain ⟨b1, b2⟩ := g3
  unfold interval_Check.f interval_out.f
  rw [if_neg (by omega), if_neg (by omega)]
  simp only [Option.bind_some, interval_Check.j0]
  rw [decide_eq_false (by omega), decide_eq_false (by omega)]
  simp only [Bool.false_eq_true, if_false]
  rw [if_neg (by omega)]
theorem both_f_ {a b c d : Int} (h1 : InR a) (h2 : a ≤ b) (h3 : InR b) (h4 : InR c) (h5 : c ≤ d) (h6 : InR d) : interval_both.f 1 a b c d = some 0 := by
  unfold interval_both.f
  rw [icheck_f_ h1 h2 h3, icheck_f_ h4 h5 h6]
  rfl
theorem times_f_ {x y : Int} (hx : InR x) (hy : InR y) (h : InR (x * y)) : interval_times.f x y = some (x * y, true) := by
  unfold interval_times.f
  rw [if_pos ⟨hx, hy, h⟩]
theorem MulOk.times_ {a b c d : Int} (h : MulOk a b c d) : interval_times.f a c = some (interval_Mul.P a b c d 0, true) ∧ interval_times.f a d = some (interval_Mul.P a b c d 1, true) ∧ interval_times.f b c = some (interval_Mul.P a b c d 2, true) ∧ interval_times.f b d = some (interval_Mul.P a b c d 3, true) := by
  obtain ⟨h1, h2, h3, h4, h5, h6, h7, h8, h9, h10⟩ := h
  exact ⟨times_f_ h1 h4 h7, times_f_ h1 h6 h8, times_f_ h3 h4 h9, times_f_ h3 h6 h10⟩

/-! ### the Lean function sun_Unit: function 61 -/
def sun_Unit.f (a0_0 : Int) (a0_1 : Int) (a1_0 : Int) (a1_1 : Int) : Option (Int × Int) := (sun_Clamp.f a0_0 a0_1).bind fun bt285 => ((sun_Clamp.f a1_0 a1_1).bind fun bt287 => ((interval_Mul.f bt285.1 bt285.2 bt287.1 bt287.2).bind fun bt289 => ((interval_Scale.f bt289.1 bt289.2.1 1 1000000000).bind fun bt293 => (some (bt293.1, bt293.2.1)))))

/-! ### the Lean function sun_plus: function 101 -/
def sun_plus.f (a0_0 : Int) (a0_1 : Int) (a1_0 : Int) (a1_1 : Int) : Option (Int × Int) := some (wrap64 (a0_0 + a1_0), wrap64 (a0_1 + a1_1))

/-! ### the Lean function sun_less: function 102 -/
def sun_less.f (a0_0 : Int) (a0_1 : Int) (a1_0 : Int) (a1_1 : Int) : Option (Int × Int) := some (wrap64 (a0_0 - a1_1), wrap64 (a0_1 - a1_0))

/-! ### the Lean function sun_Equator: function 64 -/
def sun_Equator.j0 : Nat → Bool → Int → Int → Int → Int → Option (Int × Int × Int × Int × Int)
 | 0, _, _, _, _, _ => none
 | k + 1, x49, x304000, x304001, x305000, x305001 => if x49 = true then (none) else ((trig_Sin.f k 65109000).bind fun bt307 => ((trig_Cos.f k 65109000).bind fun bt311 => ((trig_SinOver.f k x304000 x304001).bind fun bt315 => ((trig_CosOver.f k x304000 x304001).bind fun bt319 => ((trig_SinOver.f k x305000 x305001).bind fun bt323 => ((trig_CosOver.f k x305000 x305001).bind fun bt327 => ((sun_Unit.f bt327.1 bt327.2.1 bt315.1 bt315.2.1).bind fun bt331 => ((sun_Unit.f bt331.1 bt331.2 bt307.1 bt307.2.1).bind fun bt334 => ((sun_Unit.f bt323.1 bt323.2.1 bt311.1 bt311.2.1).bind fun bt336 => ((sun_plus.f bt334.1 bt334.2 bt336.1 bt336.2).bind fun bt338 => ((sun_Unit.f bt331.1 bt331.2 bt311.1 bt311.2.1).bind fun bt341 => ((sun_Unit.f bt323.1 bt323.2.1 bt307.1 bt307.2.1).bind fun bt343 => ((sun_less.f bt341.1 bt341.2 bt343.1 bt343.2).bind fun bt345 => ((sun_Unit.f bt327.1 bt327.2.1 bt319.1 bt319.2.1).bind fun bt347 => ((trig_Arc.f k bt345.1 bt345.2 bt347.1 bt347.2).bind fun bt349 => (if bt349.2.2 = 0 then ((trig_ArcSin.f k bt338.1 bt338.2).bind fun bt353 => (some (bt349.1, bt349.2.1, bt353.1, bt353.2.1, 0))) else (none)))))))))))))))))
def sun_Equator.g (k : Nat) (a0_0 : Int) (a0_1 : Int) (a1_0 : Int) (a1_1 : Int) : Option (Int × Int × Int × Int × Int) := if a1_0 < (-125000000) then (sun_Equator.j0 k true a0_0 a0_1 a1_0 a1_1) else (sun_Equator.j0 k (decide (a1_1 > 125000000)) a0_0 a0_1 a1_0 a1_1)
theorem sun_Equator.mono_l : ∀ k, (∀ y0 y1 y2 y3 y4, LeO (sun_Equator.j0 k y0 y1 y2 y3 y4) (sun_Equator.j0 (k + 1) y0 y1 y2 y3 y4))
 | 0 => fun _ _ _ _ _ r h => by simp [sun_Equator.j0] at h
 | k + 1 => by
  have ih0 := sun_Equator.mono_l k
  ·
   intro y0 y1 y2 y3 y4
   unfold sun_Equator.j0
   repeat' first
   | (with_reducible exact ih0 _ _ _ _ _)
   | (with_reducible exact trig_Arc.mono _ _ _ _ _)
   | (with_reducible exact trig_ArcSin.mono _ _ _)
   | (with_reducible exact trig_Cos.mono _ _)
   | (with_reducible exact trig_CosOver.mono _ _ _)
   | (with_reducible exact trig_Sin.mono _ _)
   | (with_reducible exact trig_SinOver.mono _ _ _)
   | (with_reducible exact LeO.refl _)
   | (with_reducible exact LeO.none _)
   | (with_reducible refine LeO.ite ?_ ?_)
   | (with_reducible refine LeO.bind ?_ (fun _ => ?_))
   | exact ih0 _ _ _ _ _
   | exact trig_Arc.mono _ _ _ _ _
   | exact trig_ArcSin.mono _ _ _
   | exact trig_Cos.mono _ _
   | exact trig_CosOver.mono _ _ _
   | exact trig_Sin.mono _ _
   | exact trig_SinOver.mono _ _ _
   | exact LeO.none _
   | refine LeO.ite ?_ ?_
   | refine LeO.bind ?_ (fun _ => ?_)
theorem sun_Equator.gmono : ∀ a0 a1 a2 a3 k, LeO (sun_Equator.g k a0 a1 a2 a3) (sun_Equator.g (k + 1) a0 a1 a2 a3) := by
 intro a0 a1 a2 a3 k
 have ih0 := sun_Equator.mono_l k
 unfold sun_Equator.g
 repeat' first
   | (with_reducible exact ih0 _ _ _ _ _)
   | (with_reducible exact trig_Arc.mono _ _ _ _ _)
   | (with_reducible exact trig_ArcSin.mono _ _ _)
   | (with_reducible exact trig_Cos.mono _ _)
   | (with_reducible exact trig_CosOver.mono _ _ _)
   | (with_reducible exact trig_Sin.mono _ _)
   | (with_reducible exact trig_SinOver.mono _ _ _)
   | (with_reducible exact LeO.refl _)
   | (with_reducible exact LeO.none _)
   | (with_reducible refine LeO.ite ?_ ?_)
   | (with_reducible refine LeO.bind ?_ (fun _ => ?_))
   | exact ih0 _ _ _ _ _
   | exact trig_Arc.mono _ _ _ _ _
   | exact trig_ArcSin.mono _ _ _
   | exact trig_Cos.mono _ _
   | exact trig_CosOver.mono _ _ _
   | exact trig_Sin.mono _ _
   | exact trig_SinOver.mono _ _ _
   | exact LeO.none _
   | refine LeO.ite ?_ ?_
   | refine LeO.bind ?_ (fun _ => ?_)
def sun_Equator.f (k : Nat) (a0_0 : Int) (a0_1 : Int) (a1_0 : Int) (a1_1 : Int) : Option (Int × Int × Int × Int × Int) := (interval_Check.f k a0_0 a0_1).bind fun e => (interval_Check.f k a1_0 a1_1).bind fun g => if e = 0 ∧ g = 0 then sun_Equator.g k a0_0 a0_1 a1_0 a1_1 else none
theorem sun_Equator.mono : ∀ a0 a1 a2 a3 k, LeO (sun_Equator.f k a0 a1 a2 a3) (sun_Equator.f (k + 1) a0 a1 a2 a3) := by
 intro a0 a1 a2 a3 k
 unfold sun_Equator.f
 exact LeO.bind (interval_Check.mono _ _ _) (fun _ => LeO.bind (interval_Check.mono _ _ _) (fun _ => LeO.ite (sun_Equator.gmono _ _ _ _ _) (LeO.none _)))
theorem sun_Equator.f_some {k : Nat} {a0_0 a0_1 a1_0 a1_1 : Int} {r : Int × Int × Int × Int × Int} (h : sun_Equator.f k a0_0 a0_1 a1_0 a1_1 = some r) : interval_Check.f k a0_0 a0_1 = some 0 ∧ interval_Check.f k a1_0 a1_1 = some 0 ∧ sun_Equator.g k a0_0 a0_1 a1_0 a1_1 = some r := by
 unfold sun_Equator.f at h
 obtain ⟨e, h1, h3⟩ := Option.bind_eq_some_iff.mp h
 obtain ⟨g, h2, h4⟩ := Option.bind_eq_some_iff.mp h3
 by_cases z : e = 0 ∧ g = 0
 ·
  rw [if_pos z] at h4
  obtain ⟨rfl, rfl⟩ := z
  exact ⟨h1, h2, h4⟩
 ·
  rw [if_neg z] at h4
  cases h4

/-! ### the Lean function moon_At: function 34 -/
def moon_At.f (k : Nat) (a0 : Int) : Option (Int × Int × Int × Int × Int) := (moon_Longitude.f k a0).bind fun bt359 => (if bt359.2.2 = 0 then ((moon_Latitude.f k a0).bind fun bt363 => ((sun_Equator.f k bt359.1 bt359.2.1 bt363.1 bt363.2.1).bind fun bt367 => (some (bt367.1, bt367.2.1, bt367.2.2.1, bt367.2.2.2.1, bt367.2.2.2.2)))) else (some (0, 0, 0, 0, bt359.2.2)))
theorem moon_At.mono : ∀ a0 k, LeO (moon_At.f k a0) (moon_At.f (k + 1) a0) := by
 intro a0 k
 unfold moon_At.f
 repeat' first
   | (with_reducible exact moon_Latitude.mono _ _)
   | (with_reducible exact moon_Longitude.mono _ _)
   | (with_reducible exact sun_Equator.mono _ _ _ _ _)
   | (with_reducible exact LeO.refl _)
   | (with_reducible exact LeO.none _)
   | (with_reducible refine LeO.ite ?_ ?_)
   | (with_reducible refine LeO.bind ?_ (fun _ => ?_))
   | exact moon_Latitude.mono _ _
   | exact moon_Longitude.mono _ _
   | exact sun_Equator.mono _ _ _ _ _
   | exact LeO.none _
   | refine LeO.ite ?_ ?_
   | refine LeO.bind ?_ (fun _ => ?_)

/-! ### the Lean function ephemeriskeep2_MoonTilts: function 7 -/
def ephemeriskeep2_MoonTilts.f (k : Nat) (a0 : Int) : Option (Bool) := (ephemeriskeep2_moonWorks.f k).bind fun t372 => (if t372 = true then ((ephemeriskeep2_instant.f a0).bind fun t373 => ((moon_Latitude.f k t373).bind fun bt374 => ((moon_At.f k t373).bind fun bt378 => (if bt374.2.2 = 0 then (if bt378.2.2.2.2 = 0 then (if bt374.1 > (-16666667) then (if bt374.2.1 < 16666667 then (if bt378.2.2.1 > (-83333333) then (some (decide (bt378.2.2.2.1 < 83333333))) else (none)) else (none)) else (none)) else (none)) else (none))))) else (none))
theorem ephemeriskeep2_MoonTilts.mono : ∀ a0 k, LeO (ephemeriskeep2_MoonTilts.f k a0) (ephemeriskeep2_MoonTilts.f (k + 1) a0) := by
 intro a0 k
 unfold ephemeriskeep2_MoonTilts.f
 repeat' first
   | (with_reducible exact ephemeriskeep2_moonWorks.mono _)
   | (with_reducible exact moon_At.mono _ _)
   | (with_reducible exact moon_Latitude.mono _ _)
   | (with_reducible exact LeO.refl _)
   | (with_reducible exact LeO.none _)
   | (with_reducible refine LeO.ite ?_ ?_)
   | (with_reducible refine LeO.bind ?_ (fun _ => ?_))
   | exact ephemeriskeep2_moonWorks.mono _
   | exact moon_At.mono _ _
   | exact moon_Latitude.mono _ _
   | exact LeO.none _
   | refine LeO.ite ?_ ?_
   | refine LeO.bind ?_ (fun _ => ?_)
/-- THE ONE PURE STATEMENT of ephemeriskeep2_MoonTilts: yours. -/
def ephemeriskeep2_MoonTilts.Pure : Prop := ∀ (a0 : Int), (Lit.int .i64 a0).wf = true → ∃ k, ephemeriskeep2_MoonTilts.f k a0 = some true

/-! ### the Lean function sun_Series: function 63 -/
def sun_Series.f  : Option (Int × Int × (List (S93)) × Int) := some (775342092, 2737909333333, (([(⟨5318339, 84888545, 2737778555556⟩ : S93), (⟨55536, 169777090, 5475557111112⟩ : S93)] : List (S93))), 2000)

/-! ### the Lean function sun_Longitude: function 30 -/
def sun_Longitude.f (k : Nat) (a0 : Int) : Option (Int × Int × Int) := (sun_Series.f).bind fun bt390 => ((series_Angle.f k bt390.1 bt390.2.1 bt390.2.2.1 bt390.2.2.2 a0).bind fun bt396 => (some (bt396.1, bt396.2.1, bt396.2.2)))
theorem sun_Longitude.mono : ∀ a0 k, LeO (sun_Longitude.f k a0) (sun_Longitude.f (k + 1) a0) := by
 intro a0 k
 unfold sun_Longitude.f
 repeat' first
   | (with_reducible exact series_Angle.mono _ _ _ _ _ _)
   | (with_reducible exact LeO.refl _)
   | (with_reducible exact LeO.none _)
   | (with_reducible refine LeO.ite ?_ ?_)
   | (with_reducible refine LeO.bind ?_ (fun _ => ?_))
   | exact series_Angle.mono _ _ _ _ _ _
   | exact LeO.none _
   | refine LeO.ite ?_ ?_
   | refine LeO.bind ?_ (fun _ => ?_)

/-! ### the Lean function sun_At: function 31 -/
def sun_At.f (k : Nat) (a0 : Int) : Option (Int × Int × Int × Int × Int) := (sun_Longitude.f k a0).bind fun bt401 => (if bt401.2.2 = 0 then ((sun_Equator.f k bt401.1 bt401.2.1 0 0).bind fun bt405 => (some (bt405.1, bt405.2.1, bt405.2.2.1, bt405.2.2.2.1, bt405.2.2.2.2))) else (some (0, 0, 0, 0, bt401.2.2)))
theorem sun_At.mono : ∀ a0 k, LeO (sun_At.f k a0) (sun_At.f (k + 1) a0) := by
 intro a0 k
 unfold sun_At.f
 repeat' first
   | (with_reducible exact sun_Equator.mono _ _ _ _ _)
   | (with_reducible exact sun_Longitude.mono _ _)
   | (with_reducible exact LeO.refl _)
   | (with_reducible exact LeO.none _)
   | (with_reducible refine LeO.ite ?_ ?_)
   | (with_reducible refine LeO.bind ?_ (fun _ => ?_))
   | exact sun_Equator.mono _ _ _ _ _
   | exact sun_Longitude.mono _ _
   | exact LeO.none _
   | refine LeO.ite ?_ ?_
   | refine LeO.bind ?_ (fun _ => ?_)

/-! ### the Lean function place_Check: function 87 -/
def place_Check.f (a0_0 : Int) (a0_1 : Int) : Option (Int) := if a0_0 < (-500000000) then (some 3) else (if a0_0 > 500000000 then (some 3) else (if a0_1 < (-220000000) then (some 3) else (if a0_1 > 220000000 then (some 3) else (some 0))))

/-! ### the Lean function place_Sidereal: function 68 -/
def place_Sidereal.f (k : Nat) (a0_0 : Int) (a0_1 : Int) (a1 : Int) : Option (Int × Int × Int) := (place_Check.f a0_0 a0_1).bind fun t413 => (if t413 = 0 then ((series_Angle.f k 275313108 1002737909350806 ([] : List (S93)) 0 a1).bind fun bt414 => (if bt414.2.2 = 0 then ((series_Reduced.f (wrap64 (bt414.1 + a0_0)) (wrap64 (bt414.2.1 + a0_0))).bind fun bt418 => (some (bt418.1, bt418.2, 0))) else (some (0, 0, bt414.2.2)))) else (some (0, 0, t413)))
theorem place_Sidereal.mono : ∀ a0 a1 a2 k, LeO (place_Sidereal.f k a0 a1 a2) (place_Sidereal.f (k + 1) a0 a1 a2) := by
 intro a0 a1 a2 k
 unfold place_Sidereal.f
 repeat' first
   | (with_reducible exact series_Angle.mono _ _ _ _ _ _)
   | (with_reducible exact LeO.refl _)
   | (with_reducible exact LeO.none _)
   | (with_reducible refine LeO.ite ?_ ?_)
   | (with_reducible refine LeO.bind ?_ (fun _ => ?_))
   | exact series_Angle.mono _ _ _ _ _ _
   | exact LeO.none _
   | refine LeO.ite ?_ ?_
   | refine LeO.bind ?_ (fun _ => ?_)

/-! ### the Lean function place_hour: function 69 -/
def place_hour.f (k : Nat) (p0 p1 r0 r1 d0 d1 t : Int) : Option (Int × Int × Int) :=
  (place_Sidereal.f k p0 p1 t).bind fun s => (interval_Check.f k r0 r1).bind fun e => (interval_Check.f k d0 d1).bind fun g =>
    if s.2.2 = 0 ∧ e = 0 ∧ g = 0 ∧ -250000000 ≤ d0 ∧ d1 ≤ 250000000 ∧ -1000000000 ≤ r0 ∧ r1 ≤ 3000000000 then some (wrap64 (s.1 - r1), wrap64 (s.2.1 - r0), 0) else none
theorem place_hour.mono : ∀ p0 p1 r0 r1 d0 d1 t k, LeO (place_hour.f k p0 p1 r0 r1 d0 d1 t) (place_hour.f (k + 1) p0 p1 r0 r1 d0 d1 t) := by
  intro p0 p1 r0 r1 d0 d1 t k
  unfold place_hour.f
  exact LeO.bind (place_Sidereal.mono _ _ _ _) (fun _ => LeO.bind (interval_Check.mono _ _ _) (fun _ => LeO.bind (interval_Check.mono _ _ _) (fun _ => LeO.refl _)))
-- IMPORT Derived.LoopN

/-! ### the Lean function place_Height: function 37 -/
def place_Height.f (k : Nat) (a0_0 : Int) (a0_1 : Int) (a1_0 : Int) (a1_1 : Int) (a2_0 : Int) (a2_1 : Int) (a3 : Int) : Option (Int × Int × Int) := (place_hour.f k a0_0 a0_1 a1_0 a1_1 a2_0 a2_1 a3).bind fun bt424 => (if bt424.2.2 = 0 then ((trig_Sin.f k a0_1).bind fun bt428 => ((trig_Cos.f k a0_1).bind fun bt432 => ((trig_SinOver.f k a2_0 a2_1).bind fun bt436 => ((trig_CosOver.f k a2_0 a2_1).bind fun bt440 => ((trig_CosOver.f k bt424.1 bt424.2.1).bind fun bt444 => ((sun_Unit.f bt428.1 bt428.2.1 bt436.1 bt436.2.1).bind fun bt448 => ((sun_Unit.f bt432.1 bt432.2.1 bt440.1 bt440.2.1).bind fun bt450 => ((sun_Unit.f bt450.1 bt450.2 bt444.1 bt444.2.1).bind fun bt452 => ((sun_Clamp.f (wrap64 (bt448.1 + bt452.1)) (wrap64 (bt448.2 + bt452.2))).bind fun bt456 => (some (bt456.1, bt456.2, 0))))))))))) else (some (0, 0, bt424.2.2)))
theorem place_Height.mono : ∀ a0 a1 a2 a3 a4 a5 a6 k, LeO (place_Height.f k a0 a1 a2 a3 a4 a5 a6) (place_Height.f (k + 1) a0 a1 a2 a3 a4 a5 a6) := by
 intro a0 a1 a2 a3 a4 a5 a6 k
 unfold place_Height.f
 repeat' first
   | (with_reducible exact place_hour.mono _ _ _ _ _ _ _ _)
   | (with_reducible exact trig_Cos.mono _ _)
   | (with_reducible exact trig_CosOver.mono _ _ _)
   | (with_reducible exact trig_Sin.mono _ _)
   | (with_reducible exact trig_SinOver.mono _ _ _)
   | (with_reducible exact LeO.refl _)
   | (with_reducible exact LeO.none _)
   | (with_reducible refine LeO.ite ?_ ?_)
   | (with_reducible refine LeO.bind ?_ (fun _ => ?_))
   | exact place_hour.mono _ _ _ _ _ _ _ _
   | exact trig_Cos.mono _ _
   | exact trig_CosOver.mono _ _ _
   | exact trig_Sin.mono _ _
   | exact trig_SinOver.mono _ _ _
   | exact LeO.none _
   | refine LeO.ite ?_ ?_
   | refine LeO.bind ?_ (fun _ => ?_)

/-! ### the Lean function ephemeriskeep2_placeWorks: function 35 -/
def ephemeriskeep2_placeWorks.f (k : Nat)  : Option (Bool) := (place_Sidereal.f k 0 0 0).bind fun bt458 => ((place_Height.f k 0 125000000 275313108 275313108 125000000 125000000 0).bind fun bt462 => (if bt458.2.2 = 0 then ((ephemeriskeep2_has.f bt458.1 bt458.2.1 275313108 1).bind fun t466 => (if t466 = true then (if bt462.2.2 = 0 then ((ephemeriskeep2_has.f bt462.1 bt462.2.1 1000000000 30).bind fun t467 => (some t467)) else (none)) else (none))) else (none)))
theorem ephemeriskeep2_placeWorks.mono : ∀ k, LeO (ephemeriskeep2_placeWorks.f k ) (ephemeriskeep2_placeWorks.f (k + 1) ) := by
 intro  k
 unfold ephemeriskeep2_placeWorks.f
 repeat' first
   | (with_reducible exact place_Height.mono _ _ _ _ _ _ _ _)
   | (with_reducible exact place_Sidereal.mono _ _ _ _)
   | (with_reducible exact LeO.refl _)
   | (with_reducible exact LeO.none _)
   | (with_reducible refine LeO.ite ?_ ?_)
   | (with_reducible refine LeO.bind ?_ (fun _ => ?_))
   | exact place_Height.mono _ _ _ _ _ _ _ _
   | exact place_Sidereal.mono _ _ _ _
   | exact LeO.none _
   | refine LeO.ite ?_ ?_
   | refine LeO.bind ?_ (fun _ => ?_)

/-! ### the Lean function ephemeriskeep2_site: function 36 -/
def ephemeriskeep2_site.f (a0_0 : Int) (a0_1 : Int) : Option (Int × Int) := some (Int.tmod a0_0 500000001, Int.tmod a0_1 220000001)

/-! ### the Lean function place_Ground: function 38 -/
def place_Ground.f (k : Nat) (a0_0 : Int) (a0_1 : Int) (a1_0 : Int) (a1_1 : Int) (a2_0 : Int) (a2_1 : Int) (a3 : Int) : Option (Int × Int × Int × Int × Int) := (place_hour.f k a0_0 a0_1 a1_0 a1_1 a2_0 a2_1 a3).bind fun bt475 => (if bt475.2.2 = 0 then ((trig_Sin.f k a0_1).bind fun bt479 => ((trig_Cos.f k a0_1).bind fun bt483 => ((trig_SinOver.f k a2_0 a2_1).bind fun bt487 => ((trig_CosOver.f k a2_0 a2_1).bind fun bt491 => ((trig_SinOver.f k bt475.1 bt475.2.1).bind fun bt495 => ((trig_CosOver.f k bt475.1 bt475.2.1).bind fun bt499 => ((sun_Unit.f bt491.1 bt491.2.1 bt495.1 bt495.2.1).bind fun bt503 => ((sun_Unit.f bt483.1 bt483.2.1 bt487.1 bt487.2.1).bind fun bt506 => ((sun_Unit.f bt479.1 bt479.2.1 bt491.1 bt491.2.1).bind fun bt508 => ((sun_Unit.f bt508.1 bt508.2 bt499.1 bt499.2.1).bind fun bt510 => ((sun_Clamp.f (wrap64 (bt506.1 - bt510.2)) (wrap64 (bt506.2 - bt510.1))).bind fun bt514 => (some (wrap64 (-bt503.2), wrap64 (-bt503.1), bt514.1, bt514.2, 0))))))))))))) else (some (0, 0, 0, 0, bt475.2.2)))
theorem place_Ground.mono : ∀ a0 a1 a2 a3 a4 a5 a6 k, LeO (place_Ground.f k a0 a1 a2 a3 a4 a5 a6) (place_Ground.f (k + 1) a0 a1 a2 a3 a4 a5 a6) := by
 intro a0 a1 a2 a3 a4 a5 a6 k
 unfold place_Ground.f
 repeat' first
   | (with_reducible exact place_hour.mono _ _ _ _ _ _ _ _)
   | (with_reducible exact trig_Cos.mono _ _)
   | (with_reducible exact trig_CosOver.mono _ _ _)
   | (with_reducible exact trig_Sin.mono _ _)
   | (with_reducible exact trig_SinOver.mono _ _ _)
   | (with_reducible exact LeO.refl _)
   | (with_reducible exact LeO.none _)
   | (with_reducible refine LeO.ite ?_ ?_)
   | (with_reducible refine LeO.bind ?_ (fun _ => ?_))
   | exact place_hour.mono _ _ _ _ _ _ _ _
   | exact trig_Cos.mono _ _
   | exact trig_CosOver.mono _ _ _
   | exact trig_Sin.mono _ _
   | exact trig_SinOver.mono _ _ _
   | exact LeO.none _
   | refine LeO.ite ?_ ?_
   | refine LeO.bind ?_ (fun _ => ?_)

-- NOT PRINTED: function 8 (ephemeriskeep2_PlaceParts)

end Go.Proofs.Ytmoffcpbmigngaa.JM
