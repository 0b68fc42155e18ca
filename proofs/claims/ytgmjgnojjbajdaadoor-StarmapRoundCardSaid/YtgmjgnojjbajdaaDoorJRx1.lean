-- Made by a program of this session (wip/hp.py, over the kit's print) out of the translation. Not trusted: Lean checks it.
import Derived.Test.YtgmjgnojjbajdaaDoorJRx0
import Derived.LoopN
import Derived.Test.YtgmjgnojjbajdaaDoorStar
namespace Go.Proofs.YtgmjgnojjbajdaaDoor.JR
open Go.RowKit Go.Proofs.YtgmjgnojjbajdaaDoorW.PrintWords Go.Proofs.YtgmjgnojjbajdaaDoorW.PrintLast Go.Proofs.YtgmjgnojjbajdaaDoorW.PrintMore
attribute [local go_sem] max2_int min2_int max_two min_two max_three min_three max_four min_four   -- for this text's walks alone
set_option linter.unusedVariables false
set_option linter.unusedSimpArgs false

theorem wrap_in_ {n : Int} (h : -9223372036854775808 ≤ n) (h' : n ≤ 9223372036854775807) : wrap64 n = n := by
  unfold wrap64; omega
theorem sz1_ (b : UInt8) : (⟨#[b]⟩ : ByteArray).size = 1 := rfl
/-- within the range of the bounds of intervals -/
def InR (x : Int) : Prop := -1000000000000000000 ≤ x ∧ x ≤ 1000000000000000000
instance (x : Int) : Decidable (InR x) := inferInstanceAs (Decidable (_ ∧ _))
theorem below_setg {B : Nat} {w W : World} {g j : Nat} {v : Value} (h : Below B w W) (hg : B ≤ g) : Below B w (W.setCell ⟨g, j, none⟩ v) := h.setCell hg _
/-- W is w with blocks added and orders drawn -/
class Gr_ (w : outParam World) (W : World) : Prop where
  at_ : ∀ (g : Nat) (o : Obj), w.heap[g]? = some o → W.heap[g]? = some o
  be_ : ∀ w0 : World, Below w0.heap.size w0 w → Below w0.heap.size w0 W
instance (priority := low) gr_refl_ (w : World) : Gr_ w w := ⟨fun _ _ h => h, fun _ h => h⟩
instance gr_alloc_ (w W : World) (o : Obj) [Gr_ w W] : Gr_ w (W.alloc o) := ⟨fun g _ h => blk_alloc (Gr_.at_ (w := w) (W := W) g _ h) o, fun w0 h => below_alloc (Gr_.be_ (w := w) (W := W) w0 h) o⟩
instance gr_drew_ (w W : World) [Gr_ w W] : Gr_ w W.drew := ⟨fun g _ h => blk_drew (Gr_.at_ (w := w) (W := W) g _ h), fun w0 h => below_drew (Gr_.be_ (w := w) (W := W) w0 h)⟩
instance gr_drewN_ (w W : World) (n : Nat) [Gr_ w W] : Gr_ w (W.drewN n) := ⟨fun g _ h => blk_drewN (Gr_.at_ (w := w) (W := W) g _ h) n, fun w0 h => pw_below_drewN (Gr_.be_ (w := w) (W := W) w0 h) n⟩
theorem grz_ {w W : World} [Gr_ w W] {g : Nat} {o : Obj} (h : w.heap[g]? = some o) : W.heap[g]? = some o := Gr_.at_ g o h
theorem hbz_ {w W w0 : World} [Gr_ w W] (h : Below w0.heap.size w0 w) : Below w0.heap.size w0 W := Gr_.be_ w0 h
theorem nxz_ {w W w1 : World} [Gr_ w W] {g : Nat} {o : Obj} (h : Aside0 (w.heap[g]? = some o)) (hb : Below W.heap.size W w1) : Aside0 (w1.heap[g]? = some o) := ⟨blk_below (grz_ (W := W) h.out) hb⟩
theorem hxz_ {w W w0 w1 : World} [Gr_ w W] (h : Aside0 (Below w0.heap.size w0 w)) (hb : Below W.heap.size W w1) : Aside0 (Below w0.heap.size w0 w1) := ⟨below_step (hbz_ (W := W) h.out) hb⟩
theorem nbz_ {W : World} {g h : Nat} {o : Obj} (e : W.heap[g]? = some o) (hg : h = W.heap.size) : Aside0 (g ≠ h) := ⟨by rw [hg]; exact Nat.ne_of_lt (blk_lt e)⟩
theorem bnz_ {W : World} {g h : Nat} {o : Obj} (e : W.heap[g]? = some o) (hg : h = W.heap.size) : Aside0 (h ≠ g) := ⟨by rw [hg]; exact Nat.ne_of_gt (blk_lt e)⟩
theorem gez_ {W w : World} {h : Nat} (e : Below w.heap.size w W) (hg : h = W.heap.size) : Aside0 (w.heap.size ≤ h) := ⟨by rw [hg]; exact below_size e⟩
/-- stores at two places: the order makes no difference -/
theorem setCell_comm_ (w : World) (b c i j : Nat) (x y : Value) (h : b ≠ c ∨ i ≠ j) : (w.setCell ⟨c, j, none⟩ y).setCell ⟨b, i, none⟩ x = (w.setCell ⟨b, i, none⟩ x).setCell ⟨c, j, none⟩ y := by
  unfold World.setCell
  congr 1
  apply Array.ext_getElem?
  intro k
  simp only [Array.getElem?_modify]
  by_cases h1 : b = k <;> by_cases h2 : c = k
  · subst h1; subst h2
    have hij : i ≠ j := h.resolve_left (fun z => z rfl)
    simp only [if_pos, Option.map_map]
    congr 1
    funext o
    cases o <;> simp only [Function.comp, Option.isSome_none, Bool.false_eq_true, if_false]
    rw [Array.setIfInBounds_comm _ _ hij]
  · simp only [if_pos h1, if_neg h2]
  · simp only [if_neg h1, if_pos h2]
  · simp only [if_neg h1, if_neg h2]
section
variable {P : Program} {ops : Array Oper} {Q : Exit → Act → World → Prop} {md : Region.Mode} {S : World → Prop} {ds : List Nat}
/-- a load that may come up behind a store elsewhere: both orders lead to one place, shown once -/
theorem late_ {i j : Nat} {N : Option Tmp} {v : Value} {oi oj : Oper} {fuel : Nat} {l : Array Bool} {a a1 : Act} {w W1 : World} (X : Prop) (S2 : World → Prop) (li lj lij : Array Bool) (hi : ops[i]? = some oi) (hj : ops[j]? = some oj) (hN : oi.dst = N) (hNj : oj.dst = none)
    (hc : ((Region.ready md ops l == [i, j] || Region.ready md ops l == [j, i]) && l.setIfInBounds i true == li && l.setIfInBounds j true == lj && Region.ready md ops lj == [i] && lj.setIfInBounds i true == lij) = true) (hdi : i ∉ ds) (hdj : j ∈ ds)
    (hy : YieldsIf P ops S2 oi v a) (hs : S2 w) (hs1 : S2 W1) (ha : a.put N v = a1)
    (h2 : ∀ K : Act → World → Prop, K a W1 → if Region.wanted oj (yielded ops a.tmps) = true then Oper.wp P oj a w K Q else K (a.put none undef) w)
    (hX : X) (b1 : X → wpAnyLast P md ops Q S ds (fuel + 1) li a1 w) (b2 : X → wpAnyLast P md ops Q S ds fuel lij a1 W1) : wpAnyLast P md ops Q S ds (fuel + 2) l a w := by
  simp only [Bool.and_eq_true, Bool.or_eq_true, beq_iff_eq] at hc
  obtain ⟨⟨⟨⟨c1, c2⟩, c3⟩, c4⟩, c5⟩ := hc
  subst ha
  subst hN
  have A1 : wpOp P ops Q i (fun a' w' => (i ∉ ds → S w → S w') ∧ wpAnyLast P md ops Q S ds (fuel + 1) (l.setIfInBounds i true) a' w') a w := by
    refine hy.wpOp hi hs ⟨fun _ h => h, ?_⟩
    rw [c2]
    exact b1 hX
  have A2 : wpOp P ops Q j (fun a' w' => (j ∉ ds → S w → S w') ∧ wpAnyLast P md ops Q S ds (fuel + 1) (l.setIfInBounds j true) a' w') a w := by
    refine wpOp_step hj (fun K hK => ?_)
    rw [hNj]
    refine h2 K (hK _ _ ⟨fun h => absurd hdj h, ?_⟩)
    rw [c3]
    refine wpAnyLast_all c4 (by simp) ?_
    intro k hk
    obtain rfl := List.mem_singleton.mp hk
    refine hy.wpOp hi hs1 ⟨fun _ h => h, ?_⟩
    rw [c5]
    exact b2 hX
  rcases c1 with c1 | c1
  · refine wpAnyLast_all c1 (by simp) ?_
    intro k hk
    rcases List.mem_cons.mp hk with rfl | hk
    · exact A1
    · obtain rfl := List.mem_singleton.mp hk
      exact A2
  · refine wpAnyLast_all c1 (by simp) ?_
    intro k hk
    rcases List.mem_cons.mp hk with rfl | hk
    · exact A2
    · obtain rfl := List.mem_singleton.mp hk
      exact A1
end
section
variable {P : Program} {ops : Array Oper} {Q : Exit → Act → World → Prop}
/-- a call of a function value in a plain region -/
theorem goesV_ {rest : List Oper} {oi : Oper} {a : Act} {w : World} (N : Option Tmp) (hd : oi.dst = N) (hg : oi.guard = none) {f : FuncId} {fn : Func} {xs : Array Operand} {ts : Array TypeId} {o : Operand} {cap : Array Value} (hf : P.funcs[f]? = some fn) (hname : (fn.name == "runtime.NumGoroutine") = false) (hb : fn.body.isSome = true)
    (hop : oi.op = .call { callee := .value o, args := xs, argTypes := ts }) (hv : a.eval o = .func (.func f) #[] cap) (args : Array Value) (hargs : xs.map a.eval = args)
    (h : Calls P f (args ++ cap) w fun e w' => ∃ v, e = .returned v ∧ wpList P ops Q rest (a.put N v) w') : wpList P ops Q (oi :: rest) a w := by
  refine wpList_plain hg fun K hK => ?_
  have he := enters_ hf hname hb (args ++ cap) w
  have hrun : (execOp a.eval oi).run P w = .ok (.enter f (args ++ cap)) w := by
    unfold execOp
    simp [hop, resolve, Deferred.ofValue, invoke, hv, hargs, he]
  unfold Oper.wp
  rw [hrun, Oper.upon_enter]
  refine h.mono fun e w'' hh => ?_
  obtain ⟨v, rfl, hk⟩ := hh
  subst hd
  exact hK _ _ hk
/-- The operation calls a function value. -/
theorem gate_value {rest : List Oper} {oi : Oper} {a : Act} {w : World} {x : Operand} {xs : Array Operand} {ts : Array TypeId} (_ho : oi.op = .call { callee := .value x, args := xs, argTypes := ts }) (h : wpList P ops Q (oi :: rest) a w) : wpList P ops Q (oi :: rest) a w := h
end
section
variable {P : Program} {ops : Array Oper} {Q : Exit → Act → World → Prop}
/-- a call in a plain region behind a guard that says yes -/
theorem goesW_ {rest : List Oper} {oi : Oper} {a : Act} {w : World} (N : Option Tmp) (hd : oi.dst = N) (hw : Region.wanted oi (yielded ops a.tmps) = true) {f : FuncId} {fn : Func} {xs : Array Operand} {ts : Array TypeId} (hf : P.funcs[f]? = some fn) (hname : (fn.name == "runtime.NumGoroutine") = false) (hb : fn.body.isSome = true) (args : Array Value)
    (hop : oi.op = .call { callee := .value (.func f), args := xs, argTypes := ts }) (hargs : xs.map a.eval = args)
    (h : Calls P f args w fun e w' => ∃ v, e = .returned v ∧ wpList P ops Q rest (a.put N v) w') : wpList P ops Q (oi :: rest) a w := by
  refine wpList_step fun K hK => ?_
  rw [if_pos hw]
  have he := enters_ hf hname hb args w
  have hrun : (execOp a.eval oi).run P w = .ok (.enter f args) w := by
    unfold execOp
    simp [hop, resolve, Deferred.ofValue, invoke, Act.eval, hargs, he]
  unfold Oper.wp
  rw [hrun, Oper.upon_enter]
  refine h.mono fun e w'' hh => ?_
  obtain ⟨v, rfl, hk⟩ := hh
  subst hd
  exact hK _ _ hk
/-- a call of a function value in a plain region behind a guard that says yes -/
theorem goesVW_ {rest : List Oper} {oi : Oper} {a : Act} {w : World} (N : Option Tmp) (hd : oi.dst = N) (hw : Region.wanted oi (yielded ops a.tmps) = true) {f : FuncId} {fn : Func} {xs : Array Operand} {ts : Array TypeId} {o : Operand} {cap : Array Value} (hf : P.funcs[f]? = some fn) (hname : (fn.name == "runtime.NumGoroutine") = false) (hb : fn.body.isSome = true)
    (hop : oi.op = .call { callee := .value o, args := xs, argTypes := ts }) (hv : a.eval o = .func (.func f) #[] cap) (args : Array Value) (hargs : xs.map a.eval = args)
    (h : Calls P f (args ++ cap) w fun e w' => ∃ v, e = .returned v ∧ wpList P ops Q rest (a.put N v) w') : wpList P ops Q (oi :: rest) a w := by
  refine wpList_step fun K hK => ?_
  rw [if_pos hw]
  have he := enters_ hf hname hb (args ++ cap) w
  have hrun : (execOp a.eval oi).run P w = .ok (.enter f (args ++ cap)) w := by
    unfold execOp
    simp [hop, resolve, Deferred.ofValue, invoke, hv, hargs, he]
  unfold Oper.wp
  rw [hrun, Oper.upon_enter]
  refine h.mono fun e w'' hh => ?_
  obtain ⟨v, rfl, hk⟩ := hh
  subst hd
  exact hK _ _ hk
end

/-! ### the Lean function ephemeriskeep2_at: function 10 -/
def ephemeriskeep2_at.f (a0 : Int) (a1 : Int) : Option (Int) := if a1 = 0 then (none) else (some (Int.tmod (wrap64 ((Int.tmod a0 a1) + a1)) a1))

/-! ### the Lean function ephemeriskeep2_instant: function 11 -/
def ephemeriskeep2_instant.f (a0 : Int) : Option (Int) := (ephemeriskeep2_at.f a0 604800000000000).bind fun t101 => (some (wrap64 (t101 - 302400000000000)))

/-! ### the Lean function star_Names: function 9 -/
-- IMPORT Derived.Test.YtgmjgnojjbajdaaDoorStar
def star_Names.f : Option (List ByteArray) := some (lt_.map fun x => x.1)

/-! ### the Lean function interval_Floor: function 49 -/
def interval_Floor.f (a0 : Int) (a1 : Int) : Option (Int) := if a1 = 0 then (none) else (if (Int.tmod a0 a1) = 0 then (some (wrap64 (Int.tdiv a0 a1))) else (if ((decide (a0 < 0)) != (decide (a1 < 0))) = true then (some (wrap64 ((wrap64 (Int.tdiv a0 a1)) - 1))) else (some (wrap64 (Int.tdiv a0 a1)))))

/-! ### the Lean function series_Reduced: function 33 -/
def series_Reduced.f (a0_0 : Int) (a0_1 : Int) : Option (Int × Int) := (interval_Floor.f a0_0 1000000000).bind fun t104 => (some (wrap64 (a0_0 - (wrap64 (t104 * 1000000000))), wrap64 (a0_1 - (wrap64 (t104 * 1000000000)))))

/-! ### the Lean function series_Valid: function 35 -/
def series_Valid.f (a0 : Int) : Option (Bool) := if a0 ≥ (-345600000000000) then (some (decide (a0 < 345600086400000))) else (some false)

/-! ### the Lean function series_beyond: function 64 -/
def series_beyond.f (a0 : Int) (a1 : Int) : Option (Bool) := if a0 < (wrap64 (-a1)) then (some true) else (some (decide (a0 > a1)))

/-! ### the Lean function series_Check: function 54 -/
mutual
def series_Check.j0 : Nat → Bool → Int → Int → List (S85) → Int → Option (Int)
 | 0, _, _, _, _, _ => none
 | k + 1, x26, x106000, x106001, x106002, x106003 => if x26 = true then (some 3) else (series_Check.l0 k x106002 (x106002.length : Int) 0)
def series_Check.l0 : Nat → List (S85) → Int → Int → Option (Int)
 | 0, _, _, _ => none
 | k + 1, x28, x29, x30 => if x30 < x29 then (if 0 ≤ x30 then (if x30 < (x28.length : Int) then ((series_beyond.f ((rd_T85 x28 x30).f0) 1000000000).bind fun t110 => (if t110 = true then (some 3) else (if ((rd_T85 x28 x30).f1) < 0 then (some 3) else (if ((rd_T85 x28 x30).f1) ≥ 1000000000 then (some 3) else ((series_beyond.f ((rd_T85 x28 x30).f2) 4000000000000000).bind fun t111 => (if t111 = true then (some 3) else (series_Check.l0 k x28 x29 (wrap64 (x30 + 1))))))))) else (none)) else (none)) else (some 0)
end
def series_Check.f (k : Nat) (a0_0 : Int) (a0_1 : Int) (l0_2 : List (S85)) (a0_3 : Int) : Option (Int) := if (l0_2.length : Int) > 40 then (some 2) else ((series_beyond.f a0_0 1000000000).bind fun t106 => (if t106 = true then (series_Check.j0 k true a0_0 a0_1 l0_2 a0_3) else ((series_beyond.f a0_1 4000000000000000).bind fun t107 => (if t107 = true then (series_Check.j0 k true a0_0 a0_1 l0_2 a0_3) else (if a0_3 < 0 then (series_Check.j0 k true a0_0 a0_1 l0_2 a0_3) else (series_Check.j0 k (decide (a0_3 > 100000000)) a0_0 a0_1 l0_2 a0_3))))))
theorem series_Check.mono_l : ∀ k, (∀ y0 y1 y2 y3 y4, LeO (series_Check.j0 k y0 y1 y2 y3 y4) (series_Check.j0 (k + 1) y0 y1 y2 y3 y4)) ∧ (∀ y0 y1 y2, LeO (series_Check.l0 k y0 y1 y2) (series_Check.l0 (k + 1) y0 y1 y2))
 | 0 => ⟨fun _ _ _ _ _ r h => by simp [series_Check.j0] at h, fun _ _ _ r h => by simp [series_Check.l0] at h⟩
 | k + 1 => by
  obtain ⟨ih0, ih1⟩ := series_Check.mono_l k
  refine ⟨?_, ?_⟩
  ·
   intro y0 y1 y2 y3 y4
   unfold series_Check.j0
   repeat' first
   | (with_reducible exact ih0 _ _ _ _ _)
   | (with_reducible exact ih1 _ _ _)
   | (with_reducible exact LeO.refl _)
   | (with_reducible exact LeO.none _)
   | (with_reducible refine LeO.ite ?_ ?_)
   | (with_reducible refine LeO.bind ?_ (fun _ => ?_))
   | exact ih0 _ _ _ _ _
   | exact ih1 _ _ _
   | exact LeO.none _
   | refine LeO.ite ?_ ?_
   | refine LeO.bind ?_ (fun _ => ?_)
  ·
   intro y0 y1 y2
   unfold series_Check.l0
   repeat' first
   | (with_reducible exact ih0 _ _ _ _ _)
   | (with_reducible exact ih1 _ _ _)
   | (with_reducible exact LeO.refl _)
   | (with_reducible exact LeO.none _)
   | (with_reducible refine LeO.ite ?_ ?_)
   | (with_reducible refine LeO.bind ?_ (fun _ => ?_))
   | exact ih0 _ _ _ _ _
   | exact ih1 _ _ _
   | exact LeO.none _
   | refine LeO.ite ?_ ?_
   | refine LeO.bind ?_ (fun _ => ?_)
theorem series_Check.mono : ∀ a0 a1 a2 a3 k, LeO (series_Check.f k a0 a1 a2 a3) (series_Check.f (k + 1) a0 a1 a2 a3) := by
 intro a0 a1 a2 a3 k
 obtain ⟨ih0, ih1⟩ := series_Check.mono_l k
 unfold series_Check.f
 repeat' first
   | (with_reducible exact ih0 _ _ _ _ _)
   | (with_reducible exact ih1 _ _ _)
   | (with_reducible exact LeO.refl _)
   | (with_reducible exact LeO.none _)
   | (with_reducible refine LeO.ite ?_ ?_)
   | (with_reducible refine LeO.bind ?_ (fun _ => ?_))
   | exact ih0 _ _ _ _ _
   | exact ih1 _ _ _
   | exact LeO.none _
   | refine LeO.ite ?_ ?_
   | refine LeO.bind ?_ (fun _ => ?_)

/-! ### the Lean function series_check: function 38 -/
def series_check.f (k : Nat) (a0_0 : Int) (a0_1 : Int) (l0_2 : List (S85)) (a0_3 : Int) (a1 : Int) : Option (Int) := (series_Check.f k a0_0 a0_1 l0_2 a0_3).bind fun t113 => (if t113 = 0 then ((series_Valid.f a1).bind fun t114 => (if t114 = true then (some 0) else (some 3))) else (some t113))
theorem series_check.mono : ∀ a0 a1 a2 a3 a4 k, LeO (series_check.f k a0 a1 a2 a3 a4) (series_check.f (k + 1) a0 a1 a2 a3 a4) := by
 intro a0 a1 a2 a3 a4 k
 unfold series_check.f
 repeat' first
   | (with_reducible exact series_Check.mono _ _ _ _ _)
   | (with_reducible exact LeO.refl _)
   | (with_reducible exact LeO.none _)
   | (with_reducible refine LeO.ite ?_ ?_)
   | (with_reducible refine LeO.bind ?_ (fun _ => ?_))
   | exact series_Check.mono _ _ _ _ _
   | exact LeO.none _
   | refine LeO.ite ?_ ?_
   | refine LeO.bind ?_ (fun _ => ?_)

/-! ### the Lean function interval_out: function 55 -/
def interval_out.f (a0 : Int) : Option (Bool) := if a0 < (-1000000000000000000) then (some true) else (some (decide (a0 > 1000000000000000000)))

/-! ### the Lean function interval_Check: function 43 -/
def interval_Check.j0 : Nat → Bool → Int → Int → Option (Int)
 | 0, _, _, _ => none
 | k + 1, x10, x116000, x116001 => if x10 = true then (some 3) else (if x116000 > x116001 then (some 9) else (some 0))
def interval_Check.f (k : Nat) (a0_0 : Int) (a0_1 : Int) : Option (Int) := (interval_out.f a0_0).bind fun t116 => (if t116 = true then (interval_Check.j0 k true a0_0 a0_1) else ((interval_out.f a0_1).bind fun t117 => (interval_Check.j0 k t117 a0_0 a0_1)))
theorem interval_Check.mono_l : ∀ k, (∀ y0 y1 y2, LeO (interval_Check.j0 k y0 y1 y2) (interval_Check.j0 (k + 1) y0 y1 y2))
 | 0 => fun _ _ _ r h => by simp [interval_Check.j0] at h
 | k + 1 => by
  have ih0 := interval_Check.mono_l k
  ·
   intro y0 y1 y2
   unfold interval_Check.j0
   repeat' first
   | (with_reducible exact ih0 _ _ _)
   | (with_reducible exact LeO.refl _)
   | (with_reducible exact LeO.none _)
   | (with_reducible refine LeO.ite ?_ ?_)
   | (with_reducible refine LeO.bind ?_ (fun _ => ?_))
   | exact ih0 _ _ _
   | exact LeO.none _
   | refine LeO.ite ?_ ?_
   | refine LeO.bind ?_ (fun _ => ?_)
theorem interval_Check.mono : ∀ a0 a1 k, LeO (interval_Check.f k a0 a1) (interval_Check.f (k + 1) a0 a1) := by
 intro a0 a1 k
 have ih0 := interval_Check.mono_l k
 unfold interval_Check.f
 repeat' first
   | (with_reducible exact ih0 _ _ _)
   | (with_reducible exact LeO.refl _)
   | (with_reducible exact LeO.none _)
   | (with_reducible refine LeO.ite ?_ ?_)
   | (with_reducible refine LeO.bind ?_ (fun _ => ?_))
   | exact ih0 _ _ _
   | exact LeO.none _
   | refine LeO.ite ?_ ?_
   | refine LeO.bind ?_ (fun _ => ?_)

/-! ### the Lean function interval_abs: function 56 -/
def interval_abs.f (a0 : Int) : Option (Int) := if a0 < 0 then (some (wrap64 (-a0))) else (some a0)

/-! ### the Lean function interval_part: function 44 -/
def interval_part.j0 : Nat → Int → Int → Int → Int → Bool → Option (Int × Bool)
 | 0, _, _, _, _, _ => none
 | k + 1, x0, x1, x2, x8, x21 => if x21 = true then (some (0, false)) else ((interval_Floor.f (wrap64 ((wrap64 (x0 - (wrap64 (x8 * x2)))) * x1)) x2).bind fun t120 => ((interval_out.f (wrap64 ((wrap64 (x8 * x1)) + t120))).bind fun t121 => (some (wrap64 ((wrap64 (x8 * x1)) + t120), !t121))))
def interval_part.f (k : Nat) (a0 : Int) (a1 : Int) (a2 : Int) : Option (Int × Bool) := (interval_Floor.f a0 a2).bind fun t118 => (if a1 = 0 then (interval_part.j0 k a0 a1 a2 t118 false) else ((interval_abs.f t118).bind fun t119 => (interval_part.j0 k a0 a1 a2 t118 (decide (t119 > (wrap64 (Int.tdiv (2000000000000000000 : Int) a1)))))))
theorem interval_part.mono_l : ∀ k, (∀ y0 y1 y2 y3 y4, LeO (interval_part.j0 k y0 y1 y2 y3 y4) (interval_part.j0 (k + 1) y0 y1 y2 y3 y4))
 | 0 => fun _ _ _ _ _ r h => by simp [interval_part.j0] at h
 | k + 1 => by
  have ih0 := interval_part.mono_l k
  ·
   intro y0 y1 y2 y3 y4
   unfold interval_part.j0
   repeat' first
   | (with_reducible exact ih0 _ _ _ _ _)
   | (with_reducible exact LeO.refl _)
   | (with_reducible exact LeO.none _)
   | (with_reducible refine LeO.ite ?_ ?_)
   | (with_reducible refine LeO.bind ?_ (fun _ => ?_))
   | exact ih0 _ _ _ _ _
   | exact LeO.none _
   | refine LeO.ite ?_ ?_
   | refine LeO.bind ?_ (fun _ => ?_)
theorem interval_part.mono : ∀ a0 a1 a2 k, LeO (interval_part.f k a0 a1 a2) (interval_part.f (k + 1) a0 a1 a2) := by
 intro a0 a1 a2 k
 have ih0 := interval_part.mono_l k
 unfold interval_part.f
 repeat' first
   | (with_reducible exact ih0 _ _ _ _ _)
   | (with_reducible exact LeO.refl _)
   | (with_reducible exact LeO.none _)
   | (with_reducible refine LeO.ite ?_ ?_)
   | (with_reducible refine LeO.bind ?_ (fun _ => ?_))
   | exact ih0 _ _ _ _ _
   | exact LeO.none _
   | refine LeO.ite ?_ ?_
   | refine LeO.bind ?_ (fun _ => ?_)

/-! ### the Lean function interval_Scale: function 29 -/
def interval_Scale.lo (a0_0 a0_1 a1 a2 : Int) : Int := if a1 < 0 then (-a0_1) * (-a1) / a2 else a0_0 * a1 / a2
def interval_Scale.hi (a0_0 a0_1 a1 a2 : Int) : Int := if a1 < 0 then -(a0_0 * (-a1) / a2) else -((-a0_1) * a1 / a2)
def ScaleOk (a0_0 a0_1 a1 a2 : Int) : Prop := InR a0_0 ∧ a0_0 ≤ a0_1 ∧ InR a0_1 ∧ -1000000000 ≤ a1 ∧ a1 ≤ 1000000000 ∧ 1 ≤ a2 ∧ a2 ≤ 1000000000 ∧ InR (interval_Scale.lo a0_0 a0_1 a1 a2) ∧ InR (interval_Scale.hi a0_0 a0_1 a1 a2)
instance (a b c d : Int) : Decidable (ScaleOk a b c d) := inferInstanceAs (Decidable (_ ∧ _ ∧ _ ∧ _ ∧ _ ∧ _ ∧ _ ∧ _ ∧ _))
def interval_Scale.f (a0_0 : Int) (a0_1 : Int) (a1 : Int) (a2 : Int) : Option (Int × Int × Int) :=
  if ScaleOk a0_0 a0_1 a1 a2 then some (interval_Scale.lo a0_0 a0_1 a1 a2, interval_Scale.hi a0_0 a0_1 a1 a2, 0) else none
theorem sfloor_ {a b : Int} (hb : 0 < b) (hb' : b ≤ 9000000000000000000) (ha : -9000000000000000000 ≤ a) (ha' : a ≤ 9000000000000000000) : interval_Floor.f a b = some (a / b) := by
  have e := Int.emod_add_mul_ediv a b
  have m0 := Int.emod_nonneg a (show b ≠ 0 by omega)
  have m1 := Int.emod_lt_of_pos a hb
  unfold interval_Floor.f
  rw [if_neg (by omega)]
  rcases Int.le_total 0 a with h0 | h0
  · have d0 : 0 ≤ a / b := Int.ediv_nonneg h0 (by omega)
    have d1 : a / b ≤ a := Int.ediv_le_self _ h0
    rw [Int.tdiv_eq_ediv_of_nonneg h0, wrap_in_ (n := a / b) (by omega) (by omega), decide_eq_false (show ¬ a < 0 by omega), decide_eq_false (show ¬ b < 0 by omega)]
    simp
  · have hm : Int.tmod a b = -((-a) % b) := by rw [← Int.tmod_eq_emod_of_nonneg (by omega), Int.neg_tmod, Int.neg_neg]
    have hd : Int.tdiv a b = -((-a) / b) := by rw [← Int.tdiv_eq_ediv_of_nonneg (by omega), Int.neg_tdiv, Int.neg_neg]
    have e' := Int.emod_add_mul_ediv (-a) b
    have m0' := Int.emod_nonneg (-a) (show b ≠ 0 by omega)
    have m1' := Int.emod_lt_of_pos (-a) hb
    have d0 : 0 ≤ (-a) / b := Int.ediv_nonneg (by omega) (by omega)
    have d1 : (-a) / b ≤ -a := Int.ediv_le_self _ (by omega)
    rw [hm, hd, wrap_in_ (n := -((-a) / b)) (by omega) (by omega)]
    clear hm hd e m0 m1
    generalize (-a) / b = q at *
    generalize (-a) % b = m at *
    have n1 : b * (-q) = -(b * q) := Int.mul_neg b q
    have bq : 0 ≤ b * q := Int.mul_nonneg (by omega) d0
    have n2 : b * (-q - 1) = -(b * q) - b := by rw [Int.mul_sub, n1, Int.mul_one]
    by_cases z : m = 0
    · rw [if_pos (by omega)]
      congr 1
      rw [show a = b * (-q) by omega, Int.mul_ediv_cancel_left _ (by omega)]
    · rw [if_neg (by omega), decide_eq_true (show a < 0 by omega), decide_eq_false (show ¬ b < 0 by omega), wrap_in_ (by omega) (by omega)]
      simp only [Bool.true_bne, Bool.not_false, if_true]
      congr 1
      rw [show a = (b - m) + b * (-q - 1) by omega, Int.add_mul_ediv_left _ _ (by omega), Int.ediv_eq_zero_of_lt (by omega) (by omega)]; omega
theorem part_f_ {n m d : Int} (h1 : InR n) (h2 : 0 ≤ m) (h3 : m ≤ 1000000000) (h4 : 1 ≤ d) (h5 : d ≤ 1000000000) (h6 : InR (n * m / d)) : interval_part.f 1 n m d = some (n * m / d, true) := by
  obtain ⟨a1, a2⟩ := h1
  obtain ⟨b1, b2⟩ := h6
  have e := Int.emod_add_mul_ediv n d
  have m0 := Int.emod_nonneg n (show d ≠ 0 by omega)
  have m1 := Int.emod_lt_of_pos n (show 0 < d by omega)
  have q1 : n / d ≤ 1000000000000000000 := Int.ediv_le_of_le_mul (by omega) (by have : 1000000000000000000 * 1 ≤ 1000000000000000000 * d := Int.mul_le_mul_of_nonneg_left h4 (by omega); omega)
  have q0 : -1000000000000000000 ≤ n / d := Int.le_ediv_of_mul_le (by omega) (by have : 1000000000000000000 * 1 ≤ 1000000000000000000 * d := Int.mul_le_mul_of_nonneg_left h4 (by omega); rw [Int.neg_mul]; omega)
  -- the two parts of the quotient
  have key : n / d * m + (n - n / d * d) * m / d = n * m / d := by
    have : n * m = (n - n / d * d) * m + (n / d * m) * d := by
      rw [Int.sub_mul, Int.mul_right_comm (n / d) d m]; omega
    rw [this, Int.add_mul_ediv_right _ _ (by omega)]; omega
  have r : n - n / d * d = n % d := by rw [Int.mul_comm (n / d) d]; omega
  have p0 : 0 ≤ (n - n / d * d) * m := by rw [r]; exact Int.mul_nonneg m0 h2
  have p1 : (n - n / d * d) * m ≤ d * m := by rw [r]; exact Int.mul_le_mul_of_nonneg_right (by omega) h2
  have p2 : d * m ≤ 1000000000 * m := Int.mul_le_mul_of_nonneg_right h5 h2
  have t0 : 0 ≤ (n - n / d * d) * m / d := Int.ediv_nonneg p0 (by omega)
  have t1 : (n - n / d * d) * m / d ≤ m := Int.ediv_le_of_le_mul (by omega) (by rw [Int.mul_comm m d]; exact p1)
  have w1 : n / d * d = n - n % d := by omega
  unfold interval_part.f
  rw [sfloor_ (by omega) (by omega) (by omega) (by omega)]
  simp only [Option.bind_some]
  have last : interval_part.j0 1 n m d (n / d) false = some (n * m / d, true) := by
    simp only [interval_part.j0, Bool.false_eq_true, if_false]
    rw [wrap_in_ (n := n / d * d) (by omega) (by omega), wrap_in_ (n := n - n / d * d) (by omega) (by omega), wrap_in_ (n := (n - n / d * d) * m) (by omega) (by omega), sfloor_ (by omega) (by omega) (by omega) (by omega)]
    simp only [Option.bind_some]
    rw [wrap_in_ (n := n / d * m) (by omega) (by omega), key, wrap_in_ (n := n * m / d) (by omega) (by omega)]
    unfold interval_out.f
    rw [if_neg (by omega), decide_eq_false (by omega)]
    rfl
  by_cases z : m = 0
  · rw [if_pos z]; exact last
  · rw [if_neg z]
    have ab : interval_abs.f (n / d) = some (if n / d < 0 then -(n / d) else n / d) := by
      unfold interval_abs.f
      split
      · rw [wrap_in_ (by omega) (by omega)]
      · rfl
    rw [ab]
    simp only [Option.bind_some]
    have le : (if n / d < 0 then -(n / d) else n / d) ≤ Int.tdiv 2000000000000000000 m := by
      rw [Int.tdiv_eq_ediv_of_nonneg (by omega)]
      refine Int.le_ediv_of_mul_le (by omega) ?_
      split
      · rw [Int.neg_mul]; omega
      · omega
    have up : Int.tdiv 2000000000000000000 m ≤ 2000000000000000000 := by
      rw [Int.tdiv_eq_ediv_of_nonneg (by omega)]; exact Int.ediv_le_self _ (by omega)
    have lo : 0 ≤ Int.tdiv 2000000000000000000 m := by
      rw [Int.tdiv_eq_ediv_of_nonneg (by omega)]; exact Int.ediv_nonneg (by omega) h2
    rw [wrap_in_ (by omega) (by omega), decide_eq_false (by omega)]
    exact last

/-! ### the Lean function trig_Reduced: function 47 -/
def trig_Reduced.f (a0 : Int) : Option (Int) := (interval_Floor.f a0 1000000000).bind fun t122 => (some (wrap64 (a0 - (wrap64 (t122 * 1000000000)))))

/-! ### the Lean function trig_out: function 57 -/
def trig_out.f (a0 : Int) : Option (Bool) := if a0 < (-1000000000000000000) then (some true) else (some (decide (a0 > 1000000000000000000)))

/-! ### the Lean function trig_mul: function 65 -/
def trig_mul.f (a0 : Int) (a1 : Int) : Option (Int) := some (wrap64 ((wrap64 ((a0 / 1073741824) * (a1 / 1073741824))) + ((wrap64 ((wrap64 ((wrap64 ((a0 / 1073741824) * (Go.bits .and .i64 a1 1073741823))) + (wrap64 ((Go.bits .and .i64 a0 1073741823) * (a1 / 1073741824))))) + ((wrap64 ((Go.bits .and .i64 a0 1073741823) * (Go.bits .and .i64 a1 1073741823))) / 1073741824))) / 1073741824)))

/-! ### the Lean function trig_octant: function 58 -/
def trig_octant.l0 : Nat → Int → Int → Int → Int → Int → Int → Option (Int × Int)
 | 0, _, _, _, _, _, _ => none
 | k + 1, x5, x6, x7, x8, x9, x10 => if x10 ≤ 9 then ((trig_mul.f x9 x5).bind fun t124 => (if (wrap64 ((wrap64 ((wrap64 ((wrap64 (2 * x10)) - 1)) * 2)) * x10)) = 0 then (none) else ((trig_mul.f x8 x5).bind fun t125 => (if (wrap64 ((wrap64 (2 * x10)) * (wrap64 ((wrap64 (2 * x10)) + 1)))) = 0 then (none) else (if (Int.tmod x10 2) = 1 then (trig_octant.l0 k x5 (wrap64 (x6 - (wrap64 (Int.tdiv t125 (wrap64 ((wrap64 (2 * x10)) * (wrap64 ((wrap64 (2 * x10)) + 1)))))))) (wrap64 (x7 - (wrap64 (Int.tdiv t124 (wrap64 ((wrap64 ((wrap64 ((wrap64 (2 * x10)) - 1)) * 2)) * x10)))))) (wrap64 (Int.tdiv t125 (wrap64 ((wrap64 (2 * x10)) * (wrap64 ((wrap64 (2 * x10)) + 1)))))) (wrap64 (Int.tdiv t124 (wrap64 ((wrap64 ((wrap64 ((wrap64 (2 * x10)) - 1)) * 2)) * x10)))) (wrap64 (x10 + 1))) else (trig_octant.l0 k x5 (wrap64 (x6 + (wrap64 (Int.tdiv t125 (wrap64 ((wrap64 (2 * x10)) * (wrap64 ((wrap64 (2 * x10)) + 1)))))))) (wrap64 (x7 + (wrap64 (Int.tdiv t124 (wrap64 ((wrap64 ((wrap64 ((wrap64 (2 * x10)) - 1)) * 2)) * x10)))))) (wrap64 (Int.tdiv t125 (wrap64 ((wrap64 (2 * x10)) * (wrap64 ((wrap64 (2 * x10)) + 1)))))) (wrap64 (Int.tdiv t124 (wrap64 ((wrap64 ((wrap64 ((wrap64 (2 * x10)) - 1)) * 2)) * x10)))) (wrap64 (x10 + 1)))))))) else (some (mx 0 x6, mn 1152921504606846976 x7))
def trig_octant.f (k : Nat) (a0 : Int) : Option (Int × Int) := (trig_mul.f (wrap64 ((wrap64 (a0 * 7244019458)) + (wrap64 (Int.tdiv (wrap64 (a0 * 77122842)) 1000000000)))) (wrap64 ((wrap64 (a0 * 7244019458)) + (wrap64 (Int.tdiv (wrap64 (a0 * 77122842)) 1000000000))))).bind fun t123 => (trig_octant.l0 k t123 (wrap64 ((wrap64 (a0 * 7244019458)) + (wrap64 (Int.tdiv (wrap64 (a0 * 77122842)) 1000000000)))) 1152921504606846976 (wrap64 ((wrap64 (a0 * 7244019458)) + (wrap64 (Int.tdiv (wrap64 (a0 * 77122842)) 1000000000)))) 1152921504606846976 1)
theorem trig_octant.mono_l : ∀ k, (∀ y0 y1 y2 y3 y4 y5, LeO (trig_octant.l0 k y0 y1 y2 y3 y4 y5) (trig_octant.l0 (k + 1) y0 y1 y2 y3 y4 y5))
 | 0 => fun _ _ _ _ _ _ r h => by simp [trig_octant.l0] at h
 | k + 1 => by
  have ih0 := trig_octant.mono_l k
  ·
   intro y0 y1 y2 y3 y4 y5
   unfold trig_octant.l0
   repeat' first
   | (with_reducible exact ih0 _ _ _ _ _ _)
   | (with_reducible exact LeO.refl _)
   | (with_reducible exact LeO.none _)
   | (with_reducible refine LeO.ite ?_ ?_)
   | (with_reducible refine LeO.bind ?_ (fun _ => ?_))
   | exact ih0 _ _ _ _ _ _
   | exact LeO.none _
   | refine LeO.ite ?_ ?_
   | refine LeO.bind ?_ (fun _ => ?_)
theorem trig_octant.mono : ∀ a0 k, LeO (trig_octant.f k a0) (trig_octant.f (k + 1) a0) := by
 intro a0 k
 have ih0 := trig_octant.mono_l k
 unfold trig_octant.f
 repeat' first
   | (with_reducible exact ih0 _ _ _ _ _ _)
   | (with_reducible exact LeO.refl _)
   | (with_reducible exact LeO.none _)
   | (with_reducible refine LeO.ite ?_ ?_)
   | (with_reducible refine LeO.bind ?_ (fun _ => ?_))
   | exact ih0 _ _ _ _ _ _
   | exact LeO.none _
   | refine LeO.ite ?_ ?_
   | refine LeO.bind ?_ (fun _ => ?_)

/-! ### the Lean function trig_rounded: function 59 -/
def trig_rounded.f (a0 : Int) : Option (Int × Int) := some (mx (-1000000000) (wrap64 (((wrap64 ((wrap64 ((a0 / 1073741824) * 1000000000)) + ((wrap64 ((Go.bits .and .i64 a0 1073741823) * 1000000000)) / 1073741824))) / 1073741824) - 1)), mn 1000000000 (wrap64 (((wrap64 ((wrap64 ((a0 / 1073741824) * 1000000000)) + ((wrap64 ((Go.bits .and .i64 a0 1073741823) * 1000000000)) / 1073741824))) / 1073741824) + 2)))

/-! ### the Lean function trig_minus: function 60 -/
def trig_minus.f (a0_0 : Int) (a0_1 : Int) : Option (Int × Int) := some (wrap64 (-a0_1), wrap64 (-a0_0))

/-! ### the Lean function trig_Sin: function 45 -/
def trig_Sin.j0 : Nat → Int → Int → Int → Option (Int × Int × Int)
 | 0, _, _, _ => none
 | k + 1, x4, x6, x7 => if x4 = 0 then ((trig_rounded.f x6).bind fun bt136 => (some (bt136.1, bt136.2, 0))) else (if x4 = 1 then ((trig_rounded.f x7).bind fun bt138 => (some (bt138.1, bt138.2, 0))) else (if x4 = 2 then ((trig_rounded.f x6).bind fun bt140 => ((trig_minus.f bt140.1 bt140.2).bind fun bt142 => (some (bt142.1, bt142.2, 0)))) else ((trig_rounded.f x7).bind fun bt144 => ((trig_minus.f bt144.1 bt144.2).bind fun bt146 => (some (bt146.1, bt146.2, 0))))))
def trig_Sin.f (k : Nat) (a0 : Int) : Option (Int × Int × Int) := (trig_out.f a0).bind fun t130 => (if t130 = true then (some (0, 0, 3)) else ((trig_Reduced.f a0).bind fun t131 => (if (Int.tmod t131 250000000) ≤ 125000000 then ((trig_octant.f k (Int.tmod t131 250000000)).bind fun bt132 => (trig_Sin.j0 k (wrap64 (Int.tdiv t131 250000000)) bt132.1 bt132.2)) else ((trig_octant.f k (wrap64 (250000000 - (Int.tmod t131 250000000)))).bind fun bt134 => (trig_Sin.j0 k (wrap64 (Int.tdiv t131 250000000)) bt134.2 bt134.1)))))
theorem trig_Sin.mono_l : ∀ k, (∀ y0 y1 y2, LeO (trig_Sin.j0 k y0 y1 y2) (trig_Sin.j0 (k + 1) y0 y1 y2))
 | 0 => fun _ _ _ r h => by simp [trig_Sin.j0] at h
 | k + 1 => by
  have ih0 := trig_Sin.mono_l k
  ·
   intro y0 y1 y2
   unfold trig_Sin.j0
   repeat' first
   | (with_reducible exact ih0 _ _ _)
   | (with_reducible exact trig_octant.mono _ _)
   | (with_reducible exact LeO.refl _)
   | (with_reducible exact LeO.none _)
   | (with_reducible refine LeO.ite ?_ ?_)
   | (with_reducible refine LeO.bind ?_ (fun _ => ?_))
   | exact ih0 _ _ _
   | exact trig_octant.mono _ _
   | exact LeO.none _
   | refine LeO.ite ?_ ?_
   | refine LeO.bind ?_ (fun _ => ?_)
theorem trig_Sin.mono : ∀ a0 k, LeO (trig_Sin.f k a0) (trig_Sin.f (k + 1) a0) := by
 intro a0 k
 have ih0 := trig_Sin.mono_l k
 unfold trig_Sin.f
 repeat' first
   | (with_reducible exact ih0 _ _ _)
   | (with_reducible exact trig_octant.mono _ _)
   | (with_reducible exact LeO.refl _)
   | (with_reducible exact LeO.none _)
   | (with_reducible refine LeO.ite ?_ ?_)
   | (with_reducible refine LeO.bind ?_ (fun _ => ?_))
   | exact ih0 _ _ _
   | exact trig_octant.mono _ _
   | exact LeO.none _
   | refine LeO.ite ?_ ?_
   | refine LeO.bind ?_ (fun _ => ?_)

/-! ### the Lean function trig_passes: function 46 -/
def trig_passes.f (a0_0 : Int) (a0_1 : Int) (a1 : Int) : Option (Bool) := (interval_Floor.f (wrap64 (a0_1 - a1)) 1000000000).bind fun t149 => (some (decide ((wrap64 (t149 * 1000000000)) ≥ (wrap64 (a0_0 - a1)))))

/-! ### the Lean function trig_SinOver: function 30 -/
def trig_SinOver.f (k : Nat) (a0_0 : Int) (a0_1 : Int) : Option (Int × Int × Int) := (interval_Check.f k a0_0 a0_1).bind fun t152 => (if t152 = 0 then ((trig_Sin.f k a0_0).bind fun bt153 => ((trig_Sin.f k a0_1).bind fun bt157 => ((trig_passes.f a0_0 a0_1 250000000).bind fun t162 => (if t162 = true then ((trig_passes.f a0_0 a0_1 750000000).bind fun t163 => (if t163 = true then (some ((-1000000000), 1000000000, 0)) else (some (mn bt153.1 bt157.1, 1000000000, 0)))) else ((trig_passes.f a0_0 a0_1 750000000).bind fun t164 => (if t164 = true then (some ((-1000000000), mx bt153.2.1 bt157.2.1, 0)) else (some (mn bt153.1 bt157.1, mx bt153.2.1 bt157.2.1, 0)))))))) else (some (0, 0, t152)))
theorem trig_SinOver.mono : ∀ a0 a1 k, LeO (trig_SinOver.f k a0 a1) (trig_SinOver.f (k + 1) a0 a1) := by
 intro a0 a1 k
 unfold trig_SinOver.f
 repeat' first
   | (with_reducible exact interval_Check.mono _ _ _)
   | (with_reducible exact trig_Sin.mono _ _)
   | (with_reducible exact LeO.refl _)
   | (with_reducible exact LeO.none _)
   | (with_reducible refine LeO.ite ?_ ?_)
   | (with_reducible refine LeO.bind ?_ (fun _ => ?_))
   | exact interval_Check.mono _ _ _
   | exact trig_Sin.mono _ _
   | exact LeO.none _
   | refine LeO.ite ?_ ?_
   | refine LeO.bind ?_ (fun _ => ?_)

/-! ### the Lean function series_Turned: function 40 -/
def series_Turned.j0 : Nat → Int → Int → Int → Int → Int → Option (Int)
 | 0, _, _, _, _, _ => none
 | k + 1, x0, x5, x6, x7, x8 => if x5 < 0 then ((interval_Floor.f x0 86400000).bind fun t167 => ((interval_Floor.f (wrap64 ((wrap64 (-(wrap64 ((Int.tmod (wrap64 ((Int.tmod (wrap64 (x7 * (wrap64 (Int.tdiv x8 1000)))) 1000000000000000) * 1000)) 1000000000000000) + (Int.tmod (wrap64 (x7 * (Int.tmod x8 1000))) 1000000000000000))))) + (wrap64 ((wrap64 (t167 * x6)) + (wrap64 (Int.tdiv (wrap64 ((wrap64 (x0 - (wrap64 (t167 * 86400000)))) * x6)) 86400000)))))) 1000000000000000).bind fun t168 => (some (wrap64 ((wrap64 ((wrap64 (-(wrap64 ((Int.tmod (wrap64 ((Int.tmod (wrap64 (x7 * (wrap64 (Int.tdiv x8 1000)))) 1000000000000000) * 1000)) 1000000000000000) + (Int.tmod (wrap64 (x7 * (Int.tmod x8 1000))) 1000000000000000))))) + (wrap64 ((wrap64 (t167 * x6)) + (wrap64 (Int.tdiv (wrap64 ((wrap64 (x0 - (wrap64 (t167 * 86400000)))) * x6)) 86400000)))))) - (wrap64 (t168 * 1000000000000000))))))) else ((interval_Floor.f x0 86400000).bind fun t169 => ((interval_Floor.f (wrap64 ((wrap64 ((Int.tmod (wrap64 ((Int.tmod (wrap64 (x7 * (wrap64 (Int.tdiv x8 1000)))) 1000000000000000) * 1000)) 1000000000000000) + (Int.tmod (wrap64 (x7 * (Int.tmod x8 1000))) 1000000000000000))) + (wrap64 ((wrap64 (t169 * x6)) + (wrap64 (Int.tdiv (wrap64 ((wrap64 (x0 - (wrap64 (t169 * 86400000)))) * x6)) 86400000)))))) 1000000000000000).bind fun t170 => (some (wrap64 ((wrap64 ((wrap64 ((Int.tmod (wrap64 ((Int.tmod (wrap64 (x7 * (wrap64 (Int.tdiv x8 1000)))) 1000000000000000) * 1000)) 1000000000000000) + (Int.tmod (wrap64 (x7 * (Int.tmod x8 1000))) 1000000000000000))) + (wrap64 ((wrap64 (t169 * x6)) + (wrap64 (Int.tdiv (wrap64 ((wrap64 (x0 - (wrap64 (t169 * 86400000)))) * x6)) 86400000)))))) - (wrap64 (t170 * 1000000000000000)))))))
def series_Turned.f (k : Nat) (a0 : Int) (a1 : Int) : Option (Int) := (interval_Floor.f a1 86400000).bind fun t165 => ((interval_Floor.f a0 1000000000000000).bind fun t166 => (if t165 < 0 then (series_Turned.j0 k a0 t165 (wrap64 (a1 - (wrap64 (t165 * 86400000)))) (wrap64 (a0 - (wrap64 (t166 * 1000000000000000)))) (wrap64 (-t165))) else (series_Turned.j0 k a0 t165 (wrap64 (a1 - (wrap64 (t165 * 86400000)))) (wrap64 (a0 - (wrap64 (t166 * 1000000000000000)))) t165)))
theorem series_Turned.mono_l : ∀ k, (∀ y0 y1 y2 y3 y4, LeO (series_Turned.j0 k y0 y1 y2 y3 y4) (series_Turned.j0 (k + 1) y0 y1 y2 y3 y4))
 | 0 => fun _ _ _ _ _ r h => by simp [series_Turned.j0] at h
 | k + 1 => by
  have ih0 := series_Turned.mono_l k
  ·
   intro y0 y1 y2 y3 y4
   unfold series_Turned.j0
   repeat' first
   | (with_reducible exact ih0 _ _ _ _ _)
   | (with_reducible exact LeO.refl _)
   | (with_reducible exact LeO.none _)
   | (with_reducible refine LeO.ite ?_ ?_)
   | (with_reducible refine LeO.bind ?_ (fun _ => ?_))
   | exact ih0 _ _ _ _ _
   | exact LeO.none _
   | refine LeO.ite ?_ ?_
   | refine LeO.bind ?_ (fun _ => ?_)
theorem series_Turned.mono : ∀ a0 a1 k, LeO (series_Turned.f k a0 a1) (series_Turned.f (k + 1) a0 a1) := by
 intro a0 a1 k
 have ih0 := series_Turned.mono_l k
 unfold series_Turned.f
 repeat' first
   | (with_reducible exact ih0 _ _ _ _ _)
   | (with_reducible exact LeO.refl _)
   | (with_reducible exact LeO.none _)
   | (with_reducible refine LeO.ite ?_ ?_)
   | (with_reducible refine LeO.bind ?_ (fun _ => ?_))
   | exact ih0 _ _ _ _ _
   | exact LeO.none _
   | refine LeO.ite ?_ ?_
   | refine LeO.bind ?_ (fun _ => ?_)

/-! ### the Lean function series_sum: function 39 -/
def series_sum.l0 : Nat → Int → List (S85) → Int → Int → Int → Int → Option (Int × Int)
 | 0, _, _, _, _, _, _ => none
 | k + 1, x1, x25, x26, x27, x174000, x174001 => if x27 < x26 then (if 0 ≤ x27 then (if x27 < (x25.length : Int) then ((series_Turned.f k ((rd_T85 x25 x27).f2) x1).bind fun t176 => ((trig_SinOver.f k (wrap64 ((wrap64 (Int.tdiv t176 1000000)) + ((rd_T85 x25 x27).f1))) (wrap64 ((wrap64 ((wrap64 (Int.tdiv t176 1000000)) + ((rd_T85 x25 x27).f1))) + 1))).bind fun bt177 => ((interval_Scale.f bt177.1 bt177.2.1 ((rd_T85 x25 x27).f0) 1000000000).bind fun bt181 => (series_sum.l0 k x1 x25 x26 (wrap64 (x27 + 1)) (wrap64 (x174000 + bt181.1)) (wrap64 (x174001 + bt181.2.1)))))) else (none)) else (none)) else (some (x174000, x174001))
def series_sum.f (k : Nat) (a0_0 : Int) (a0_1 : Int) (l0_2 : List (S85)) (a0_3 : Int) (a1 : Int) : Option (Int × Int) := series_sum.l0 k a1 l0_2 (l0_2.length : Int) 0 (wrap64 (a0_0 - a0_3)) (wrap64 (a0_0 + a0_3))
theorem series_sum.mono_l : ∀ k, (∀ y0 y1 y2 y3 y4 y5, LeO (series_sum.l0 k y0 y1 y2 y3 y4 y5) (series_sum.l0 (k + 1) y0 y1 y2 y3 y4 y5))
 | 0 => fun _ _ _ _ _ _ r h => by simp [series_sum.l0] at h
 | k + 1 => by
  have ih0 := series_sum.mono_l k
  ·
   intro y0 y1 y2 y3 y4 y5
   unfold series_sum.l0
   repeat' first
   | (with_reducible exact ih0 _ _ _ _ _ _)
   | (with_reducible exact series_Turned.mono _ _ _)
   | (with_reducible exact trig_SinOver.mono _ _ _)
   | (with_reducible exact LeO.refl _)
   | (with_reducible exact LeO.none _)
   | (with_reducible refine LeO.ite ?_ ?_)
   | (with_reducible refine LeO.bind ?_ (fun _ => ?_))
   | exact ih0 _ _ _ _ _ _
   | exact series_Turned.mono _ _ _
   | exact trig_SinOver.mono _ _ _
   | exact LeO.none _
   | refine LeO.ite ?_ ?_
   | refine LeO.bind ?_ (fun _ => ?_)
theorem series_sum.mono : ∀ a0 a1 a2 a3 a4 k, LeO (series_sum.f k a0 a1 a2 a3 a4) (series_sum.f (k + 1) a0 a1 a2 a3 a4) := by
 intro a0 a1 a2 a3 a4 k
 have ih0 := series_sum.mono_l k
 unfold series_sum.f
 repeat' first
   | (with_reducible exact ih0 _ _ _ _ _ _)
   | (with_reducible exact series_Turned.mono _ _ _)
   | (with_reducible exact trig_SinOver.mono _ _ _)
   | (with_reducible exact LeO.refl _)
   | (with_reducible exact LeO.none _)
   | (with_reducible refine LeO.ite ?_ ?_)
   | (with_reducible refine LeO.bind ?_ (fun _ => ?_))
   | exact ih0 _ _ _ _ _ _
   | exact series_Turned.mono _ _ _
   | exact trig_SinOver.mono _ _ _
   | exact LeO.none _
   | refine LeO.ite ?_ ?_
   | refine LeO.bind ?_ (fun _ => ?_)

/-! ### the Lean function series_Angle: function 24 -/
def series_Angle.f (k : Nat) (a0_0 : Int) (a0_1 : Int) (l0_2 : List (S85)) (a0_3 : Int) (a1 : Int) : Option (Int × Int × Int) := (series_check.f k a0_0 a0_1 l0_2 a0_3 a1).bind fun t187 => (if t187 = 0 then ((series_sum.f k a0_0 a0_1 l0_2 a0_3 a1).bind fun bt188 => ((series_Turned.f k a0_1 a1).bind fun t190 => ((series_Reduced.f (wrap64 (bt188.1 + (wrap64 (Int.tdiv t190 1000000)))) (wrap64 ((wrap64 (bt188.2 + (wrap64 (Int.tdiv t190 1000000)))) + 1))).bind fun bt192 => (some (bt192.1, bt192.2, 0))))) else (some (0, 0, t187)))
theorem series_Angle.mono : ∀ a0 a1 a2 a3 a4 k, LeO (series_Angle.f k a0 a1 a2 a3 a4) (series_Angle.f (k + 1) a0 a1 a2 a3 a4) := by
 intro a0 a1 a2 a3 a4 k
 unfold series_Angle.f
 repeat' first
   | (with_reducible exact series_Turned.mono _ _ _)
   | (with_reducible exact series_check.mono _ _ _ _ _ _)
   | (with_reducible exact series_sum.mono _ _ _ _ _ _)
   | (with_reducible exact LeO.refl _)
   | (with_reducible exact LeO.none _)
   | (with_reducible refine LeO.ite ?_ ?_)
   | (with_reducible refine LeO.bind ?_ (fun _ => ?_))
   | exact series_Turned.mono _ _ _
   | exact series_check.mono _ _ _ _ _ _
   | exact series_sum.mono _ _ _ _ _ _
   | exact LeO.none _
   | refine LeO.ite ?_ ?_
   | refine LeO.bind ?_ (fun _ => ?_)

/-! ### the Lean function star_At: function 12 -/
-- IMPORT Derived.Test.YtgmjgnojjbajdaaDoorStar
def star_At.g (k : Nat) (rs_ ds_ a1 : Int) : Option (Int × Int × Int × Int × Int) := (series_Angle.f k rs_ 97300000 ([] : List (S85)) 100 a1).bind fun bt197 => (if bt197.2.2 = 0 then (some (bt197.1, bt197.2.1, (wrap64 (ds_ - 100)), (wrap64 (ds_ + 100)), 0)) else (none))
theorem star_At.gmono : ∀ rs_ ds_ a1 k, LeO (star_At.g k rs_ ds_ a1) (star_At.g (k + 1) rs_ ds_ a1) := by
  intro rs_ ds_ a1 k
  unfold star_At.g
  repeat' first
      | (with_reducible exact series_Angle.mono _ _ _ _ _ _)
      | (with_reducible exact LeO.refl _)
      | (with_reducible exact LeO.none _)
      | (with_reducible refine LeO.ite ?_ ?_)
      | (with_reducible refine LeO.bind ?_ (fun _ => ?_))
      | exact series_Angle.mono _ _ _ _ _ _
      | exact LeO.none _
      | refine LeO.ite ?_ ?_
      | refine LeO.bind ?_ (fun _ => ?_)
def star_At.f (k : Nat) (a0 : ByteArray) (a1 : Int) : Option (Int × Int × Int × Int × Int) := (lk_ a0 lt_).bind fun i => star_At.g k (lx_ i).2.1 (lx_ i).2.2 a1
theorem star_At.mono : ∀ a0 a1 k, LeO (star_At.f k a0 a1) (star_At.f (k + 1) a0 a1) := by
  intro a0 a1 k
  unfold star_At.f
  exact LeO.bind (LeO.refl _) (fun _ => star_At.gmono _ _ _ _)

/-! ### the Lean function place_Check: function 34 -/
def place_Check.f (a0_0 : Int) (a0_1 : Int) : Option (Int) := if a0_0 < (-500000000) then (some 3) else (if a0_0 > 500000000 then (some 3) else (if a0_1 < (-220000000) then (some 3) else (if a0_1 > 220000000 then (some 3) else (some 0))))

/-! ### the Lean function trig_CosOver: function 31 -/
def trig_CosOver.f (k : Nat) (a0_0 : Int) (a0_1 : Int) : Option (Int × Int × Int) := (interval_Check.f k a0_0 a0_1).bind fun t204 => (if t204 = 0 then ((trig_Reduced.f a0_0).bind fun t205 => ((trig_SinOver.f k (wrap64 (a0_0 + (wrap64 ((wrap64 (t205 + 250000000)) - a0_0)))) (mn (wrap64 (a0_1 + (wrap64 ((wrap64 (t205 + 250000000)) - a0_0)))) (wrap64 ((wrap64 (a0_0 + (wrap64 ((wrap64 (t205 + 250000000)) - a0_0)))) + 1000000000)))).bind fun bt206 => (some (bt206.1, bt206.2.1, bt206.2.2)))) else (some (0, 0, t204)))
theorem trig_CosOver.mono : ∀ a0 a1 k, LeO (trig_CosOver.f k a0 a1) (trig_CosOver.f (k + 1) a0 a1) := by
 intro a0 a1 k
 unfold trig_CosOver.f
 repeat' first
   | (with_reducible exact interval_Check.mono _ _ _)
   | (with_reducible exact trig_SinOver.mono _ _ _)
   | (with_reducible exact LeO.refl _)
   | (with_reducible exact LeO.none _)
   | (with_reducible refine LeO.ite ?_ ?_)
   | (with_reducible refine LeO.bind ?_ (fun _ => ?_))
   | exact interval_Check.mono _ _ _
   | exact trig_SinOver.mono _ _ _
   | exact LeO.none _
   | refine LeO.ite ?_ ?_
   | refine LeO.bind ?_ (fun _ => ?_)

/-! ### the Lean function place_Sidereal: function 62 -/
def place_Sidereal.f (k : Nat) (a0_0 : Int) (a0_1 : Int) (a1 : Int) : Option (Int × Int × Int) := (place_Check.f a0_0 a0_1).bind fun t211 => (if t211 = 0 then ((series_Angle.f k 275313108 1002737909350806 ([] : List (S85)) 0 a1).bind fun bt212 => (if bt212.2.2 = 0 then ((series_Reduced.f (wrap64 (bt212.1 + a0_0)) (wrap64 (bt212.2.1 + a0_0))).bind fun bt216 => (some (bt216.1, bt216.2, 0))) else (some (0, 0, bt212.2.2)))) else (some (0, 0, t211)))
theorem place_Sidereal.mono : ∀ a0 a1 a2 k, LeO (place_Sidereal.f k a0 a1 a2) (place_Sidereal.f (k + 1) a0 a1 a2) := by
 intro a0 a1 a2 k
 unfold place_Sidereal.f
 repeat' first
   | (with_reducible exact series_Angle.mono _ _ _ _ _ _)
   | (with_reducible exact LeO.refl _)
   | (with_reducible exact LeO.none _)
   | (with_reducible refine LeO.ite ?_ ?_)
   | (with_reducible refine LeO.bind ?_ (fun _ => ?_))
   | exact series_Angle.mono _ _ _ _ _ _
   | exact LeO.none _
   | refine LeO.ite ?_ ?_
   | refine LeO.bind ?_ (fun _ => ?_)

/-! ### the Lean function place_hour: function 50 -/
def place_hour.f (k : Nat) (p0 p1 r0 r1 d0 d1 t : Int) : Option (Int × Int × Int) :=
  (place_Sidereal.f k p0 p1 t).bind fun s => (interval_Check.f k r0 r1).bind fun e => (interval_Check.f k d0 d1).bind fun g =>
    if s.2.2 = 0 ∧ e = 0 ∧ g = 0 ∧ -250000000 ≤ d0 ∧ d1 ≤ 250000000 ∧ -1000000000 ≤ r0 ∧ r1 ≤ 3000000000 then some (wrap64 (s.1 - r1), wrap64 (s.2.1 - r0), 0) else none
theorem place_hour.mono : ∀ p0 p1 r0 r1 d0 d1 t k, LeO (place_hour.f k p0 p1 r0 r1 d0 d1 t) (place_hour.f (k + 1) p0 p1 r0 r1 d0 d1 t) := by
  intro p0 p1 r0 r1 d0 d1 t k
  unfold place_hour.f
  exact LeO.bind (place_Sidereal.mono _ _ _ _) (fun _ => LeO.bind (interval_Check.mono _ _ _) (fun _ => LeO.bind (interval_Check.mono _ _ _) (fun _ => LeO.refl _)))
-- IMPORT Derived.LoopN

/-! ### the Lean function trig_Cos: function 51 -/
def trig_Cos.f (k : Nat) (a0 : Int) : Option (Int × Int × Int) := (trig_out.f a0).bind fun t219 => (if t219 = true then (some (0, 0, 3)) else ((trig_Reduced.f a0).bind fun t220 => ((trig_Sin.f k (wrap64 (t220 + 250000000))).bind fun bt221 => (some (bt221.1, bt221.2.1, bt221.2.2)))))
theorem trig_Cos.mono : ∀ a0 k, LeO (trig_Cos.f k a0) (trig_Cos.f (k + 1) a0) := by
 intro a0 k
 unfold trig_Cos.f
 repeat' first
   | (with_reducible exact trig_Sin.mono _ _)
   | (with_reducible exact LeO.refl _)
   | (with_reducible exact LeO.none _)
   | (with_reducible refine LeO.ite ?_ ?_)
   | (with_reducible refine LeO.bind ?_ (fun _ => ?_))
   | exact trig_Sin.mono _ _
   | exact LeO.none _
   | refine LeO.ite ?_ ?_
   | refine LeO.bind ?_ (fun _ => ?_)

/-! ### the Lean function sun_Clamp: function 53 -/
def sun_Clamp.f (a0_0 : Int) (a0_1 : Int) : Option (Int × Int) := some (mx (-1000000000) (mn 1000000000 a0_0), mx (-1000000000) (mn 1000000000 a0_1))

/-! ### the Lean function interval_both: function 67 -/
def interval_both.f (k : Nat) (a0_0 : Int) (a0_1 : Int) (a1_0 : Int) (a1_1 : Int) : Option (Int) := (interval_Check.f k a0_0 a0_1).bind fun t228 => (if t228 = 0 then ((interval_Check.f k a1_0 a1_1).bind fun t229 => (some t229)) else (some t228))
theorem interval_both.mono : ∀ a0 a1 a2 a3 k, LeO (interval_both.f k a0 a1 a2 a3) (interval_both.f (k + 1) a0 a1 a2 a3) := by
 intro a0 a1 a2 a3 k
 unfold interval_both.f
 repeat' first
   | (with_reducible exact interval_Check.mono _ _ _)
   | (with_reducible exact LeO.refl _)
   | (with_reducible exact LeO.none _)
   | (with_reducible refine LeO.ite ?_ ?_)
   | (with_reducible refine LeO.bind ?_ (fun _ => ?_))
   | exact interval_Check.mono _ _ _
   | exact LeO.none _
   | refine LeO.ite ?_ ?_
   | refine LeO.bind ?_ (fun _ => ?_)

/-! ### the Lean function interval_times: function 68 -/
def interval_times.f (a0 : Int) (a1 : Int) : Option (Int × Bool) := if InR a0 ∧ InR a1 ∧ InR (a0 * a1) then some (a0 * a1, true) else none
theorem abs_f_ {x : Int} (h : InR x) : interval_abs.f x = some (if x < 0 then -x else x) := by
  obtain ⟨h1, h2⟩ := h
  unfold interval_abs.f
  split
  · rw [wrap_in_ (by omega) (by omega)]
  · rfl
theorem quo_ge_ {x y : Int} (y0 : y ≠ 0) (h : InR (x * y)) : (if x < 0 then -x else x) ≤ Int.tdiv 1000000000000000000 (if y < 0 then -y else y) ∧ Int.tdiv 1000000000000000000 (if y < 0 then -y else y) ≤ 1000000000000000000 := by
  obtain ⟨h1, h2⟩ := h
  rw [Int.tdiv_eq_ediv_of_nonneg (by omega)]
  constructor
  · refine Int.le_ediv_of_mul_le (by split <;> omega) ?_
    split <;> split
    · rw [Int.neg_mul_neg]; exact h2
    · rw [Int.neg_mul]; omega
    · rw [Int.mul_neg]; omega
    · exact h2
  · exact Int.ediv_le_self _ (by omega)

/-! ### the Lean function interval_Mul: function 63 -/
def interval_Mul.P (a b c d : Int) : Nat → Int
  | 0 => a * c
  | 1 => a * d
  | 2 => b * c
  | _ => b * d
def interval_Mul.L (a b c d : Int) : Nat → Int
  | 0 => 0
  | 1 => a * c
  | k + 2 => if interval_Mul.P a b c d (k + 1) < interval_Mul.L a b c d (k + 1) then interval_Mul.P a b c d (k + 1) else interval_Mul.L a b c d (k + 1)
def interval_Mul.H (a b c d : Int) : Nat → Int
  | 0 => 0
  | 1 => a * c
  | k + 2 => if interval_Mul.H a b c d (k + 1) < interval_Mul.P a b c d (k + 1) then interval_Mul.P a b c d (k + 1) else interval_Mul.H a b c d (k + 1)
def MulOk (a0_0 a0_1 a1_0 a1_1 : Int) : Prop := InR a0_0 ∧ a0_0 ≤ a0_1 ∧ InR a0_1 ∧ InR a1_0 ∧ a1_0 ≤ a1_1 ∧ InR a1_1 ∧ InR (a0_0 * a1_0) ∧ InR (a0_0 * a1_1) ∧ InR (a0_1 * a1_0) ∧ InR (a0_1 * a1_1)
instance (a b c d : Int) : Decidable (MulOk a b c d) := inferInstanceAs (Decidable (_ ∧ _ ∧ _ ∧ _ ∧ _ ∧ _ ∧ _ ∧ _ ∧ _ ∧ _))
def interval_Mul.f (a0_0 : Int) (a0_1 : Int) (a1_0 : Int) (a1_1 : Int) : Option (Int × Int × Int) :=
  if MulOk a0_0 a0_1 a1_0 a1_1 then some (interval_Mul.L a0_0 a0_1 a1_0 a1_1 4, interval_Mul.H a0_0 a0_1 a1_0 a1_1 4, 0) else none
theorem icheck_f_ {x y : Int} (g1 : InR x) (g2 : x ≤ y) (g3 : InR y) : interval_Check.f 1 x y = some 0 := by
  obtain ⟨a1, a2⟩ := g1
  obtain ⟨b1, b2⟩ := g3
  unfold interval_Check.f interval_out.f
  rw [if_neg (by omega), if_neg (by omega)]
  simp only [Option.bind_some, interval_Check.j0]
  rw [decide_eq_false (by omega), decide_eq_false (by omega)]
  simp only [Bool.false_eq_true, if_false]
  rw [if_neg (by omega)]
theorem both_f_ {a b c d : Int} (h1 : InR a) (h2 : a ≤ b) (h3 : InR b) (h4 : InR c) (h5 : c ≤ d) (h6 : InR d) : interval_both.f 1 a b c d = some 0 := by
  unfold interval_both.f
  rw [icheck_f_ h1 h2 h3, icheck_f_ h4 h5 h6]
  rfl
theorem times_f_ {x y : Int} (hx : InR x) (hy : InR y) (h : InR (x * y)) : interval_times.f x y = some (x * y, true) := by
  unfold interval_times.f
  rw [if_pos ⟨hx, hy, h⟩]
theorem MulOk.times_ {a b c d : Int} (h : MulOk a b c d) : interval_times.f a c = some (interval_Mul.P a b c d 0, true) ∧ interval_times.f a d = some (interval_Mul.P a b c d 1, true) ∧ interval_times.f b c = some (interval_Mul.P a b c d 2, true) ∧ interval_times.f b d = some (interval_Mul.P a b c d 3, true) := by
  obtain ⟨h1, h2, h3, h4, h5, h6, h7, h8, h9, h10⟩ := h
  exact ⟨times_f_ h1 h4 h7, times_f_ h1 h6 h8, times_f_ h3 h4 h9, times_f_ h3 h6 h10⟩

/-! ### the Lean function sun_Unit: function 52 -/
def sun_Unit.f (a0_0 : Int) (a0_1 : Int) (a1_0 : Int) (a1_1 : Int) : Option (Int × Int) := (sun_Clamp.f a0_0 a0_1).bind fun bt233 => ((sun_Clamp.f a1_0 a1_1).bind fun bt235 => ((interval_Mul.f bt233.1 bt233.2 bt235.1 bt235.2).bind fun bt237 => ((interval_Scale.f bt237.1 bt237.2.1 1 1000000000).bind fun bt241 => (some (bt241.1, bt241.2.1)))))

/-! ### the Lean function place_Height: function 36 -/
def place_Height.f (k : Nat) (a0_0 : Int) (a0_1 : Int) (a1_0 : Int) (a1_1 : Int) (a2_0 : Int) (a2_1 : Int) (a3 : Int) : Option (Int × Int × Int) := (place_hour.f k a0_0 a0_1 a1_0 a1_1 a2_0 a2_1 a3).bind fun bt249 => (if bt249.2.2 = 0 then ((trig_Sin.f k a0_1).bind fun bt253 => ((trig_Cos.f k a0_1).bind fun bt257 => ((trig_SinOver.f k a2_0 a2_1).bind fun bt261 => ((trig_CosOver.f k a2_0 a2_1).bind fun bt265 => ((trig_CosOver.f k bt249.1 bt249.2.1).bind fun bt269 => ((sun_Unit.f bt253.1 bt253.2.1 bt261.1 bt261.2.1).bind fun bt273 => ((sun_Unit.f bt257.1 bt257.2.1 bt265.1 bt265.2.1).bind fun bt275 => ((sun_Unit.f bt275.1 bt275.2 bt269.1 bt269.2.1).bind fun bt277 => ((sun_Clamp.f (wrap64 (bt273.1 + bt277.1)) (wrap64 (bt273.2 + bt277.2))).bind fun bt281 => (some (bt281.1, bt281.2, 0))))))))))) else (some (0, 0, bt249.2.2)))
theorem place_Height.mono : ∀ a0 a1 a2 a3 a4 a5 a6 k, LeO (place_Height.f k a0 a1 a2 a3 a4 a5 a6) (place_Height.f (k + 1) a0 a1 a2 a3 a4 a5 a6) := by
 intro a0 a1 a2 a3 a4 a5 a6 k
 unfold place_Height.f
 repeat' first
   | (with_reducible exact place_hour.mono _ _ _ _ _ _ _ _)
   | (with_reducible exact trig_Cos.mono _ _)
   | (with_reducible exact trig_CosOver.mono _ _ _)
   | (with_reducible exact trig_Sin.mono _ _)
   | (with_reducible exact trig_SinOver.mono _ _ _)
   | (with_reducible exact LeO.refl _)
   | (with_reducible exact LeO.none _)
   | (with_reducible refine LeO.ite ?_ ?_)
   | (with_reducible refine LeO.bind ?_ (fun _ => ?_))
   | exact place_hour.mono _ _ _ _ _ _ _ _
   | exact trig_Cos.mono _ _
   | exact trig_CosOver.mono _ _ _
   | exact trig_Sin.mono _ _
   | exact trig_SinOver.mono _ _ _
   | exact LeO.none _
   | refine LeO.ite ?_ ?_
   | refine LeO.bind ?_ (fun _ => ?_)

/-! ### the Lean function place_Ground: function 37 -/
def place_Ground.f (k : Nat) (a0_0 : Int) (a0_1 : Int) (a1_0 : Int) (a1_1 : Int) (a2_0 : Int) (a2_1 : Int) (a3 : Int) : Option (Int × Int × Int × Int × Int) := (place_hour.f k a0_0 a0_1 a1_0 a1_1 a2_0 a2_1 a3).bind fun bt288 => (if bt288.2.2 = 0 then ((trig_Sin.f k a0_1).bind fun bt292 => ((trig_Cos.f k a0_1).bind fun bt296 => ((trig_SinOver.f k a2_0 a2_1).bind fun bt300 => ((trig_CosOver.f k a2_0 a2_1).bind fun bt304 => ((trig_SinOver.f k bt288.1 bt288.2.1).bind fun bt308 => ((trig_CosOver.f k bt288.1 bt288.2.1).bind fun bt312 => ((sun_Unit.f bt304.1 bt304.2.1 bt308.1 bt308.2.1).bind fun bt316 => ((sun_Unit.f bt296.1 bt296.2.1 bt300.1 bt300.2.1).bind fun bt319 => ((sun_Unit.f bt292.1 bt292.2.1 bt304.1 bt304.2.1).bind fun bt321 => ((sun_Unit.f bt321.1 bt321.2 bt312.1 bt312.2.1).bind fun bt323 => ((sun_Clamp.f (wrap64 (bt319.1 - bt323.2)) (wrap64 (bt319.2 - bt323.1))).bind fun bt327 => (some (wrap64 (-bt316.2), wrap64 (-bt316.1), bt327.1, bt327.2, 0))))))))))))) else (some (0, 0, 0, 0, bt288.2.2)))
theorem place_Ground.mono : ∀ a0 a1 a2 a3 a4 a5 a6 k, LeO (place_Ground.f k a0 a1 a2 a3 a4 a5 a6) (place_Ground.f (k + 1) a0 a1 a2 a3 a4 a5 a6) := by
 intro a0 a1 a2 a3 a4 a5 a6 k
 unfold place_Ground.f
 repeat' first
   | (with_reducible exact place_hour.mono _ _ _ _ _ _ _ _)
   | (with_reducible exact trig_Cos.mono _ _)
   | (with_reducible exact trig_CosOver.mono _ _ _)
   | (with_reducible exact trig_Sin.mono _ _)
   | (with_reducible exact trig_SinOver.mono _ _ _)
   | (with_reducible exact LeO.refl _)
   | (with_reducible exact LeO.none _)
   | (with_reducible refine LeO.ite ?_ ?_)
   | (with_reducible refine LeO.bind ?_ (fun _ => ?_))
   | exact place_hour.mono _ _ _ _ _ _ _ _
   | exact trig_Cos.mono _ _
   | exact trig_CosOver.mono _ _ _
   | exact trig_Sin.mono _ _
   | exact trig_SinOver.mono _ _ _
   | exact LeO.none _
   | refine LeO.ite ?_ ?_
   | refine LeO.bind ?_ (fun _ => ?_)

/-! ### the Lean function starmap_Map: function 20 -/
def starmap_Map.l0 : Nat → Int → List (S47) → List ByteArray → Int → Int → Int → Int → Option ((List (S47)) × Int)
 | 0, _, _, _, _, _, _, _ => none
 | k + 1, x1, x7, x26, x27, x28, x330000, x330001 => if x28 < x27 then (if 0 ≤ x28 then (if x28 < (x26.length : Int) then ((star_At.f k (rdOf ByteArray.empty x26 x28) x1).bind fun bt336 => ((place_Height.f k x330000 x330001 bt336.1 bt336.2.1 bt336.2.2.1 bt336.2.2.2.1 x1).bind fun bt343 => (if bt343.2.1 < 0 then (starmap_Map.l0 k x1 x7 x26 x27 (wrap64 (x28 + 1)) x330000 x330001) else ((place_Ground.f k x330000 x330001 bt336.1 bt336.2.1 bt336.2.2.1 bt336.2.2.2.1 x1).bind fun bt347 => (if x7.length < 2513169434916 then (starmap_Map.l0 k x1 (x7 ++ [(⟨rdOf ByteArray.empty x26 x28, (⟨bt347.1, bt347.2.1⟩ : S28), (⟨bt347.2.2.1, bt347.2.2.2.1⟩ : S28), decide (bt343.1 > 0)⟩ : S47)]) x26 x27 (wrap64 (x28 + 1)) x330000 x330001) else (none)))))) else (none)) else (none)) else (some (x7, 0))
def starmap_Map.f (k : Nat) (a0_0 : Int) (a0_1 : Int) (a1 : Int) : Option ((List (S47)) × Int) := (place_Check.f a0_0 a0_1).bind fun t330 => (if t330 = 0 then ((series_Valid.f a1).bind fun t331 => (if t331 = true then ((star_Names.f).bind fun t332 => (starmap_Map.l0 k a1 ([] : List (S47)) t332 (t332.length : Int) 0 a0_0 a0_1)) else (some (([] : List (S47)), 3)))) else (some (([] : List (S47)), t330)))
theorem starmap_Map.mono_l : ∀ k, (∀ y0 y1 y2 y3 y4 y5 y6, LeO (starmap_Map.l0 k y0 y1 y2 y3 y4 y5 y6) (starmap_Map.l0 (k + 1) y0 y1 y2 y3 y4 y5 y6))
 | 0 => fun _ _ _ _ _ _ _ r h => by simp [starmap_Map.l0] at h
 | k + 1 => by
  have ih0 := starmap_Map.mono_l k
  ·
   intro y0 y1 y2 y3 y4 y5 y6
   unfold starmap_Map.l0
   repeat' first
   | (with_reducible exact ih0 _ _ _ _ _ _ _)
   | (with_reducible exact place_Ground.mono _ _ _ _ _ _ _ _)
   | (with_reducible exact place_Height.mono _ _ _ _ _ _ _ _)
   | (with_reducible exact star_At.mono _ _ _)
   | (with_reducible exact LeO.refl _)
   | (with_reducible exact LeO.none _)
   | (with_reducible refine LeO.ite ?_ ?_)
   | (with_reducible refine LeO.bind ?_ (fun _ => ?_))
   | exact ih0 _ _ _ _ _ _ _
   | exact place_Ground.mono _ _ _ _ _ _ _ _
   | exact place_Height.mono _ _ _ _ _ _ _ _
   | exact star_At.mono _ _ _
   | exact LeO.none _
   | refine LeO.ite ?_ ?_
   | refine LeO.bind ?_ (fun _ => ?_)
theorem starmap_Map.mono : ∀ a0 a1 a2 k, LeO (starmap_Map.f k a0 a1 a2) (starmap_Map.f (k + 1) a0 a1 a2) := by
 intro a0 a1 a2 k
 have ih0 := starmap_Map.mono_l k
 unfold starmap_Map.f
 repeat' first
   | (with_reducible exact ih0 _ _ _ _ _ _ _)
   | (with_reducible exact place_Ground.mono _ _ _ _ _ _ _ _)
   | (with_reducible exact place_Height.mono _ _ _ _ _ _ _ _)
   | (with_reducible exact star_At.mono _ _ _)
   | (with_reducible exact LeO.refl _)
   | (with_reducible exact LeO.none _)
   | (with_reducible refine LeO.ite ?_ ?_)
   | (with_reducible refine LeO.bind ?_ (fun _ => ?_))
   | exact ih0 _ _ _ _ _ _ _
   | exact place_Ground.mono _ _ _ _ _ _ _ _
   | exact place_Height.mono _ _ _ _ _ _ _ _
   | exact star_At.mono _ _ _
   | exact LeO.none _
   | refine LeO.ite ?_ ?_
   | refine LeO.bind ?_ (fun _ => ?_)

/-! ### the Lean function starmap_Up: function 22 -/
def starmap_Up.f (k : Nat) (a0_0 : Int) (a0_1 : Int) (a1 : ByteArray) (a2 : Int) : Option (Int × Int) := (place_Check.f a0_0 a0_1).bind fun t358 => (if t358 = 0 then ((star_At.f k a1 a2).bind fun bt359 => (if bt359.2.2.2.2 = 0 then ((place_Height.f k a0_0 a0_1 bt359.1 bt359.2.1 bt359.2.2.1 bt359.2.2.2.1 a2).bind fun bt366 => (if bt366.1 > 0 then (some (1, 0)) else (if bt366.2.1 < 0 then (some ((-1), 0)) else (some (0, 11))))) else (some (0, bt359.2.2.2.2)))) else (some (0, t358)))
theorem starmap_Up.mono : ∀ a0 a1 a2 a3 k, LeO (starmap_Up.f k a0 a1 a2 a3) (starmap_Up.f (k + 1) a0 a1 a2 a3) := by
 intro a0 a1 a2 a3 k
 unfold starmap_Up.f
 repeat' first
   | (with_reducible exact place_Height.mono _ _ _ _ _ _ _ _)
   | (with_reducible exact star_At.mono _ _ _)
   | (with_reducible exact LeO.refl _)
   | (with_reducible exact LeO.none _)
   | (with_reducible refine LeO.ite ?_ ?_)
   | (with_reducible refine LeO.bind ?_ (fun _ => ?_))
   | exact place_Height.mono _ _ _ _ _ _ _ _
   | exact star_At.mono _ _ _
   | exact LeO.none _
   | refine LeO.ite ?_ ?_
   | refine LeO.bind ?_ (fun _ => ?_)

/-! ### the Lean function ephemeriskeep2_starmapWorks: function 19 -/
def ephemeriskeep2_starmapWorks.f (k : Nat)  : Option (Bool) := (starmap_Up.f k 0 150000000 (⟨#[112, 111, 108, 97, 114, 105, 115]⟩ : ByteArray) 0).bind fun bt370 => ((starmap_Map.f k 0 150000000 0).bind fun bt372 => (if bt370.2 = 0 then (if bt370.1 = 1 then (if bt372.2 = 0 then (if (bt372.1.length : Int) > 0 then (if 0 < (bt372.1.length : Int) then (if ((rd_T47 bt372.1 0).f0).toList = ([112, 111, 108, 97, 114, 105, 115] : List UInt8) then (some ((rd_T47 bt372.1 0).f3)) else (none)) else (none)) else (none)) else (none)) else (none)) else (none)))
theorem ephemeriskeep2_starmapWorks.mono : ∀ k, LeO (ephemeriskeep2_starmapWorks.f k ) (ephemeriskeep2_starmapWorks.f (k + 1) ) := by
 intro  k
 unfold ephemeriskeep2_starmapWorks.f
 repeat' first
   | (with_reducible exact starmap_Map.mono _ _ _ _)
   | (with_reducible exact starmap_Up.mono _ _ _ _ _)
   | (with_reducible exact LeO.refl _)
   | (with_reducible exact LeO.none _)
   | (with_reducible refine LeO.ite ?_ ?_)
   | (with_reducible refine LeO.bind ?_ (fun _ => ?_))
   | exact starmap_Map.mono _ _ _ _
   | exact starmap_Up.mono _ _ _ _ _
   | exact LeO.none _
   | refine LeO.ite ?_ ?_
   | refine LeO.bind ?_ (fun _ => ?_)

/-! ### the Lean function ephemeriskeep2_site: function 21 -/
def ephemeriskeep2_site.f (a0_0 : Int) (a0_1 : Int) : Option (Int × Int) := some (Int.tmod a0_0 500000001, Int.tmod a0_1 220000001)

/-! ### the Lean function ephemeriskeep2_StarmapRound: function 6 -/
def ephemeriskeep2_StarmapRound.l0 : Nat → List (S47) → Int → List (S47) → Int → Int → Option (Bool)
 | 0, _, _, _, _, _ => none
 | k + 1, x5, x6, x21, x22, x23 => if x23 < x22 then (if 0 ≤ x23 then (if x23 < (x21.length : Int) then (if (wrap64 ((wrap64 ((mx (mx 0 ((rd_T47 x21 x23).f1.f0)) (wrap64 (-((rd_T47 x21 x23).f1.f1)))) * (mx (mx 0 ((rd_T47 x21 x23).f1.f0)) (wrap64 (-((rd_T47 x21 x23).f1.f1)))))) + (wrap64 ((mx (mx 0 ((rd_T47 x21 x23).f2.f0)) (wrap64 (-((rd_T47 x21 x23).f2.f1)))) * (mx (mx 0 ((rd_T47 x21 x23).f2.f0)) (wrap64 (-((rd_T47 x21 x23).f2.f1)))))))) > 1000000000000000000 then (none) else (ephemeriskeep2_StarmapRound.l0 k x5 x6 x21 x22 (wrap64 (x23 + 1)))) else (none)) else (none)) else (if x6 = 0 then (some (decide ((x5.length : Int) ≤ 8))) else (none))
def ephemeriskeep2_StarmapRound.f (k : Nat) (a0_0 : Int) (a0_1 : Int) (a1 : Int) : Option (Bool) := (ephemeriskeep2_starmapWorks.f k).bind fun t381 => (if t381 = true then ((ephemeriskeep2_site.f a0_0 a0_1).bind fun bt382 => ((ephemeriskeep2_instant.f a1).bind fun t384 => ((starmap_Map.f k bt382.1 bt382.2 t384).bind fun bt385 => (ephemeriskeep2_StarmapRound.l0 k bt385.1 bt385.2 bt385.1 (bt385.1.length : Int) 0)))) else (none))
theorem ephemeriskeep2_StarmapRound.mono_l : ∀ k, (∀ y0 y1 y2 y3 y4, LeO (ephemeriskeep2_StarmapRound.l0 k y0 y1 y2 y3 y4) (ephemeriskeep2_StarmapRound.l0 (k + 1) y0 y1 y2 y3 y4))
 | 0 => fun _ _ _ _ _ r h => by simp [ephemeriskeep2_StarmapRound.l0] at h
 | k + 1 => by
  have ih0 := ephemeriskeep2_StarmapRound.mono_l k
  ·
   intro y0 y1 y2 y3 y4
   unfold ephemeriskeep2_StarmapRound.l0
   repeat' first
   | (with_reducible exact ih0 _ _ _ _ _)
   | (with_reducible exact ephemeriskeep2_starmapWorks.mono _)
   | (with_reducible exact starmap_Map.mono _ _ _ _)
   | (with_reducible exact LeO.refl _)
   | (with_reducible exact LeO.none _)
   | (with_reducible refine LeO.ite ?_ ?_)
   | (with_reducible refine LeO.bind ?_ (fun _ => ?_))
   | exact ih0 _ _ _ _ _
   | exact ephemeriskeep2_starmapWorks.mono _
   | exact starmap_Map.mono _ _ _ _
   | exact LeO.none _
   | refine LeO.ite ?_ ?_
   | refine LeO.bind ?_ (fun _ => ?_)
theorem ephemeriskeep2_StarmapRound.mono : ∀ a0 a1 a2 k, LeO (ephemeriskeep2_StarmapRound.f k a0 a1 a2) (ephemeriskeep2_StarmapRound.f (k + 1) a0 a1 a2) := by
 intro a0 a1 a2 k
 have ih0 := ephemeriskeep2_StarmapRound.mono_l k
 unfold ephemeriskeep2_StarmapRound.f
 repeat' first
   | (with_reducible exact ih0 _ _ _ _ _)
   | (with_reducible exact ephemeriskeep2_starmapWorks.mono _)
   | (with_reducible exact starmap_Map.mono _ _ _ _)
   | (with_reducible exact LeO.refl _)
   | (with_reducible exact LeO.none _)
   | (with_reducible refine LeO.ite ?_ ?_)
   | (with_reducible refine LeO.bind ?_ (fun _ => ?_))
   | exact ih0 _ _ _ _ _
   | exact ephemeriskeep2_starmapWorks.mono _
   | exact starmap_Map.mono _ _ _ _
   | exact LeO.none _
   | refine LeO.ite ?_ ?_
   | refine LeO.bind ?_ (fun _ => ?_)

/-- THE ONE PURE STATEMENT of ephemeriskeep2_StarmapRound. -/
def ephemeriskeep2_StarmapRound.Pure : Prop := ∀ (a0_0 : Int) (a0_1 : Int) (a1 : Int), (Lit.int .i64 a0_0).wf = true → (Lit.int .i64 a0_1).wf = true → (Lit.int .i64 a1).wf = true → ∃ k, ephemeriskeep2_StarmapRound.f k a0_0 a0_1 a1 = some true

end Go.Proofs.YtgmjgnojjbajdaaDoor.JR
