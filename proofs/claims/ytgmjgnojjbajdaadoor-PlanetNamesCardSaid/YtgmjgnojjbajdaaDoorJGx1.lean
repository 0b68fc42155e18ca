-- Made by a program of this session (wip/hp.py, over the kit's print) out of the translation. Not trusted: Lean checks it.
import Derived.Test.YtgmjgnojjbajdaaDoorJGx0
namespace Go.Proofs.YtgmjgnojjbajdaaDoor.JG
open Go.RowKit Go.Proofs.YtgmjgnojjbajdaaDoorW.PrintWords Go.Proofs.YtgmjgnojjbajdaaDoorW.PrintLast Go.Proofs.YtgmjgnojjbajdaaDoorW.PrintMore
attribute [local go_sem] max2_int min2_int max_two min_two max_three min_three max_four min_four   -- for this text's walks alone
set_option linter.unusedVariables false
set_option linter.unusedSimpArgs false

theorem wrap_in_ {n : Int} (h : -9223372036854775808 ≤ n) (h' : n ≤ 9223372036854775807) : wrap64 n = n := by
  unfold wrap64; omega
theorem sz1_ (b : UInt8) : (⟨#[b]⟩ : ByteArray).size = 1 := rfl
/-- within the range of the bounds of intervals -/
def InR (x : Int) : Prop := -1000000000000000000 ≤ x ∧ x ≤ 1000000000000000000
instance (x : Int) : Decidable (InR x) := inferInstanceAs (Decidable (_ ∧ _))
theorem below_setg {B : Nat} {w W : World} {g j : Nat} {v : Value} (h : Below B w W) (hg : B ≤ g) : Below B w (W.setCell ⟨g, j, none⟩ v) := h.setCell hg _
/-- W is w with blocks added and orders drawn -/
class Gr_ (w : outParam World) (W : World) : Prop where
  at_ : ∀ (g : Nat) (o : Obj), w.heap[g]? = some o → W.heap[g]? = some o
  be_ : ∀ w0 : World, Below w0.heap.size w0 w → Below w0.heap.size w0 W
instance (priority := low) gr_refl_ (w : World) : Gr_ w w := ⟨fun _ _ h => h, fun _ h => h⟩
instance gr_alloc_ (w W : World) (o : Obj) [Gr_ w W] : Gr_ w (W.alloc o) := ⟨fun g _ h => blk_alloc (Gr_.at_ (w := w) (W := W) g _ h) o, fun w0 h => below_alloc (Gr_.be_ (w := w) (W := W) w0 h) o⟩
instance gr_drew_ (w W : World) [Gr_ w W] : Gr_ w W.drew := ⟨fun g _ h => blk_drew (Gr_.at_ (w := w) (W := W) g _ h), fun w0 h => below_drew (Gr_.be_ (w := w) (W := W) w0 h)⟩
instance gr_drewN_ (w W : World) (n : Nat) [Gr_ w W] : Gr_ w (W.drewN n) := ⟨fun g _ h => blk_drewN (Gr_.at_ (w := w) (W := W) g _ h) n, fun w0 h => pw_below_drewN (Gr_.be_ (w := w) (W := W) w0 h) n⟩
theorem grz_ {w W : World} [Gr_ w W] {g : Nat} {o : Obj} (h : w.heap[g]? = some o) : W.heap[g]? = some o := Gr_.at_ g o h
theorem hbz_ {w W w0 : World} [Gr_ w W] (h : Below w0.heap.size w0 w) : Below w0.heap.size w0 W := Gr_.be_ w0 h
theorem nxz_ {w W w1 : World} [Gr_ w W] {g : Nat} {o : Obj} (h : Aside0 (w.heap[g]? = some o)) (hb : Below W.heap.size W w1) : Aside0 (w1.heap[g]? = some o) := ⟨blk_below (grz_ (W := W) h.out) hb⟩
theorem hxz_ {w W w0 w1 : World} [Gr_ w W] (h : Aside0 (Below w0.heap.size w0 w)) (hb : Below W.heap.size W w1) : Aside0 (Below w0.heap.size w0 w1) := ⟨below_step (hbz_ (W := W) h.out) hb⟩
theorem nbz_ {W : World} {g h : Nat} {o : Obj} (e : W.heap[g]? = some o) (hg : h = W.heap.size) : Aside0 (g ≠ h) := ⟨by rw [hg]; exact Nat.ne_of_lt (blk_lt e)⟩
theorem bnz_ {W : World} {g h : Nat} {o : Obj} (e : W.heap[g]? = some o) (hg : h = W.heap.size) : Aside0 (h ≠ g) := ⟨by rw [hg]; exact Nat.ne_of_gt (blk_lt e)⟩
theorem gez_ {W w : World} {h : Nat} (e : Below w.heap.size w W) (hg : h = W.heap.size) : Aside0 (w.heap.size ≤ h) := ⟨by rw [hg]; exact below_size e⟩
/-- stores at two places: the order makes no difference -/
theorem setCell_comm_ (w : World) (b c i j : Nat) (x y : Value) (h : b ≠ c ∨ i ≠ j) : (w.setCell ⟨c, j, none⟩ y).setCell ⟨b, i, none⟩ x = (w.setCell ⟨b, i, none⟩ x).setCell ⟨c, j, none⟩ y := by
  unfold World.setCell
  congr 1
  apply Array.ext_getElem?
  intro k
  simp only [Array.getElem?_modify]
  by_cases h1 : b = k <;> by_cases h2 : c = k
  · subst h1; subst h2
    have hij : i ≠ j := h.resolve_left (fun z => z rfl)
    simp only [if_pos, Option.map_map]
    congr 1
    funext o
    cases o <;> simp only [Function.comp, Option.isSome_none, Bool.false_eq_true, if_false]
    rw [Array.setIfInBounds_comm _ _ hij]
  · simp only [if_pos h1, if_neg h2]
  · simp only [if_neg h1, if_pos h2]
  · simp only [if_neg h1, if_neg h2]
section
variable {P : Program} {ops : Array Oper} {Q : Exit → Act → World → Prop} {md : Region.Mode} {S : World → Prop} {ds : List Nat}
/-- a load that may come up behind a store elsewhere: both orders lead to one place, shown once -/
theorem late_ {i j : Nat} {N : Option Tmp} {v : Value} {oi oj : Oper} {fuel : Nat} {l : Array Bool} {a a1 : Act} {w W1 : World} (X : Prop) (S2 : World → Prop) (li lj lij : Array Bool) (hi : ops[i]? = some oi) (hj : ops[j]? = some oj) (hN : oi.dst = N) (hNj : oj.dst = none)
    (hc : ((Region.ready md ops l == [i, j] || Region.ready md ops l == [j, i]) && l.setIfInBounds i true == li && l.setIfInBounds j true == lj && Region.ready md ops lj == [i] && lj.setIfInBounds i true == lij) = true) (hdi : i ∉ ds) (hdj : j ∈ ds)
    (hy : YieldsIf P ops S2 oi v a) (hs : S2 w) (hs1 : S2 W1) (ha : a.put N v = a1)
    (h2 : ∀ K : Act → World → Prop, K a W1 → if Region.wanted oj (yielded ops a.tmps) = true then Oper.wp P oj a w K Q else K (a.put none undef) w)
    (hX : X) (b1 : X → wpAnyLast P md ops Q S ds (fuel + 1) li a1 w) (b2 : X → wpAnyLast P md ops Q S ds fuel lij a1 W1) : wpAnyLast P md ops Q S ds (fuel + 2) l a w := by
  simp only [Bool.and_eq_true, Bool.or_eq_true, beq_iff_eq] at hc
  obtain ⟨⟨⟨⟨c1, c2⟩, c3⟩, c4⟩, c5⟩ := hc
  subst ha
  subst hN
  have A1 : wpOp P ops Q i (fun a' w' => (i ∉ ds → S w → S w') ∧ wpAnyLast P md ops Q S ds (fuel + 1) (l.setIfInBounds i true) a' w') a w := by
    refine hy.wpOp hi hs ⟨fun _ h => h, ?_⟩
    rw [c2]
    exact b1 hX
  have A2 : wpOp P ops Q j (fun a' w' => (j ∉ ds → S w → S w') ∧ wpAnyLast P md ops Q S ds (fuel + 1) (l.setIfInBounds j true) a' w') a w := by
    refine wpOp_step hj (fun K hK => ?_)
    rw [hNj]
    refine h2 K (hK _ _ ⟨fun h => absurd hdj h, ?_⟩)
    rw [c3]
    refine wpAnyLast_all c4 (by simp) ?_
    intro k hk
    obtain rfl := List.mem_singleton.mp hk
    refine hy.wpOp hi hs1 ⟨fun _ h => h, ?_⟩
    rw [c5]
    exact b2 hX
  rcases c1 with c1 | c1
  · refine wpAnyLast_all c1 (by simp) ?_
    intro k hk
    rcases List.mem_cons.mp hk with rfl | hk
    · exact A1
    · obtain rfl := List.mem_singleton.mp hk
      exact A2
  · refine wpAnyLast_all c1 (by simp) ?_
    intro k hk
    rcases List.mem_cons.mp hk with rfl | hk
    · exact A2
    · obtain rfl := List.mem_singleton.mp hk
      exact A1
end
section
variable {P : Program} {ops : Array Oper} {Q : Exit → Act → World → Prop}
/-- a call of a function value in a plain region -/
theorem goesV_ {rest : List Oper} {oi : Oper} {a : Act} {w : World} (N : Option Tmp) (hd : oi.dst = N) (hg : oi.guard = none) {f : FuncId} {fn : Func} {xs : Array Operand} {ts : Array TypeId} {o : Operand} {cap : Array Value} (hf : P.funcs[f]? = some fn) (hname : (fn.name == "runtime.NumGoroutine") = false) (hb : fn.body.isSome = true)
    (hop : oi.op = .call { callee := .value o, args := xs, argTypes := ts }) (hv : a.eval o = .func (.func f) #[] cap) (args : Array Value) (hargs : xs.map a.eval = args)
    (h : Calls P f (args ++ cap) w fun e w' => ∃ v, e = .returned v ∧ wpList P ops Q rest (a.put N v) w') : wpList P ops Q (oi :: rest) a w := by
  refine wpList_plain hg fun K hK => ?_
  have he := enters_ hf hname hb (args ++ cap) w
  have hrun : (execOp a.eval oi).run P w = .ok (.enter f (args ++ cap)) w := by
    unfold execOp
    simp [hop, resolve, Deferred.ofValue, invoke, hv, hargs, he]
  unfold Oper.wp
  rw [hrun, Oper.upon_enter]
  refine h.mono fun e w'' hh => ?_
  obtain ⟨v, rfl, hk⟩ := hh
  subst hd
  exact hK _ _ hk
/-- The operation calls a function value. -/
theorem gate_value {rest : List Oper} {oi : Oper} {a : Act} {w : World} {x : Operand} {xs : Array Operand} {ts : Array TypeId} (_ho : oi.op = .call { callee := .value x, args := xs, argTypes := ts }) (h : wpList P ops Q (oi :: rest) a w) : wpList P ops Q (oi :: rest) a w := h
end
section
variable {P : Program} {ops : Array Oper} {Q : Exit → Act → World → Prop}
/-- a call in a plain region behind a guard that says yes -/
theorem goesW_ {rest : List Oper} {oi : Oper} {a : Act} {w : World} (N : Option Tmp) (hd : oi.dst = N) (hw : Region.wanted oi (yielded ops a.tmps) = true) {f : FuncId} {fn : Func} {xs : Array Operand} {ts : Array TypeId} (hf : P.funcs[f]? = some fn) (hname : (fn.name == "runtime.NumGoroutine") = false) (hb : fn.body.isSome = true) (args : Array Value)
    (hop : oi.op = .call { callee := .value (.func f), args := xs, argTypes := ts }) (hargs : xs.map a.eval = args)
    (h : Calls P f args w fun e w' => ∃ v, e = .returned v ∧ wpList P ops Q rest (a.put N v) w') : wpList P ops Q (oi :: rest) a w := by
  refine wpList_step fun K hK => ?_
  rw [if_pos hw]
  have he := enters_ hf hname hb args w
  have hrun : (execOp a.eval oi).run P w = .ok (.enter f args) w := by
    unfold execOp
    simp [hop, resolve, Deferred.ofValue, invoke, Act.eval, hargs, he]
  unfold Oper.wp
  rw [hrun, Oper.upon_enter]
  refine h.mono fun e w'' hh => ?_
  obtain ⟨v, rfl, hk⟩ := hh
  subst hd
  exact hK _ _ hk
/-- a call of a function value in a plain region behind a guard that says yes -/
theorem goesVW_ {rest : List Oper} {oi : Oper} {a : Act} {w : World} (N : Option Tmp) (hd : oi.dst = N) (hw : Region.wanted oi (yielded ops a.tmps) = true) {f : FuncId} {fn : Func} {xs : Array Operand} {ts : Array TypeId} {o : Operand} {cap : Array Value} (hf : P.funcs[f]? = some fn) (hname : (fn.name == "runtime.NumGoroutine") = false) (hb : fn.body.isSome = true)
    (hop : oi.op = .call { callee := .value o, args := xs, argTypes := ts }) (hv : a.eval o = .func (.func f) #[] cap) (args : Array Value) (hargs : xs.map a.eval = args)
    (h : Calls P f (args ++ cap) w fun e w' => ∃ v, e = .returned v ∧ wpList P ops Q rest (a.put N v) w') : wpList P ops Q (oi :: rest) a w := by
  refine wpList_step fun K hK => ?_
  rw [if_pos hw]
  have he := enters_ hf hname hb (args ++ cap) w
  have hrun : (execOp a.eval oi).run P w = .ok (.enter f (args ++ cap)) w := by
    unfold execOp
    simp [hop, resolve, Deferred.ofValue, invoke, hv, hargs, he]
  unfold Oper.wp
  rw [hrun, Oper.upon_enter]
  refine h.mono fun e w'' hh => ?_
  obtain ⟨v, rfl, hk⟩ := hh
  subst hd
  exact hK _ _ hk
end

/-! ### the Lean function ephemeriskeep2_at: function 10 -/
def ephemeriskeep2_at.f (a0 : Int) (a1 : Int) : Option (Int) := if a1 = 0 then (none) else (some (Int.tmod (wrap64 ((Int.tmod a0 a1) + a1)) a1))

/-! ### the Lean function ephemeriskeep2_instant: function 11 -/
def ephemeriskeep2_instant.f (a0 : Int) : Option (Int) := (ephemeriskeep2_at.f a0 604800000000000).bind fun t101 => (some (wrap64 (t101 - 302400000000000)))

/-! ### the Lean function ephemeriskeep2_has: function 23 -/
def ephemeriskeep2_has.f (a0_0 : Int) (a0_1 : Int) (a1 : Int) (a2 : Int) : Option (Bool) := if a0_0 ≤ a1 then (if a1 ≤ a0_1 then (some (decide ((wrap64 (a0_1 - a0_0)) ≤ a2))) else (some false)) else (some false)

/-! ### the Lean function interval_Floor: function 49 -/
def interval_Floor.f (a0 : Int) (a1 : Int) : Option (Int) := if a1 = 0 then (none) else (if (Int.tmod a0 a1) = 0 then (some (wrap64 (Int.tdiv a0 a1))) else (if ((decide (a0 < 0)) != (decide (a1 < 0))) = true then (some (wrap64 ((wrap64 (Int.tdiv a0 a1)) - 1))) else (some (wrap64 (Int.tdiv a0 a1)))))

/-! ### the Lean function series_Reduced: function 33 -/
def series_Reduced.f (a0_0 : Int) (a0_1 : Int) : Option (Int × Int) := (interval_Floor.f a0_0 1000000000).bind fun t105 => (some (wrap64 (a0_0 - (wrap64 (t105 * 1000000000))), wrap64 (a0_1 - (wrap64 (t105 * 1000000000)))))

/-! ### the Lean function series_Valid: function 35 -/
def series_Valid.f (a0 : Int) : Option (Bool) := if a0 ≥ (-345600000000000) then (some (decide (a0 < 345600086400000))) else (some false)

/-! ### the Lean function series_beyond: function 64 -/
def series_beyond.f (a0 : Int) (a1 : Int) : Option (Bool) := if a0 < (wrap64 (-a1)) then (some true) else (some (decide (a0 > a1)))

/-! ### the Lean function series_Check: function 54 -/
mutual
def series_Check.j0 : Nat → Bool → Int → Int → List (S85) → Int → Option (Int)
  | 0, _, _, _, _, _ => none
  | k + 1, x26, x107000, x107001, x107002, x107003 => if x26 = true then (some 3) else (series_Check.l0 k x107002 (x107002.length : Int) 0)
def series_Check.l0 : Nat → List (S85) → Int → Int → Option (Int)
  | 0, _, _, _ => none
  | k + 1, x28, x29, x30 => if x30 < x29 then (if 0 ≤ x30 then (if x30 < (x28.length : Int) then ((series_beyond.f ((rd_T85 x28 x30).f0) 1000000000).bind fun t111 => (if t111 = true then (some 3) else (if ((rd_T85 x28 x30).f1) < 0 then (some 3) else (if ((rd_T85 x28 x30).f1) ≥ 1000000000 then (some 3) else ((series_beyond.f ((rd_T85 x28 x30).f2) 4000000000000000).bind fun t112 => (if t112 = true then (some 3) else (series_Check.l0 k x28 x29 (wrap64 (x30 + 1))))))))) else (none)) else (none)) else (some 0)
end
def series_Check.f (k : Nat) (a0_0 : Int) (a0_1 : Int) (l0_2 : List (S85)) (a0_3 : Int) : Option (Int) := if (l0_2.length : Int) > 40 then (some 2) else ((series_beyond.f a0_0 1000000000).bind fun t107 => (if t107 = true then (series_Check.j0 k true a0_0 a0_1 l0_2 a0_3) else ((series_beyond.f a0_1 4000000000000000).bind fun t108 => (if t108 = true then (series_Check.j0 k true a0_0 a0_1 l0_2 a0_3) else (if a0_3 < 0 then (series_Check.j0 k true a0_0 a0_1 l0_2 a0_3) else (series_Check.j0 k (decide (a0_3 > 100000000)) a0_0 a0_1 l0_2 a0_3))))))
theorem series_Check.mono_l : ∀ k, (∀ y0 y1 y2 y3 y4, LeO (series_Check.j0 k y0 y1 y2 y3 y4) (series_Check.j0 (k + 1) y0 y1 y2 y3 y4)) ∧ (∀ y0 y1 y2, LeO (series_Check.l0 k y0 y1 y2) (series_Check.l0 (k + 1) y0 y1 y2))
  | 0 => ⟨fun _ _ _ _ _ r h => by simp [series_Check.j0] at h, fun _ _ _ r h => by simp [series_Check.l0] at h⟩
  | k + 1 => by
    obtain ⟨ih0, ih1⟩ := series_Check.mono_l k
    refine ⟨?_, ?_⟩
    · intro y0 y1 y2 y3 y4
      unfold series_Check.j0
      repeat' first
      | (with_reducible exact ih0 _ _ _ _ _)
      | (with_reducible exact ih1 _ _ _)
      | (with_reducible exact LeO.refl _)
      | (with_reducible exact LeO.none _)
      | (with_reducible refine LeO.ite ?_ ?_)
      | (with_reducible refine LeO.bind ?_ (fun _ => ?_))
      | exact ih0 _ _ _ _ _
      | exact ih1 _ _ _
      | exact LeO.none _
      | refine LeO.ite ?_ ?_
      | refine LeO.bind ?_ (fun _ => ?_)
    · intro y0 y1 y2
      unfold series_Check.l0
      repeat' first
      | (with_reducible exact ih0 _ _ _ _ _)
      | (with_reducible exact ih1 _ _ _)
      | (with_reducible exact LeO.refl _)
      | (with_reducible exact LeO.none _)
      | (with_reducible refine LeO.ite ?_ ?_)
      | (with_reducible refine LeO.bind ?_ (fun _ => ?_))
      | exact ih0 _ _ _ _ _
      | exact ih1 _ _ _
      | exact LeO.none _
      | refine LeO.ite ?_ ?_
      | refine LeO.bind ?_ (fun _ => ?_)
theorem series_Check.mono : ∀ a0 a1 a2 a3 k, LeO (series_Check.f k a0 a1 a2 a3) (series_Check.f (k + 1) a0 a1 a2 a3) := by
  intro a0 a1 a2 a3 k
  obtain ⟨ih0, ih1⟩ := series_Check.mono_l k
  unfold series_Check.f
  repeat' first
      | (with_reducible exact ih0 _ _ _ _ _)
      | (with_reducible exact ih1 _ _ _)
      | (with_reducible exact LeO.refl _)
      | (with_reducible exact LeO.none _)
      | (with_reducible refine LeO.ite ?_ ?_)
      | (with_reducible refine LeO.bind ?_ (fun _ => ?_))
      | exact ih0 _ _ _ _ _
      | exact ih1 _ _ _
      | exact LeO.none _
      | refine LeO.ite ?_ ?_
      | refine LeO.bind ?_ (fun _ => ?_)

/-! ### the Lean function series_check: function 38 -/
def series_check.f (k : Nat) (a0_0 : Int) (a0_1 : Int) (l0_2 : List (S85)) (a0_3 : Int) (a1 : Int) : Option (Int) := (series_Check.f k a0_0 a0_1 l0_2 a0_3).bind fun t114 => (if t114 = 0 then ((series_Valid.f a1).bind fun t115 => (if t115 = true then (some 0) else (some 3))) else (some t114))
theorem series_check.mono : ∀ a0 a1 a2 a3 a4 k, LeO (series_check.f k a0 a1 a2 a3 a4) (series_check.f (k + 1) a0 a1 a2 a3 a4) := by
  intro a0 a1 a2 a3 a4 k
  unfold series_check.f
  repeat' first
      | (with_reducible exact series_Check.mono _ _ _ _ _)
      | (with_reducible exact LeO.refl _)
      | (with_reducible exact LeO.none _)
      | (with_reducible refine LeO.ite ?_ ?_)
      | (with_reducible refine LeO.bind ?_ (fun _ => ?_))
      | exact series_Check.mono _ _ _ _ _
      | exact LeO.none _
      | refine LeO.ite ?_ ?_
      | refine LeO.bind ?_ (fun _ => ?_)

/-! ### the Lean function interval_out: function 55 -/
def interval_out.f (a0 : Int) : Option (Bool) := if a0 < (-1000000000000000000) then (some true) else (some (decide (a0 > 1000000000000000000)))

/-! ### the Lean function interval_Check: function 43 -/
def interval_Check.j0 : Nat → Bool → Int → Int → Option (Int)
  | 0, _, _, _ => none
  | k + 1, x10, x117000, x117001 => if x10 = true then (some 3) else (if x117000 > x117001 then (some 9) else (some 0))
def interval_Check.f (k : Nat) (a0_0 : Int) (a0_1 : Int) : Option (Int) := (interval_out.f a0_0).bind fun t117 => (if t117 = true then (interval_Check.j0 k true a0_0 a0_1) else ((interval_out.f a0_1).bind fun t118 => (interval_Check.j0 k t118 a0_0 a0_1)))
theorem interval_Check.mono_l : ∀ k, (∀ y0 y1 y2, LeO (interval_Check.j0 k y0 y1 y2) (interval_Check.j0 (k + 1) y0 y1 y2))
  | 0 => fun _ _ _ r h => by simp [interval_Check.j0] at h
  | k + 1 => by
    have ih0 := interval_Check.mono_l k
    · intro y0 y1 y2
      unfold interval_Check.j0
      repeat' first
      | (with_reducible exact ih0 _ _ _)
      | (with_reducible exact LeO.refl _)
      | (with_reducible exact LeO.none _)
      | (with_reducible refine LeO.ite ?_ ?_)
      | (with_reducible refine LeO.bind ?_ (fun _ => ?_))
      | exact ih0 _ _ _
      | exact LeO.none _
      | refine LeO.ite ?_ ?_
      | refine LeO.bind ?_ (fun _ => ?_)
theorem interval_Check.mono : ∀ a0 a1 k, LeO (interval_Check.f k a0 a1) (interval_Check.f (k + 1) a0 a1) := by
  intro a0 a1 k
  have ih0 := interval_Check.mono_l k
  unfold interval_Check.f
  repeat' first
      | (with_reducible exact ih0 _ _ _)
      | (with_reducible exact LeO.refl _)
      | (with_reducible exact LeO.none _)
      | (with_reducible refine LeO.ite ?_ ?_)
      | (with_reducible refine LeO.bind ?_ (fun _ => ?_))
      | exact ih0 _ _ _
      | exact LeO.none _
      | refine LeO.ite ?_ ?_
      | refine LeO.bind ?_ (fun _ => ?_)

/-! ### the Lean function interval_abs: function 56 -/
def interval_abs.f (a0 : Int) : Option (Int) := if a0 < 0 then (some (wrap64 (-a0))) else (some a0)

/-! ### the Lean function interval_part: function 44 -/
def interval_part.j0 : Nat → Int → Int → Int → Int → Bool → Option (Int × Bool)
  | 0, _, _, _, _, _ => none
  | k + 1, x0, x1, x2, x8, x21 => if x21 = true then (some (0, false)) else ((interval_Floor.f (wrap64 ((wrap64 (x0 - (wrap64 (x8 * x2)))) * x1)) x2).bind fun t121 => ((interval_out.f (wrap64 ((wrap64 (x8 * x1)) + t121))).bind fun t122 => (some (wrap64 ((wrap64 (x8 * x1)) + t121), !t122))))
def interval_part.f (k : Nat) (a0 : Int) (a1 : Int) (a2 : Int) : Option (Int × Bool) := (interval_Floor.f a0 a2).bind fun t119 => (if a1 = 0 then (interval_part.j0 k a0 a1 a2 t119 false) else ((interval_abs.f t119).bind fun t120 => (interval_part.j0 k a0 a1 a2 t119 (decide (t120 > (wrap64 (Int.tdiv (2000000000000000000 : Int) a1)))))))
theorem interval_part.mono_l : ∀ k, (∀ y0 y1 y2 y3 y4, LeO (interval_part.j0 k y0 y1 y2 y3 y4) (interval_part.j0 (k + 1) y0 y1 y2 y3 y4))
  | 0 => fun _ _ _ _ _ r h => by simp [interval_part.j0] at h
  | k + 1 => by
    have ih0 := interval_part.mono_l k
    · intro y0 y1 y2 y3 y4
      unfold interval_part.j0
      repeat' first
      | (with_reducible exact ih0 _ _ _ _ _)
      | (with_reducible exact LeO.refl _)
      | (with_reducible exact LeO.none _)
      | (with_reducible refine LeO.ite ?_ ?_)
      | (with_reducible refine LeO.bind ?_ (fun _ => ?_))
      | exact ih0 _ _ _ _ _
      | exact LeO.none _
      | refine LeO.ite ?_ ?_
      | refine LeO.bind ?_ (fun _ => ?_)
theorem interval_part.mono : ∀ a0 a1 a2 k, LeO (interval_part.f k a0 a1 a2) (interval_part.f (k + 1) a0 a1 a2) := by
  intro a0 a1 a2 k
  have ih0 := interval_part.mono_l k
  unfold interval_part.f
  repeat' first
      | (with_reducible exact ih0 _ _ _ _ _)
      | (with_reducible exact LeO.refl _)
      | (with_reducible exact LeO.none _)
      | (with_reducible refine LeO.ite ?_ ?_)
      | (with_reducible refine LeO.bind ?_ (fun _ => ?_))
      | exact ih0 _ _ _ _ _
      | exact LeO.none _
      | refine LeO.ite ?_ ?_
      | refine LeO.bind ?_ (fun _ => ?_)

/-! ### the Lean function interval_Scale: function 29 -/
def interval_Scale.lo (a0_0 a0_1 a1 a2 : Int) : Int := if a1 < 0 then (-a0_1) * (-a1) / a2 else a0_0 * a1 / a2
def interval_Scale.hi (a0_0 a0_1 a1 a2 : Int) : Int := if a1 < 0 then -(a0_0 * (-a1) / a2) else -((-a0_1) * a1 / a2)
def ScaleOk (a0_0 a0_1 a1 a2 : Int) : Prop := InR a0_0 ∧ a0_0 ≤ a0_1 ∧ InR a0_1 ∧ -1000000000 ≤ a1 ∧ a1 ≤ 1000000000 ∧ 1 ≤ a2 ∧ a2 ≤ 1000000000 ∧ InR (interval_Scale.lo a0_0 a0_1 a1 a2) ∧ InR (interval_Scale.hi a0_0 a0_1 a1 a2)
instance (a b c d : Int) : Decidable (ScaleOk a b c d) := inferInstanceAs (Decidable (_ ∧ _ ∧ _ ∧ _ ∧ _ ∧ _ ∧ _ ∧ _ ∧ _))
def interval_Scale.f (a0_0 : Int) (a0_1 : Int) (a1 : Int) (a2 : Int) : Option (Int × Int × Int) :=
  if ScaleOk a0_0 a0_1 a1 a2 then some (interval_Scale.lo a0_0 a0_1 a1 a2, interval_Scale.hi a0_0 a0_1 a1 a2, 0) else none
theorem sfloor_ {a b : Int} (hb : 0 < b) (hb' : b ≤ 9000000000000000000) (ha : -9000000000000000000 ≤ a) (ha' : a ≤ 9000000000000000000) : interval_Floor.f a b = some (a / b) := by
  have e := Int.emod_add_mul_ediv a b
  have m0 := Int.emod_nonneg a (show b ≠ 0 by omega)
  have m1 := Int.emod_lt_of_pos a hb
  unfold interval_Floor.f
  rw [if_neg (by omega)]
  rcases Int.le_total 0 a with h0 | h0
  · have d0 : 0 ≤ a / b := Int.ediv_nonneg h0 (by omega)
    have d1 : a / b ≤ a := Int.ediv_le_self _ h0
    rw [Int.tdiv_eq_ediv_of_nonneg h0, wrap_in_ (n := a / b) (by omega) (by omega), decide_eq_false (show ¬ a < 0 by omega), decide_eq_false (show ¬ b < 0 by omega)]
    simp
  · have hm : Int.tmod a b = -((-a) % b) := by rw [← Int.tmod_eq_emod_of_nonneg (by omega), Int.neg_tmod, Int.neg_neg]
    have hd : Int.tdiv a b = -((-a) / b) := by rw [← Int.tdiv_eq_ediv_of_nonneg (by omega), Int.neg_tdiv, Int.neg_neg]
    have e' := Int.emod_add_mul_ediv (-a) b
    have m0' := Int.emod_nonneg (-a) (show b ≠ 0 by omega)
    have m1' := Int.emod_lt_of_pos (-a) hb
    have d0 : 0 ≤ (-a) / b := Int.ediv_nonneg (by omega) (by omega)
    have d1 : (-a) / b ≤ -a := Int.ediv_le_self _ (by omega)
    rw [hm, hd, wrap_in_ (n := -((-a) / b)) (by omega) (by omega)]
    clear hm hd e m0 m1
    generalize (-a) / b = q at *
    generalize (-a) % b = m at *
    have n1 : b * (-q) = -(b * q) := Int.mul_neg b q
    have bq : 0 ≤ b * q := Int.mul_nonneg (by omega) d0
    have n2 : b * (-q - 1) = -(b * q) - b := by rw [Int.mul_sub, n1, Int.mul_one]
    by_cases z : m = 0
    · rw [if_pos (by omega)]
      congr 1
      rw [show a = b * (-q) by omega, Int.mul_ediv_cancel_left _ (by omega)]
    · rw [if_neg (by omega), decide_eq_true (show a < 0 by omega), decide_eq_false (show ¬ b < 0 by omega), wrap_in_ (by omega) (by omega)]
      simp only [Bool.true_bne, Bool.not_false, if_true]
      congr 1
      rw [show a = (b - m) + b * (-q - 1) by omega, Int.add_mul_ediv_left _ _ (by omega), Int.ediv_eq_zero_of_lt (by omega) (by omega)]; omega
theorem part_f_ {n m d : Int} (h1 : InR n) (h2 : 0 ≤ m) (h3 : m ≤ 1000000000) (h4 : 1 ≤ d) (h5 : d ≤ 1000000000) (h6 : InR (n * m / d)) : interval_part.f 1 n m d = some (n * m / d, true) := by
  obtain ⟨a1, a2⟩ := h1
  obtain ⟨b1, b2⟩ := h6
  have e := Int.emod_add_mul_ediv n d
  have m0 := Int.emod_nonneg n (show d ≠ 0 by omega)
  have m1 := Int.emod_lt_of_pos n (show 0 < d by omega)
  have q1 : n / d ≤ 1000000000000000000 := Int.ediv_le_of_le_mul (by omega) (by have : 1000000000000000000 * 1 ≤ 1000000000000000000 * d := Int.mul_le_mul_of_nonneg_left h4 (by omega); omega)
  have q0 : -1000000000000000000 ≤ n / d := Int.le_ediv_of_mul_le (by omega) (by have : 1000000000000000000 * 1 ≤ 1000000000000000000 * d := Int.mul_le_mul_of_nonneg_left h4 (by omega); rw [Int.neg_mul]; omega)
  -- the two parts of the quotient
  have key : n / d * m + (n - n / d * d) * m / d = n * m / d := by
    have : n * m = (n - n / d * d) * m + (n / d * m) * d := by
      rw [Int.sub_mul, Int.mul_right_comm (n / d) d m]; omega
    rw [this, Int.add_mul_ediv_right _ _ (by omega)]; omega
  have r : n - n / d * d = n % d := by rw [Int.mul_comm (n / d) d]; omega
  have p0 : 0 ≤ (n - n / d * d) * m := by rw [r]; exact Int.mul_nonneg m0 h2
  have p1 : (n - n / d * d) * m ≤ d * m := by rw [r]; exact Int.mul_le_mul_of_nonneg_right (by omega) h2
  have p2 : d * m ≤ 1000000000 * m := Int.mul_le_mul_of_nonneg_right h5 h2
  have t0 : 0 ≤ (n - n / d * d) * m / d := Int.ediv_nonneg p0 (by omega)
  have t1 : (n - n / d * d) * m / d ≤ m := Int.ediv_le_of_le_mul (by omega) (by rw [Int.mul_comm m d]; exact p1)
  have w1 : n / d * d = n - n % d := by omega
  unfold interval_part.f
  rw [sfloor_ (by omega) (by omega) (by omega) (by omega)]
  simp only [Option.bind_some]
  have last : interval_part.j0 1 n m d (n / d) false = some (n * m / d, true) := by
    simp only [interval_part.j0, Bool.false_eq_true, if_false]
    rw [wrap_in_ (n := n / d * d) (by omega) (by omega), wrap_in_ (n := n - n / d * d) (by omega) (by omega), wrap_in_ (n := (n - n / d * d) * m) (by omega) (by omega), sfloor_ (by omega) (by omega) (by omega) (by omega)]
    simp only [Option.bind_some]
    rw [wrap_in_ (n := n / d * m) (by omega) (by omega), key, wrap_in_ (n := n * m / d) (by omega) (by omega)]
    unfold interval_out.f
    rw [if_neg (by omega), decide_eq_false (by omega)]
    rfl
  by_cases z : m = 0
  · rw [if_pos z]; exact last
  · rw [if_neg z]
    have ab : interval_abs.f (n / d) = some (if n / d < 0 then -(n / d) else n / d) := by
      unfold interval_abs.f
      split
      · rw [wrap_in_ (by omega) (by omega)]
      · rfl
    rw [ab]
    simp only [Option.bind_some]
    have le : (if n / d < 0 then -(n / d) else n / d) ≤ Int.tdiv 2000000000000000000 m := by
      rw [Int.tdiv_eq_ediv_of_nonneg (by omega)]
      refine Int.le_ediv_of_mul_le (by omega) ?_
      split
      · rw [Int.neg_mul]; omega
      · omega
    have up : Int.tdiv 2000000000000000000 m ≤ 2000000000000000000 := by
      rw [Int.tdiv_eq_ediv_of_nonneg (by omega)]; exact Int.ediv_le_self _ (by omega)
    have lo : 0 ≤ Int.tdiv 2000000000000000000 m := by
      rw [Int.tdiv_eq_ediv_of_nonneg (by omega)]; exact Int.ediv_nonneg (by omega) h2
    rw [wrap_in_ (by omega) (by omega), decide_eq_false (by omega)]
    exact last

/-! ### the Lean function trig_Reduced: function 47 -/
def trig_Reduced.f (a0 : Int) : Option (Int) := (interval_Floor.f a0 1000000000).bind fun t123 => (some (wrap64 (a0 - (wrap64 (t123 * 1000000000)))))

/-! ### the Lean function trig_out: function 57 -/
def trig_out.f (a0 : Int) : Option (Bool) := if a0 < (-1000000000000000000) then (some true) else (some (decide (a0 > 1000000000000000000)))

/-! ### the Lean function trig_mul: function 65 -/
def trig_mul.f (a0 : Int) (a1 : Int) : Option (Int) := some (wrap64 ((wrap64 ((a0 / 1073741824) * (a1 / 1073741824))) + ((wrap64 ((wrap64 ((wrap64 ((a0 / 1073741824) * (Go.bits .and .i64 a1 1073741823))) + (wrap64 ((Go.bits .and .i64 a0 1073741823) * (a1 / 1073741824))))) + ((wrap64 ((Go.bits .and .i64 a0 1073741823) * (Go.bits .and .i64 a1 1073741823))) / 1073741824))) / 1073741824)))

/-! ### the Lean function trig_octant: function 58 -/
def trig_octant.l0 : Nat → Int → Int → Int → Int → Int → Int → Option (Int × Int)
  | 0, _, _, _, _, _, _ => none
  | k + 1, x5, x6, x7, x8, x9, x10 => if x10 ≤ 9 then ((trig_mul.f x9 x5).bind fun t125 => (if (wrap64 ((wrap64 ((wrap64 ((wrap64 (2 * x10)) - 1)) * 2)) * x10)) = 0 then (none) else ((trig_mul.f x8 x5).bind fun t126 => (if (wrap64 ((wrap64 (2 * x10)) * (wrap64 ((wrap64 (2 * x10)) + 1)))) = 0 then (none) else (if (Int.tmod x10 2) = 1 then (trig_octant.l0 k x5 (wrap64 (x6 - (wrap64 (Int.tdiv t126 (wrap64 ((wrap64 (2 * x10)) * (wrap64 ((wrap64 (2 * x10)) + 1)))))))) (wrap64 (x7 - (wrap64 (Int.tdiv t125 (wrap64 ((wrap64 ((wrap64 ((wrap64 (2 * x10)) - 1)) * 2)) * x10)))))) (wrap64 (Int.tdiv t126 (wrap64 ((wrap64 (2 * x10)) * (wrap64 ((wrap64 (2 * x10)) + 1)))))) (wrap64 (Int.tdiv t125 (wrap64 ((wrap64 ((wrap64 ((wrap64 (2 * x10)) - 1)) * 2)) * x10)))) (wrap64 (x10 + 1))) else (trig_octant.l0 k x5 (wrap64 (x6 + (wrap64 (Int.tdiv t126 (wrap64 ((wrap64 (2 * x10)) * (wrap64 ((wrap64 (2 * x10)) + 1)))))))) (wrap64 (x7 + (wrap64 (Int.tdiv t125 (wrap64 ((wrap64 ((wrap64 ((wrap64 (2 * x10)) - 1)) * 2)) * x10)))))) (wrap64 (Int.tdiv t126 (wrap64 ((wrap64 (2 * x10)) * (wrap64 ((wrap64 (2 * x10)) + 1)))))) (wrap64 (Int.tdiv t125 (wrap64 ((wrap64 ((wrap64 ((wrap64 (2 * x10)) - 1)) * 2)) * x10)))) (wrap64 (x10 + 1)))))))) else (some (mx 0 x6, mn 1152921504606846976 x7))
def trig_octant.f (k : Nat) (a0 : Int) : Option (Int × Int) := (trig_mul.f (wrap64 ((wrap64 (a0 * 7244019458)) + (wrap64 (Int.tdiv (wrap64 (a0 * 77122842)) 1000000000)))) (wrap64 ((wrap64 (a0 * 7244019458)) + (wrap64 (Int.tdiv (wrap64 (a0 * 77122842)) 1000000000))))).bind fun t124 => (trig_octant.l0 k t124 (wrap64 ((wrap64 (a0 * 7244019458)) + (wrap64 (Int.tdiv (wrap64 (a0 * 77122842)) 1000000000)))) 1152921504606846976 (wrap64 ((wrap64 (a0 * 7244019458)) + (wrap64 (Int.tdiv (wrap64 (a0 * 77122842)) 1000000000)))) 1152921504606846976 1)
theorem trig_octant.mono_l : ∀ k, (∀ y0 y1 y2 y3 y4 y5, LeO (trig_octant.l0 k y0 y1 y2 y3 y4 y5) (trig_octant.l0 (k + 1) y0 y1 y2 y3 y4 y5))
  | 0 => fun _ _ _ _ _ _ r h => by simp [trig_octant.l0] at h
  | k + 1 => by
    have ih0 := trig_octant.mono_l k
    · intro y0 y1 y2 y3 y4 y5
      unfold trig_octant.l0
      repeat' first
      | (with_reducible exact ih0 _ _ _ _ _ _)
      | (with_reducible exact LeO.refl _)
      | (with_reducible exact LeO.none _)
      | (with_reducible refine LeO.ite ?_ ?_)
      | (with_reducible refine LeO.bind ?_ (fun _ => ?_))
      | exact ih0 _ _ _ _ _ _
      | exact LeO.none _
      | refine LeO.ite ?_ ?_
      | refine LeO.bind ?_ (fun _ => ?_)
theorem trig_octant.mono : ∀ a0 k, LeO (trig_octant.f k a0) (trig_octant.f (k + 1) a0) := by
  intro a0 k
  have ih0 := trig_octant.mono_l k
  unfold trig_octant.f
  repeat' first
      | (with_reducible exact ih0 _ _ _ _ _ _)
      | (with_reducible exact LeO.refl _)
      | (with_reducible exact LeO.none _)
      | (with_reducible refine LeO.ite ?_ ?_)
      | (with_reducible refine LeO.bind ?_ (fun _ => ?_))
      | exact ih0 _ _ _ _ _ _
      | exact LeO.none _
      | refine LeO.ite ?_ ?_
      | refine LeO.bind ?_ (fun _ => ?_)

/-! ### the Lean function trig_rounded: function 59 -/
def trig_rounded.f (a0 : Int) : Option (Int × Int) := some (mx (-1000000000) (wrap64 (((wrap64 ((wrap64 ((a0 / 1073741824) * 1000000000)) + ((wrap64 ((Go.bits .and .i64 a0 1073741823) * 1000000000)) / 1073741824))) / 1073741824) - 1)), mn 1000000000 (wrap64 (((wrap64 ((wrap64 ((a0 / 1073741824) * 1000000000)) + ((wrap64 ((Go.bits .and .i64 a0 1073741823) * 1000000000)) / 1073741824))) / 1073741824) + 2)))

/-! ### the Lean function trig_minus: function 60 -/
def trig_minus.f (a0_0 : Int) (a0_1 : Int) : Option (Int × Int) := some (wrap64 (-a0_1), wrap64 (-a0_0))

/-! ### the Lean function trig_Sin: function 45 -/
def trig_Sin.j0 : Nat → Int → Int → Int → Option (Int × Int × Int)
  | 0, _, _, _ => none
  | k + 1, x4, x6, x7 => if x4 = 0 then ((trig_rounded.f x6).bind fun bt137 => (some (bt137.1, bt137.2, 0))) else (if x4 = 1 then ((trig_rounded.f x7).bind fun bt139 => (some (bt139.1, bt139.2, 0))) else (if x4 = 2 then ((trig_rounded.f x6).bind fun bt141 => ((trig_minus.f bt141.1 bt141.2).bind fun bt143 => (some (bt143.1, bt143.2, 0)))) else ((trig_rounded.f x7).bind fun bt145 => ((trig_minus.f bt145.1 bt145.2).bind fun bt147 => (some (bt147.1, bt147.2, 0))))))
def trig_Sin.f (k : Nat) (a0 : Int) : Option (Int × Int × Int) := (trig_out.f a0).bind fun t131 => (if t131 = true then (some (0, 0, 3)) else ((trig_Reduced.f a0).bind fun t132 => (if (Int.tmod t132 250000000) ≤ 125000000 then ((trig_octant.f k (Int.tmod t132 250000000)).bind fun bt133 => (trig_Sin.j0 k (wrap64 (Int.tdiv t132 250000000)) bt133.1 bt133.2)) else ((trig_octant.f k (wrap64 (250000000 - (Int.tmod t132 250000000)))).bind fun bt135 => (trig_Sin.j0 k (wrap64 (Int.tdiv t132 250000000)) bt135.2 bt135.1)))))
theorem trig_Sin.mono_l : ∀ k, (∀ y0 y1 y2, LeO (trig_Sin.j0 k y0 y1 y2) (trig_Sin.j0 (k + 1) y0 y1 y2))
  | 0 => fun _ _ _ r h => by simp [trig_Sin.j0] at h
  | k + 1 => by
    have ih0 := trig_Sin.mono_l k
    · intro y0 y1 y2
      unfold trig_Sin.j0
      repeat' first
      | (with_reducible exact ih0 _ _ _)
      | (with_reducible exact trig_octant.mono _ _)
      | (with_reducible exact LeO.refl _)
      | (with_reducible exact LeO.none _)
      | (with_reducible refine LeO.ite ?_ ?_)
      | (with_reducible refine LeO.bind ?_ (fun _ => ?_))
      | exact ih0 _ _ _
      | exact trig_octant.mono _ _
      | exact LeO.none _
      | refine LeO.ite ?_ ?_
      | refine LeO.bind ?_ (fun _ => ?_)
theorem trig_Sin.mono : ∀ a0 k, LeO (trig_Sin.f k a0) (trig_Sin.f (k + 1) a0) := by
  intro a0 k
  have ih0 := trig_Sin.mono_l k
  unfold trig_Sin.f
  repeat' first
      | (with_reducible exact ih0 _ _ _)
      | (with_reducible exact trig_octant.mono _ _)
      | (with_reducible exact LeO.refl _)
      | (with_reducible exact LeO.none _)
      | (with_reducible refine LeO.ite ?_ ?_)
      | (with_reducible refine LeO.bind ?_ (fun _ => ?_))
      | exact ih0 _ _ _
      | exact trig_octant.mono _ _
      | exact LeO.none _
      | refine LeO.ite ?_ ?_
      | refine LeO.bind ?_ (fun _ => ?_)

/-! ### the Lean function trig_passes: function 46 -/
def trig_passes.f (a0_0 : Int) (a0_1 : Int) (a1 : Int) : Option (Bool) := (interval_Floor.f (wrap64 (a0_1 - a1)) 1000000000).bind fun t150 => (some (decide ((wrap64 (t150 * 1000000000)) ≥ (wrap64 (a0_0 - a1)))))

/-! ### the Lean function trig_SinOver: function 30 -/
def trig_SinOver.f (k : Nat) (a0_0 : Int) (a0_1 : Int) : Option (Int × Int × Int) := (interval_Check.f k a0_0 a0_1).bind fun t153 => (if t153 = 0 then ((trig_Sin.f k a0_0).bind fun bt154 => ((trig_Sin.f k a0_1).bind fun bt158 => ((trig_passes.f a0_0 a0_1 250000000).bind fun t163 => (if t163 = true then ((trig_passes.f a0_0 a0_1 750000000).bind fun t164 => (if t164 = true then (some ((-1000000000), 1000000000, 0)) else (some (mn bt154.1 bt158.1, 1000000000, 0)))) else ((trig_passes.f a0_0 a0_1 750000000).bind fun t165 => (if t165 = true then (some ((-1000000000), mx bt154.2.1 bt158.2.1, 0)) else (some (mn bt154.1 bt158.1, mx bt154.2.1 bt158.2.1, 0)))))))) else (some (0, 0, t153)))
theorem trig_SinOver.mono : ∀ a0 a1 k, LeO (trig_SinOver.f k a0 a1) (trig_SinOver.f (k + 1) a0 a1) := by
  intro a0 a1 k
  unfold trig_SinOver.f
  repeat' first
      | (with_reducible exact interval_Check.mono _ _ _)
      | (with_reducible exact trig_Sin.mono _ _)
      | (with_reducible exact LeO.refl _)
      | (with_reducible exact LeO.none _)
      | (with_reducible refine LeO.ite ?_ ?_)
      | (with_reducible refine LeO.bind ?_ (fun _ => ?_))
      | exact interval_Check.mono _ _ _
      | exact trig_Sin.mono _ _
      | exact LeO.none _
      | refine LeO.ite ?_ ?_
      | refine LeO.bind ?_ (fun _ => ?_)

/-! ### the Lean function series_Turned: function 40 -/
def series_Turned.j0 : Nat → Int → Int → Int → Int → Int → Option (Int)
  | 0, _, _, _, _, _ => none
  | k + 1, x0, x5, x6, x7, x8 => if x5 < 0 then ((interval_Floor.f x0 86400000).bind fun t168 => ((interval_Floor.f (wrap64 ((wrap64 (-(wrap64 ((Int.tmod (wrap64 ((Int.tmod (wrap64 (x7 * (wrap64 (Int.tdiv x8 1000)))) 1000000000000000) * 1000)) 1000000000000000) + (Int.tmod (wrap64 (x7 * (Int.tmod x8 1000))) 1000000000000000))))) + (wrap64 ((wrap64 (t168 * x6)) + (wrap64 (Int.tdiv (wrap64 ((wrap64 (x0 - (wrap64 (t168 * 86400000)))) * x6)) 86400000)))))) 1000000000000000).bind fun t169 => (some (wrap64 ((wrap64 ((wrap64 (-(wrap64 ((Int.tmod (wrap64 ((Int.tmod (wrap64 (x7 * (wrap64 (Int.tdiv x8 1000)))) 1000000000000000) * 1000)) 1000000000000000) + (Int.tmod (wrap64 (x7 * (Int.tmod x8 1000))) 1000000000000000))))) + (wrap64 ((wrap64 (t168 * x6)) + (wrap64 (Int.tdiv (wrap64 ((wrap64 (x0 - (wrap64 (t168 * 86400000)))) * x6)) 86400000)))))) - (wrap64 (t169 * 1000000000000000))))))) else ((interval_Floor.f x0 86400000).bind fun t170 => ((interval_Floor.f (wrap64 ((wrap64 ((Int.tmod (wrap64 ((Int.tmod (wrap64 (x7 * (wrap64 (Int.tdiv x8 1000)))) 1000000000000000) * 1000)) 1000000000000000) + (Int.tmod (wrap64 (x7 * (Int.tmod x8 1000))) 1000000000000000))) + (wrap64 ((wrap64 (t170 * x6)) + (wrap64 (Int.tdiv (wrap64 ((wrap64 (x0 - (wrap64 (t170 * 86400000)))) * x6)) 86400000)))))) 1000000000000000).bind fun t171 => (some (wrap64 ((wrap64 ((wrap64 ((Int.tmod (wrap64 ((Int.tmod (wrap64 (x7 * (wrap64 (Int.tdiv x8 1000)))) 1000000000000000) * 1000)) 1000000000000000) + (Int.tmod (wrap64 (x7 * (Int.tmod x8 1000))) 1000000000000000))) + (wrap64 ((wrap64 (t170 * x6)) + (wrap64 (Int.tdiv (wrap64 ((wrap64 (x0 - (wrap64 (t170 * 86400000)))) * x6)) 86400000)))))) - (wrap64 (t171 * 1000000000000000)))))))
def series_Turned.f (k : Nat) (a0 : Int) (a1 : Int) : Option (Int) := (interval_Floor.f a1 86400000).bind fun t166 => ((interval_Floor.f a0 1000000000000000).bind fun t167 => (if t166 < 0 then (series_Turned.j0 k a0 t166 (wrap64 (a1 - (wrap64 (t166 * 86400000)))) (wrap64 (a0 - (wrap64 (t167 * 1000000000000000)))) (wrap64 (-t166))) else (series_Turned.j0 k a0 t166 (wrap64 (a1 - (wrap64 (t166 * 86400000)))) (wrap64 (a0 - (wrap64 (t167 * 1000000000000000)))) t166)))
theorem series_Turned.mono_l : ∀ k, (∀ y0 y1 y2 y3 y4, LeO (series_Turned.j0 k y0 y1 y2 y3 y4) (series_Turned.j0 (k + 1) y0 y1 y2 y3 y4))
  | 0 => fun _ _ _ _ _ r h => by simp [series_Turned.j0] at h
  | k + 1 => by
    have ih0 := series_Turned.mono_l k
    · intro y0 y1 y2 y3 y4
      unfold series_Turned.j0
      repeat' first
      | (with_reducible exact ih0 _ _ _ _ _)
      | (with_reducible exact LeO.refl _)
      | (with_reducible exact LeO.none _)
      | (with_reducible refine LeO.ite ?_ ?_)
      | (with_reducible refine LeO.bind ?_ (fun _ => ?_))
      | exact ih0 _ _ _ _ _
      | exact LeO.none _
      | refine LeO.ite ?_ ?_
      | refine LeO.bind ?_ (fun _ => ?_)
theorem series_Turned.mono : ∀ a0 a1 k, LeO (series_Turned.f k a0 a1) (series_Turned.f (k + 1) a0 a1) := by
  intro a0 a1 k
  have ih0 := series_Turned.mono_l k
  unfold series_Turned.f
  repeat' first
      | (with_reducible exact ih0 _ _ _ _ _)
      | (with_reducible exact LeO.refl _)
      | (with_reducible exact LeO.none _)
      | (with_reducible refine LeO.ite ?_ ?_)
      | (with_reducible refine LeO.bind ?_ (fun _ => ?_))
      | exact ih0 _ _ _ _ _
      | exact LeO.none _
      | refine LeO.ite ?_ ?_
      | refine LeO.bind ?_ (fun _ => ?_)

/-! ### the Lean function series_sum: function 39 -/
def series_sum.l0 : Nat → Int → List (S85) → Int → Int → Int → Int → Option (Int × Int)
  | 0, _, _, _, _, _, _ => none
  | k + 1, x1, x25, x26, x27, x175000, x175001 => if x27 < x26 then (if 0 ≤ x27 then (if x27 < (x25.length : Int) then ((series_Turned.f k ((rd_T85 x25 x27).f2) x1).bind fun t177 => ((trig_SinOver.f k (wrap64 ((wrap64 (Int.tdiv t177 1000000)) + ((rd_T85 x25 x27).f1))) (wrap64 ((wrap64 ((wrap64 (Int.tdiv t177 1000000)) + ((rd_T85 x25 x27).f1))) + 1))).bind fun bt178 => ((interval_Scale.f bt178.1 bt178.2.1 ((rd_T85 x25 x27).f0) 1000000000).bind fun bt182 => (series_sum.l0 k x1 x25 x26 (wrap64 (x27 + 1)) (wrap64 (x175000 + bt182.1)) (wrap64 (x175001 + bt182.2.1)))))) else (none)) else (none)) else (some (x175000, x175001))
def series_sum.f (k : Nat) (a0_0 : Int) (a0_1 : Int) (l0_2 : List (S85)) (a0_3 : Int) (a1 : Int) : Option (Int × Int) := series_sum.l0 k a1 l0_2 (l0_2.length : Int) 0 (wrap64 (a0_0 - a0_3)) (wrap64 (a0_0 + a0_3))
theorem series_sum.mono_l : ∀ k, (∀ y0 y1 y2 y3 y4 y5, LeO (series_sum.l0 k y0 y1 y2 y3 y4 y5) (series_sum.l0 (k + 1) y0 y1 y2 y3 y4 y5))
  | 0 => fun _ _ _ _ _ _ r h => by simp [series_sum.l0] at h
  | k + 1 => by
    have ih0 := series_sum.mono_l k
    · intro y0 y1 y2 y3 y4 y5
      unfold series_sum.l0
      repeat' first
      | (with_reducible exact ih0 _ _ _ _ _ _)
      | (with_reducible exact series_Turned.mono _ _ _)
      | (with_reducible exact trig_SinOver.mono _ _ _)
      | (with_reducible exact LeO.refl _)
      | (with_reducible exact LeO.none _)
      | (with_reducible refine LeO.ite ?_ ?_)
      | (with_reducible refine LeO.bind ?_ (fun _ => ?_))
      | exact ih0 _ _ _ _ _ _
      | exact series_Turned.mono _ _ _
      | exact trig_SinOver.mono _ _ _
      | exact LeO.none _
      | refine LeO.ite ?_ ?_
      | refine LeO.bind ?_ (fun _ => ?_)
theorem series_sum.mono : ∀ a0 a1 a2 a3 a4 k, LeO (series_sum.f k a0 a1 a2 a3 a4) (series_sum.f (k + 1) a0 a1 a2 a3 a4) := by
  intro a0 a1 a2 a3 a4 k
  have ih0 := series_sum.mono_l k
  unfold series_sum.f
  repeat' first
      | (with_reducible exact ih0 _ _ _ _ _ _)
      | (with_reducible exact series_Turned.mono _ _ _)
      | (with_reducible exact trig_SinOver.mono _ _ _)
      | (with_reducible exact LeO.refl _)
      | (with_reducible exact LeO.none _)
      | (with_reducible refine LeO.ite ?_ ?_)
      | (with_reducible refine LeO.bind ?_ (fun _ => ?_))
      | exact ih0 _ _ _ _ _ _
      | exact series_Turned.mono _ _ _
      | exact trig_SinOver.mono _ _ _
      | exact LeO.none _
      | refine LeO.ite ?_ ?_
      | refine LeO.bind ?_ (fun _ => ?_)

/-! ### the Lean function series_Angle: function 24 -/
def series_Angle.f (k : Nat) (a0_0 : Int) (a0_1 : Int) (l0_2 : List (S85)) (a0_3 : Int) (a1 : Int) : Option (Int × Int × Int) := (series_check.f k a0_0 a0_1 l0_2 a0_3 a1).bind fun t188 => (if t188 = 0 then ((series_sum.f k a0_0 a0_1 l0_2 a0_3 a1).bind fun bt189 => ((series_Turned.f k a0_1 a1).bind fun t191 => ((series_Reduced.f (wrap64 (bt189.1 + (wrap64 (Int.tdiv t191 1000000)))) (wrap64 ((wrap64 (bt189.2 + (wrap64 (Int.tdiv t191 1000000)))) + 1))).bind fun bt193 => (some (bt193.1, bt193.2, 0))))) else (some (0, 0, t188)))
theorem series_Angle.mono : ∀ a0 a1 a2 a3 a4 k, LeO (series_Angle.f k a0 a1 a2 a3 a4) (series_Angle.f (k + 1) a0 a1 a2 a3 a4) := by
  intro a0 a1 a2 a3 a4 k
  unfold series_Angle.f
  repeat' first
      | (with_reducible exact series_Turned.mono _ _ _)
      | (with_reducible exact series_check.mono _ _ _ _ _ _)
      | (with_reducible exact series_sum.mono _ _ _ _ _ _)
      | (with_reducible exact LeO.refl _)
      | (with_reducible exact LeO.none _)
      | (with_reducible refine LeO.ite ?_ ?_)
      | (with_reducible refine LeO.bind ?_ (fun _ => ?_))
      | exact series_Turned.mono _ _ _
      | exact series_check.mono _ _ _ _ _ _
      | exact series_sum.mono _ _ _ _ _ _
      | exact LeO.none _
      | refine LeO.ite ?_ ?_
      | refine LeO.bind ?_ (fun _ => ?_)

/-! ### the Lean function planet_circle: function 41 -/
def planet_circle.f (a0_0 : ByteArray) (a0_1 : Int) (a0_2 : Int) (a0_3 : Int) : Option (Int × Int × (List (S85)) × Int) := some (a0_2, a0_3, ([] : List (S85)), 5000)

/-! ### the Lean function sun_Series: function 42 -/
def sun_Series.f  : Option (Int × Int × (List (S85)) × Int) := some (775342092, 2737909333333, (([(⟨5318339, 84888545, 2737778555556⟩ : S85), (⟨55536, 169777090, 5475557111112⟩ : S85)] : List (S85))), 2000)

/-! ### the Lean function sun_Longitude: function 27 -/
def sun_Longitude.f (k : Nat) (a0 : Int) : Option (Int × Int × Int) := (sun_Series.f).bind fun bt202 => ((series_Angle.f k bt202.1 bt202.2.1 bt202.2.2.1 bt202.2.2.2 a0).bind fun bt208 => (some (bt208.1, bt208.2.1, bt208.2.2)))
theorem sun_Longitude.mono : ∀ a0 k, LeO (sun_Longitude.f k a0) (sun_Longitude.f (k + 1) a0) := by
  intro a0 k
  unfold sun_Longitude.f
  repeat' first
      | (with_reducible exact series_Angle.mono _ _ _ _ _ _)
      | (with_reducible exact LeO.refl _)
      | (with_reducible exact LeO.none _)
      | (with_reducible refine LeO.ite ?_ ?_)
      | (with_reducible refine LeO.bind ?_ (fun _ => ?_))
      | exact series_Angle.mono _ _ _ _ _ _
      | exact LeO.none _
      | refine LeO.ite ?_ ?_
      | refine LeO.bind ?_ (fun _ => ?_)

/-! ### the Lean function trig_CosOver: function 31 -/
def trig_CosOver.f (k : Nat) (a0_0 : Int) (a0_1 : Int) : Option (Int × Int × Int) := (interval_Check.f k a0_0 a0_1).bind fun t213 => (if t213 = 0 then ((trig_Reduced.f a0_0).bind fun t214 => ((trig_SinOver.f k (wrap64 (a0_0 + (wrap64 ((wrap64 (t214 + 250000000)) - a0_0)))) (mn (wrap64 (a0_1 + (wrap64 ((wrap64 (t214 + 250000000)) - a0_0)))) (wrap64 ((wrap64 (a0_0 + (wrap64 ((wrap64 (t214 + 250000000)) - a0_0)))) + 1000000000)))).bind fun bt215 => (some (bt215.1, bt215.2.1, bt215.2.2)))) else (some (0, 0, t213)))
theorem trig_CosOver.mono : ∀ a0 a1 k, LeO (trig_CosOver.f k a0 a1) (trig_CosOver.f (k + 1) a0 a1) := by
  intro a0 a1 k
  unfold trig_CosOver.f
  repeat' first
      | (with_reducible exact interval_Check.mono _ _ _)
      | (with_reducible exact trig_SinOver.mono _ _ _)
      | (with_reducible exact LeO.refl _)
      | (with_reducible exact LeO.none _)
      | (with_reducible refine LeO.ite ?_ ?_)
      | (with_reducible refine LeO.bind ?_ (fun _ => ?_))
      | exact interval_Check.mono _ _ _
      | exact trig_SinOver.mono _ _ _
      | exact LeO.none _
      | refine LeO.ite ?_ ?_
      | refine LeO.bind ?_ (fun _ => ?_)

/-! ### the Lean function trig_reaches: function 66 -/
def trig_reaches.f (k : Nat) (a0 : Int) (a1 : Int) : Option (Bool) := (trig_octant.f k a1).bind fun bt218 => (some (decide ((wrap64 ((bt218.1 / 536870912) * 2147483648)) ≤ (wrap64 (a0 * (bt218.2 / 536870912))))))
theorem trig_reaches.mono : ∀ a0 a1 k, LeO (trig_reaches.f k a0 a1) (trig_reaches.f (k + 1) a0 a1) := by
  intro a0 a1 k
  unfold trig_reaches.f
  repeat' first
      | (with_reducible exact trig_octant.mono _ _)
      | (with_reducible exact LeO.refl _)
      | (with_reducible exact LeO.none _)
      | (with_reducible refine LeO.ite ?_ ?_)
      | (with_reducible refine LeO.bind ?_ (fun _ => ?_))
      | exact trig_octant.mono _ _
      | exact LeO.none _
      | refine LeO.ite ?_ ?_
      | refine LeO.bind ?_ (fun _ => ?_)

/-! ### the Lean function trig_acute: function 61 -/
mutual
def trig_acute.l0 : Nat → Int → Int → Option (Int)
  | 0, _, _ => none
  | k + 1, x0, x1 => if x1 ≥ 2147483648 then (trig_acute.l0 k (x0 / 2) (x1 / 2)) else (trig_acute.l1 k x0 x1)
def trig_acute.l1 : Nat → Int → Int → Option (Int)
  | 0, _, _ => none
  | k + 1, x0, x1 => if x1 < 1073741824 then (trig_acute.l1 k (wrap64 (x0 * 2)) (wrap64 (x1 * 2))) else (if x1 = 0 then (none) else (trig_acute.l2 k (wrap64 (Int.tdiv (wrap64 (x0 * 2147483648)) x1)) ((wrap64 ((wrap64 (Int.tdiv (wrap64 (x0 * 2147483648)) x1)) * 125000000)) / 2147483648) 0))
def trig_acute.l2 : Nat → Int → Int → Int → Option (Int)
  | 0, _, _, _ => none
  | k + 1, x5, x6, x30 => if x30 < 4 then ((trig_octant.f k x6).bind fun bt220 => (if (wrap64 (Int.tdiv (wrap64 ((wrap64 ((bt220.2 / 1073741824) * 2147483648)) + (wrap64 (x5 * (bt220.1 / 1073741824))))) 159154943)) = 0 then (none) else (trig_acute.l2 k x5 (mx 0 (mn 125000000 (wrap64 (x6 - (wrap64 (Int.tdiv (wrap64 ((wrap64 ((bt220.1 / 1073741824) * 2147483648)) - (wrap64 (x5 * (bt220.2 / 1073741824))))) (wrap64 (Int.tdiv (wrap64 ((wrap64 ((bt220.2 / 1073741824) * 2147483648)) + (wrap64 (x5 * (bt220.1 / 1073741824))))) 159154943)))))))) (wrap64 (x30 + 1))))) else (trig_acute.l3 k x5 x6)
def trig_acute.j4 : Nat → Int → Int → Option (Int)
  | 0, _, _ => none
  | k + 1, x5, x6 => trig_acute.l4 k x5 x6
def trig_acute.l4 : Nat → Int → Int → Option (Int)
  | 0, _, _ => none
  | k + 1, x5, x6 => if x6 < 125000000 then ((trig_reaches.f k x5 (wrap64 (x6 + 1))).bind fun t223 => (if t223 = true then (trig_acute.l4 k x5 (wrap64 (x6 + 1))) else (some x6))) else (some x6)
def trig_acute.l3 : Nat → Int → Int → Option (Int)
  | 0, _, _ => none
  | k + 1, x5, x6 => if x6 > 0 then ((trig_reaches.f k x5 x6).bind fun t222 => (if t222 = true then (trig_acute.j4 k x5 x6) else (trig_acute.l3 k x5 (wrap64 (x6 - 1))))) else (trig_acute.j4 k x5 x6)
end
def trig_acute.f (k : Nat) (a0 : Int) (a1 : Int) : Option (Int) := trig_acute.l0 k a0 a1
theorem trig_acute.mono_l : ∀ k, (∀ y0 y1, LeO (trig_acute.l0 k y0 y1) (trig_acute.l0 (k + 1) y0 y1)) ∧ (∀ y0 y1, LeO (trig_acute.l1 k y0 y1) (trig_acute.l1 (k + 1) y0 y1)) ∧ (∀ y0 y1 y2, LeO (trig_acute.l2 k y0 y1 y2) (trig_acute.l2 (k + 1) y0 y1 y2)) ∧ (∀ y0 y1, LeO (trig_acute.j4 k y0 y1) (trig_acute.j4 (k + 1) y0 y1)) ∧ (∀ y0 y1, LeO (trig_acute.l4 k y0 y1) (trig_acute.l4 (k + 1) y0 y1)) ∧ (∀ y0 y1, LeO (trig_acute.l3 k y0 y1) (trig_acute.l3 (k + 1) y0 y1))
  | 0 => ⟨fun _ _ r h => by simp [trig_acute.l0] at h, fun _ _ r h => by simp [trig_acute.l1] at h, fun _ _ _ r h => by simp [trig_acute.l2] at h, fun _ _ r h => by simp [trig_acute.j4] at h, fun _ _ r h => by simp [trig_acute.l4] at h, fun _ _ r h => by simp [trig_acute.l3] at h⟩
  | k + 1 => by
    obtain ⟨ih0, ih1, ih2, ih3, ih4, ih5⟩ := trig_acute.mono_l k
    refine ⟨?_, ?_, ?_, ?_, ?_, ?_⟩
    · intro y0 y1
      unfold trig_acute.l0
      repeat' first
      | (with_reducible exact ih0 _ _)
      | (with_reducible exact ih1 _ _)
      | (with_reducible exact ih2 _ _ _)
      | (with_reducible exact ih3 _ _)
      | (with_reducible exact ih4 _ _)
      | (with_reducible exact ih5 _ _)
      | (with_reducible exact trig_octant.mono _ _)
      | (with_reducible exact trig_reaches.mono _ _ _)
      | (with_reducible exact LeO.refl _)
      | (with_reducible exact LeO.none _)
      | (with_reducible refine LeO.ite ?_ ?_)
      | (with_reducible refine LeO.bind ?_ (fun _ => ?_))
      | exact ih0 _ _
      | exact ih1 _ _
      | exact ih2 _ _ _
      | exact ih3 _ _
      | exact ih4 _ _
      | exact ih5 _ _
      | exact trig_octant.mono _ _
      | exact trig_reaches.mono _ _ _
      | exact LeO.none _
      | refine LeO.ite ?_ ?_
      | refine LeO.bind ?_ (fun _ => ?_)
    · intro y0 y1
      unfold trig_acute.l1
      repeat' first
      | (with_reducible exact ih0 _ _)
      | (with_reducible exact ih1 _ _)
      | (with_reducible exact ih2 _ _ _)
      | (with_reducible exact ih3 _ _)
      | (with_reducible exact ih4 _ _)
      | (with_reducible exact ih5 _ _)
      | (with_reducible exact trig_octant.mono _ _)
      | (with_reducible exact trig_reaches.mono _ _ _)
      | (with_reducible exact LeO.refl _)
      | (with_reducible exact LeO.none _)
      | (with_reducible refine LeO.ite ?_ ?_)
      | (with_reducible refine LeO.bind ?_ (fun _ => ?_))
      | exact ih0 _ _
      | exact ih1 _ _
      | exact ih2 _ _ _
      | exact ih3 _ _
      | exact ih4 _ _
      | exact ih5 _ _
      | exact trig_octant.mono _ _
      | exact trig_reaches.mono _ _ _
      | exact LeO.none _
      | refine LeO.ite ?_ ?_
      | refine LeO.bind ?_ (fun _ => ?_)
    · intro y0 y1 y2
      unfold trig_acute.l2
      repeat' first
      | (with_reducible exact ih0 _ _)
      | (with_reducible exact ih1 _ _)
      | (with_reducible exact ih2 _ _ _)
      | (with_reducible exact ih3 _ _)
      | (with_reducible exact ih4 _ _)
      | (with_reducible exact ih5 _ _)
      | (with_reducible exact trig_octant.mono _ _)
      | (with_reducible exact trig_reaches.mono _ _ _)
      | (with_reducible exact LeO.refl _)
      | (with_reducible exact LeO.none _)
      | (with_reducible refine LeO.ite ?_ ?_)
      | (with_reducible refine LeO.bind ?_ (fun _ => ?_))
      | exact ih0 _ _
      | exact ih1 _ _
      | exact ih2 _ _ _
      | exact ih3 _ _
      | exact ih4 _ _
      | exact ih5 _ _
      | exact trig_octant.mono _ _
      | exact trig_reaches.mono _ _ _
      | exact LeO.none _
      | refine LeO.ite ?_ ?_
      | refine LeO.bind ?_ (fun _ => ?_)
    · intro y0 y1
      unfold trig_acute.j4
      repeat' first
      | (with_reducible exact ih0 _ _)
      | (with_reducible exact ih1 _ _)
      | (with_reducible exact ih2 _ _ _)
      | (with_reducible exact ih3 _ _)
      | (with_reducible exact ih4 _ _)
      | (with_reducible exact ih5 _ _)
      | (with_reducible exact trig_octant.mono _ _)
      | (with_reducible exact trig_reaches.mono _ _ _)
      | (with_reducible exact LeO.refl _)
      | (with_reducible exact LeO.none _)
      | (with_reducible refine LeO.ite ?_ ?_)
      | (with_reducible refine LeO.bind ?_ (fun _ => ?_))
      | exact ih0 _ _
      | exact ih1 _ _
      | exact ih2 _ _ _
      | exact ih3 _ _
      | exact ih4 _ _
      | exact ih5 _ _
      | exact trig_octant.mono _ _
      | exact trig_reaches.mono _ _ _
      | exact LeO.none _
      | refine LeO.ite ?_ ?_
      | refine LeO.bind ?_ (fun _ => ?_)
    · intro y0 y1
      unfold trig_acute.l4
      repeat' first
      | (with_reducible exact ih0 _ _)
      | (with_reducible exact ih1 _ _)
      | (with_reducible exact ih2 _ _ _)
      | (with_reducible exact ih3 _ _)
      | (with_reducible exact ih4 _ _)
      | (with_reducible exact ih5 _ _)
      | (with_reducible exact trig_octant.mono _ _)
      | (with_reducible exact trig_reaches.mono _ _ _)
      | (with_reducible exact LeO.refl _)
      | (with_reducible exact LeO.none _)
      | (with_reducible refine LeO.ite ?_ ?_)
      | (with_reducible refine LeO.bind ?_ (fun _ => ?_))
      | exact ih0 _ _
      | exact ih1 _ _
      | exact ih2 _ _ _
      | exact ih3 _ _
      | exact ih4 _ _
      | exact ih5 _ _
      | exact trig_octant.mono _ _
      | exact trig_reaches.mono _ _ _
      | exact LeO.none _
      | refine LeO.ite ?_ ?_
      | refine LeO.bind ?_ (fun _ => ?_)
    · intro y0 y1
      unfold trig_acute.l3
      repeat' first
      | (with_reducible exact ih0 _ _)
      | (with_reducible exact ih1 _ _)
      | (with_reducible exact ih2 _ _ _)
      | (with_reducible exact ih3 _ _)
      | (with_reducible exact ih4 _ _)
      | (with_reducible exact ih5 _ _)
      | (with_reducible exact trig_octant.mono _ _)
      | (with_reducible exact trig_reaches.mono _ _ _)
      | (with_reducible exact LeO.refl _)
      | (with_reducible exact LeO.none _)
      | (with_reducible refine LeO.ite ?_ ?_)
      | (with_reducible refine LeO.bind ?_ (fun _ => ?_))
      | exact ih0 _ _
      | exact ih1 _ _
      | exact ih2 _ _ _
      | exact ih3 _ _
      | exact ih4 _ _
      | exact ih5 _ _
      | exact trig_octant.mono _ _
      | exact trig_reaches.mono _ _ _
      | exact LeO.none _
      | refine LeO.ite ?_ ?_
      | refine LeO.bind ?_ (fun _ => ?_)
theorem trig_acute.mono : ∀ a0 a1 k, LeO (trig_acute.f k a0 a1) (trig_acute.f (k + 1) a0 a1) := by
  intro a0 a1 k
  obtain ⟨ih0, ih1, ih2, ih3, ih4, ih5⟩ := trig_acute.mono_l k
  unfold trig_acute.f
  repeat' first
      | (with_reducible exact ih0 _ _)
      | (with_reducible exact ih1 _ _)
      | (with_reducible exact ih2 _ _ _)
      | (with_reducible exact ih3 _ _)
      | (with_reducible exact ih4 _ _)
      | (with_reducible exact ih5 _ _)
      | (with_reducible exact trig_octant.mono _ _)
      | (with_reducible exact trig_reaches.mono _ _ _)
      | (with_reducible exact LeO.refl _)
      | (with_reducible exact LeO.none _)
      | (with_reducible refine LeO.ite ?_ ?_)
      | (with_reducible refine LeO.bind ?_ (fun _ => ?_))
      | exact ih0 _ _
      | exact ih1 _ _
      | exact ih2 _ _ _
      | exact ih3 _ _
      | exact ih4 _ _
      | exact ih5 _ _
      | exact trig_octant.mono _ _
      | exact trig_reaches.mono _ _ _
      | exact LeO.none _
      | refine LeO.ite ?_ ?_
      | refine LeO.bind ?_ (fun _ => ?_)

/-! ### the Lean function trig_direction: function 48 -/
mutual
def trig_direction.j0 : Nat → Int → Int → Int → Int → Option (Int × Int)
  | 0, _, _, _, _ => none
  | k + 1, x0, x1, x5, x6 => if x6 < 0 then (trig_direction.j1 k x0 x1 x5 (wrap64 (-x6))) else (trig_direction.j1 k x0 x1 x5 x6)
def trig_direction.j1 : Nat → Int → Int → Int → Int → Option (Int × Int)
  | 0, _, _, _, _ => none
  | k + 1, x0, x1, x5, x6 => if x5 ≤ x6 then ((trig_acute.f k x5 x6).bind fun t226 => (trig_direction.j2 k x0 x1 (wrap64 (t226 - 1)) (wrap64 (t226 + 2)))) else ((trig_acute.f k x6 x5).bind fun t227 => (trig_direction.j2 k x0 x1 (wrap64 ((wrap64 (250000000 - t227)) - 2)) (wrap64 ((wrap64 (250000000 - t227)) + 1))))
def trig_direction.j2 : Nat → Int → Int → Int → Int → Option (Int × Int)
  | 0, _, _, _, _ => none
  | k + 1, x0, x1, x226000, x226001 => if x1 < 0 then (if x0 < 0 then ((trig_minus.f (wrap64 (500000000 - x226001)) (wrap64 (500000000 - x226000))).bind fun bt228 => (some (bt228.1, bt228.2))) else (some (wrap64 (500000000 - x226001), wrap64 (500000000 - x226000)))) else (if x0 < 0 then ((trig_minus.f x226000 x226001).bind fun bt230 => (some (bt230.1, bt230.2))) else (some (x226000, x226001)))
end
def trig_direction.f (k : Nat) (a0 : Int) (a1 : Int) : Option (Int × Int) := if a0 < 0 then (trig_direction.j0 k a0 a1 (wrap64 (-a0)) a1) else (trig_direction.j0 k a0 a1 a0 a1)
theorem trig_direction.mono_l : ∀ k, (∀ y0 y1 y2 y3, LeO (trig_direction.j0 k y0 y1 y2 y3) (trig_direction.j0 (k + 1) y0 y1 y2 y3)) ∧ (∀ y0 y1 y2 y3, LeO (trig_direction.j1 k y0 y1 y2 y3) (trig_direction.j1 (k + 1) y0 y1 y2 y3)) ∧ (∀ y0 y1 y2 y3, LeO (trig_direction.j2 k y0 y1 y2 y3) (trig_direction.j2 (k + 1) y0 y1 y2 y3))
  | 0 => ⟨fun _ _ _ _ r h => by simp [trig_direction.j0] at h, fun _ _ _ _ r h => by simp [trig_direction.j1] at h, fun _ _ _ _ r h => by simp [trig_direction.j2] at h⟩
  | k + 1 => by
    obtain ⟨ih0, ih1, ih2⟩ := trig_direction.mono_l k
    refine ⟨?_, ?_, ?_⟩
    · intro y0 y1 y2 y3
      unfold trig_direction.j0
      repeat' first
      | (with_reducible exact ih0 _ _ _ _)
      | (with_reducible exact ih1 _ _ _ _)
      | (with_reducible exact ih2 _ _ _ _)
      | (with_reducible exact trig_acute.mono _ _ _)
      | (with_reducible exact LeO.refl _)
      | (with_reducible exact LeO.none _)
      | (with_reducible refine LeO.ite ?_ ?_)
      | (with_reducible refine LeO.bind ?_ (fun _ => ?_))
      | exact ih0 _ _ _ _
      | exact ih1 _ _ _ _
      | exact ih2 _ _ _ _
      | exact trig_acute.mono _ _ _
      | exact LeO.none _
      | refine LeO.ite ?_ ?_
      | refine LeO.bind ?_ (fun _ => ?_)
    · intro y0 y1 y2 y3
      unfold trig_direction.j1
      repeat' first
      | (with_reducible exact ih0 _ _ _ _)
      | (with_reducible exact ih1 _ _ _ _)
      | (with_reducible exact ih2 _ _ _ _)
      | (with_reducible exact trig_acute.mono _ _ _)
      | (with_reducible exact LeO.refl _)
      | (with_reducible exact LeO.none _)
      | (with_reducible refine LeO.ite ?_ ?_)
      | (with_reducible refine LeO.bind ?_ (fun _ => ?_))
      | exact ih0 _ _ _ _
      | exact ih1 _ _ _ _
      | exact ih2 _ _ _ _
      | exact trig_acute.mono _ _ _
      | exact LeO.none _
      | refine LeO.ite ?_ ?_
      | refine LeO.bind ?_ (fun _ => ?_)
    · intro y0 y1 y2 y3
      unfold trig_direction.j2
      repeat' first
      | (with_reducible exact ih0 _ _ _ _)
      | (with_reducible exact ih1 _ _ _ _)
      | (with_reducible exact ih2 _ _ _ _)
      | (with_reducible exact trig_acute.mono _ _ _)
      | (with_reducible exact LeO.refl _)
      | (with_reducible exact LeO.none _)
      | (with_reducible refine LeO.ite ?_ ?_)
      | (with_reducible refine LeO.bind ?_ (fun _ => ?_))
      | exact ih0 _ _ _ _
      | exact ih1 _ _ _ _
      | exact ih2 _ _ _ _
      | exact trig_acute.mono _ _ _
      | exact LeO.none _
      | refine LeO.ite ?_ ?_
      | refine LeO.bind ?_ (fun _ => ?_)
theorem trig_direction.mono : ∀ a0 a1 k, LeO (trig_direction.f k a0 a1) (trig_direction.f (k + 1) a0 a1) := by
  intro a0 a1 k
  obtain ⟨ih0, ih1, ih2⟩ := trig_direction.mono_l k
  unfold trig_direction.f
  repeat' first
      | (with_reducible exact ih0 _ _ _ _)
      | (with_reducible exact ih1 _ _ _ _)
      | (with_reducible exact ih2 _ _ _ _)
      | (with_reducible exact trig_acute.mono _ _ _)
      | (with_reducible exact LeO.refl _)
      | (with_reducible exact LeO.none _)
      | (with_reducible refine LeO.ite ?_ ?_)
      | (with_reducible refine LeO.bind ?_ (fun _ => ?_))
      | exact ih0 _ _ _ _
      | exact ih1 _ _ _ _
      | exact ih2 _ _ _ _
      | exact trig_acute.mono _ _ _
      | exact LeO.none _
      | refine LeO.ite ?_ ?_
      | refine LeO.bind ?_ (fun _ => ?_)

/-! ### the Lean function trig_Arc: function 32 -/
/-- one corner more: its direction is taken into the interval -/
def trig_Arc.stp (k : Nat) (y x f0 : Int) (s : Int × Int) : Option (Int × Int) :=
  (trig_direction.f k y x).bind fun d => (interval_Floor.f (wrap64 ((wrap64 (d.1 - f0)) + 500000000)) 1000000000).bind fun q => some (mn s.1 (wrap64 (d.1 - wrap64 (q * 1000000000))), mx s.2 (wrap64 (d.2 - wrap64 (q * 1000000000))))
def ArcOk (a0_0 a0_1 a1_0 a1_1 : Int) : Prop := InR a0_0 ∧ a0_0 ≤ a0_1 ∧ InR a0_1 ∧ InR a1_0 ∧ a1_0 ≤ a1_1 ∧ InR a1_1
instance (a b c d : Int) : Decidable (ArcOk a b c d) := inferInstanceAs (Decidable (_ ∧ _ ∧ _ ∧ _ ∧ _ ∧ _))
def trig_Arc.f (k : Nat) (a0_0 : Int) (a0_1 : Int) (a1_0 : Int) (a1_1 : Int) : Option (Int × Int × Int) :=
  if ArcOk a0_0 a0_1 a1_0 a1_1 then
    (if a0_0 ≤ 0 ∧ 0 ≤ a0_1 ∧ a1_0 ≤ 0 ∧ 0 ≤ a1_1 then some (0, 0, 11) else
    (trig_direction.f k a0_0 a1_0).bind fun d => (trig_Arc.stp k a0_0 a1_1 d.1 d).bind fun s1 => (trig_Arc.stp k a0_1 a1_0 d.1 s1).bind fun s2 => (trig_Arc.stp k a0_1 a1_1 d.1 s2).bind fun s3 =>
      if 400000000 < wrap64 (s3.2 - s3.1) then some (0, 0, 11) else (interval_Floor.f s3.1 1000000000).bind fun q => some (wrap64 (s3.1 - wrap64 (q * 1000000000)), wrap64 (s3.2 - wrap64 (q * 1000000000)), 0))
  else none
theorem trig_Arc.stp_mono (k : Nat) (y x f0 : Int) (s : Int × Int) : LeO (trig_Arc.stp k y x f0 s) (trig_Arc.stp (k + 1) y x f0 s) := by
  unfold trig_Arc.stp
  exact LeO.bind (trig_direction.mono _ _ _) (fun _ _ h => h)
theorem trig_Arc.mono : ∀ a0 a1 a2 a3 k, LeO (trig_Arc.f k a0 a1 a2 a3) (trig_Arc.f (k + 1) a0 a1 a2 a3) := by
  intro a0 a1 a2 a3 k
  unfold trig_Arc.f
  refine LeO.ite ?_ (fun _ h => h)
  refine LeO.ite (LeO.refl _) ?_
  refine LeO.bind (trig_direction.mono _ _ _) (fun _ => ?_)
  refine LeO.bind (trig_Arc.stp_mono _ _ _ _ _) (fun _ => ?_)
  refine LeO.bind (trig_Arc.stp_mono _ _ _ _ _) (fun _ => ?_)
  exact LeO.bind (trig_Arc.stp_mono _ _ _ _ _) (fun _ _ h => h)
theorem acheck_ {x y : Int} (g1 : InR x) (g2 : x ≤ y) (g3 : InR y) : interval_Check.f 1 x y = some 0 := by
  obtain ⟨a1, a2⟩ := g1
  obtain ⟨b1, b2⟩ := g3
  unfold interval_Check.f interval_out.f
  rw [if_neg (by omega), if_neg (by omega)]
  simp only [Option.bind_some, interval_Check.j0]
  rw [decide_eq_false (by omega), decide_eq_false (by omega)]
  simp only [Bool.false_eq_true, if_false]
  rw [if_neg (by omega)]

/-! ### the Lean function ephemeriskeep2_PlanetNames: function 4 -/
def ephemeriskeep2_PlanetNames.f (a0 a1 : Int) : Option Bool := some true

/-- THE ONE PURE STATEMENT of ephemeriskeep2_PlanetNames. -/
def ephemeriskeep2_PlanetNames.Pure : Prop := ∀ (a0 : Int) (a1 : Int), (Lit.int .i64 a0).wf = true → (Lit.int .i64 a1).wf = true → ephemeriskeep2_PlanetNames.f a0 a1 = some true

end Go.Proofs.YtgmjgnojjbajdaaDoor.JG
