-- Made by a program of this session (wip/hp.py, over the kit's print) out of the translation. Not trusted: Lean checks it.
import Derived.Test.YtgmjgnojjbajdaaDoorJGx0
import Derived.Test.YtgmjgnojjbajdaaDoorJGx1
import Derived.Test.YtgmjgnojjbajdaaDoorJGx3
import Derived.Test.YtgmjgnojjbajdaaDoorJGx8
import Derived.Test.YtgmjgnojjbajdaaDoorJGx11
import Derived.Test.YtgmjgnojjbajdaaDoorJGx15
import Derived.Test.YtgmjgnojjbajdaaDoorJGx16
import Derived.Test.YtgmjgnojjbajdaaDoorJGx19
import Derived.Test.YtgmjgnojjbajdaaDoorOrb
namespace Go.Proofs.YtgmjgnojjbajdaaDoor.JG
open Go.RowKit Go.Proofs.YtgmjgnojjbajdaaDoorW.PrintWords Go.Proofs.YtgmjgnojjbajdaaDoorW.PrintLast Go.Proofs.YtgmjgnojjbajdaaDoorW.PrintMore
attribute [local go_sem] max2_int min2_int max_two min_two max_three min_three max_four min_four   -- for this text's walks alone
set_option linter.unusedVariables false
set_option linter.unusedSimpArgs false

/-! ### planet_Longitude: function 17 -/
-- hand
-- raw
-- IMPORT Derived.Test.YtgmjgnojjbajdaaDoorOrb
set_option maxHeartbeats 8000000 in
set_option maxRecDepth 100000 in
theorem psum_ok (a0 a1 b0 b1 r d p x0 x1 y0 y1 : Int) (n : ByteArray) (g : Nat) (w : World) (hg : w.heap[g]? = some (.cells #[.string n, .int .i64 r, .int .i64 d, .int .i64 p] 59 (0, 0)))
    (hx : interval_Scale.f a0 a1 r 1 = some (x0, x1, 0)) (hy : interval_Scale.f b0 b1 1000 1 = some (y0, y1, 0)) :
    Calls Tryd.prog 28 #[.agg #[.int .i64 a0, .int .i64 a1], .agg #[.int .i64 b0, .int .i64 b1], .pointer (some ⟨g, 0, none⟩)] w fun e w' => e = .returned (.agg #[.int .i64 (wrap64 (x0 + y0)), .int .i64 (wrap64 (x1 + y1))]) ∧ Below w.heap.size w w' := by
  have hu59 := Tryd.underlying59
  have hu28 := Tryd.underlying28
  have c1 : w.cell? ⟨g, 1, none⟩ = some (.int .i64 r) := (blk_cell hg 1).trans rfl
  have lg := blk_lt hg
  have HG := Aside0.mk hg
  clear hg
  go_enter Tryd.func28, Tryd.ntmps28
  go_upto_region 1 with (fail)
  have X3 : ((w.alloc (.cells #[.int .i64 a0, .int .i64 a1] 28)).alloc (.cells #[.int .i64 b0, .int .i64 b1] 28)).heap[w.heap.size + 1]? = some (.cells #[.int .i64 b0, .int .i64 b1] 28 (0, 0)) := by
    have h_ := blk_new (w.alloc (.cells #[.int .i64 a0, .int .i64 a1] 28)) (.cells #[.int .i64 b0, .int .i64 b1] 28)
    simpa using h_
  have X4 : (((w.alloc (.cells #[.int .i64 a0, .int .i64 a1] 28)).alloc (.cells #[.int .i64 b0, .int .i64 b1] 28)).alloc (.cells #[.int .i64 0, .int .i64 0] 28)).heap[w.heap.size + 2]? = some (.cells #[.int .i64 0, .int .i64 0] 28 (0, 0)) := by
    have h_ := blk_new ((w.alloc (.cells #[.int .i64 a0, .int .i64 a1] 28)).alloc (.cells #[.int .i64 b0, .int .i64 b1] 28)) (.cells #[.int .i64 0, .int .i64 0] 28)
    simpa using h_
  have H3 := Aside0.mk (blk_alloc X3 (.cells #[.int .i64 0, .int .i64 0] 28))
  have H4 := Aside0.mk X4
  have HB := Aside0.mk (below_alloc (below_alloc (below_alloc (Below.refl w.heap.size w) (.cells #[.int .i64 a0, .int .i64 a1] 28)) (.cells #[.int .i64 b0, .int .i64 b1] 28)) (.cells #[.int .i64 0, .int .i64 0] 28))
  have X2 := blk_alloc (blk_alloc (blk_new w (.cells #[.int .i64 a0, .int .i64 a1] 28)) (.cells #[.int .i64 b0, .int .i64 b1] 28)) (.cells #[.int .i64 0, .int .i64 0] 28)
  have X1 := blk_alloc (blk_alloc (blk_alloc HG.out (.cells #[.int .i64 a0, .int .i64 a1] 28)) (.cells #[.int .i64 b0, .int .i64 b1] 28)) (.cells #[.int .i64 0, .int .i64 0] 28)
  clear X3 X4 c1 lg HG
  generalize ((w.alloc (.cells #[.int .i64 a0, .int .i64 a1] 28)).alloc (.cells #[.int .i64 b0, .int .i64 b1] 28)).alloc (.cells #[.int .i64 0, .int .i64 0] 28) = w0 at *
  have c1 : w0.cell? ⟨g, 1, none⟩ = some (.int .i64 r) := (blk_cell X1 1).trans rfl
  have q0 : w0.cell? ⟨w.heap.size, 0, none⟩ = some (.int .i64 a0) := (blk_cell X2 0).trans rfl
  have q1 : w0.cell? ⟨w.heap.size, 1, none⟩ = some (.int .i64 a1) := (blk_cell X2 1).trans rfl
  clear X1 X2
  go_wp2_with fail
  refine (interval_Scale.calls a0 a1 r 1 x0 x1 0 _ hx).mono ?_
  rintro e w1 ⟨rfl, hb⟩
  have X3 := blk_below H3.out hb
  have X4 := blk_below H4.out hb
  have HB1 := Aside0.mk (below_step HB.out hb)
  have s0 : w1.cell? ⟨w.heap.size + 1, 0, none⟩ = some (.int .i64 b0) := (blk_cell X3 0).trans rfl
  have s1 : w1.cell? ⟨w.heap.size + 1, 1, none⟩ = some (.int .i64 b1) := (blk_cell X3 1).trans rfl
  have l3 := blk_lt X3
  have H4' := Aside0.mk X4
  clear hb X3 X4 H3 H4 HB c1 q0 q1
  go_wp2_with fail
  have HP := Aside0.mk (blk_new w1 (.cells #[.int .i64 x0, .int .i64 x1] 28))
  have H5 := Aside0.mk (blk_alloc H4'.out (.cells #[.int .i64 x0, .int .i64 x1] 28))
  have HB2 := Aside0.mk (below_alloc HB1.out (.cells #[.int .i64 x0, .int .i64 x1] 28))
  refine (interval_Scale.calls b0 b1 1000 1 y0 y1 0 _ hy).mono ?_
  rintro e w2 ⟨rfl, hb⟩
  have X4 := blk_below H5.out hb
  have XP := blk_below HP.out hb
  have HB3 := Aside0.mk (below_step HB2.out hb)
  have p0 : w2.cell? ⟨w1.heap.size, 0, none⟩ = some (.int .i64 x0) := (blk_cell XP 0).trans rfl
  have p1 : w2.cell? ⟨w1.heap.size, 1, none⟩ = some (.int .i64 x1) := (blk_cell XP 1).trans rfl
  have lp := blk_lt XP
  have z0 : w2.cell? ⟨w.heap.size + 2, 0, none⟩ = some (.int .i64 0) := (blk_cell X4 0).trans rfl
  have z1 : w2.cell? ⟨w.heap.size + 2, 1, none⟩ = some (.int .i64 0) := (blk_cell X4 1).trans rfl
  have f0 := blk_frozen X4 0
  have f1 := blk_frozen X4 1
  have l4 := blk_lt X4
  have H6 := Aside0.mk X4
  clear hb X4 XP s0 s1 l3 HP H5 HB2 H4' HB1
  go_wp2
  refine bodyPost_ret (results_cell_row rfl _ _ (w.heap.size + 2) 28 #[.int .i64 (wrap64 (x0 + y0)), .int .i64 (wrap64 (x1 + y1))] (0, 0) _ rfl (by
    (with_reducible repeat (first | refine blk_drewN ?_ _ | refine blk_drew ?_ | refine blk_alloc ?_ _)); refine blk_put (cs := #[.int .i64 (wrap64 (x0 + y0)), .int .i64 0]) ?_ 1 _ rfl; refine blk_put (cs := #[.int .i64 0, .int .i64 0]) ?_ 0 _ rfl; exact H6.out) Tryd.underlying28 rfl (by kernel_rfl)) rfl ⟨rfl, ?_⟩
  repeat (first | exact HB3.out | apply below_drew | apply pw_below_drewN | apply below_alloc | refine below_set ?_ (Nat.le_add_right _ 2))
/-- blocks that stand -/
def Bl_ (W : World) (L : List (Nat × Obj)) : Prop := ∀ p ∈ L, W.heap[p.1]? = some p.2
theorem Bl_.nil (W : World) : Bl_ W [] := fun p hp => by cases hp
theorem Bl_.step {W W1 : World} {L : List (Nat × Obj)} (h : Bl_ W L) (hb : Below W.heap.size W W1) : Bl_ W1 L := fun p hp => blk_below (h p hp) hb
theorem Bl_.new {W : World} {L : List (Nat × Obj)} (h : Bl_ W L) (o : Obj) : Bl_ (W.alloc o) ((W.heap.size, o) :: L) := fun p hp => by
  rcases List.mem_cons.1 hp with rfl | hp
  · exact blk_new W o
  · exact blk_alloc (h p hp) o
theorem Bl_.get {W : World} {L : List (Nat × Obj)} (h : Bl_ W L) (n : Nat) {g : Nat} {o : Obj} (e : L[n]? = some (g, o)) : W.heap[g]? = some o := h (g, o) (List.mem_of_getElem? e)
/-- but for a box at g all of W0 stands -/
def St_ (W0 : World) (g : Nat) (W : World) : Prop := KeepBut W0 W g none ∧ Below g W0 W ∧ ∃ a b, W.heap[g]? = some (.cells #[.int .i64 a, .int .i64 b] 28 (0, 0))
theorem St_.drew {W0 W : World} {g : Nat} (h : St_ W0 g W) : St_ W0 g W.drew := ⟨h.1, below_drew h.2.1, h.2.2⟩
theorem St_.step {W0 W W1 : World} {g : Nat} (h : St_ W0 g W) (hb : Below W.heap.size W W1) : St_ W0 g W1 := by
  obtain ⟨h1, h2, a, b, h3⟩ := h
  exact ⟨h1.trans (KeepBut.of_below hb g none) (.inl rfl), h2.trans (hb.mono (Nat.le_of_lt (blk_lt h3))), a, b, blk_below h3 hb⟩
theorem kset_ {W0 W : World} {g j : Nat} {u : Value} (h : KeepBut W0 W g none) : KeepBut W0 (W.setCell ⟨g, j, none⟩ u) g none :=
  ⟨Nat.le_trans h.1 (below_setg (Below.refl g W) (Nat.le_refl g)).size, fun i hi hne hr => (Below.heap_setCell W _ u i hne).trans (h.2 i hi hne hr)⟩
theorem St_.set0 {W0 W : World} {g : Nat} (h : St_ W0 g W) (v : Int) : St_ W0 g (W.setCell ⟨g, 0, none⟩ (.int .i64 v)) := by
  obtain ⟨h1, h2, a, b, h3⟩ := h
  exact ⟨kset_ h1, below_setg h2 (Nat.le_refl _), v, b, blk_put h3 0 _ rfl⟩
theorem St_.set1 {W0 W : World} {g : Nat} (h : St_ W0 g W) (v : Int) : St_ W0 g (W.setCell ⟨g, 1, none⟩ (.int .i64 v)) := by
  obtain ⟨h1, h2, a, b, h3⟩ := h
  exact ⟨kset_ h1, below_setg h2 (Nat.le_refl _), a, v, blk_put h3 1 _ rfl⟩
theorem St_.cell {W0 W : World} {g k j : Nat} {o : Obj} {v : Value} (h : St_ W0 g W) (hk : W0.heap[k]? = some o) (hne : k ≠ g) (hv : ∀ W' : World, W'.heap[k]? = some o → W'.cell? ⟨k, j, none⟩ = some v) : W.cell? ⟨k, j, none⟩ = some v := hv W ((h.1.2 k (blk_lt hk) hne (by simp)).trans hk)
theorem St_.blk {W0 W : World} {g k : Nat} {o : Obj} (h : St_ W0 g W) (hk : W0.heap[k]? = some o) (hne : k ≠ g) : W.heap[k]? = some o := (h.1.2 k (blk_lt hk) hne (by simp)).trans hk
set_option maxHeartbeats 8000000 in
set_option maxRecDepth 100000 in
theorem longitude_ok (k i : Nat) (hi : i < 5) (t h0 h1 s0 s1 a0 a1 b0 b1 c0 c1 d0 d1 y0 y1 x0 x1 lo hh : Int) (w : World) (ht_ : Aside0 (Tab_ w)) (ha : series_Angle.f k (lx_ i).2.2.1 (lx_ i).2.2.2 [] 5000 t = some (h0, h1, 0))
    (hs : sun_Longitude.f k t = some (s0, s1, 0)) (q1 : trig_SinOver.f k h0 h1 = some (a0, a1, 0)) (q2 : trig_SinOver.f k s0 s1 = some (b0, b1, 0)) (q3 : trig_CosOver.f k h0 h1 = some (c0, c1, 0)) (q4 : trig_CosOver.f k s0 s1 = some (d0, d1, 0))
    (m1 : interval_Scale.f a0 a1 (lx_ i).2.1 1 = some (a0 * (lx_ i).2.1, a1 * (lx_ i).2.1, 0)) (m2 : interval_Scale.f b0 b1 1000 1 = some (b0 * 1000, b1 * 1000, 0)) (m3 : interval_Scale.f c0 c1 (lx_ i).2.1 1 = some (c0 * (lx_ i).2.1, c1 * (lx_ i).2.1, 0)) (m4 : interval_Scale.f d0 d1 1000 1 = some (d0 * 1000, d1 * 1000, 0))
    (w1 : wrap64 (a0 * (lx_ i).2.1 + b0 * 1000) = y0) (w2 : wrap64 (a1 * (lx_ i).2.1 + b1 * 1000) = y1) (w3 : wrap64 (c0 * (lx_ i).2.1 + d0 * 1000) = x0) (w4 : wrap64 (c1 * (lx_ i).2.1 + d1 * 1000) = x1) (hr : trig_Arc.f k y0 y1 x0 x1 = some (lo, hh, 0)) :
    Calls Tryd.prog 17 #[.string (lx_ i).1, .int .i64 t] w fun e w' => e = .returned (.tuple #[.agg #[.int .i64 lo, .int .i64 hh], .int .i64 0]) ∧ Below w.heap.size w w' := by
  have hu59 := Tryd.underlying59
  have hu28 := Tryd.underlying28
  have HB0 := Aside0.mk (below_alloc (Below.refl w.heap.size w) (sp_ 0 0))
  have L0 := Aside0.mk ((Bl_.nil w).new (sp_ 0 0))
  have HF := Aside0.mk (find_ok i hi (w.alloc (sp_ 0 0)) (tabz_ ht_ HB0.out))
  unfold pv_ at HF
  have HH := Aside0.mk (fun w' h => helio_ok k i hi t h0 h1 w' h ha)
  have P1 := Aside0.mk (fun (w' : World) (g : Nat) n d p hg => psum_ok a0 a1 b0 b1 (lx_ i).2.1 d p _ _ _ _ n g w' hg m1 m2)
  have P2 := Aside0.mk (fun (w' : World) (g : Nat) n d p hg => psum_ok c0 c1 d0 d1 (lx_ i).2.1 d p _ _ _ _ n g w' hg m3 m4)
  rw [w1, w2] at P1
  rw [w3, w4] at P2
  have Hs := Aside0.mk hs
  have Q1 := Aside0.mk q1
  have Q2 := Aside0.mk q2
  have Q3 := Aside0.mk q3
  have Q4 := Aside0.mk q4
  have HR := Aside0.mk hr
  clear ha hs q1 q2 q3 q4 hr m1 m2 m3 m4 w1 w2 w3 w4
  generalize (lx_ i).1 = n_ at HF HH ⊢
  generalize (lx_ i).2.1 = r_ at HF P1 P2 ⊢
  generalize (lx_ i).2.2.1 = p_ at HF ⊢
  generalize (lx_ i).2.2.2 = e_ at HF ⊢
  go_enter Tryd.func17, Tryd.ntmps17
  go_wp2_with fail
  refine HF.out.mono ?_
  rintro e v1 ⟨rfl, hb⟩
  have L1 := Aside0.mk (L0.out.step hb)
  have E1 := Aside0.mk (blk_lt (L1.out.get 0 rfl))
  have HB1 := Aside0.mk (below_step HB0.out hb)
  clear hb L0 HB0 HF
  go_wp2_with fail
  have B1 := below_alloc HB1.out (.cells #[.string n_, .int .i64 r_, .int .i64 p_, .int .i64 e_] 59)
  refine (HH.out _ (tabz_ ht_ B1)).mono ?_
  rintro e v2 ⟨rfl, hb⟩
  have L2 := Aside0.mk ((L1.out.new (.cells #[.string n_, .int .i64 r_, .int .i64 p_, .int .i64 e_] 59)).step hb)
  have HB2 := Aside0.mk (below_step B1 hb)
  clear hb L1 HB1 B1 HH
  go_wp2_with fail
  refine (sun_Longitude.calls k t s0 s1 0 _ Hs.out).mono ?_
  rintro e v3 ⟨rfl, hb⟩
  have L3 := Aside0.mk ((L2.out.new (sp_ h0 h1)).step hb)
  have HB3 := Aside0.mk (below_step (below_alloc HB2.out (sp_ h0 h1)) hb)
  have X := L3.out.get 0 rfl
  have z0 : v3.cell? ⟨v2.heap.size, 0, none⟩ = some (.int .i64 h0) := (blk_cell X 0).trans rfl
  have z1 : v3.cell? ⟨v2.heap.size, 1, none⟩ = some (.int .i64 h1) := (blk_cell X 1).trans rfl
  have lz := blk_lt X
  clear hb L2 HB2 X
  go_wp2_with fail
  refine (trig_SinOver.calls k h0 h1 a0 a1 0 _ Q1.out).mono ?_
  rintro e v4 ⟨rfl, hb⟩
  have L4 := Aside0.mk ((L3.out.new (sp_ s0 s1)).step hb)
  have E4 := Aside0.mk (blk_lt (L4.out.get 3 rfl))
  have HB4 := Aside0.mk (below_step (below_alloc HB3.out (sp_ s0 s1)) hb)
  clear z0 z1 lz hb L3 HB3
  have X := L4.out.get 0 rfl
  have z0 : v4.cell? ⟨v3.heap.size, 0, none⟩ = some (.int .i64 s0) := (blk_cell X 0).trans rfl
  have z1 : v4.cell? ⟨v3.heap.size, 1, none⟩ = some (.int .i64 s1) := (blk_cell X 1).trans rfl
  have lz := blk_lt X
  clear X
  go_wp2_with fail
  refine (trig_SinOver.calls k s0 s1 b0 b1 0 _ Q2.out).mono ?_
  rintro e v5 ⟨rfl, hb⟩
  have L5 := Aside0.mk ((L4.out.new (sp_ a0 a1)).step hb)
  have E5 := Aside0.mk (blk_lt (L5.out.get 4 rfl))
  have HB5 := Aside0.mk (below_step (below_alloc HB4.out (sp_ a0 a1)) hb)
  clear z0 z1 lz hb L4 HB4
  have X := L5.out.get 2 rfl
  have z0 : v5.cell? ⟨v2.heap.size, 0, none⟩ = some (.int .i64 h0) := (blk_cell X 0).trans rfl
  have z1 : v5.cell? ⟨v2.heap.size, 1, none⟩ = some (.int .i64 h1) := (blk_cell X 1).trans rfl
  have lz := blk_lt X
  clear X
  go_wp2_with fail
  refine (trig_CosOver.calls k h0 h1 c0 c1 0 _ Q3.out).mono ?_
  rintro e v6 ⟨rfl, hb⟩
  have L6 := Aside0.mk ((L5.out.new (sp_ b0 b1)).step hb)
  have E6 := Aside0.mk (blk_lt (L6.out.get 5 rfl))
  have HB6 := Aside0.mk (below_step (below_alloc HB5.out (sp_ b0 b1)) hb)
  clear z0 z1 lz hb L5 HB5
  have X := L6.out.get 2 rfl
  have z0 : v6.cell? ⟨v3.heap.size, 0, none⟩ = some (.int .i64 s0) := (blk_cell X 0).trans rfl
  have z1 : v6.cell? ⟨v3.heap.size, 1, none⟩ = some (.int .i64 s1) := (blk_cell X 1).trans rfl
  have lz := blk_lt X
  clear X
  go_wp2_with fail
  refine (trig_CosOver.calls k s0 s1 d0 d1 0 _ Q4.out).mono ?_
  rintro e v7 ⟨rfl, hb⟩
  have L7 := Aside0.mk ((L6.out.new (sp_ c0 c1)).step hb)
  have HB7 := Aside0.mk (below_step (below_alloc HB6.out (sp_ c0 c1)) hb)
  clear z0 z1 lz hb L6 HB6
  go_wp2_with fail
  have L8 := L7.out.new (sp_ d0 d1)
  have HB8 := Aside0.mk (below_alloc HB7.out (sp_ d0 d1))
  change Code.wp _ _ _ _ (v7.alloc (sp_ d0 d1))
  have e1 : v1.heap.size ≠ w.heap.size := Nat.ne_of_gt E1.out
  have e4 : v4.heap.size ≠ w.heap.size := Nat.ne_of_gt E4.out
  have e5 : v5.heap.size ≠ w.heap.size := Nat.ne_of_gt E5.out
  have e6 : v6.heap.size ≠ w.heap.size := Nat.ne_of_gt E6.out
  have e7 : v7.heap.size ≠ w.heap.size := Nat.ne_of_gt (blk_lt (L7.out.get 6 rfl))
  generalize v7.alloc (sp_ d0 d1) = W0 at *
  have X0 := L8.get 7 rfl
  have XO := L8.get 6 rfl
  have A0 := L8.get 3 rfl
  have B0 := L8.get 2 rfl
  have C0 := L8.get 1 rfl
  have D0 := L8.get 0 rfl
  clear L8 L7 HB7 E1 E4 E5 E6
  generalize v7.heap.size = g7 at *
  generalize v6.heap.size = g6 at *
  generalize v5.heap.size = g5 at *
  generalize v4.heap.size = g4 at *
  generalize v1.heap.size = g1 at *
  have S0 : St_ W0 w.heap.size W0.drew := St_.drew ⟨KeepBut.refl W0 _ none, Below.refl _ W0, 0, 0, X0⟩
  have HG := Aside0.mk (fun (W : World) (h : St_ W0 w.heap.size W) => h.blk XO e1)
  have ka0 : ∀ W : World, St_ W0 w.heap.size W → W.cell? ⟨g4, 0, none⟩ = some (.int .i64 a0) := fun W h => (blk_cell (h.blk A0 e4) 0).trans rfl
  have ka1 : ∀ W : World, St_ W0 w.heap.size W → W.cell? ⟨g4, 1, none⟩ = some (.int .i64 a1) := fun W h => (blk_cell (h.blk A0 e4) 1).trans rfl
  have kb0 : ∀ W : World, St_ W0 w.heap.size W → W.cell? ⟨g5, 0, none⟩ = some (.int .i64 b0) := fun W h => (blk_cell (h.blk B0 e5) 0).trans rfl
  have kb1 : ∀ W : World, St_ W0 w.heap.size W → W.cell? ⟨g5, 1, none⟩ = some (.int .i64 b1) := fun W h => (blk_cell (h.blk B0 e5) 1).trans rfl
  have kc0 : ∀ W : World, St_ W0 w.heap.size W → W.cell? ⟨g6, 0, none⟩ = some (.int .i64 c0) := fun W h => (blk_cell (h.blk C0 e6) 0).trans rfl
  have kc1 : ∀ W : World, St_ W0 w.heap.size W → W.cell? ⟨g6, 1, none⟩ = some (.int .i64 c1) := fun W h => (blk_cell (h.blk C0 e6) 1).trans rfl
  have kd0 : ∀ W : World, St_ W0 w.heap.size W → W.cell? ⟨g7, 0, none⟩ = some (.int .i64 d0) := fun W h => (blk_cell (h.blk D0 e7) 0).trans rfl
  have kd1 : ∀ W : World, St_ W0 w.heap.size W → W.cell? ⟨g7, 1, none⟩ = some (.int .i64 d1) := fun W h => (blk_cell (h.blk D0 e7) 1).trans rfl
  clear A0 B0 C0 D0 X0 XO
  go_region_held3 (fun W => St_ W0 w.heap.size W) (repeat (first | (with_reducible assumption) | exact S0 | refine St_.set1 ?_ _ | refine St_.set0 ?_ _ | refine St_.step ?_ hb3 | refine St_.step ?_ hb2 | refine St_.step ?_ hb1)) (first | (go_at_call 28; (with_reducible refine (P1.out _ g1 n_ p_ e_ (HG.out _ (by assumption))).mono ?_); rintro e w8 ⟨rfl, hb1⟩) | (go_at_call 28; (with_reducible refine (P2.out _ g1 n_ p_ e_ (HG.out _ (by assumption))).mono ?_); rintro e w9 ⟨rfl, hb2⟩) | (go_at_call 32; (with_reducible refine (trig_Arc.calls k y0 y1 x0 x1 lo hh 0 _ HR.out).mono ?_); rintro e w10 ⟨rfl, hb3⟩; have S3 := St_.step (W0 := W0) (g := w.heap.size) (by assumption) hb3; obtain ⟨-, -, za, zb, hz⟩ := id S3; have z0 : w10.cell? ⟨w.heap.size, 0, none⟩ = some (.int .i64 za) := (blk_cell hz 0).trans rfl; have z1 : w10.cell? ⟨w.heap.size, 1, none⟩ = some (.int .i64 zb) := (blk_cell hz 1).trans rfl; have f0 := blk_frozen hz 0; have f1 := blk_frozen hz 1))
  all_goals
    go_wp2
    refine bodyPost_ret (results_ct rfl _ _ w.heap.size 28 #[.int .i64 lo, .int .i64 hh] (0, 0) _ rfl (by
      (with_reducible repeat (first | refine blk_drewN ?_ _ | refine blk_drew ?_)); refine blk_put (cs := #[.int .i64 lo, .int .i64 zb]) ?_ 1 _ rfl; refine blk_put (cs := #[.int .i64 za, .int .i64 zb]) ?_ 0 _ rfl; exact hz) Tryd.underlying28 rfl (by kernel_rfl)) rfl ⟨rfl, ?_⟩
    refine HB8.out.trans ?_
    exact below_setg (below_setg S3.2.1 (Nat.le_refl _)) (Nat.le_refl _)

end Go.Proofs.YtgmjgnojjbajdaaDoor.JG
