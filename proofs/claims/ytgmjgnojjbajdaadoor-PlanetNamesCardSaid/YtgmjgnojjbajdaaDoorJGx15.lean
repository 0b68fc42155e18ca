-- Made by a program of this session (wip/hp.py, over the kit's print) out of the translation. Not trusted: Lean checks it.
import Derived.Test.YtgmjgnojjbajdaaDoorJGx0
import Derived.Test.YtgmjgnojjbajdaaDoorJGx1
import Derived.Test.YtgmjgnojjbajdaaDoorJGx3
import Derived.Test.YtgmjgnojjbajdaaDoorJGx4
import Derived.Test.YtgmjgnojjbajdaaDoorJGx13
import Derived.Test.YtgmjgnojjbajdaaDoorJGx14
import Derived.Test.YtgmjgnojjbajdaaDoorOrb
namespace Go.Proofs.YtgmjgnojjbajdaaDoor.JG
open Go.RowKit Go.Proofs.YtgmjgnojjbajdaaDoorW.PrintWords Go.Proofs.YtgmjgnojjbajdaaDoorW.PrintLast Go.Proofs.YtgmjgnojjbajdaaDoorW.PrintMore
attribute [local go_sem] max2_int min2_int max_two min_two max_three min_three max_four min_four   -- for this text's walks alone
set_option linter.unusedVariables false
set_option linter.unusedSimpArgs false

/-! ### planet_Helio: function 25 -/
-- hand
-- raw
-- IMPORT Derived.Test.YtgmjgnojjbajdaaDoorOrb
def sp_ (a b : Int) : Obj := .cells #[.int .i64 a, .int .i64 b] 28
set_option maxHeartbeats 8000000 in
set_option maxRecDepth 100000 in
theorem helio_ok (k i : Nat) (hi : i < 5) (t r1 r2 : Int) (w : World) (ht_ : Aside0 (Tab_ w)) (ha : series_Angle.f k (lx_ i).2.2.1 (lx_ i).2.2.2 [] 5000 t = some (r1, r2, 0)) :
    Calls Tryd.prog 25 #[.string (lx_ i).1, .int .i64 t] w fun e w' => e = .returned (.tuple #[.agg #[.int .i64 r1, .int .i64 r2], .int .i64 0]) ∧ Below w.heap.size w w' := by
  have hu59 := Tryd.underlying59
  have hu28 := Tryd.underlying28
  have HX := Aside0.mk (blk_new w (.cells #[.int .i64 0, .int .i64 0] 28))
  have HB0 := Aside0.mk (below_alloc (Below.refl w.heap.size w) (.cells #[.int .i64 0, .int .i64 0] 28))
  have HF := Aside0.mk (find_ok i hi (w.alloc (.cells #[.int .i64 0, .int .i64 0] 28)) (tabz_ ht_ HB0.out))
  unfold pv_ at HF
  have HA := Aside0.mk ha
  clear ha
  generalize (lx_ i).1 = n_ at HF ⊢
  generalize (lx_ i).2.1 = r_ at HF ⊢
  generalize (lx_ i).2.2.1 = d_ at HF HA ⊢
  generalize (lx_ i).2.2.2 = e_ at HF HA ⊢
  go_enter Tryd.func25, Tryd.ntmps25
  go_wp2_with fail
  refine HF.out.mono ?_
  rintro e w1 ⟨rfl, hb⟩
  have HX1 := Aside0.mk (blk_below HX.out hb)
  have HB1 := Aside0.mk (below_step HB0.out hb)
  clear hb HX HB0 HF
  go_wp2_with fail
  refine (planet_circle.calls n_ r_ d_ e_ d_ e_ [] 5000 _ rfl).mono ?_
  rintro e w2 ⟨v, rfl, hR, hb⟩
  have HX2 := Aside0.mk (blk_below (blk_alloc HX1.out _) hb)
  have HB2 := Aside0.mk (below_step (below_alloc HB1.out _) hb)
  obtain ⟨A, cc, hv, hcc, hC⟩ := Kd.R_reads hR
  subst hv
  have HC := Aside0.mk hC
  have HCC := Aside0.mk hcc
  clear hR hb hC hcc HX1 HB1
  go_wp2_with fail
  refine (series_Angle.calls k d_ e_ A cc [] 5000 t r1 r2 0 _ HC.out HCC.out HA.out).mono ?_
  rintro e w3 ⟨rfl, hb⟩
  have X1 := blk_below HX2.out hb
  have HB3 := Aside0.mk (below_step HB2.out hb)
  have HX3 := Aside0.mk X1
  have z0 : w3.cell? ⟨w.heap.size, 0, none⟩ = some (.int .i64 0) := (blk_cell X1 0).trans rfl
  have z1 : w3.cell? ⟨w.heap.size, 1, none⟩ = some (.int .i64 0) := (blk_cell X1 1).trans rfl
  have f0 := blk_frozen X1 0
  have f1 := blk_frozen X1 1
  clear X1 hb HX2 HB2
  go_wp2
  refine bodyPost_ret (results_ct rfl _ _ w.heap.size 28 #[.int .i64 r1, .int .i64 r2] (0, 0) _ rfl (by
    (with_reducible repeat (first | refine blk_drewN ?_ _ | refine blk_drew ?_ | refine blk_alloc ?_ _)); refine blk_put (cs := #[.int .i64 r1, .int .i64 0]) ?_ 1 _ rfl; refine blk_put (cs := #[.int .i64 0, .int .i64 0]) ?_ 0 _ rfl; exact HX3.out) Tryd.underlying28 rfl (by kernel_rfl)) rfl ⟨rfl, ?_⟩
  repeat (first | exact HB3.out | apply below_drew | apply pw_below_drewN | apply below_alloc | refine below_set ?_ (Nat.le_refl _))

/-! ### ephemeriskeep2_planetWorks: function 14 -/
-- hand
-- raw
-- IMPORT Derived.Test.YtgmjgnojjbajdaaDoorOrb
theorem exA : series_Angle.f 53 214414189 1455613000000 [] 5000 0 = some (214409189, 214419190, 0) := by kernel_rfl
theorem exH : ephemeriskeep2_has.f 214409189 214419190 214414189 10001 = some true := by kernel_rfl
set_option maxHeartbeats 8000000 in
set_option maxRecDepth 100000 in
theorem works_ok (w : World) (ht_ : Aside0 (Tab_ w)) :
    Calls Tryd.prog 14 #[] w fun e w' => e = .returned (.bool true) ∧ Below w.heap.size w w' := by
  have hu28 := Tryd.underlying28
  go_enter Tryd.func14, Tryd.ntmps14
  go_wp2_with fail
  refine (helio_ok 53 2 (by decide) 0 214409189 214419190 w ht_ exA).mono ?_
  rintro e v1 ⟨rfl, hb⟩
  have HB1 := Aside0.mk (below_alloc hb (sp_ 214409189 214419190))
  have X := Aside0.mk (blk_new v1 (sp_ 214409189 214419190))
  have HB0 := Aside0.mk hb
  clear hb
  go_wp2_with fail
  refine (radius_ok 2 (by decide) _ (tabz_ ht_ HB1.out)).mono ?_
  rintro e v2 ⟨rfl, hb⟩
  have HB2 := Aside0.mk (below_step HB1.out hb)
  have X2 := blk_below X.out hb
  have z0 : v2.cell? ⟨v1.heap.size, 0, none⟩ = some (.int .i64 214409189) := (blk_cell X2 0).trans rfl
  have z1 : v2.cell? ⟨v1.heap.size, 1, none⟩ = some (.int .i64 214419190) := (blk_cell X2 1).trans rfl
  clear hb HB1 HB0 X X2
  go_wp2_with fail
  refine (ephemeriskeep2_has.calls 214409189 214419190 214414189 10001 true _ exH).mono ?_
  rintro e v3 ⟨rfl, hb⟩
  have HB3 := Aside0.mk (below_step HB2.out hb)
  clear z0 z1 hb HB2
  have r2 : (lx_ 2).2.1 = 1524 := rfl
  rw [r2]
  go_wp2_with fail
  refine (names_ok _ (tabz_ ht_ HB3.out)).mono ?_
  rintro e v4 ⟨v, rfl, hR, hb⟩
  have HB4 := Aside0.mk (below_step HB3.out hb)
  obtain ⟨A, cc, hv, hcc, hC⟩ := Kd.R_reads hR
  have h5 : (lt_.map fun x => x.1).length = 5 := rfl
  rw [h5] at hv
  subst hv
  clear hR hcc hC h5 hb HB3
  go_wp2
  go_ret
  refine ⟨rfl, ?_⟩
  repeat (first | exact HB4.out | apply below_drew | apply pw_below_drewN | apply below_alloc)

end Go.Proofs.YtgmjgnojjbajdaaDoor.JG
