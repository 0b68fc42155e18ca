-- Made by a program of this session (wip/hp.py, over the kit's print) out of the translation. Not trusted: Lean checks it.
import Derived.Test.YtmoffcpbmigngaaJDx0
import Derived.Test.YtmoffcpbmigngaaJDx2
import Derived.Test.YtmoffcpbmigngaaJDx6
namespace Go.Proofs.Ytmoffcpbmigngaa.JD
open Go.RowKit Go.Proofs.YtmoffcpbmigngaaW.PrintWords Go.Proofs.YtmoffcpbmigngaaW.PrintLast Go.Proofs.YtmoffcpbmigngaaW.PrintMore
attribute [local go_sem] max2_int min2_int max_two min_two max_three min_three max_four min_four   -- for this text's walks alone
set_option linter.unusedVariables false
set_option linter.unusedSimpArgs false

/-! ### trig_reaches: function 108 -/
set_option maxHeartbeats 8000000 in
set_option maxRecDepth 100000 in
theorem trig_reaches.calls (k : Nat) (a0 : Int) (a1 : Int) (r : Bool) (w : World) (h : trig_reaches.f k a0 a1 = some r) :
    Calls Try.prog 108 #[.int .i64 a0, .int .i64 a1] w fun e w' => e = .returned (.bool r) ∧ Below w.heap.size w w' := by
  have HB := Aside0.mk (Below.refl w.heap.size w)
  have H : ((trig_octant.f k a1).bind fun bt109 => (some (decide ((wrap64 ((bt109.1 / 536870912) * 2147483648)) ≤ (wrap64 (a0 * (bt109.2 / 536870912))))))) = some r := h
  clear h
  replace H := Option.bind_eq_some_iff.mp H
  obtain ⟨⟨t109, t110⟩, A30, H⟩ := H
  replace H : (some (decide ((wrap64 ((t109 / 536870912) * 2147483648)) ≤ (wrap64 (a0 * (t110 / 536870912)))))) = some r := H
  have A3 := Aside0.mk A30
  clear A30
  obtain rfl := Option.some.inj H
  go_enter Try.func108, Try.ntmps108
  go_wp2_with (first | ((with_reducible refine gate_callee (f := 92) rfl ?_); refine goesL_ (some 9) rfl rfl Try.func92 (by kernel_rfl) rfl #[.int .i64 a1] rfl (by (try simp only [List.map_toArray, List.map_cons, List.map_nil]); first | done | rfl | (simp only [List.length_drop, List.length_take]; rfl)) ?_; (with_reducible refine (trig_octant.calls k a1 t109 t110 _ A3.out).mono ?_); rintro e w4 ⟨rfl, hb⟩; refine ⟨_, rfl, ?_⟩; have n0_ := Aside0.mk (below_step (by repeat (first | (with_reducible first | exact HB.out | apply below_alloc | apply pw_below_drewN | apply below_drew1) | exact HB.out)) hb); clear HB; have HB := n0_; clear n0_; (try clear hb); (try clear hb2); (try clear hk); (try clear hi)))
  go_ret
  exact ⟨by first | rfl | (simp [errW_none, errW_some] <;> rfl) | (simp [*, errW_none, errW_some] <;> rfl), by repeat (first | (with_reducible first | exact HB.out | apply below_alloc | apply pw_below_drewN | apply below_drew1) | exact HB.out)⟩

end Go.Proofs.Ytmoffcpbmigngaa.JD
