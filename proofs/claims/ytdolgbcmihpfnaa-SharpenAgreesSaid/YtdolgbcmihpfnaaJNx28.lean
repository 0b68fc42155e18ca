-- Made by a program of this session (wip/hp.py, over the kit's print) out of the translation. Not trusted: Lean checks it.
import Derived.Test.YtdolgbcmihpfnaaJNx0
import Derived.Test.YtdolgbcmihpfnaaJNx1
namespace Go.Proofs.Ytdolgbcmihpfnaa.JN
open Go.RowKit Go.Proofs.YtdolgbcmihpfnaaW.PrintWords Go.Proofs.YtdolgbcmihpfnaaW.PrintLast Go.Proofs.YtdolgbcmihpfnaaW.PrintMore
attribute [local go_sem] max2_int min2_int max_two min_two max_three min_three max_four min_four   -- for this text's walks alone
set_option linter.unusedVariables false
set_option linter.unusedSimpArgs false

/-! ### season_newYear: function 23 -/
-- hand
-- body
set_option maxHeartbeats 8000000 in
set_option maxRecDepth 100000 in
theorem season_newYear_1.calls (a b : Int) (hb : b = 4 ∨ b = 100 ∨ b = 400) (h1 : -20001 ≤ a) (h2 : a ≤ 20000) (w : World) :
    Calls Try.prog 38 #[.int .i64 a, .int .i64 b] w fun e w' => e = .returned (.int .i64 (a / b)) ∧ Below w.heap.size w w' := by
  have nz : ¬ b = 0 := by omega
  have td : Int.tdiv a b = if 0 ≤ a then a / b else -((-a) / b) := by
    split
    · rename_i g; exact Int.tdiv_eq_ediv_of_nonneg g
    · rename_i g; rw [← Int.tdiv_eq_ediv_of_nonneg (show 0 ≤ -a by omega), Int.neg_tdiv, Int.neg_neg]
  have tm : Int.tmod a b = if 0 ≤ a then a % b else -((-a) % b) := by
    split
    · rename_i g; exact Int.tmod_eq_emod_of_nonneg g
    · rename_i g; rw [← Int.tmod_eq_emod_of_nonneg (show 0 ≤ -a by omega), Int.neg_tmod, Int.neg_neg]
  have q : -20001 ≤ Int.tdiv a b ∧ Int.tdiv a b ≤ 20001 := by rw [td]; rcases hb with e | e | e <;> rw [e] <;> split <;> omega
  have q0 : wrap64 (Int.tdiv a b) = Int.tdiv a b := wrap_in_ (by omega) (by omega)
  have q1 : wrap64 (Int.tdiv a b - 1) = Int.tdiv a b - 1 := wrap_in_ (by omega) (by omega)
  have qv : wrap64 (a / b) = a / b := wrap_in_ (by rcases hb with e | e | e <;> rw [e] <;> omega) (by rcases hb with e | e | e <;> rw [e] <;> omega)
  by_cases c : Int.tmod a b < 0
  · have d : decide (Int.tmod a b < 0) = true := decide_eq_true c
    have v : Int.tdiv a b - 1 = a / b := by rw [td]; rw [tm] at c; rcases hb with e | e | e <;> rw [e] at c ⊢ <;> split <;> split at c <;> omega
    clear h1 h2 hb q c td tm
    go_enter Try.func38, Try.ntmps38
    go_wp2
    go_ret
    exact ⟨by simp [q0, q1, v, qv], Below.refl _ _⟩
  · have d : decide (Int.tmod a b < 0) = false := decide_eq_false c
    have v : Int.tdiv a b = a / b := by rw [td]; rw [tm] at c; rcases hb with e | e | e <;> rw [e] at c ⊢ <;> split <;> split at c <;> omega
    clear h1 h2 hb q c td tm
    go_enter Try.func38, Try.ntmps38
    go_wp2
    go_ret
    exact ⟨by simp [q0, v, qv], Below.refl _ _⟩
theorem season_newYear_1.callsV (a b : Int) (hb : b = 4 ∨ b = 100 ∨ b = 400) (h1 : -20001 ≤ a) (h2 : a ≤ 20000) (w : World) :
    Calls Try.prog 38 (#[.int .i64 a, .int .i64 b] ++ #[]) w fun e w' => e = .returned (.int .i64 (a / b)) ∧ Below w.heap.size w w' := season_newYear_1.calls a b hb h1 h2 w
set_option maxHeartbeats 8000000 in
set_option maxRecDepth 100000 in
theorem season_newYear.calls (a0 : Int) (r : Int) (w : World) (h : season_newYear.f a0 = some r) :
    Calls Try.prog 23 #[.int .i64 a0] w fun e w' => e = .returned (.int .i64 r) ∧ Below w.heap.size w w' := by
  have HB := Aside0.mk (Below.refl w.heap.size w)
  unfold season_newYear.f at h
  by_cases c : -20000 ≤ a0 ∧ a0 ≤ 20000
  rotate_left
  · rw [if_neg c] at h; simp at h
  rw [if_pos c] at h
  obtain rfl := Option.some.inj h
  clear h
  obtain ⟨y, hy⟩ : ∃ y, y = a0 - 1 := ⟨_, rfl⟩
  have W1 : wrap64 (a0 - 1) = y := by rw [wrap_in_ (by omega) (by omega), hy]
  have HY1 := Aside0.mk (show -20001 ≤ wrap64 (a0 - 1) by omega)
  have HY2 := Aside0.mk (show wrap64 (a0 - 1) ≤ 20000 by omega)
  have V : wrap64 (wrap64 (wrap64 (wrap64 (wrap64 (365 * wrap64 (a0 - 1)) + wrap64 (a0 - 1) / 4) - wrap64 (a0 - 1) / 100) + wrap64 (a0 - 1) / 400) + 1) = 365 * (a0 - 1) + (a0 - 1) / 4 - (a0 - 1) / 100 + (a0 - 1) / 400 + 1 := by
    have h1 := HY1.out
    have h2 := HY2.out
    rw [W1] at h1 h2 ⊢
    rw [← hy, wrap_in_ (n := 365 * y) (by omega) (by omega), wrap_in_ (n := 365 * y + y / 4) (by omega) (by omega), wrap_in_ (n := 365 * y + y / 4 - y / 100) (by omega) (by omega), wrap_in_ (n := 365 * y + y / 4 - y / 100 + y / 400) (by omega) (by omega), wrap_in_ (by omega) (by omega)]
  rw [← V]
  clear V c hy W1
  have hmf : ∀ (fn : Fn) (first cap : Array Value) (w : World), (Instr.makeFunc fn first cap).run Try.prog w = .ok (.func fn first cap) w := fun _ _ _ _ => rfl
  go_enter Try.func23, Try.ntmps23
  go_wp2_with (first | ((with_reducible refine gate_value rfl ?_); refine goesV_ (some 11) rfl rfl Try.func38 (by kernel_rfl) rfl rfl (by first | rfl | (simp; done)) #[.int .i64 (wrap64 (a0 - 1)), .int .i64 4] (by (try simp only [List.map_toArray, List.map_cons, List.map_nil]); first | done | rfl | (simp only [List.length_drop, List.length_take]; rfl)) ?_; (with_reducible refine (season_newYear_1.callsV (wrap64 (a0 - 1)) 4 (Or.inl rfl) HY1.out HY2.out _).mono ?_); rintro e w51 ⟨rfl, hb⟩; refine ⟨_, rfl, ?_⟩; have n0_ := Aside0.mk (below_step (by repeat (first | (with_reducible first | exact HB.out | apply below_alloc | apply pw_below_drewN | apply below_drew1) | exact HB.out)) hb); clear HB; have HB := n0_; clear n0_; (try clear hb)) | ((with_reducible refine gate_value rfl ?_); refine goesV_ (some 15) rfl rfl Try.func38 (by kernel_rfl) rfl rfl (by first | rfl | (simp; done)) #[.int .i64 (wrap64 (a0 - 1)), .int .i64 100] (by (try simp only [List.map_toArray, List.map_cons, List.map_nil]); first | done | rfl | (simp only [List.length_drop, List.length_take]; rfl)) ?_; (with_reducible refine (season_newYear_1.callsV (wrap64 (a0 - 1)) 100 (Or.inr (Or.inl rfl)) HY1.out HY2.out _).mono ?_); rintro e w52 ⟨rfl, hb⟩; refine ⟨_, rfl, ?_⟩; have n0_ := Aside0.mk (below_step (by repeat (first | (with_reducible first | exact HB.out | apply below_alloc | apply pw_below_drewN | apply below_drew1) | exact HB.out)) hb); clear HB; have HB := n0_; clear n0_; (try clear hb)) | ((with_reducible refine gate_value rfl ?_); refine goesV_ (some 19) rfl rfl Try.func38 (by kernel_rfl) rfl rfl (by first | rfl | (simp; done)) #[.int .i64 (wrap64 (a0 - 1)), .int .i64 400] (by (try simp only [List.map_toArray, List.map_cons, List.map_nil]); first | done | rfl | (simp only [List.length_drop, List.length_take]; rfl)) ?_; (with_reducible refine (season_newYear_1.callsV (wrap64 (a0 - 1)) 400 (Or.inr (Or.inr rfl)) HY1.out HY2.out _).mono ?_); rintro e w53 ⟨rfl, hb⟩; refine ⟨_, rfl, ?_⟩; have n0_ := Aside0.mk (below_step (by repeat (first | (with_reducible first | exact HB.out | apply below_alloc | apply pw_below_drewN | apply below_drew1) | exact HB.out)) hb); clear HB; have HB := n0_; clear n0_; (try clear hb)))
  go_ret
  exact ⟨by first | rfl | (simp [errW_none, errW_some] <;> rfl) | (simp [*, errW_none, errW_some] <;> rfl), by repeat (first | (with_reducible first | exact HB.out | apply below_alloc | apply pw_below_drewN | apply below_drew1) | exact HB.out)⟩

end Go.Proofs.Ytdolgbcmihpfnaa.JN
