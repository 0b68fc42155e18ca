/- What the statements' trial of package trig computes, and small lemmas. No condition on a program. -/
import Derived.Test.YtigolfomfpmodaaJTx2
import Derived.Test.YtigolfomfpmodaaJTx2
import Derived.Test.YtigolfomfpmodaaJTx2
import Derived.Test.YtigolfomfpmodaaAbase
namespace Go.Proofs.Ytigolfomfpmodaa.JT
open Go.Proofs.Ytigolfomfpmodaa.Own Go.RowKit Go.Proofs.YtigolfomfpmodaaW.PrintWords Go.Proofs.YtigolfomfpmodaaW.PrintLast

theorem of_mono {α : Type} {f : Nat → Option α} {r : α} {k0 : Nat} (h : ∀ k, LeO (f k) (f (k + 1))) (h0 : f k0 = some r) : ∃ k0, ∀ k, k0 ≤ k → f k = some r := by
  refine ⟨k0, fun k hk => ?_⟩
  obtain ⟨m, rfl⟩ := Nat.le.dest hk
  clear hk
  induction m with
  | zero => exact h0
  | succ m ih => exact h _ _ ih

theorem trig_works : ∃ k0, ∀ k, k0 ≤ k → ephemeriskeep2_trigWorks.f k = some true :=
  of_mono (k0 := 300) ephemeriskeep2_trigWorks.mono (by decide +kernel)

theorem tat_f {a m : Int} (h : 0 < m) (h' : m ≤ 4000000000000000000) : ephemeriskeep2_at.f a m = some (a % m) := by
  unfold ephemeriskeep2_at.f
  rw [if_neg (by omega), at_val h h']

theorem tcheck_f {x y : Int} (g1 : -1000000000000000000 ≤ x) (g2 : x ≤ y) (g3 : y ≤ 1000000000000000000) (k : Nat) : interval_Check.f (k + 1) x y = some 0 := by
  unfold interval_Check.f interval_out.f
  rw [if_neg (by omega), if_neg (by omega)]
  simp only [Option.bind_some, interval_Check.j0]
  rw [decide_eq_false (by omega), decide_eq_false (by omega)]
  simp only [Bool.false_eq_true, if_false]
  rw [if_neg (by omega)]

end Go.Proofs.Ytigolfomfpmodaa.JT
