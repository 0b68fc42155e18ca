/- The law DialNoon: at noon the line is in the middle, at 6 and 18 at right angles to it. No condition. -/
import Derived.Test.YtmoffcpbmigngaaJDx2
import Derived.Test.YtmoffcpbmigngaaDialLaw
namespace Go.Proofs.Ytmoffcpbmigngaa.Pure
open Go.Proofs.Ytmoffcpbmigngaa.JD Go.Proofs.Ytmoffcpbmigngaa.Own Go.Proofs.Ytmoffcpbmigngaa.Tp Go.RowKit Go.Proofs.YtmoffcpbmigngaaW.PrintWords Go.Proofs.YtmoffcpbmigngaaW.PrintLast

theorem dial_works : ∃ k0, ∀ k, k0 ≤ k → ephemeriskeep2_dialWorks.f k = some true :=
  of_mono (k0 := 300) ephemeriskeep2_dialWorks.mono (by decide +kernel)
/-- a line whose true direction is known -/
theorem ln_at {φ θ lo hi : Int} {Y X : Rat} (A : Ln φ θ lo hi Y X) (f1 : 10000000 ≤ φ) (f2 : φ ≤ 220000000) (h : (θ = 0) ∨ (θ = 250000000) ∨ (θ = -250000000)) : lo ≤ θ ∧ θ ≤ hi := by
  have ep : eps = 1 / 10000000000000 := rfl
  have zl := (zphi f1 f2).1
  have z0 : zs 0 = 0 ∧ zc 0 = 1 ∧ zs 250000000 = 1 ∧ zc 250000000 = 0 ∧ zs (-250000000) = -1 ∧ zc (-250000000) = 0 := by decide +kernel
  have ny0 := A.ny0
  have ny1 := A.ny1
  have nx0 := A.nx0
  have nx1 := A.nx1
  have a1 := A.cl0
  have a1' := A.cl1
  have a2 := A.ch0
  have a3 := A.ch1
  have a4 := A.dl0
  have a5 := A.dh0
  have r1 := A.lo0
  have r2 := A.lo1
  have r3 := A.w
  have r4 := A.le
  have T : -(5 / 1000) ≤ cr Y X θ ∧ cr Y X θ ≤ 5 / 1000 ∧ 10000000 ≤ dt Y X θ := by
    unfold cr dt
    rcases h with h | h | h <;> subst h
    · rw [z0.1, z0.2.1] at *
      refine ⟨?_, ?_, ?_⟩ <;> grind
    · rw [z0.2.2.1, z0.2.2.2.1] at *
      refine ⟨?_, ?_, ?_⟩ <;> grind
    · rw [z0.2.2.2.2.1, z0.2.2.2.2.2] at *
      refine ⟨?_, ?_, ?_⟩ <;> grind
  have tb : -250000000 ≤ θ ∧ θ ≤ 250000000 := by omega
  constructor
  · exact ord (B := 1000000000) (R := 9999999) (e := 0) (e' := 5 / 1000) A.y0 A.y1 A.x0 A.x1 (by decide +kernel) (by decide +kernel) (by grind) (by grind) (by grind) (by grind) (by omega) (by decide +kernel) (by grind) (by grind) (by decide +kernel)
  · exact ord (B := 1000000000) (R := 9999999) (e := 5 / 1000) (e' := 0) A.y0 A.y1 A.x0 A.x1 (by decide +kernel) (by decide +kernel) (by grind) (by grind) (by grind) (by grind) (by omega) (by decide +kernel) (by grind) (by grind) (by decide +kernel)
/-- all lines -/
theorem lines_l {φ : Int} (f1 : 10000000 ≤ φ) (f2 : φ ≤ 220000000) : ∀ (d : Nat) (h : Int) (l : List S23), h + d = 19 → 6 ≤ h → l.length + d = 13 → ∃ K r, (∀ k, K ≤ k → dial_Lines.l0 k φ l h = some (l ++ r, 0)) ∧ r.length = d ∧ ∀ i : Nat, i < d → ∃ Y X, Ln φ (eta (h + i)) (r.getD i z23).f0 (r.getD i z23).f1 Y X
  | 0, h, l, hd, h1, hl => ⟨1, [], fun k hk => by
      obtain ⟨k, rfl⟩ : ∃ m, k = m + 1 := ⟨k - 1, by omega⟩
      simp only [dial_Lines.l0]
      rw [if_neg (by omega), List.append_nil], rfl, fun i hi => absurd hi (by omega)⟩
  | d + 1, h, l, hd, h1, hl => by
    obtain ⟨lo, hi, Y, X, K, fa, A⟩ := line_f (hour := h) f1 f2 h1 (by omega)
    obtain ⟨L, r, fr, hr, ha⟩ := lines_l f1 f2 d (h + 1) (l ++ [⟨lo, hi⟩]) (by omega) (by omega) (by simp; omega)
    refine ⟨K + L + 1, ⟨lo, hi⟩ :: r, fun k hk => ?_, by simp [hr], fun i hi' => ?_⟩
    · obtain ⟨k, rfl⟩ : ∃ m, k = m + 1 := ⟨k - 1, by omega⟩
      simp only [dial_Lines.l0]
      rw [if_pos (by omega), fa k (by omega)]
      simp only [Option.bind_some, if_true]
      rw [if_pos (by omega), wrap_in (n := h + 1) (by omega) (by omega), fr k (by omega), List.append_assoc]
      rfl
    · cases i with
      | zero =>
        refine ⟨Y, X, ?_⟩
        have e : h + ((0 : Nat) : Int) = h := by omega
        rw [e]
        exact A
      | succ i =>
        obtain ⟨Y, X, q⟩ := ha i (by omega)
        refine ⟨Y, X, ?_⟩
        have e : h + ((i + 1 : Nat) : Int) = h + 1 + (i : Int) := by omega
        rw [e]
        exact q
theorem DialNoon : ephemeriskeep2_DialNoon.Pure := by
  intro a0 _
  obtain ⟨kw, hw⟩ := dial_works
  obtain ⟨φ, hφ⟩ : ∃ φ, 10000000 + a0 % 210000001 = φ := ⟨_, rfl⟩
  have f1 : 10000000 ≤ φ ∧ φ ≤ 220000000 := by omega
  obtain ⟨K, r, fr, hr, ha⟩ := lines_l f1.1 f1.2 13 6 [] (by omega) (by omega) rfl
  obtain ⟨Y0, X0, A0⟩ := ha 0 (by omega)
  obtain ⟨Y6, X6, A6⟩ := ha 6 (by omega)
  obtain ⟨Y12, X12, A12⟩ := ha 12 (by omega)
  have e0 : eta (6 + ((0 : Nat) : Int)) = -250000000 := by decide
  have e6 : eta (6 + ((6 : Nat) : Int)) = 0 := by decide
  have e12 : eta (6 + ((12 : Nat) : Int)) = 250000000 := by decide
  rw [e0] at A0
  rw [e6] at A6
  rw [e12] at A12
  have b0 := ln_at A0 f1.1 f1.2 (by omega)
  have b6 := ln_at A6 f1.1 f1.2 (by omega)
  have b12 := ln_at A12 f1.1 f1.2 (by omega)
  have t0 : rd_T23 r 0 = r.getD 0 z23 := rfl
  have t6 : rd_T23 r 6 = r.getD 6 z23 := rfl
  have t12 : rd_T23 r 12 = r.getD 12 z23 := rfl
  refine ⟨kw + K, ?_⟩
  unfold ephemeriskeep2_DialNoon.f
  rw [hw _ (by omega), tat_f (by omega) (by omega)]
  simp only [Option.bind_some, if_true]
  rw [wrap_in (n := 10000000 + a0 % 210000001) (by omega) (by omega), hφ]
  unfold dial_Lines.f
  rw [fr _ (by omega), List.nil_append]
  simp only [Option.bind_some, if_true]
  rw [hr, if_pos (by omega), if_pos (by omega), t6, if_pos b6.1, if_pos b6.2, if_pos (by omega), t0]
  unfold ephemeriskeep2_meets.f
  rw [if_pos (by omega), decide_eq_true (show -250000100 ≤ (r.getD 0 z23).f1 by omega)]
  simp only [Option.bind_some, if_true]
  rw [if_pos (by omega), t12, if_pos (by omega), decide_eq_true (show 249999900 ≤ (r.getD 12 z23).f1 by omega)]
  rfl
end Go.Proofs.Ytmoffcpbmigngaa.Pure
