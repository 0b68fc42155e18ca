/- What trig.root and trig.ArcSin find. No condition on a program. -/
import Derived.Test.YtgmjgnojjbajdaaDoorArcLaw
import Derived.Test.YtgmjgnojjbajdaaDoorOverCore
namespace Go.Proofs.YtgmjgnojjbajdaaDoor.JG
open Go.Proofs.YtgmjgnojjbajdaaDoor.Own Go.Proofs.YtgmjgnojjbajdaaDoor.Tp Go.RowKit Go.Proofs.YtgmjgnojjbajdaaDoorW.PrintWords Go.Proofs.YtgmjgnojjbajdaaDoorW.PrintLast

theorem sq_le_ {m s : Int} (h1 : 0 ≤ m) (h2 : 0 ≤ s) (h : m * m ≤ s * s) : m ≤ s := by
  rcases Int.lt_or_le s m with c | c
  · have e1 : s * s ≤ s * m := Int.mul_le_mul_of_nonneg_left (by omega) h2
    have e2 : s * m < m * m := Int.mul_lt_mul_of_pos_right c (by omega)
    omega
  · exact c
/-- sines from 0 to half a turn -/
theorem zs_ge {d : Int} (h1 : 0 ≤ d) (h2 : d ≤ 500000000) : 0 ≤ zs d ∧ (1 ≤ d → d ≤ 499999999 → 5 / 1000000000 ≤ zs d) ∧ (2 ≤ d → d ≤ 499999998 → 1 / 100000000 ≤ zs d) := by
  have n1 : 5 / 1000000000 ≤ 8 / 9 * arc 1 := by decide +kernel
  have n2 : 1 / 100000000 ≤ 8 / 9 * arc 2 := by decide +kernel
  have z0 : arc 0 = 0 := by decide +kernel
  rcases (by omega : d ≤ 125000000 ∨ (125000001 ≤ d ∧ d ≤ 375000000) ∨ 375000001 ≤ d) with c | c | c
  · have e := (z_q0 (a := d) (by omega) c).1
    have m := arc_mono h1
    have b := arc_b (a := d) (by omega) c
    have s := sn_b (x := arc d) (by grind) b.2
    rw [e]
    exact ⟨by grind, fun g _ => by have := arc_mono g; grind, fun g _ => by have := arc_mono g; grind⟩
  · have e := (z_q1 c.1 c.2).1
    have b := arc_b (a := d - 250000000) (by omega) (by omega)
    have s := (cn_b b.1 b.2).2.2
    rw [e]
    exact ⟨by grind, fun _ _ => by grind, fun _ _ => by grind⟩
  · have e := (z_q2 (a := d) c (by omega)).1
    have n : arc (d - 500000000) = -(arc (500000000 - d)) := by rw [← arc_neg, Int.neg_sub]
    have b := arc_b (a := 500000000 - d) (by omega) (by omega)
    have m := arc_mono (show 0 ≤ 500000000 - d by omega)
    have s := sn_b (x := arc (500000000 - d)) (by grind) b.2
    rw [e, n, sn_neg]
    exact ⟨by grind, fun _ g => by have := arc_mono (show 1 ≤ 500000000 - d by omega); grind, fun _ g => by have := arc_mono (show 2 ≤ 500000000 - d by omega); grind⟩
/-- where a sine is positive, and where it is negative -/
theorem zs_up {b : Int} (h : 0 < zs b) : 0 < b % 1000000000 ∧ b % 1000000000 < 500000000 := by
  rw [← (z_mod b).1] at h
  have z0 : zs 0 = 0 := by decide +kernel
  refine ⟨?_, ?_⟩
  · rcases (by omega : b % 1000000000 = 0 ∨ 0 < b % 1000000000) with c | c
    · rw [c, z0] at h; exact absurd h (by decide)
    · exact c
  · rcases Int.lt_or_le (b % 1000000000) 500000000 with c | c
    · exact c
    · exfalso
      have e := (z_half (b % 1000000000 - 500000000)).1
      rw [show b % 1000000000 - 500000000 + 500000000 = b % 1000000000 by omega] at e
      have := (zs_ge (d := b % 1000000000 - 500000000) (by omega) (by omega)).1
      grind
theorem zs_dn {b : Int} (h : zs b < 0) : 500000000 < b % 1000000000 := by
  rw [← (z_mod b).1] at h
  rcases Int.lt_or_le 500000000 (b % 1000000000) with c | c
  · exact c
  · exfalso
    have := (zs_ge (d := b % 1000000000) (by omega) c).1
    grind

theorem sq0 (u : Rat) : 0 ≤ u * u := by
  rcases (Rat.le_total (a := 0) (b := u)) with c | c
  · exact Rat.mul_nonneg c c
  · have := Rat.mul_nonneg (show 0 ≤ -u by grind) (show 0 ≤ -u by grind); grind
theorem le_sq {a b : Rat} (_ha : 0 ≤ a) (h : a * a ≤ b * b) (hb : 0 ≤ b) : a ≤ b := by
  rcases (Rat.le_total (a := a) (b := b)) with c | c
  · exact c
  · rcases (by grind : a = b ∨ b < a) with e | e
    · grind
    · exfalso
      have m1 := Rat.mul_nonneg (show 0 ≤ a - b by grind) hb
      have m2 := Rat.mul_pos (show 0 < a - b by grind) (show 0 < a by grind)
      grind
end Go.Proofs.YtgmjgnojjbajdaaDoor.JG
