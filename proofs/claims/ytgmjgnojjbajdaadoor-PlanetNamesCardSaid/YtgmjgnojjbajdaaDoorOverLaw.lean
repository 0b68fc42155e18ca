/- trig.SinOver over short intervals: about the sine of the first angle. No condition on a program. -/
import Derived.Test.YtgmjgnojjbajdaaDoorOverCore
import Derived.Test.YtgmjgnojjbajdaaDoorSkyReal
namespace Go.Proofs.YtgmjgnojjbajdaaDoor.JG
open Go.Proofs.YtgmjgnojjbajdaaDoor.Own Go.Proofs.YtgmjgnojjbajdaaDoor.Tp Go.RowKit Go.Proofs.YtgmjgnojjbajdaaDoorW.PrintWords Go.Proofs.YtgmjgnojjbajdaaDoorW.PrintLast

/-- about the sine of the first angle -/
theorem so2_near {x y w : Int} (h : x ≤ y) (hw : y - x ≤ w) : ((so2 x y).1 : Rat) ≤ 1000000000 * cz x ∧ 1000000000 * cz x ≤ ((so2 x y).2 : Rat) ∧
    1000000000 * (zs x - lip w) - 201 / 100 ≤ ((so2 x y).1 : Rat) ∧ ((so2 x y).2 : Rat) ≤ 1000000000 * (zs x + lip w) + 201 / 100 := by
  have c := sv_cz x
  have b := cl_b (zs x)
  have s := sin_tg x
  have s' := sin_tg y
  have l := zlip x (d := y - x) (by omega)
  rw [show x + (y - x) = y by omega] at l
  have lm := lip_mono hw
  have l0 := lip_pos (show 0 ≤ w by omega)
  have q1 : zs 250000000 = 1 := by decide +kernel
  have q3 : zs 750000000 = -1 := by decide +kernel
  have cT : ((1000000000 : Int) : Rat) = 1000000000 := by decide +kernel
  have cN : ((-1000000000 : Int) : Rat) = -1000000000 := by decide +kernel
  unfold Tg at s s'
  have top : pas2 x y 250000000 = true → 1 ≤ zs x + lip w := fun g => by
    obtain ⟨z, z1, z2, z3⟩ := pas2_at g
    have e : zs z = 1 := by rw [← (z_mod z).1, show z % 1000000000 = 250000000 by omega, q1]
    have lz := zlip x (d := z - x) (by omega)
    rw [show x + (z - x) = z by omega, e] at lz
    have := lip_mono (show z - x ≤ w by omega)
    grind
  have bot : pas2 x y 750000000 = true → zs x - lip w ≤ -1 := fun g => by
    obtain ⟨z, z1, z2, z3⟩ := pas2_at g
    have e : zs z = -1 := by rw [← (z_mod z).1, show z % 1000000000 = 750000000 by omega, q3]
    have lz := zlip x (d := z - x) (by omega)
    rw [show x + (z - x) = z by omega, e] at lz
    have := lip_mono (show z - x ≤ w by omega)
    grind
  unfold so2
  simp only
  refine ⟨?_, ?_, ?_, ?_⟩
  · split
    · rw [cN]; unfold cz; grind
    · exact Rat.le_trans (ic (mn_l _ _).1) c.1
  · split
    · rw [cT]; unfold cz; grind
    · exact Rat.le_trans c.2 (ic (mx_l _ _).1)
  · split
    · rename_i g
      have := bot g
      rw [cN]; grind
    · simp only [mn]
      split <;> grind
  · split
    · rename_i g
      have := top g
      rw [cT]; grind
    · simp only [mx]
      split <;> grind
end Go.Proofs.YtgmjgnojjbajdaaDoor.JG
