/- trig.SinOver and trig.CosOver over short intervals. No condition on a program. -/
import Derived.Test.YtemkeciekgdkeaaJPx1
import Derived.Test.YtemkeciekgdkeaaSkyLaw
namespace Go.Proofs.Ytemkeciekgdkeaa.JP
open Go.Proofs.Ytemkeciekgdkeaa.Own Go.Proofs.Ytemkeciekgdkeaa.Tp Go.RowKit Go.Proofs.YtemkeciekgdkeaaW.PrintWords Go.Proofs.YtemkeciekgdkeaaW.PrintLast

def pas2 (x y c : Int) : Bool := decide ((y - c) / 1000000000 * 1000000000 ≥ x - c)
/-- the sines of the angles from x to y -/
def so2 (x y : Int) : Int × Int :=
  (if pas2 x y 750000000 then -1000000000 else mn (sv (x % 1000000000)).1 (sv (y % 1000000000)).1, if pas2 x y 250000000 then 1000000000 else mx (sv (x % 1000000000)).2 (sv (y % 1000000000)).2)
theorem so2_f {x y : Int} (h1 : -100000000000000000 ≤ x) (h2 : x ≤ y) (h3 : y ≤ 100000000000000000) (k : Nat) (hk : 11 ≤ k) : trig_SinOver.f k x y = some ((so2 x y).1, (so2 x y).2, 0) := by
  have p : ∀ c : Int, 0 ≤ c → c ≤ 1000000000 → trig_passes.f x y c = some (pas2 x y c) := by
    intro c c1 c2
    unfold trig_passes.f pas2
    rw [wrap_in (n := y - c) (by omega) (by omega), sfloor_ (by omega) (by omega) (by omega) (by omega)]
    simp only [Option.bind_some]
    rw [wrap_in (n := (y - c) / 1000000000 * 1000000000) (by omega) (by omega), wrap_in (n := x - c) (by omega) (by omega)]
  obtain ⟨k, rfl⟩ : ∃ m, k = m + 1 := ⟨k - 1, by omega⟩
  unfold trig_SinOver.f
  rw [tcheck_f (by omega) (by omega) (by omega), sin_f (a := x) (by omega) (by omega) _ hk, sin_f (a := y) (by omega) (by omega) _ hk, p _ (by omega) (by omega), p _ (by omega) (by omega)]
  simp only [Option.bind_some, if_true]
  unfold so2
  cases pas2 x y 250000000 <;> cases pas2 x y 750000000 <;> simp
theorem pas2_at {x y c : Int} (hp : pas2 x y c = true) : ∃ z, x ≤ z ∧ z ≤ y ∧ (z - c) % 1000000000 = 0 := by
  have := of_decide_eq_true hp
  exact ⟨(y - c) / 1000000000 * 1000000000 + c, by omega, by omega, by omega⟩
theorem so2_b (x y : Int) : -1000000000 ≤ (so2 x y).1 ∧ (so2 x y).1 ≤ (so2 x y).2 ∧ (so2 x y).2 ≤ 1000000000 := by
  have h1 := sv_b (x % 1000000000)
  have h2 := sv_b (y % 1000000000)
  unfold so2
  simp only [mn, mx]
  split <;> split <;> omega
/-- about the sine of the first angle -/
theorem so2_near {x y w : Int} (h : x ≤ y) (hw : y - x ≤ w) : ((so2 x y).1 : Rat) ≤ 1000000000 * cz x ∧ 1000000000 * cz x ≤ ((so2 x y).2 : Rat) ∧
    1000000000 * (zs x - lip w) - 201 / 100 ≤ ((so2 x y).1 : Rat) ∧ ((so2 x y).2 : Rat) ≤ 1000000000 * (zs x + lip w) + 201 / 100 := by
  have c := sv_cz x
  have b := cl_b (zs x)
  have s := sin_tg x
  have s' := sin_tg y
  have l := zlip x (d := y - x) (by omega)
  rw [show x + (y - x) = y by omega] at l
  have lm := lip_mono hw
  have l0 := lip_pos (show 0 ≤ w by omega)
  have q1 : zs 250000000 = 1 := by decide +kernel
  have q3 : zs 750000000 = -1 := by decide +kernel
  have cT : ((1000000000 : Int) : Rat) = 1000000000 := by decide +kernel
  have cN : ((-1000000000 : Int) : Rat) = -1000000000 := by decide +kernel
  unfold Tg at s s'
  have top : pas2 x y 250000000 = true → 1 ≤ zs x + lip w := fun g => by
    obtain ⟨z, z1, z2, z3⟩ := pas2_at g
    have e : zs z = 1 := by rw [← (z_mod z).1, show z % 1000000000 = 250000000 by omega, q1]
    have lz := zlip x (d := z - x) (by omega)
    rw [show x + (z - x) = z by omega, e] at lz
    have := lip_mono (show z - x ≤ w by omega)
    grind
  have bot : pas2 x y 750000000 = true → zs x - lip w ≤ -1 := fun g => by
    obtain ⟨z, z1, z2, z3⟩ := pas2_at g
    have e : zs z = -1 := by rw [← (z_mod z).1, show z % 1000000000 = 750000000 by omega, q3]
    have lz := zlip x (d := z - x) (by omega)
    rw [show x + (z - x) = z by omega, e] at lz
    have := lip_mono (show z - x ≤ w by omega)
    grind
  unfold so2
  simp only
  refine ⟨?_, ?_, ?_, ?_⟩
  · split
    · rw [cN]; unfold cz; grind
    · exact Rat.le_trans (ic (mn_l _ _).1) c.1
  · split
    · rw [cT]; unfold cz; grind
    · exact Rat.le_trans c.2 (ic (mx_l _ _).1)
  · split
    · rename_i g
      have := bot g
      rw [cN]; grind
    · simp only [mn]
      split <;> grind
  · split
    · rename_i g
      have := top g
      rw [cT]; grind
    · simp only [mx]
      split <;> grind
theorem ored_f {a : Int} (h1 : -100000000000000000 ≤ a) (h2 : a ≤ 100000000000000000) : trig_Reduced.f a = some (a % 1000000000) := by
  have fl : interval_Floor.f a 1000000000 = some (a / 1000000000) := sfloor_ (by omega) (by omega) (by omega) (by omega)
  unfold trig_Reduced.f
  rw [fl]
  simp only [Option.bind_some]
  rw [wrap_in (n := a / 1000000000 * 1000000000) (by omega) (by omega), wrap_in (by omega) (by omega)]
  congr 1; omega
/-- cosines over an interval that is shorter than a turn -/
theorem co2_f {x y : Int} (h1 : -10000000000000000 ≤ x) (h2 : x ≤ y) (h3 : y ≤ 10000000000000000) (h4 : y - x ≤ 1000000000) (k : Nat) (hk : 12 ≤ k) :
    trig_CosOver.f k x y = some ((so2 (x % 1000000000 + 250000000) (y - x + x % 1000000000 + 250000000)).1, (so2 (x % 1000000000 + 250000000) (y - x + x % 1000000000 + 250000000)).2, 0) := by
  obtain ⟨k, rfl⟩ : ∃ m, k = m + 1 := ⟨k - 1, by omega⟩
  unfold trig_CosOver.f
  rw [tcheck_f (by omega) (by omega) (by omega), ored_f (by omega) (by omega)]
  simp only [Option.bind_some, if_true]
  rw [wrap_in (n := x % 1000000000 + 250000000) (by omega) (by omega), wrap_in (n := x % 1000000000 + 250000000 - x) (by omega) (by omega), show x + (x % 1000000000 + 250000000 - x) = x % 1000000000 + 250000000 by omega, show y + (x % 1000000000 + 250000000 - x) = y - x + x % 1000000000 + 250000000 by omega,
    wrap_in (n := x % 1000000000 + 250000000) (by omega) (by omega), wrap_in (n := y - x + x % 1000000000 + 250000000) (by omega) (by omega), wrap_in (n := x % 1000000000 + 250000000 + 1000000000) (by omega) (by omega)]
  have e : mn (y - x + x % 1000000000 + 250000000) (x % 1000000000 + 250000000 + 1000000000) = y - x + x % 1000000000 + 250000000 := by simp only [mn]; omega
  rw [e, so2_f (by omega) (by omega) (by omega) _ (by omega)]
  rfl
end Go.Proofs.Ytemkeciekgdkeaa.JP
