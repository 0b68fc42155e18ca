/- trig.SinOver and trig.CosOver: what they compute. No condition on a program. -/
import Derived.Test.YtgmjgnojjbajdaaDoorJGx1
import Derived.Test.YtgmjgnojjbajdaaDoorZsLaw
namespace Go.Proofs.YtgmjgnojjbajdaaDoor.JG
open Go.Proofs.YtgmjgnojjbajdaaDoor.Own Go.Proofs.YtgmjgnojjbajdaaDoor.Tp Go.RowKit Go.Proofs.YtgmjgnojjbajdaaDoorW.PrintWords Go.Proofs.YtgmjgnojjbajdaaDoorW.PrintLast

def pas2 (x y c : Int) : Bool := decide ((y - c) / 1000000000 * 1000000000 ≥ x - c)
/-- the sines of the angles from x to y -/
def so2 (x y : Int) : Int × Int :=
  (if pas2 x y 750000000 then -1000000000 else mn (sv (x % 1000000000)).1 (sv (y % 1000000000)).1, if pas2 x y 250000000 then 1000000000 else mx (sv (x % 1000000000)).2 (sv (y % 1000000000)).2)
theorem so2_f {x y : Int} (h1 : -100000000000000000 ≤ x) (h2 : x ≤ y) (h3 : y ≤ 100000000000000000) (k : Nat) (hk : 11 ≤ k) : trig_SinOver.f k x y = some ((so2 x y).1, (so2 x y).2, 0) := by
  have p : ∀ c : Int, 0 ≤ c → c ≤ 1000000000 → trig_passes.f x y c = some (pas2 x y c) := by
    intro c c1 c2
    unfold trig_passes.f pas2
    rw [wrap_in (n := y - c) (by omega) (by omega), sfloor_ (by omega) (by omega) (by omega) (by omega)]
    simp only [Option.bind_some]
    rw [wrap_in (n := (y - c) / 1000000000 * 1000000000) (by omega) (by omega), wrap_in (n := x - c) (by omega) (by omega)]
  obtain ⟨k, rfl⟩ : ∃ m, k = m + 1 := ⟨k - 1, by omega⟩
  unfold trig_SinOver.f
  rw [tcheck_f (by omega) (by omega) (by omega), sin_f (a := x) (by omega) (by omega) _ hk, sin_f (a := y) (by omega) (by omega) _ hk, p _ (by omega) (by omega), p _ (by omega) (by omega)]
  simp only [Option.bind_some, if_true]
  unfold so2
  cases pas2 x y 250000000 <;> cases pas2 x y 750000000 <;> simp
theorem pas2_at {x y c : Int} (hp : pas2 x y c = true) : ∃ z, x ≤ z ∧ z ≤ y ∧ (z - c) % 1000000000 = 0 := by
  have := of_decide_eq_true hp
  exact ⟨(y - c) / 1000000000 * 1000000000 + c, by omega, by omega, by omega⟩
theorem so2_b (x y : Int) : -1000000000 ≤ (so2 x y).1 ∧ (so2 x y).1 ≤ (so2 x y).2 ∧ (so2 x y).2 ≤ 1000000000 := by
  have h1 := sv_b (x % 1000000000)
  have h2 := sv_b (y % 1000000000)
  unfold so2
  simp only [mn, mx]
  split <;> split <;> omega
/-- the sines of both ends lie within, with room -/
theorem so2_in (x y : Int) : In (so2 x y) (zs x) ∧ In (so2 x y) (zs y) := by
  have h1 := sin_in x
  have h2 := sin_in y
  unfold In at *
  unfold so2
  have m1 := mn_l (sv (x % 1000000000)).1 (sv (y % 1000000000)).1
  have m2 := mx_l (sv (x % 1000000000)).2 (sv (y % 1000000000)).2
  have n1 := sv_b (x % 1000000000)
  have n2 := sv_b (y % 1000000000)
  simp only
  have lo : ∀ z : Int, (((sv (z % 1000000000)).1 : Rat) ≤ 1000000000 * zs z - 99 / 100 ∨ (sv (z % 1000000000)).1 = -1000000000) → mn (sv (x % 1000000000)).1 (sv (y % 1000000000)).1 ≤ (sv (z % 1000000000)).1 →
      (((if pas2 x y 750000000 then -1000000000 else mn (sv (x % 1000000000)).1 (sv (y % 1000000000)).1 : Int) : Rat) ≤ 1000000000 * zs z - 99 / 100 ∨ (if pas2 x y 750000000 then -1000000000 else mn (sv (x % 1000000000)).1 (sv (y % 1000000000)).1) = -1000000000) := by
    intro z hz hm
    split
    · exact Or.inr rfl
    · rcases hz with hz | hz
      · exact Or.inl (Rat.le_trans (ic hm) hz)
      · exact Or.inr (by simp only [mn] at *; omega)
  have hi : ∀ z : Int, (1000000000 * zs z + 99 / 100 ≤ ((sv (z % 1000000000)).2 : Rat) ∨ (sv (z % 1000000000)).2 = 1000000000) → (sv (z % 1000000000)).2 ≤ mx (sv (x % 1000000000)).2 (sv (y % 1000000000)).2 →
      (1000000000 * zs z + 99 / 100 ≤ ((if pas2 x y 250000000 then 1000000000 else mx (sv (x % 1000000000)).2 (sv (y % 1000000000)).2 : Int) : Rat) ∨ (if pas2 x y 250000000 then 1000000000 else mx (sv (x % 1000000000)).2 (sv (y % 1000000000)).2) = 1000000000) := by
    intro z hz hm
    split
    · exact Or.inr rfl
    · rcases hz with hz | hz
      · exact Or.inl (Rat.le_trans hz (ic hm))
      · exact Or.inr (by simp only [mx] at *; omega)
  exact ⟨⟨lo x h1.1 m1.1, hi x h1.2 m2.1⟩, lo y h2.1 m1.2, hi y h2.2 m2.2⟩
theorem ored_f {a : Int} (h1 : -100000000000000000 ≤ a) (h2 : a ≤ 100000000000000000) : trig_Reduced.f a = some (a % 1000000000) := by
  have fl : interval_Floor.f a 1000000000 = some (a / 1000000000) := sfloor_ (by omega) (by omega) (by omega) (by omega)
  unfold trig_Reduced.f
  rw [fl]
  simp only [Option.bind_some]
  rw [wrap_in (n := a / 1000000000 * 1000000000) (by omega) (by omega), wrap_in (by omega) (by omega)]
  congr 1; omega
/-- cosines over an interval that is shorter than a turn -/
theorem co2_f {x y : Int} (h1 : -10000000000000000 ≤ x) (h2 : x ≤ y) (h3 : y ≤ 10000000000000000) (h4 : y - x ≤ 1000000000) (k : Nat) (hk : 12 ≤ k) :
    trig_CosOver.f k x y = some ((so2 (x % 1000000000 + 250000000) (y - x + x % 1000000000 + 250000000)).1, (so2 (x % 1000000000 + 250000000) (y - x + x % 1000000000 + 250000000)).2, 0) := by
  obtain ⟨k, rfl⟩ : ∃ m, k = m + 1 := ⟨k - 1, by omega⟩
  unfold trig_CosOver.f
  rw [tcheck_f (by omega) (by omega) (by omega), ored_f (by omega) (by omega)]
  simp only [Option.bind_some, if_true]
  rw [wrap_in (n := x % 1000000000 + 250000000) (by omega) (by omega), wrap_in (n := x % 1000000000 + 250000000 - x) (by omega) (by omega), show x + (x % 1000000000 + 250000000 - x) = x % 1000000000 + 250000000 by omega, show y + (x % 1000000000 + 250000000 - x) = y - x + x % 1000000000 + 250000000 by omega,
    wrap_in (n := x % 1000000000 + 250000000) (by omega) (by omega), wrap_in (n := y - x + x % 1000000000 + 250000000) (by omega) (by omega), wrap_in (n := x % 1000000000 + 250000000 + 1000000000) (by omega) (by omega)]
  have e : mn (y - x + x % 1000000000 + 250000000) (x % 1000000000 + 250000000 + 1000000000) = y - x + x % 1000000000 + 250000000 := by simp only [mn]; omega
  rw [e, so2_f (by omega) (by omega) (by omega) _ (by omega)]
  rfl
/-- the cosines of both ends lie within, with room -/
theorem co2_in (x y : Int) : In (so2 (x % 1000000000 + 250000000) (y - x + x % 1000000000 + 250000000)) (zc x) ∧ In (so2 (x % 1000000000 + 250000000) (y - x + x % 1000000000 + 250000000)) (zc y) := by
  have h := so2_in (x % 1000000000 + 250000000) (y - x + x % 1000000000 + 250000000)
  rw [z_quarter, z_quarter, (z_mod x).2] at h
  have e : zc (y - x + x % 1000000000) = zc y := by
    have := z_per y (-(x / 1000000000))
    rw [show y + 1000000000 * -(x / 1000000000) = y - x + x % 1000000000 by omega] at this
    exact this.2
  rw [e] at h
  exact h
end Go.Proofs.YtgmjgnojjbajdaaDoor.JG
