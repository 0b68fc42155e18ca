/- The law TopSums: the longitude of the moon is the sum of its parts. No condition. -/
import Derived.Test.YtklkgncokbkaiaaJKx1
import Derived.Test.YtklkgncokbkaiaaSumLaw
namespace Go.Proofs.Ytklkgncokbkaiaa.Pure
open Go.Proofs.Ytklkgncokbkaiaa.JK Go.Proofs.Ytklkgncokbkaiaa.Own Go.RowKit Go.Proofs.YtklkgncokbkaiaaW.PrintWords Go.Proofs.YtklkgncokbkaiaaW.PrintLast

abbrev ST := S47
theorem tv_amp {x : ST} (t A : Int) (h1 : -A ≤ x.f0) (h2 : x.f0 ≤ A) : -A ≤ (tv x t).1 ∧ (tv x t).1 ≤ (tv x t).2 ∧ (tv x t).2 ≤ A := by
  have b := so_b (tan x t)
  unfold tv interval_Scale.lo interval_Scale.hi
  simp only
  generalize so (tan x t) = p at *
  by_cases c : x.f0 < 0
  · rw [if_pos c, if_pos c]
    have u1 := Int.mul_le_mul_of_nonneg_right b.1 (show 0 ≤ -x.f0 by omega)
    have u2 := Int.mul_le_mul_of_nonneg_right b.2.1 (show 0 ≤ -x.f0 by omega)
    have u3 := Int.mul_le_mul_of_nonneg_right b.2.2 (show 0 ≤ -x.f0 by omega)
    rw [Int.neg_mul]
    generalize p.2 * -x.f0 = B at *
    generalize p.1 * -x.f0 = C at *
    omega
  · rw [if_neg c, if_neg c]
    have u1 := Int.mul_le_mul_of_nonneg_right b.1 (show 0 ≤ x.f0 by omega)
    have u2 := Int.mul_le_mul_of_nonneg_right b.2.1 (show 0 ≤ x.f0 by omega)
    have u3 := Int.mul_le_mul_of_nonneg_right b.2.2 (show 0 ≤ x.f0 by omega)
    rw [Int.neg_mul]
    generalize p.2 * x.f0 = B at *
    generalize p.1 * x.f0 = C at *
    omega
theorem tred_f {a b : Int} (h1 : -4000000000000000000 ≤ a) (h2 : a ≤ 4000000000000000000) (h5 : b - a ≤ 4000000000000000000) (h6 : a ≤ b) :
    series_Reduced.f a b = some (a % 1000000000, b - a / 1000000000 * 1000000000) := by
  unfold series_Reduced.f
  rw [sfloor_ (by omega) (by omega) (by omega) (by omega)]
  simp only [Option.bind_some]
  rw [wrap_in (n := a / 1000000000 * 1000000000) (by omega) (by omega), wrap_in (by omega) (by omega), wrap_in (by omega) (by omega)]
  congr 2; omega
theorem angle_x {l : List ST} (hl : l.length ≤ 40) (ho : ∀ x ∈ l, tok x) {t : Int} (h3 : -345600000000000 ≤ t) (h4 : t < 345600086400000) {mean rate rest : Int}
    (m1 : -1000000000 ≤ mean) (m2 : mean ≤ 1000000000) (g1 : -4000000000000000 ≤ rate) (g2 : rate ≤ 4000000000000000) (r1 : 0 ≤ rest) (r2 : rest ≤ 100000000) (k : Nat) (hk : 53 ≤ k) :
    series_Angle.f k mean rate l rest t = some ((mean - rest + (sl l t).1 + tn rate t / 1000000) % 1000000000, mean + rest + (sl l t).2 + tn rate t / 1000000 + 1 - (mean - rest + (sl l t).1 + tn rate t / 1000000) / 1000000000 * 1000000000, 0) := by
  have b := sl_b ho t
  have tb := tn_b rate t
  unfold series_Angle.f
  rw [check_f hl ho h3 h4 m1 m2 g1 g2 r1 r2 k hk]
  simp only [Option.bind_some, if_true]
  rw [sum_f hl ho h3 h4 rate m1 m2 r1 r2 k hk, turned_f g1 g2 h3 h4 k (by omega)]
  simp only [Option.bind_some]
  rw [tdiv_nn tb.1, wrap_in (n := tn rate t / 1000000) (by omega) (by omega), wrap_in (n := mean - rest + (sl l t).1 + tn rate t / 1000000) (by omega) (by omega), wrap_in (n := mean + rest + (sl l t).2 + tn rate t / 1000000) (by omega) (by omega), wrap_in (n := mean + rest + (sl l t).2 + tn rate t / 1000000 + 1) (by omega) (by omega), tred_f (by omega) (by omega) (by omega) (by omega)]
  rfl

theorem sky_works : ∃ k0, ∀ k, k0 ≤ k → ephemeristop_sSky.f k = some true :=
  of_mono (k0 := 300) ephemeristop_sSky.mono (by decide +kernel)
theorem sat_f {a m : Int} (h : 0 < m) (h' : m ≤ 4000000000000000000) : ephemeristop_sAt.f a m = some (a % m) := by
  unfold ephemeristop_sAt.f
  rw [if_neg (by omega), at_val h h']
instance (x : ST) : Decidable (tok x) := inferInstanceAs (Decidable (_ ∧ _ ∧ _ ∧ _ ∧ _ ∧ _))

theorem TopSums : ephemeristop_TopSums.Pure := by
  intro a b _ _
  obtain ⟨k0, hw⟩ := sky_works
  refine ⟨k0 + 100, ?_⟩
  unfold ephemeristop_TopSums.f
  rw [hw _ (by omega)]
  unfold ephemeristop_sInstant.f
  rw [sat_f (by omega) (by omega)]
  have h3 : -345600000000000 ≤ a % 604800000000000 - 302400000000000 := by omega
  have h4 : a % 604800000000000 - 302400000000000 < 345600086400000 := by omega
  simp only [Option.bind_some, if_true]
  rw [wrap_in (n := a % 604800000000000 - 302400000000000) (by omega) (by omega)]
  generalize a % 604800000000000 - 302400000000000 = t at *
  unfold moon_Longitude.f moon_Series.f
  simp only [Option.bind_some]
  have tb := tn_b 36601101305556 t
  have a1 := tv_amp (x := ⟨17468817, 99384016, 36291647083333⟩) t 17468817 (by decide) (by decide)
  have a2 := tv_amp (x := ⟨3538964, 134030564, 31434736861111⟩) t 3538964 (by decide) (by decide)
  have a3 := tv_amp (x := ⟨1828650, 233414580, 67726383944444⟩) t 1828650 (by decide) (by decide)
  have a4 := tv_amp (x := ⟨593383, 198768032, 72583294166666⟩) t 593383 (by decide) (by decide)
  have a5 := tv_amp (x := ⟨(-514211), 84888545, 2737778555556⟩) t 514211 (by decide) (by decide)
  have a6 := tv_amp (x := ⟨(-317589), 297001062, 73496390222222⟩) t 317589 (by decide) (by decide)
  rw [angle_x (by decide) (by decide +kernel) h3 h4 (by omega) (by omega) (by omega) (by omega) (by omega) (by omega) _ (by omega), angle_x (l := []) (by decide) (by decide +kernel) h3 h4 (by omega) (by omega) (by omega) (by omega) (by omega) (by omega) _ (by omega),
    value_f (by decide) (by decide +kernel) h3 h4 (by omega) (by omega) (by omega) (by omega) (by omega) (by omega) _ (by omega), value_f (by decide) (by decide +kernel) h3 h4 (by omega) (by omega) (by omega) (by omega) (by omega) (by omega) _ (by omega)]
  simp only [Option.bind_some, if_true, sl]
  generalize tn 36601101305556 t / 1000000 = A at *
  generalize tv ⟨17468817, 99384016, 36291647083333⟩ t = v1 at *
  generalize tv ⟨3538964, 134030564, 31434736861111⟩ t = v2 at *
  generalize tv ⟨1828650, 233414580, 67726383944444⟩ t = v3 at *
  generalize tv ⟨593383, 198768032, 72583294166666⟩ t = v4 at *
  generalize tv ⟨(-514211), 84888545, 2737778555556⟩ t = v5 at *
  generalize tv ⟨(-317589), 297001062, 73496390222222⟩ t = v6 at *
  obtain ⟨p1, q1⟩ := v1
  obtain ⟨p2, q2⟩ := v2
  obtain ⟨p3, q3⟩ := v3
  obtain ⟨p4, q4⟩ := v4
  obtain ⟨p5, q5⟩ := v5
  obtain ⟨p6, q6⟩ := v6
  simp only at a1 a2 a3 a4 a5 a6 ⊢
  simp only [Int.add_zero, Int.sub_zero, Int.zero_add]
  generalize hL : (392048814 - 20000 + (p1 + (p2 + (p3 + (p4 + (p5 + p6))))) + A) % 1000000000 = L
  generalize hM : (392048814 + A) % 1000000000 = M
  have L1 : 0 ≤ L ∧ L < 1000000000 := by omega
  have M1 : 0 ≤ M ∧ M < 1000000000 := by omega
  rw [wrap_in (n := L - M) (by omega) (by omega), wrap_in (n := L - M - p1) (by omega) (by omega), wrap_in (n := L - M - p1 - p2) (by omega) (by omega), wrap_in (n := L - M - p1 - p2 + 500000000) (by omega) (by omega), sat_f (by omega) (by omega)]
  simp only [Option.bind_some]
  have D : (L - M - p1 - p2 + 500000000) % 1000000000 = p3 + p4 + p5 + p6 - 20000 + 500000000 := by omega
  rw [D, wrap_in (by omega) (by omega), if_pos (by omega), decide_eq_true (by omega)]
end Go.Proofs.Ytklkgncokbkaiaa.Pure
