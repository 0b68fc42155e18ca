/- star.At of the stars' own names: what it answers. No condition on a program. -/
import Derived.Test.YtgmjgnojjbajdaaDoorSumLaw
import Derived.Test.YtgmjgnojjbajdaaDoorStar
import Derived.Test.YtgmjgnojjbajdaaDoorJRx1
import Derived.Test.YtgmjgnojjbajdaaDoorJRx1
namespace Go.Proofs.YtgmjgnojjbajdaaDoor.JR
open Go.Proofs.YtgmjgnojjbajdaaDoor.Own Go.RowKit Go.Proofs.YtgmjgnojjbajdaaDoorW.PrintWords Go.Proofs.YtgmjgnojjbajdaaDoorW.PrintLast

theorem sred_f {a b : Int} (h1 : -4000000000000000000 ≤ a) (h2 : a ≤ 4000000000000000000) (h5 : b - a ≤ 4000000000000000000) (h6 : a ≤ b) :
    series_Reduced.f a b = some (a % 1000000000, b - a / 1000000000 * 1000000000) := by
  unfold series_Reduced.f
  rw [sfloor_ (by omega) (by omega) (by omega) (by omega)]
  simp only [Option.bind_some]
  rw [wrap_in (n := a / 1000000000 * 1000000000) (by omega) (by omega), wrap_in (by omega) (by omega), wrap_in (by omega) (by omega)]
  congr 2; omega
/-- the angle of a mean motion alone -/
def mm (mean rate rest t : Int) : Int := mean - rest + tn rate t / 1000000
theorem angle_m {t : Int} (h3 : -345600000000000 ≤ t) (h4 : t < 345600086400000) {mean rate rest : Int}
    (m1 : -1000000000 ≤ mean) (m2 : mean ≤ 1000000000) (g1 : -4000000000000000 ≤ rate) (g2 : rate ≤ 4000000000000000) (r1 : 0 ≤ rest) (r2 : rest ≤ 100000000) (k : Nat) (hk : 53 ≤ k) :
    series_Angle.f k mean rate [] rest t = some (mm mean rate rest t % 1000000000, mm mean rate rest t % 1000000000 + (2 * rest + 1), 0) := by
  have tb := tn_b rate t
  have z : (sl [] t).1 = 0 ∧ (sl [] t).2 = 0 := ⟨rfl, rfl⟩
  unfold series_Angle.f
  rw [check_f (by simp) (fun x h => by cases h) h3 h4 m1 m2 g1 g2 r1 r2 k hk]
  simp only [Option.bind_some, if_true]
  rw [sum_f (by simp) (fun x h => by cases h) h3 h4 rate m1 m2 r1 r2 k hk, turned_f g1 g2 h3 h4 k (by omega)]
  simp only [Option.bind_some, z.1, z.2]
  rw [tdiv_nn tb.1, wrap_in (n := tn rate t / 1000000) (by omega) (by omega), wrap_in (n := mean - rest + 0 + tn rate t / 1000000) (by omega) (by omega), wrap_in (n := mean + rest + 0 + tn rate t / 1000000) (by omega) (by omega), wrap_in (n := mean + rest + 0 + tn rate t / 1000000 + 1) (by omega) (by omega), sred_f (by omega) (by omega) (by omega) (by omega)]
  simp only [Option.bind_some, Option.some.injEq, Prod.mk.injEq]
  unfold mm
  refine ⟨by congr 1; omega, by omega, trivial⟩
theorem lt_b : ∀ i : Nat, i < 8 → 0 ≤ (lx_ i).2.1 ∧ (lx_ i).2.1 ≤ 1000000000 ∧ -300000000 ≤ (lx_ i).2.2 ∧ (lx_ i).2.2 ≤ 300000000
  | 0, _ => by decide
  | 1, _ => by decide
  | 2, _ => by decide
  | 3, _ => by decide
  | 4, _ => by decide
  | 5, _ => by decide
  | 6, _ => by decide
  | 7, _ => by decide
  | i + 8, h => by omega
/-- the stars' names -/
def nms_ : List ByteArray := lt_.map fun x => x.1
theorem names_f : star_Names.f = some nms_ := rfl
theorem nms_len : nms_.length = 8 := rfl
theorem lk_nth : ∀ i : Nat, i < 8 → lk_ (rdOf ByteArray.empty nms_ (i : Int)) lt_ = some i
  | 0, _ => by decide +kernel
  | 1, _ => by decide +kernel
  | 2, _ => by decide +kernel
  | 3, _ => by decide +kernel
  | 4, _ => by decide +kernel
  | 5, _ => by decide +kernel
  | 6, _ => by decide +kernel
  | 7, _ => by decide +kernel
  | i + 8, h => by omega
theorem at_star {i : Nat} (hi : i < 8) {t : Int} (h3 : -345600000000000 ≤ t) (h4 : t < 345600086400000) (k : Nat) (hk : 53 ≤ k) :
    star_At.f k (rdOf ByteArray.empty nms_ (i : Int)) t = some (mm (lx_ i).2.1 97300000 100 t % 1000000000, mm (lx_ i).2.1 97300000 100 t % 1000000000 + 201, (lx_ i).2.2 - 100, (lx_ i).2.2 + 100, 0) := by
  have b := lt_b i hi
  unfold star_At.f
  rw [lk_nth i hi]
  simp only [Option.bind_some]
  unfold star_At.g
  rw [angle_m h3 h4 (by omega) (by omega) (by omega) (by omega) (by omega) (by omega) k hk]
  simp only [Option.bind_some, if_true]
  rw [wrap_in (n := (lx_ i).2.2 - 100) (by omega) (by omega), wrap_in (n := (lx_ i).2.2 + 100) (by omega) (by omega)]
  rfl
theorem inst_f (t : Int) : ephemeriskeep2_instant.f t = some (t % 604800000000000 - 302400000000000) := by
  unfold ephemeriskeep2_instant.f
  rw [tat_f (by omega) (by omega)]
  simp only [Option.bind_some]
  rw [wrap_in (by omega) (by omega)]
end Go.Proofs.YtgmjgnojjbajdaaDoor.JR
