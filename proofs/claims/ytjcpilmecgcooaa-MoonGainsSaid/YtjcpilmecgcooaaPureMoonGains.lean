/- The law MoonGains: the elongation of the moon grows by 8 to 17 degrees in a day. No condition. -/
import Derived.Test.YtjcpilmecgcooaaJDx2
import Derived.Test.YtjcpilmecgcooaaMoonLaw
namespace Go.Proofs.Ytjcpilmecgcooaa.Pure
open Go.Proofs.Ytjcpilmecgcooaa.JD Go.Proofs.Ytjcpilmecgcooaa.Own Go.Proofs.Ytjcpilmecgcooaa.Tp Go.RowKit Go.Proofs.YtjcpilmecgcooaaW.PrintWords Go.Proofs.YtjcpilmecgcooaaW.PrintLast

theorem moon_works : ∃ k0, ∀ k, k0 ≤ k → ephemeriskeep2_moonWorks.f k = some true :=
  of_mono (k0 := 60) ephemeriskeep2_moonWorks.mono (by decide +kernel)
theorem minstant_f (a : Int) : ephemeriskeep2_instant.f a = some (a % 604800000000000 - 302400000000000) := by
  unfold ephemeriskeep2_instant.f
  rw [tat_f (by omega) (by omega)]
  simp only [Option.bind_some]
  rw [wrap_in (by omega) (by omega)]

theorem MoonGains : ephemeriskeep2_MoonGains.Pure := by
  intro a _
  obtain ⟨k0, hw⟩ := moon_works
  have h3 : -302400000000000 ≤ a % 604800000000000 - 302400000000000 := by omega
  have h4 : a % 604800000000000 - 302400000000000 < 302400000000000 := by omega
  have ei := minstant_f a
  generalize a % 604800000000000 - 302400000000000 = t at *
  obtain ⟨p, q, hp, p1, p2, p3, p4, i, p5, p6⟩ := elong_f (t := t) (by omega) (by omega)
  obtain ⟨u, v, hu, u1, u2, u3, u4, j, u5, u6⟩ := elong_f (t := t + 86400000) (by omega) (by omega)
  have st := EE_lin (t := t) (d := 86400000) (by omega)
  have cd : ((86400000 : Int) : Rat) = 86400000 := by decide +kernel
  have cT : ((1000000000 : Int) : Rat) = 1000000000 := by decide +kernel
  have cw : ((44018 : Int) : Rat) = 44018 := by decide +kernel
  have w1 := ic p4
  have w2 := ic u4
  rw [Rat.intCast_sub, cw] at w1 w2
  rw [cd] at st
  have lo : (22122223 : Int) ≤ u - q + 1000000000 * (j - i) := by
    apply ci
    have c : ((22122223 : Int) : Rat) = 22122223 := by decide +kernel
    rw [c, Rat.intCast_add, Rat.intCast_sub, Rat.intCast_mul, cT, Rat.intCast_sub]; grind
  have hi : u - q + 1000000000 * (j - i) ≤ (47222221 : Int) := by
    apply ci
    have c : ((47222221 : Int) : Rat) = 47222221 := by decide +kernel
    rw [c, Rat.intCast_add, Rat.intCast_sub, Rat.intCast_mul, cT, Rat.intCast_sub]; grind
  refine ⟨k0 + 60, ?_⟩
  unfold ephemeriskeep2_MoonGains.f
  rw [hw _ (by omega), ei]
  simp only [Option.bind_some, if_true]
  rw [wrap_in (n := t + 86400000) (by omega) (by omega), hp _ (by omega), hu _ (by omega)]
  simp only [Option.bind_some, if_true]
  rw [wrap_in (n := u - q) (by omega) (by omega), tat_f (by omega) (by omega)]
  simp only [Option.bind_some]
  rw [if_pos (by omega), decide_eq_true (by omega)]
end Go.Proofs.Ytjcpilmecgcooaa.Pure
