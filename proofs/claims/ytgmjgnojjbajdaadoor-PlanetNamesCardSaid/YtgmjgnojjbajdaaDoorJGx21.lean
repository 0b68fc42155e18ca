-- Made by a program of this session (wip/hp.py, over the kit's print) out of the translation. Not trusted: Lean checks it.
import Derived.Test.YtgmjgnojjbajdaaDoorJGx0
import Derived.Test.YtgmjgnojjbajdaaDoorJGx1
import Derived.Test.YtgmjgnojjbajdaaDoorJGx2
import Derived.Test.YtgmjgnojjbajdaaDoorJGx3
import Derived.Test.YtgmjgnojjbajdaaDoorJGx15
import Derived.Test.YtgmjgnojjbajdaaDoorJGx20
import Derived.Test.YtgmjgnojjbajdaaDoorOrb
import Derived.Test.YtgmjgnojjbajdaaDoorPlanetLaw
namespace Go.Proofs.YtgmjgnojjbajdaaDoor.JG
open Go.RowKit Go.Proofs.YtgmjgnojjbajdaaDoorW.PrintWords Go.Proofs.YtgmjgnojjbajdaaDoorW.PrintLast Go.Proofs.YtgmjgnojjbajdaaDoorW.PrintMore
attribute [local go_sem] max2_int min2_int max_two min_two max_three min_three max_four min_four   -- for this text's walks alone
set_option linter.unusedVariables false
set_option linter.unusedSimpArgs false

/-! ### ephemeriskeep2_PlanetNames: function 4 -/
-- hand
-- body
-- IMPORT Derived.Test.YtgmjgnojjbajdaaDoorOrb
-- IMPORT Derived.Test.YtgmjgnojjbajdaaDoorPlanetLaw
-- LAID ephemeris/planet.orbits
theorem orb_far : ∀ i, i < 5 → Far (lx_ i).2.1 ∧ -1000000000 ≤ (lx_ i).2.2.1 ∧ (lx_ i).2.2.1 ≤ 1000000000 ∧ -4000000000000000 ≤ (lx_ i).2.2.2 ∧ (lx_ i).2.2.2 ≤ 4000000000000000
  | 0, _ => ⟨Or.inl ⟨by decide, by decide⟩, by decide, by decide, by decide, by decide⟩
  | 1, _ => ⟨Or.inl ⟨by decide, by decide⟩, by decide, by decide, by decide, by decide⟩
  | 2, _ => ⟨Or.inr ⟨by decide, by decide⟩, by decide, by decide, by decide, by decide⟩
  | 3, _ => ⟨Or.inr ⟨by decide, by decide⟩, by decide, by decide, by decide, by decide⟩
  | 4, _ => ⟨Or.inr ⟨by decide, by decide⟩, by decide, by decide, by decide, by decide⟩
  | i + 5, h => by omega
theorem lon_all (i : Nat) (hi : i < 5) (t : Int) (h0 : -302400000000000 ≤ t) (h1 : t < 302400000000000) : ∃ lo hh : Int, ∀ w' : World, Aside0 (Tab_ w') → Calls Tryd.prog 17 #[.string (lx_ i).1, .int .i64 t] w' fun e w'' => e = .returned (.tuple #[.agg #[.int .i64 lo, .int .i64 hh], .int .i64 0]) ∧ Below w'.heap.size w' w'' := by
  obtain ⟨f1, f2, f3, f4, f5⟩ := orb_far i hi
  obtain ⟨h0, h1, s0, s1, a0, a1, b0, b1, c0, c1, d0, d1, lo, hh, k, e1, e2, e3, e4, e5, e6, e7, e8, e9, e10, e11, e12, e13, e14, e15⟩ := seen_all f1 f2 f3 f4 f5 (t := t) (by omega) (by omega)
  exact ⟨lo, hh, fun w' ht => longitude_ok k i hi t h0 h1 s0 s1 a0 a1 b0 b1 c0 c1 d0 d1 _ _ _ _ lo hh w' ht e1 e2 e3 e4 e5 e6 e7 e8 e9 e10 e11 e12 e13 e14 e15⟩
theorem rad_pos : ∀ i, i < 5 → decide (0 < (lx_ i).2.1) = true
  | 0, _ => rfl
  | 1, _ => rfl
  | 2, _ => rfl
  | 3, _ => rfl
  | 4, _ => rfl
  | i + 5, h => by omega
theorem no_x : ∀ i, i < 5 → ∀ j, j < 5 → (lx_ j).1 ≠ (lx_ i).1 ++ ⟨#[120]⟩ := by
  intro i hi j hj
  have key : ∀ i j : Fin 5, ¬ (lx_ j).1.data.toList = ((lx_ i).1 ++ ⟨#[120]⟩).data.toList := by decide +kernel
  intro e
  exact key ⟨i, hi⟩ ⟨j, hj⟩ (by rw [e])
theorem at_v {a m : Int} (h : 0 < m) (h' : m ≤ 4000000000000000000) : ephemeriskeep2_at.f a m = some (a % m) := by
  unfold ephemeriskeep2_at.f
  rw [if_neg (by omega), Go.Proofs.YtgmjgnojjbajdaaDoor.Own.at_val h h']
theorem nm_sz : ∀ j, j < 5 → (lx_ j).1.size ≤ 7
  | 0, _ => by decide
  | 1, _ => by decide
  | 2, _ => by decide
  | 3, _ => by decide
  | 4, _ => by decide
  | j + 5, h => by omega
theorem e1_ {i : Nat} : (0 ≤ (i : Int)) = True := eq_true (by omega)
theorem nm_at : ∀ j, j < 5 → (lt_.map fun x => x.1).getD j ⟨#[]⟩ = (lx_ j).1
  | 0, _ => rfl
  | 1, _ => rfl
  | 2, _ => rfl
  | 3, _ => rfl
  | 4, _ => rfl
  | j + 5, h => by omega
set_option maxHeartbeats 8000000 in
set_option maxRecDepth 100000 in
theorem ephemeriskeep2_PlanetNames.calls (a0 a1 : Int) (r : Bool) (w : World) (h : ephemeriskeep2_PlanetNames.f a0 a1 = some r) (ht_ : Aside0 (Tab_ w)) :
    Calls Tryd.prog 4 #[.int .i64 a0, .int .i64 a1] w fun e w' => e = .returned (.bool r) ∧ Below w.heap.size w w' := by
  have hu28 := Tryd.underlying28
  have hu23 := Tryd.underlying23
  obtain rfl := Option.some.inj h
  clear h
  obtain ⟨j, hj⟩ : ∃ j : Nat, a0 % 5 = (j : Int) := ⟨(a0 % 5).toNat, by omega⟩
  have j5 : j < 5 := by omega
  obtain ⟨T, hT⟩ : ∃ T, a1 % 604800000000000 - 302400000000000 = T := ⟨_, rfl⟩
  have T0 : -302400000000000 ≤ T := by omega
  have T1 : T < 302400000000000 := by omega
  have AJ : Aside0 (ephemeriskeep2_at.f a0 5 = some (j : Int)) := ⟨by rw [at_v (by decide) (by decide), hj]⟩
  have AT : Aside0 (ephemeriskeep2_instant.f a1 = some T) := ⟨by unfold ephemeriskeep2_instant.f; rw [at_v (by decide) (by decide)]; simp only [Option.bind_some]; rw [wrap_in_ (by omega) (by omega), hT]⟩
  obtain ⟨lo, hh, hL⟩ := lon_all j j5 T T0 T1
  have HL := Aside0.mk hL
  have rp := rad_pos j j5
  have HR := Aside0.mk (radius_ok j j5)
  have HX := Aside0.mk (radius_no _ (no_x j j5))
  clear hL hj hT T0 T1
  go_enter Tryd.func4, Tryd.ntmps4
  go_wp2_with fail
  refine (works_ok w ht_).mono ?_
  rintro e v1 ⟨rfl, hb⟩
  have HB1 := Aside0.mk hb
  clear hb
  go_wp2_with fail
  refine (names_ok _ (tabz_ ht_ HB1.out)).mono ?_
  rintro e v2 ⟨v, rfl, hR, hb⟩
  have HB2 := Aside0.mk (below_step HB1.out hb)
  obtain ⟨A, cc, hv, hcc, hC⟩ := Kd.R_reads hR
  have h5 : (lt_.map fun x => x.1).length = 5 := rfl
  rw [h5] at hv hC
  obtain ⟨ad, c, e1, _, hK, hc0⟩ := Kd.C_get hC ⟨#[]⟩ (j : Int) (Int.natCast_nonneg j) (Int.ofNat_lt.mpr j5)
  subst e1
  subst hv
  rw [Int.toNat_natCast, nm_at j j5] at hK
  have hc : c = [.string (lx_ j).1] := hK
  subst hc
  have hz := hc0 0 _ rfl
  rw [Int.toNat_natCast] at hz
  have hz1 : v2.cell? (ad.add j) = some (.string (lx_ j).1) := by rw [show Kd.string.sz = 1 from rfl] at hz; simpa using hz
  have g1 : (0 ≤ (j : Int)) = True := e1_ 
  have g2 : ((j : Int) < 5) = True := eq_true (by omega)
  have nz := nm_sz j j5
  clear hz hc0 hK hC hcc h5 hR hb j5 HB1
  generalize (lx_ j).1 = n_ at HL HR HX hz1 nz
  generalize (lx_ j).2.1 = rr at HR rp
  go_wp2_with (first | (go_at_call 10; (with_reducible refine (ephemeriskeep2_at.calls a0 5 (j : Int) _ AJ.out).mono ?_); rintro e w' ⟨rfl, ⟨nd, rfl⟩⟩))
  refine (HR.out _ (tabz_ ht_ (pw_below_drewN HB2.out _))).mono ?_
  rintro e v3 ⟨rfl, hb⟩
  have HB3 := Aside0.mk (below_step (pw_below_drewN HB2.out nd) hb)
  clear hb hz1 HB2
  go_wp2_with (first | (go_at_call 11; (with_reducible refine (ephemeriskeep2_instant.calls a1 T _ AT.out).mono ?_); rintro e w' ⟨rfl, ⟨nd2, rfl⟩⟩))
  refine (HL.out _ (tabz_ ht_ (pw_below_drewN HB3.out _))).mono ?_
  rintro e v4 ⟨rfl, hb⟩
  have HB4 := Aside0.mk (below_alloc (below_step (pw_below_drewN HB3.out nd2) hb) (sp_ lo hh))
  clear hb HB3
  go_wp2_with fail
  refine (HX.out _ (tabz_ ht_ HB4.out)).mono ?_
  rintro e v5 ⟨rfl, hb⟩
  have HB5 := Aside0.mk (below_step HB4.out hb)
  clear hb HB4
  go_wp2
  go_ret
  refine ⟨rfl, ?_⟩
  repeat (first | exact HB5.out | apply below_drew | apply pw_below_drewN | apply below_alloc)

end Go.Proofs.YtgmjgnojjbajdaaDoor.JG
