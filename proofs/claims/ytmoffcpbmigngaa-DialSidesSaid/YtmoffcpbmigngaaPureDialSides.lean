/- The law DialSides: the lines of the morning and of the afternoon are symmetrical and in order. No condition. -/
import Derived.Test.YtmoffcpbmigngaaJDx2
import Derived.Test.YtmoffcpbmigngaaDialLaw
namespace Go.Proofs.Ytmoffcpbmigngaa.Pure
open Go.Proofs.Ytmoffcpbmigngaa.JD Go.Proofs.Ytmoffcpbmigngaa.Own Go.Proofs.Ytmoffcpbmigngaa.Tp Go.RowKit Go.Proofs.YtmoffcpbmigngaaW.PrintWords Go.Proofs.YtmoffcpbmigngaaW.PrintLast

theorem dial_works : ∃ k0, ∀ k, k0 ≤ k → ephemeriskeep2_dialWorks.f k = some true :=
  of_mono (k0 := 300) ephemeriskeep2_dialWorks.mono (by decide +kernel)
theorem eta_neg {h : Int} (h1 : 6 ≤ h) (h2 : h ≤ 18) : eta (24 - h) = -(eta h) := by
  rcases (by omega : h = 6 ∨ h = 7 ∨ h = 8 ∨ h = 9 ∨ h = 10 ∨ h = 11 ∨ h = 12 ∨ h = 13 ∨ h = 14 ∨ h = 15 ∨ h = 16 ∨ h = 17 ∨ h = 18) with g | g | g | g | g | g | g | g | g | g | g | g | g <;> subst g <;> decide
theorem eta_step {h : Int} (h1 : 6 ≤ h) (h2 : h ≤ 17) : eta (h + 1) - eta h = 41666666 ∨ eta (h + 1) - eta h = 41666667 := by
  rcases (by omega : h = 6 ∨ h = 7 ∨ h = 8 ∨ h = 9 ∨ h = 10 ∨ h = 11 ∨ h = 12 ∨ h = 13 ∨ h = 14 ∨ h = 15 ∨ h = 16 ∨ h = 17) with g | g | g | g | g | g | g | g | g | g | g | g <;> subst g <;> decide
/-- the mirror image of the line of the morning -/
theorem mir {φ η lo hi lo2 hi2 : Int} {Y X Y2 X2 : Rat} (A : Ln φ η lo hi Y X) (B : Ln φ (-η) lo2 hi2 Y2 X2) (m : Int) :
    -(13 / 1000) ≤ cr Y X (-m) + cr Y2 X2 m ∧ cr Y X (-m) + cr Y2 X2 m ≤ 13 / 1000 ∧ -(13 / 1000) ≤ dt Y X (-m) - dt Y2 X2 m ∧ dt Y X (-m) - dt Y2 X2 m ≤ 13 / 1000 := by
  have ep : eps = 1 / 10000000000000 := rfl
  have e0 := e0_
  obtain ⟨⟨n1, n2⟩, n3, n4⟩ := z_neg m
  obtain ⟨⟨g1, g2⟩, g3, g4⟩ := z_neg η
  have zφ := z_bd φ
  have zm := z_bd m
  have ny0 := A.ny0
  have ny1 := A.ny1
  have nx0 := A.nx0
  have nx1 := A.nx1
  have my0 := B.ny0
  have my1 := B.ny1
  have mx0 := B.nx0
  have mx1 := B.nx1
  have k1 := mul_ab (u := zs φ) (v := zs (-η) + zs η) (A := 3 / 2) (B := 4 * eps) (by grind) (by grind) g1 g2
  have S : -(9 / 1000) ≤ Y + Y2 ∧ Y + Y2 ≤ 9 / 1000 := by
    rw [ep] at k1
    constructor <;> grind
  have D : -(3 / 1000) ≤ X - X2 ∧ X - X2 ≤ 3 / 1000 := by
    rw [ep] at g3 g4
    constructor <;> grind
  have m1 := mul_ab (u := Y + Y2) (v := zc m) (A := 9 / 1000) (B := 1 + eps) S.1 S.2 (by grind) (by grind)
  have m2 := mul_ab (u := X - X2) (v := zs m) (A := 3 / 1000) (B := 1 + eps) D.1 D.2 (by grind) (by grind)
  have m3 := mul_ab (u := Y) (v := zc (-m) - zc m) (A := 1000000000) (B := 4 * eps) A.y0 A.y1 n3 n4
  have m4 := mul_ab (u := X) (v := zs (-m) + zs m) (A := 1000000000) (B := 4 * eps) A.x0 A.x1 n1 n2
  have m5 := mul_ab (u := Y + Y2) (v := zs m) (A := 9 / 1000) (B := 1 + eps) S.1 S.2 (by grind) (by grind)
  have m6 := mul_ab (u := X - X2) (v := zc m) (A := 3 / 1000) (B := 1 + eps) D.1 D.2 (by grind) (by grind)
  have m7 := mul_ab (u := Y) (v := zs (-m) + zs m) (A := 1000000000) (B := 4 * eps) A.y0 A.y1 n1 n2
  have m8 := mul_ab (u := X) (v := zc (-m) - zc m) (A := 1000000000) (B := 4 * eps) A.x0 A.x1 n3 n4
  unfold cr dt
  rw [ep] at *
  refine ⟨?_, ?_, ?_, ?_⟩ <;> grind
theorem sides {φ η lo hi lo2 hi2 : Int} {Y X Y2 X2 : Rat} (A : Ln φ η lo hi Y X) (B : Ln φ (-η) lo2 hi2 Y2 X2) : lo ≤ -lo2 ∧ -hi2 ≤ hi := by
  have m1 := mir A B lo2
  have m2 := mir A B hi2
  have a1 := A.cl0
  have a2 := A.ch0
  have a3 := A.ch1
  have a4 := A.dl0
  have a5 := A.dh0
  have b1 := B.cl0
  have b2 := B.cl1
  have b3 := B.ch1
  have b4 := B.dl0
  have b5 := B.dh0
  have r1 := A.lo0
  have r2 := A.lo1
  have r3 := A.w
  have r4 := A.le
  have s1 := B.lo0
  have s2 := B.lo1
  have s3 := B.w
  have s4 := B.le
  constructor
  · exact ord (B := 1000000000) (R := 9999999) (e := 0) (e' := 13 / 1000) A.y0 A.y1 A.x0 A.x1 (by decide +kernel) (by decide +kernel) (by grind) (by grind) (by grind) (by grind) (by omega) (by decide +kernel) (by grind) (by grind) (by decide +kernel)
  · exact ord (B := 1000000000) (R := 9999999) (e := 13 / 1000) (e' := 0) A.y0 A.y1 A.x0 A.x1 (by decide +kernel) (by decide +kernel) (by grind) (by grind) (by grind) (by grind) (by omega) (by decide +kernel) (by grind) (by grind) (by decide +kernel)
theorem num41 : 258 / 1000 ≤ zs 41666666 ∧ 258 / 1000 ≤ zs 41666667 ∧ arc 80003 ≤ 6 / 10000 := by decide +kernel
theorem order {φ η η' lo hi lo3 hi3 : Int} {Y X Y3 X3 : Rat} (f1 : 10000000 ≤ φ) (f2 : φ ≤ 220000000) (A : Ln φ η lo hi Y X) (C : Ln φ η' lo3 hi3 Y3 X3) (h : η' - η = 41666666 ∨ η' - η = 41666667) : hi < lo3 := by
  rcases Int.lt_or_le hi lo3 with c | c
  · exact c
  exfalso
  have ep : eps = 1 / 10000000000000 := rfl
  have e0 := e0_
  obtain ⟨n41, n42, n43⟩ := num41
  have zl := (zphi f1 f2).1
  -- the product of both directions
  have cross : 14000000000000000 ≤ Y3 * X - X3 * Y := by
    have zd : 258 / 1000 ≤ zs (η' - η) := by rcases h with h | h <;> rw [h] <;> assumption
    obtain ⟨⟨a1, a2⟩, -⟩ := z_add η' (-η)
    rw [show η' + -η = η' - η by omega] at a1 a2
    obtain ⟨⟨g1, g2⟩, g3, g4⟩ := z_neg η
    have z1 := z_bd η
    have z2 := z_bd η'
    have zφ := z_bd φ
    have m1 := mul_ab (u := zs η') (v := zc (-η) - zc η) (A := 2) (B := 4 * eps) (by grind) (by grind) g3 g4
    have m2 := mul_ab (u := zc η') (v := zs (-η) + zs η) (A := 2) (B := 4 * eps) (by grind) (by grind) g1 g2
    have D : 257 / 1000 ≤ zs η' * zc η - zc η' * zs η := by
      rw [ep] at *
      grind
    have m3 := Rat.mul_nonneg (show 0 ≤ zs φ - 55 / 1000 by grind) (show 0 ≤ zs η' * zc η - zc η' * zs η by grind)
    have m4 : 14135 / 1000000 ≤ zs φ * (zs η' * zc η - zc η' * zs η) := by grind
    clear m3 D m1 m2 a1 a2 g1 g2 g3 g4 zd
    obtain ⟨u1, hu1⟩ : ∃ u, Y - 1000000000 * (zs φ * zs η) = u := ⟨_, rfl⟩
    obtain ⟨u2, hu2⟩ : ∃ u, X - 1000000000 * zc η = u := ⟨_, rfl⟩
    obtain ⟨u3, hu3⟩ : ∃ u, Y3 - 1000000000 * (zs φ * zs η') = u := ⟨_, rfl⟩
    obtain ⟨u4, hu4⟩ : ∃ u, X3 - 1000000000 * zc η' = u := ⟨_, rfl⟩
    have q1 := A.ny0
    have q2 := A.ny1
    have q3 := A.nx0
    have q4 := A.nx1
    have q5 := C.ny0
    have q6 := C.ny1
    have q7 := C.nx0
    have q8 := C.nx1
    rw [hu1] at q1 q2
    rw [hu2] at q3 q4
    rw [hu3] at q5 q6
    rw [hu4] at q7 q8
    have t1 := mul_ab (u := u3) (v := X) (A := 4 / 1000) (B := 1000000000) q5 q6 A.x0 A.x1
    have t2 := mul_ab (u := u4) (v := Y) (A := 1 / 1000) (B := 1000000000) q7 q8 A.y0 A.y1
    have ff := mul_ab (u := zs φ) (v := zs η') (A := 3 / 2) (B := 3 / 2) (by grind) (by grind) (by grind) (by grind)
    have t3 := mul_ab (u := u2) (v := zs φ * zs η') (A := 1 / 1000) (B := 3 / 2 * (3 / 2)) q3 q4 ff.1 ff.2
    have t4 := mul_ab (u := u1) (v := zc η') (A := 4 / 1000) (B := 3 / 2) q1 q2 (by grind) (by grind)
    have e : Y3 * X - X3 * Y = 1000000000000000000 * (zs φ * (zs η' * zc η - zc η' * zs η)) + u3 * X - u4 * Y + 1000000000 * (u2 * (zs φ * zs η')) - 1000000000 * (u1 * zc η') := by
      have e1 : Y3 = 1000000000 * (zs φ * zs η') + u3 := by grind
      have e2 : X3 = 1000000000 * zc η' + u4 := by grind
      have e3 : X = 1000000000 * zc η + u2 := by grind
      have e4 : Y = 1000000000 * (zs φ * zs η) + u1 := by grind
      rw [e1, e2]
      generalize hX : X = X' at *
      generalize hY : Y = Y' at *
      have e3' : X' = 1000000000 * zc η + u2 := e3
      have e4' : Y' = 1000000000 * (zs φ * zs η) + u1 := e4
      grind
    rw [e]
    generalize zs φ * (zs η' * zc η - zc η' * zs η) = w at *
    generalize u3 * X = w1 at *
    generalize u4 * Y = w2 at *
    generalize u2 * (zs φ * zs η') = w3 at *
    generalize u1 * zc η' = w4 at *
    grind
  have hb : ∀ (y x : Rat) (b : Int), -1000000000 ≤ y → y ≤ 1000000000 → -1000000000 ≤ x → x ≤ 1000000000 → -2100000000 ≤ dt y x b ∧ dt y x b ≤ 2100000000 := by
    intro y x b y0 y1 x0 x1
    have z := z_bd b
    have m1 := mul_ab (u := x) (v := zc b) (A := 1000000000) (B := 105 / 100) x0 x1 (by grind) (by grind)
    have m2 := mul_ab (u := y) (v := zs b) (A := 1000000000) (B := 105 / 100) y0 y1 (by grind) (by grind)
    unfold dt
    constructor <;> grind
  have d1 := hb Y X lo3 A.y0 A.y1 A.x0 A.x1
  have d2 := hb Y3 X3 lo3 C.y0 C.y1 C.x0 C.x1
  have d3 := hb Y X hi A.y0 A.y1 A.x0 A.x1
  have r1 := A.lo1
  have r2 := A.w
  have r3 := A.le
  have r4 := C.lo0
  have dl : 0 ≤ hi - lo3 ∧ hi - lo3 ≤ 500080003 := by omega
  have zδ : -(6 / 10000) ≤ zs (hi - lo3) := by
    rcases (by omega : hi - lo3 ≤ 500000000 ∨ 500000001 ≤ hi - lo3) with k | k
    · have := (zs_ge dl.1 k).1; grind
    · have e := (z_half (hi - lo3 - 500000000)).1
      rw [show hi - lo3 - 500000000 + 500000000 = hi - lo3 by omega] at e
      have q := (z_q0 (a := hi - lo3 - 500000000) (by omega) (by omega)).1
      have b := arc_b (a := hi - lo3 - 500000000) (by omega) (by omega)
      have m := arc_mono (show hi - lo3 - 500000000 ≤ 80003 by omega)
      have m0 := arc_mono (show 0 ≤ hi - lo3 - 500000000 by omega)
      have z0 : arc 0 = 0 := by decide +kernel
      have s := sn_b (x := arc (hi - lo3 - 500000000)) (by grind) b.2
      rw [e, q]; grind
  have back := (cr_add (B := 1000000000) A.y0 A.y1 A.x0 A.x1 hi (-(hi - lo3))).1.1
  rw [show hi + -(hi - lo3) = lo3 by omega] at back
  obtain ⟨⟨n1, n2⟩, -, -⟩ := z_neg (hi - lo3)
  have zb := z_bd (-(hi - lo3))
  have m1 := mul_ab (u := cr Y X hi) (v := zc (-(hi - lo3))) (A := 30000) (B := 3 / 2) A.ch0 (by have := A.ch1; grind) (by grind) (by grind)
  have m2 := mul_ab (u := dt Y X hi) (v := zs (-(hi - lo3)) + zs (hi - lo3)) (A := 2100000000) (B := 4 * eps) d3.1 d3.2 n1 n2
  have m3 := Rat.mul_nonneg (show 0 ≤ dt Y X hi by have := A.dh0; grind) (show 0 ≤ zs (hi - lo3) + 6 / 10000 by grind)
  have low : -1400000 ≤ cr Y X lo3 := by
    rw [ep] at *
    grind
  have idn : (Y3 * X - X3 * Y) * (zc lo3 * zc lo3 + zs lo3 * zs lo3) = cr Y3 X3 lo3 * dt Y X lo3 - cr Y X lo3 * dt Y3 X3 lo3 := by unfold cr dt; grind
  have py := (z_pyth lo3).1
  have t1 := mul_ab (u := cr Y3 X3 lo3) (v := dt Y X lo3) (A := 30000) (B := 2100000000) (by have := C.cl0; grind) C.cl1 d1.1 d1.2
  have t2 := Rat.mul_nonneg (show 0 ≤ cr Y X lo3 + 1400000 by grind) (show 0 ≤ dt Y3 X3 lo3 by have := C.dl0; grind)
  have t3 := Rat.mul_nonneg (show 0 ≤ Y3 * X - X3 * Y - 14000000000000000 by grind) (show 0 ≤ zc lo3 * zc lo3 + zs lo3 * zs lo3 by grind)
  generalize Y3 * X - X3 * Y = W at *
  generalize zc lo3 * zc lo3 = C1 at *
  generalize zs lo3 * zs lo3 = S1 at *
  generalize cr Y3 X3 lo3 * dt Y X lo3 = T1 at *
  have t4 : W * (C1 + S1) ≤ T1 + 1400000 * dt Y3 X3 lo3 := by grind
  clear idn t2 back m1 m2 m3
  rw [ep] at *
  grind
theorem DialSides : ephemeriskeep2_DialSides.Pure := by
  intro a0 a1 _ _
  obtain ⟨kw, hw⟩ := dial_works
  obtain ⟨φ, hφ⟩ : ∃ φ, 10000000 + a0 % 210000001 = φ := ⟨_, rfl⟩
  obtain ⟨h, hh⟩ : ∃ h, 6 + a1 % 12 = h := ⟨_, rfl⟩
  have f1 : 10000000 ≤ φ ∧ φ ≤ 220000000 := by omega
  have g1 : 6 ≤ h ∧ h ≤ 17 := by omega
  obtain ⟨lo, hi, Y, X, K, fa, A⟩ := line_f (hour := h) f1.1 f1.2 (by omega) (by omega)
  obtain ⟨lo2, hi2, Y2, X2, K2, fb, B⟩ := line_f (hour := 24 - h) f1.1 f1.2 (by omega) (by omega)
  obtain ⟨lo3, hi3, Y3, X3, K3, fc, C⟩ := line_f (hour := h + 1) f1.1 f1.2 (by omega) (by omega)
  rw [eta_neg (by omega) (by omega)] at B
  have s := sides A B
  have o := order f1.1 f1.2 A C (eta_step g1.1 g1.2)
  have r1 := A.lo0
  have r2 := A.lo1
  have r3 := B.lo0
  have r4 := B.lo1
  have r5 := B.w
  have r6 := B.le
  refine ⟨kw + K + K2 + K3, ?_⟩
  unfold ephemeriskeep2_DialSides.f
  rw [hw _ (by omega), tat_f (by omega) (by omega), tat_f (by omega) (by omega)]
  simp only [Option.bind_some, if_true]
  rw [wrap_in (n := 10000000 + a0 % 210000001) (by omega) (by omega), wrap_in (n := 6 + a1 % 12) (by omega) (by omega), hφ, hh, wrap_in (n := 24 - h) (by omega) (by omega), wrap_in (n := h + 1) (by omega) (by omega), fa _ (by omega), fb _ (by omega), fc _ (by omega)]
  simp only [Option.bind_some, if_true]
  rw [wrap_in (n := -hi2) (by omega) (by omega), wrap_in (n := -hi2 - 2) (by omega) (by omega), wrap_in (n := -lo2) (by omega) (by omega), wrap_in (n := -lo2 + 2) (by omega) (by omega)]
  unfold ephemeriskeep2_meets.f
  rw [if_pos (by omega), decide_eq_true (show -hi2 - 2 ≤ hi by omega)]
  simp only [Option.bind_some, if_true]
  rw [decide_eq_true o]
end Go.Proofs.Ytmoffcpbmigngaa.Pure
