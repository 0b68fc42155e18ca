/- How far phases are apart. No condition on a program. -/
import Derived.Test.YtimehbdleognkaaPhaseLaw
import Derived.Test.YtimehbdleognkaaChordLaw
namespace Go.Proofs.Ytimehbdleognkaa.JE
open Go.Proofs.Ytimehbdleognkaa.Own Go.Proofs.Ytimehbdleognkaa.Tp Go.RowKit Go.Proofs.YtimehbdleognkaaW.PrintWords Go.Proofs.YtimehbdleognkaaW.PrintLast

def mB30 : List Rat := [5504325 / 10000000, 3559705 / 10000000, 1994203 / 10000000, 10583520 / 10000000, 5103519 / 10000000, 12002965 / 10000000]
def sB30 : List Rat := [5103519 / 10000000, 9869128 / 10000000]
def mB29 : List Rat := [3281122 / 10000000, 5482770 / 10000000, 2253064 / 10000000, 6473329 / 10000000, 4937007 / 10000000, 8023344 / 10000000]
def sB29 : List Rat := [4937007 / 10000000, 9568448 / 10000000]
theorem EE_30 (t : Int) : 1000610000 ≤ EE (t + 2592000000) - EE t := by
  have m := rl_chord t 2592000000 moonL mB30 (by decide +kernel)
  have s := rl_chord t 2592000000 sunL sB30 (by decide +kernel)
  have n : chB moonL mB30 + chB sunL sB30 ≤ 15283000 := by decide +kernel
  have u1 := ua_step (r := 36601101305556) (t := t) (d := 2592000000)
  have u2 := ua_step (r := 2737909333333) (t := t) (d := 2592000000)
  have u : 1015895755 ≤ (ua 36601101305556 (t + 2592000000) - ua 36601101305556 t) - (ua 2737909333333 (t + 2592000000) - ua 2737909333333 t) := by omega
  have v := ic u
  have c : ((1015895755 : Int) : Rat) = 1015895755 := by decide +kernel
  rw [Rat.intCast_sub, Rat.intCast_sub, Rat.intCast_sub, c] at v
  unfold EE MR SR RR
  grind
theorem EE_29 (t : Int) : EE (t + 2505600000) - EE t ≤ 993700000 := by
  have m := rl_chord t 2505600000 moonL mB29 (by decide +kernel)
  have s := rl_chord t 2505600000 sunL sB29 (by decide +kernel)
  have n : chB moonL mB29 + chB sunL sB29 ≤ 11660000 := by decide +kernel
  have u1 := ua_step (r := 36601101305556) (t := t) (d := 2505600000)
  have u2 := ua_step (r := 2737909333333) (t := t) (d := 2505600000)
  have u : (ua 36601101305556 (t + 2505600000) - ua 36601101305556 t) - (ua 2737909333333 (t + 2505600000) - ua 2737909333333 t) ≤ 982032572 := by omega
  have v := ic u
  have c : ((982032572 : Int) : Rat) = 982032572 := by decide +kernel
  rw [Rat.intCast_sub, Rat.intCast_sub, Rat.intCast_sub, c] at v
  unfold EE MR SR RR
  grind

/-- a phase's interval -/
structure Ph (k q L R : Int) : Prop where
  lr : L < R
  wd : R - L ≤ 600000
  neg : pe k q L < 0
  pos : 0 < pe k q R

theorem EE_mono {a b : Int} (h : a ≤ b) : EE a - 3 ≤ EE b := by
  have l := EE_lin (t := a) (d := b - a) (by omega)
  rw [show a + (b - a) = b by omega] at l
  have d := ic (show 0 ≤ b - a by omega)
  have z0 : ((0 : Int) : Rat) = 0 := by decide +kernel
  rw [z0] at d
  generalize ((b - a : Int) : Rat) = D at *
  grind
theorem EE_within {a b A : Int} (h : a ≤ b) (h' : b - a ≤ A) : EE b ≤ EE a + 461400 / 1000000 * (A : Rat) + 3 := by
  have l := EE_lin (t := a) (d := b - a) (by omega)
  rw [show a + (b - a) = b by omega] at l
  have d := ic h'
  generalize ((b - a : Int) : Rat) = D at *
  grind
theorem quarter_apart {k q L R k' q' L' R' : Int} (A : Ph k q L R) (B : Ph k' q' L' R') (hq : (q' - q) * 250000000 + 1000000000 * (k' - k) = 250000000) : 518400000 ≤ L' - R ∧ R' - L ≤ 777600000 := by
  obtain ⟨a1, a2, a3, a4⟩ := A
  obtain ⟨b1, b2, b3, b4⟩ := B
  have cT : ((1000000000 : Int) : Rat) = 1000000000 := by decide +kernel
  have cQ : ((250000000 : Int) : Rat) = 250000000 := by decide +kernel
  have e : ((q' * 250000000 : Int) : Rat) + 1000000000 * (k' : Rat) = ((q * 250000000 : Int) : Rat) + 1000000000 * (k : Rat) + 250000000 := by
    have : q' * 250000000 + 1000000000 * k' = q * 250000000 + 1000000000 * k + 250000000 := by omega
    have g : ((q' * 250000000 + 1000000000 * k' : Int) : Rat) = ((q * 250000000 + 1000000000 * k + 250000000 : Int) : Rat) := by rw [this]
    rw [Rat.intCast_add, Rat.intCast_add, Rat.intCast_add, Rat.intCast_mul 1000000000, Rat.intCast_mul 1000000000, cT, cQ] at g
    exact g
  unfold pe at a3 a4 b3 b4
  generalize ((q' * 250000000 : Int) : Rat) = Q' at *
  generalize ((q * 250000000 : Int) : Rat) = Q at *
  -- the order
  have o : L ≤ R' := by
    rcases Int.lt_or_le R' L with g | g
    · exfalso
      have := EE_mono (a := R') (b := L) (by omega)
      grind
    · exact g
  have d1 : 541000000 ≤ R' - L := by
    rcases Int.lt_or_le (R' - L) 541000000 with g | g
    · exfalso
      have w := EE_within (a := L) (b := R') (A := 541000000) o (by omega)
      have c : ((541000000 : Int) : Rat) = 541000000 := by decide +kernel
      rw [c] at w
      grind
    · exact g
  refine ⟨by omega, ?_⟩
  rcases Int.lt_or_le 777600000 (R' - L) with g | g
  · exfalso
    have l := EE_lin (t := R) (d := L' - R) (by omega)
    rw [show R + (L' - R) = L' by omega] at l
    have d := ic (show 776400000 ≤ L' - R by omega)
    have c : ((776400000 : Int) : Rat) = 776400000 := by decide +kernel
    rw [c] at d
    generalize ((L' - R : Int) : Rat) = D at *
    grind
  · exact g
theorem month_apart {k L R L' R' : Int} (A : Ph k 0 L R) (B : Ph (k + 1) 0 L' R') : 2505600000 < L' - R ∧ R' - L < 2592000000 := by
  obtain ⟨a1, a2, a3, a4⟩ := A
  obtain ⟨b1, b2, b3, b4⟩ := B
  have c1 : ((1 : Int) : Rat) = 1 := by decide +kernel
  have cx : ((600000 : Int) : Rat) = 600000 := by decide +kernel
  have z0 : ((0 : Int) : Rat) = 0 := by decide +kernel
  unfold pe at a3 a4 b3 b4
  rw [Rat.intCast_add, c1] at b3 b4
  rw [Int.zero_mul, z0] at a3 a4 b3 b4
  have wa := EE_within (a := L) (b := R) (A := 600000) (by omega) a2
  have wb := EE_within (a := L') (b := R') (A := 600000) (by omega) b2
  rw [cx] at wa wb
  constructor
  · rcases Int.lt_or_le 2505600000 (L' - R) with g | g
    · exact g
    · exfalso
      have x := EE_29 R
      have y : EE L' ≤ EE (R + 2505600000) + 3 := by
        have := EE_mono (a := L') (b := R + 2505600000) (by omega)
        grind
      grind
  · rcases Int.lt_or_le (R' - L) 2592000000 with g | g
    · exact g
    · exfalso
      have x := EE_30 L
      have y : EE (L + 2592000000) ≤ EE L' + 276843 := by
        rcases Int.le_total (L + 2592000000) L' with f | f
        · have := EE_mono f
          grind
        · have := EE_within (a := L') (b := L + 2592000000) (A := 600000) f (by omega)
          rw [cx] at this
          grind
      grind
theorem pfind_ph {k q : Int} (h1 : -100000 ≤ k) (h2 : k ≤ 100000) (h3 : 0 ≤ q) (h4 : q ≤ 3) : ∃ L R K1, Ph k q L R ∧ pmid k q - 172800000 ≤ L ∧ R ≤ pmid k q + 172800000 ∧ ∀ kk, K1 ≤ kk → phase_Find.f kk k q = some (L, R, 0) := by
  obtain ⟨L, R, K1, a1, a2, a3, a4, a5, a6, a7⟩ := pfind_f h1 h2 h3 h4
  exact ⟨L, R, K1, ⟨a2, a4, a5, a6⟩, a1, a3, a7⟩
end Go.Proofs.Ytimehbdleognkaa.JE
