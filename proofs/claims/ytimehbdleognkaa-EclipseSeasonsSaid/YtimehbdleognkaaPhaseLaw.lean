/- What phase.Sign and phase.Find compute. No condition on a program. -/
import Derived.Test.YtimehbdleognkaaJEx1
import Derived.Test.YtimehbdleognkaaMoonLaw
import Derived.Test.YtimehbdleognkaaAfterLaw
import Derived.Test.YtimehbdleognkaaNarrowLaw
namespace Go.Proofs.Ytimehbdleognkaa.JE
open Go.Proofs.Ytimehbdleognkaa.Own Go.Proofs.Ytimehbdleognkaa.Tp Go.RowKit Go.Proofs.YtimehbdleognkaaW.PrintWords Go.Proofs.YtimehbdleognkaaW.PrintLast

/-- the lunation's mean phase -/
def pmid (k q : Int) : Int := 977949455 + k * 2551442878 + q * 637860719
theorem EE_mid {k q : Int} (h1 : -100000 ≤ k) (h2 : k ≤ 100000) (h3 : 0 ≤ q) (h4 : q ≤ 3) :
    -29700000 ≤ EE (pmid k q) - ((q * 250000000 : Int) : Rat) - 1000000000 * (k : Rat) ∧ EE (pmid k q) - ((q * 250000000 : Int) : Rat) - 1000000000 * (k : Rat) ≤ 29700000 := by
  have m := rl_am moonL (pmid k q)
  have s := rl_am sunL (pmid k q)
  have n1 : am moonL + am sunL ≤ 29636000 := by decide +kernel
  have u : -60000 ≤ 392048814 - 775342092 + (ua 36601101305556 (pmid k q) - ua 2737909333333 (pmid k q)) - q * 250000000 - 1000000000 * k ∧ 392048814 - 775342092 + (ua 36601101305556 (pmid k q) - ua 2737909333333 (pmid k q)) - q * 250000000 - 1000000000 * k ≤ 60000 := by
    unfold ua pmid; omega
  have u1 := ic u.1
  have u2 := ic u.2
  have c1 : ((-60000 : Int) : Rat) = -60000 := by decide +kernel
  have c2 : ((60000 : Int) : Rat) = 60000 := by decide +kernel
  have cT : ((1000000000 : Int) : Rat) = 1000000000 := by decide +kernel
  rw [Rat.intCast_sub, Rat.intCast_sub, Rat.intCast_add, Rat.intCast_sub, Rat.intCast_sub, Rat.intCast_mul 1000000000, cT] at u1 u2
  rw [c1] at u1
  rw [c2] at u2
  unfold EE MR SR RR
  constructor <;> grind
/-- the sign at an instant -/
def psg (q t : Int) : Int := (phase_Sign.f 60 q t).getD 0
theorem sign_f {q t : Int} (h3 : -345600000000000 ≤ t) (h4 : t < 345600086400000) (q0 : 0 ≤ q) (q3 : q ≤ 3) : (∀ k, 54 ≤ k → phase_Sign.f k q t = some (psg q t)) ∧
    ∀ K : Int, -480000000 ≤ EE t - ((q * 250000000 : Int) : Rat) - 1000000000 * (K : Rat) → EE t - ((q * 250000000 : Int) : Rat) - 1000000000 * (K : Rat) ≤ 480000000 →
      (¬ psg q t < 0 → -44018 ≤ EE t - ((q * 250000000 : Int) : Rat) - 1000000000 * (K : Rat)) ∧ (¬ 0 < psg q t → EE t - ((q * 250000000 : Int) : Rat) - 1000000000 * (K : Rat) ≤ 44018) ∧
      (psg q t < 0 → EE t - ((q * 250000000 : Int) : Rat) - 1000000000 * (K : Rat) < 0) ∧ (0 < psg q t → 0 < EE t - ((q * 250000000 : Int) : Rat) - 1000000000 * (K : Rat)) := by
  obtain ⟨p, r, hp, a⟩ := elong_f h3 h4
  have v : ∀ k, 54 ≤ k → phase_Sign.f k q t = some (af p r (q * 250000000)) := fun k hk => by
    obtain ⟨a1, a2, a3, a4, _⟩ := a
    unfold phase_Sign.f
    rw [hp k (by omega)]
    simp only [Option.bind_some, if_true]
    rw [wrap_in (n := q * 250000000) (by omega) (by omega), after_f a1 a2 a3 (by omega) (by omega) (by omega) k (by omega)]
    rfl
  have e : psg q t = af p r (q * 250000000) := by unfold psg; rw [v 60 (by omega)]; rfl
  rw [e]
  refine ⟨v, fun K e1 e2 => ?_⟩
  have cw : ((44018 : Int) : Rat) = 44018 := by decide +kernel
  have h := af_true (g := q * 250000000) (K := K) a (by omega) rfl e1 e2
  rw [cw] at h
  exact h

/-- the phase's number about a lunation -/
def pe (k q t : Int) : Rat := EE t - ((q * 250000000 : Int) : Rat) - 1000000000 * (k : Rat)
theorem pe_b {k q t : Int} (h1 : -100000 ≤ k) (h2 : k ≤ 100000) (h3 : 0 ≤ q) (h4 : q ≤ 3) (t1 : pmid k q - 172800000 ≤ t) (t2 : t ≤ pmid k q + 172800000) : -110000000 ≤ pe k q t ∧ pe k q t ≤ 110000000 := by
  have m := EE_mid h1 h2 h3 h4
  have c : ((172800000 : Int) : Rat) = 172800000 := by decide +kernel
  unfold pe
  rcases Int.le_total t (pmid k q) with g | g
  · have l := EE_lin (t := t) (d := pmid k q - t) (by omega)
    rw [show t + (pmid k q - t) = pmid k q by omega] at l
    have d := ic (show pmid k q - t ≤ 172800000 by omega)
    have d0 := ic (show 0 ≤ pmid k q - t by omega)
    have z0 : ((0 : Int) : Rat) = 0 := by decide +kernel
    rw [c] at d
    rw [z0] at d0
    generalize ((pmid k q - t : Int) : Rat) = D at *
    constructor <;> grind
  · have l := EE_lin (t := pmid k q) (d := t - pmid k q) (by omega)
    rw [show pmid k q + (t - pmid k q) = t by omega] at l
    have d := ic (show t - pmid k q ≤ 172800000 by omega)
    have d0 := ic (show 0 ≤ t - pmid k q by omega)
    have z0 : ((0 : Int) : Rat) = 0 := by decide +kernel
    rw [c] at d
    rw [z0] at d0
    generalize ((t - pmid k q : Int) : Rat) = D at *
    constructor <;> grind

theorem pfind_s {k q : Int} (h1 : -100000 ≤ k) (h2 : k ≤ 100000) (h3 : 0 ≤ q) (h4 : q ≤ 3) :
    ∃ L R K1, (psg q L < 0 ∧ 0 < psg q R ∧ Sgn (fun kk t => phase_Sign.f kk q t) (psg q) (pe k q) 54 (pmid k q - 172800000) (pmid k q + 172800000) 44018 (322500 / 1000000) 3) ∧ pmid k q - 172800000 ≤ L ∧ L < R ∧ R ≤ pmid k q + 172800000 ∧ R - L ≤ 600000 ∧ pe k q L < 0 ∧ 0 < pe k q R ∧ ∀ kk, K1 ≤ kk → phase_Find.f kk k q = some (L, R, 0) := by
  have rg : -345600000000000 ≤ pmid k q - 172800000 ∧ pmid k q + 172800000 < 345600086400000 := by unfold pmid; omega
  have sg : ∀ t, pmid k q - 172800000 ≤ t → t ≤ pmid k q + 172800000 → (∀ kk, 54 ≤ kk → phase_Sign.f kk q t = some (psg q t)) ∧ (¬ psg q t < 0 → -44018 ≤ pe k q t) ∧ (¬ 0 < psg q t → pe k q t ≤ 44018) ∧ (psg q t < 0 → pe k q t < 0) ∧ (0 < psg q t → 0 < pe k q t) := by
    intro t t1 t2
    have s := sign_f (q := q) (t := t) (by omega) (by omega) h3 h4
    have b := pe_b h1 h2 h3 h4 t1 t2
    refine ⟨s.1, s.2 k ?_ ?_⟩
    · unfold pe at b; grind
    · unfold pe at b; grind
  have H : Sgn (fun kk t => phase_Sign.f kk q t) (psg q) (pe k q) 54 (pmid k q - 172800000) (pmid k q + 172800000) 44018 (322500 / 1000000) 3 :=
    { val := fun kk hk t t1 t2 => (sg t t1 t2).1 kk hk
      up := fun t t1 t2 h => (sg t t1 t2).2.1 h
      dn := fun t t1 t2 h => (sg t t1 t2).2.2.1 h
      grow := fun t d t1 t2 hd => by
        have l := EE_lin (t := t) (d := d) hd
        unfold pe
        generalize (d : Rat) = D at *
        grind }
  -- the ends
  have m := EE_mid h1 h2 h3 h4
  have c : ((172800000 : Int) : Rat) = 172800000 := by decide +kernel
  have lo : psg q (pmid k q - 172800000) < 0 := by
    rcases Int.lt_or_le (psg q (pmid k q - 172800000)) 0 with g | g
    · exact g
    · exfalso
      have u := (sg (pmid k q - 172800000) (by omega) (by omega)).2.1 (by omega)
      have l := EE_lin (t := pmid k q - 172800000) (d := 172800000) (by omega)
      rw [show pmid k q - 172800000 + 172800000 = pmid k q by omega, c] at l
      unfold pe at u
      grind
  have hi : 0 < psg q (pmid k q + 172800000) := by
    rcases Int.lt_or_le 0 (psg q (pmid k q + 172800000)) with g | g
    · exact g
    · exfalso
      have u := (sg (pmid k q + 172800000) (by omega) (by omega)).2.2.1 (by omega)
      have l := EE_lin (t := pmid k q) (d := 172800000) (by omega)
      rw [c] at l
      unfold pe at u
      grind
  have cx : ((600000 : Int) : Rat) = 600000 := by decide +kernel
  obtain ⟨n, hn⟩ : ∃ n, n = (pmid k q + 172800000 - (pmid k q - 172800000)).toNat := ⟨_, rfl⟩
  obtain ⟨L, R, a1, a2, a3, a4, a5, a6, a7⟩ := narrow_f H (by omega) (by omega) (x2 := 600000) 0 (by decide +kernel) (by omega) (by rw [cx]; decide +kernel) n (pmid k q - 172800000) (pmid k q + 172800000) (Nat.le_of_eq hn.symm) (Int.le_refl _) (by omega) (Int.le_refl _) lo hi
  refine ⟨L, R, 54 + n + n + n + 10, ⟨a4, a5, H⟩, a1, a2, a3, a6, (sg L a1 (by omega)).2.2.2.1 a4, (sg R (by omega) a3).2.2.2.2 a5, fun kk hk => ?_⟩
  have e1 : phase_Find.lo k q = pmid k q - 172800000 := by
    unfold phase_Find.lo pmid
    rw [wrap_in (n := k * 2551442878) (by omega) (by omega), wrap_in (n := 977949455 + k * 2551442878) (by omega) (by omega), wrap_in (n := q * 637860719) (by omega) (by omega), wrap_in (n := 977949455 + k * 2551442878 + q * 637860719) (by omega) (by omega), wrap_in (by omega) (by omega)]
  have e2 : phase_Find.hi k q = pmid k q + 172800000 := by
    unfold phase_Find.hi pmid
    rw [wrap_in (n := k * 2551442878) (by omega) (by omega), wrap_in (n := 977949455 + k * 2551442878) (by omega) (by omega), wrap_in (n := q * 637860719) (by omega) (by omega), wrap_in (n := 977949455 + k * 2551442878 + q * 637860719) (by omega) (by omega), wrap_in (by omega) (by omega)]
  unfold phase_Find.f
  rw [if_pos ⟨h3, h4, h1, h2⟩, e1, e2, (sg (pmid k q - 172800000) (by omega) (by omega)).1 kk (by omega), (sg (pmid k q + 172800000) (by omega) (by omega)).1 kk (by omega)]
  simp only [Option.bind_some]
  rw [if_pos lo, if_pos hi]
  exact a7 kk hk
theorem pfind_f {k q : Int} (h1 : -100000 ≤ k) (h2 : k ≤ 100000) (h3 : 0 ≤ q) (h4 : q ≤ 3) :
    ∃ L R K1, pmid k q - 172800000 ≤ L ∧ L < R ∧ R ≤ pmid k q + 172800000 ∧ R - L ≤ 600000 ∧ pe k q L < 0 ∧ 0 < pe k q R ∧ ∀ kk, K1 ≤ kk → phase_Find.f kk k q = some (L, R, 0) := by
  obtain ⟨L, R, K1, _, h⟩ := pfind_s h1 h2 h3 h4
  exact ⟨L, R, K1, h⟩
end Go.Proofs.Ytimehbdleognkaa.JE
