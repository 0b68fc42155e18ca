/- What phase.Sign and phase.Find compute. No condition on a program. -/
import Derived.Test.YtemkeciekgdkeaaJPx1
import Derived.Test.YtemkeciekgdkeaaMoonLaw
import Derived.Test.YtemkeciekgdkeaaNarrowLaw
namespace Go.Proofs.Ytemkeciekgdkeaa.JP
open Go.Proofs.Ytemkeciekgdkeaa.Own Go.Proofs.Ytemkeciekgdkeaa.Tp Go.RowKit Go.Proofs.YtemkeciekgdkeaaW.PrintWords Go.Proofs.YtemkeciekgdkeaaW.PrintLast

/-- the sign of an angle against a target, as the code tells it -/
def af (p q g : Int) : Int :=
  if 0 < (p - g + 500000000) % 1000000000 - 500000000 ∧ q - p + ((p - g + 500000000) % 1000000000 - 500000000) < 500000000 then 1
  else if q - p + ((p - g + 500000000) % 1000000000 - 500000000) < 0 ∧ -500000000 < (p - g + 500000000) % 1000000000 - 500000000 then -1 else 0
theorem after_f {p q g : Int} (h1 : 0 ≤ p) (h2 : p < 1000000000) (h3 : p ≤ q) (h4 : q ≤ 3000000000) (h5 : 0 ≤ g) (h6 : g < 1000000000) (k : Nat) (hk : 1 ≤ k) : series_After.f k p q g = some (af p q g) := by
  obtain ⟨k, rfl⟩ : ∃ m, k = m + 1 := ⟨k - 1, by omega⟩
  unfold series_After.f
  rw [wrap_in (n := p - g) (by omega) (by omega), wrap_in (n := q - g) (by omega) (by omega), wrap_in (n := p - g + 500000000) (by omega) (by omega), sfloor_ (by omega) (by omega) (by omega) (by omega)]
  simp only [Option.bind_some]
  rw [wrap_in (n := (p - g + 500000000) / 1000000000 * 1000000000) (by omega) (by omega), wrap_in (n := p - g - (p - g + 500000000) / 1000000000 * 1000000000) (by omega) (by omega), wrap_in (n := q - g - (p - g + 500000000) / 1000000000 * 1000000000) (by omega) (by omega)]
  have e1 : p - g - (p - g + 500000000) / 1000000000 * 1000000000 = (p - g + 500000000) % 1000000000 - 500000000 := by omega
  have e2 : q - g - (p - g + 500000000) / 1000000000 * 1000000000 = q - p + ((p - g + 500000000) % 1000000000 - 500000000) := by omega
  rw [e1, e2]
  unfold af
  generalize (p - g + 500000000) % 1000000000 - 500000000 = x
  simp only [series_After.j0]
  have fin : (if x + (q - p) < 0 then (if -500000000 < x then some (-1 : Int) else some 0) else some 0) = some (if x + (q - p) < 0 ∧ -500000000 < x then -1 else 0) := by
    by_cases c3 : x + (q - p) < 0
    · by_cases c4 : -500000000 < x
      · rw [if_pos c3, if_pos c4, if_pos ⟨c3, c4⟩]
      · rw [if_pos c3, if_neg c4, if_neg (fun h => c4 h.2)]
    · rw [if_neg c3, if_neg (fun h => c3 h.1)]
  rw [show q - p + x = x + (q - p) by omega]
  by_cases c1 : 0 < x
  · rw [if_pos c1]
    by_cases c2 : x + (q - p) < 500000000
    · rw [decide_eq_true c2]
      simp only [if_true]
      rw [if_pos ⟨c1, c2⟩]
    · rw [decide_eq_false c2]
      simp only [Bool.false_eq_true, if_false]
      rw [if_neg (c := 0 < x ∧ x + (q - p) < 500000000) (fun h => c2 h.2)]
      exact fin
  · rw [if_neg c1, if_neg (c := 0 < x ∧ x + (q - p) < 500000000) (fun h => c1 h.1)]
    exact fin

/-- the sign follows the true number, where it is within half a turn -/
theorem af_true {p q g K w : Int} {R E : Rat} (a : Ang p q R w) (hw : w ≤ 1000000) (hE : E = R - (g : Rat) - 1000000000 * (K : Rat)) (e1 : -480000000 ≤ E) (e2 : E ≤ 480000000) :
    (¬ af p q g < 0 → -(w : Rat) ≤ E) ∧ (¬ 0 < af p q g → E ≤ (w : Rat)) ∧ (af p q g < 0 → E < 0) ∧ (0 < af p q g → 0 < E) := by
  obtain ⟨p0, p1, pq, hwd, j, b1, b2⟩ := a
  have cT : ((1000000000 : Int) : Rat) = 1000000000 := by decide +kernel
  have c1 : ((-481000000 : Int) : Rat) = -481000000 := by decide +kernel
  have c2 : ((481000000 : Int) : Rat) = 481000000 := by decide +kernel
  have cM : ((1000000 : Int) : Rat) = 1000000 := by decide +kernel
  have z0 : ((0 : Int) : Rat) = 0 := by decide +kernel
  have hw' := ic hw
  have wd' := ic hwd
  rw [cM] at hw'
  rw [Rat.intCast_sub] at wd'
  -- x is the lower bound less the target, by whole turns
  obtain ⟨x, hx⟩ : ∃ x : Int, x = p - g + 1000000000 * (j - K) := ⟨_, rfl⟩
  have xr : (x : Rat) = (p : Rat) - (g : Rat) + 1000000000 * ((j : Rat) - (K : Rat)) := by
    rw [hx, Rat.intCast_add, Rat.intCast_sub, Rat.intCast_mul, cT, Rat.intCast_sub]
  have x1 : (x : Rat) ≤ E := by rw [xr, hE]; grind
  have x2 : E ≤ (x : Rat) + (w : Rat) := by rw [xr, hE]; grind
  have x3 : E ≤ (x : Rat) + ((q - p : Int) : Rat) := by rw [xr, hE, Rat.intCast_sub]; grind
  have l1 : -481000000 ≤ x := by apply ci; rw [c1]; grind
  have l2 : x ≤ 481000000 := by apply ci; rw [c2]; grind
  have en : (p - g + 500000000) % 1000000000 - 500000000 = x := by omega
  unfold af
  rw [en]
  refine ⟨fun h => ?_, fun h => ?_, fun h => ?_, fun h => ?_⟩
  · have : 0 ≤ q - p + x := by
      rcases Int.lt_or_le (q - p + x) 0 with f | f
      · exfalso; apply h; rw [if_neg (by omega), if_pos ⟨f, by omega⟩]; decide
      · exact f
    have := ic this
    rw [Rat.intCast_add, Rat.intCast_sub, z0] at this
    grind
  · have : x ≤ 0 := by
      rcases Int.lt_or_le 0 x with f | f
      · exfalso; apply h; rw [if_pos ⟨f, by omega⟩]; decide
      · exact f
    have := ic this
    rw [z0] at this
    grind
  · have : q - p + x < 0 := by
      rcases Int.lt_or_le (q - p + x) 0 with f | f
      · exact f
      · exfalso
        rw [if_neg (c := q - p + x < 0 ∧ -500000000 < x) (by omega)] at h
        split at h <;> omega
    have := Rat.intCast_lt_intCast.2 this
    rw [Rat.intCast_add, z0] at this
    grind
  · have : 0 < x := by
      rcases Int.lt_or_le 0 x with f | f
      · exact f
      · exfalso
        rw [if_neg (by omega)] at h
        split at h <;> omega
    have := Rat.intCast_lt_intCast.2 this
    rw [z0] at this
    grind
/-- the lunation's mean phase -/
def pmid (k q : Int) : Int := 977949455 + k * 2551442878 + q * 637860719
/-- the sum of the amplitudes -/
def am : List S58 → Rat
  | [] => 0
  | x :: l => (abI x.f0 : Rat) + am l
theorem rl_am : ∀ (l : List S58) (t : Int), -(am l) ≤ rl l t ∧ rl l t ≤ am l
  | [], t => by simp only [rl, am]; constructor <;> grind
  | x :: l, t => by
    have ih := rl_am l t
    have b := cl_b (zs (tan x t))
    have ab := abI_b x.f0
    have a1 := ic ab.2.1
    have a2 := ic ab.2.2
    rw [Rat.intCast_neg] at a1
    have m := mul_ab a1 a2 b.1 b.2
    simp only [rl, am, rv, cz]
    constructor <;> grind
theorem EE_mid {k q : Int} (h1 : -100000 ≤ k) (h2 : k ≤ 100000) (h3 : 0 ≤ q) (h4 : q ≤ 3) :
    -29700000 ≤ EE (pmid k q) - ((q * 250000000 : Int) : Rat) - 1000000000 * (k : Rat) ∧ EE (pmid k q) - ((q * 250000000 : Int) : Rat) - 1000000000 * (k : Rat) ≤ 29700000 := by
  have m := rl_am moonL (pmid k q)
  have s := rl_am sunL (pmid k q)
  have n1 : am moonL + am sunL ≤ 29636000 := by decide +kernel
  have u : -60000 ≤ 392048814 - 775342092 + (ua 36601101305556 (pmid k q) - ua 2737909333333 (pmid k q)) - q * 250000000 - 1000000000 * k ∧ 392048814 - 775342092 + (ua 36601101305556 (pmid k q) - ua 2737909333333 (pmid k q)) - q * 250000000 - 1000000000 * k ≤ 60000 := by
    unfold ua pmid; omega
  have u1 := ic u.1
  have u2 := ic u.2
  have c1 : ((-60000 : Int) : Rat) = -60000 := by decide +kernel
  have c2 : ((60000 : Int) : Rat) = 60000 := by decide +kernel
  have cT : ((1000000000 : Int) : Rat) = 1000000000 := by decide +kernel
  rw [Rat.intCast_sub, Rat.intCast_sub, Rat.intCast_add, Rat.intCast_sub, Rat.intCast_sub, Rat.intCast_mul 1000000000, cT] at u1 u2
  rw [c1] at u1
  rw [c2] at u2
  unfold EE MR SR RR
  constructor <;> grind
/-- the sign at an instant -/
def psg (q t : Int) : Int := (phase_Sign.f 60 q t).getD 0
theorem sign_f {q t : Int} (h3 : -345600000000000 ≤ t) (h4 : t < 345600086400000) (q0 : 0 ≤ q) (q3 : q ≤ 3) : (∀ k, 54 ≤ k → phase_Sign.f k q t = some (psg q t)) ∧
    ∀ K : Int, -480000000 ≤ EE t - ((q * 250000000 : Int) : Rat) - 1000000000 * (K : Rat) → EE t - ((q * 250000000 : Int) : Rat) - 1000000000 * (K : Rat) ≤ 480000000 →
      (¬ psg q t < 0 → -44018 ≤ EE t - ((q * 250000000 : Int) : Rat) - 1000000000 * (K : Rat)) ∧ (¬ 0 < psg q t → EE t - ((q * 250000000 : Int) : Rat) - 1000000000 * (K : Rat) ≤ 44018) ∧
      (psg q t < 0 → EE t - ((q * 250000000 : Int) : Rat) - 1000000000 * (K : Rat) < 0) ∧ (0 < psg q t → 0 < EE t - ((q * 250000000 : Int) : Rat) - 1000000000 * (K : Rat)) := by
  obtain ⟨p, r, hp, a⟩ := elong_f h3 h4
  have v : ∀ k, 54 ≤ k → phase_Sign.f k q t = some (af p r (q * 250000000)) := fun k hk => by
    obtain ⟨a1, a2, a3, a4, _⟩ := a
    unfold phase_Sign.f
    rw [hp k (by omega)]
    simp only [Option.bind_some, if_true]
    rw [wrap_in (n := q * 250000000) (by omega) (by omega), after_f a1 a2 a3 (by omega) (by omega) (by omega) k (by omega)]
    rfl
  have e : psg q t = af p r (q * 250000000) := by unfold psg; rw [v 60 (by omega)]; rfl
  rw [e]
  refine ⟨v, fun K e1 e2 => ?_⟩
  have cw : ((44018 : Int) : Rat) = 44018 := by decide +kernel
  have h := af_true (g := q * 250000000) (K := K) a (by omega) rfl e1 e2
  rw [cw] at h
  exact h

/-- the phase's number about a lunation -/
def pe (k q t : Int) : Rat := EE t - ((q * 250000000 : Int) : Rat) - 1000000000 * (k : Rat)
theorem pe_b {k q t : Int} (h1 : -100000 ≤ k) (h2 : k ≤ 100000) (h3 : 0 ≤ q) (h4 : q ≤ 3) (t1 : pmid k q - 172800000 ≤ t) (t2 : t ≤ pmid k q + 172800000) : -110000000 ≤ pe k q t ∧ pe k q t ≤ 110000000 := by
  have m := EE_mid h1 h2 h3 h4
  have c : ((172800000 : Int) : Rat) = 172800000 := by decide +kernel
  unfold pe
  rcases Int.le_total t (pmid k q) with g | g
  · have l := EE_lin (t := t) (d := pmid k q - t) (by omega)
    rw [show t + (pmid k q - t) = pmid k q by omega] at l
    have d := ic (show pmid k q - t ≤ 172800000 by omega)
    have d0 := ic (show 0 ≤ pmid k q - t by omega)
    have z0 : ((0 : Int) : Rat) = 0 := by decide +kernel
    rw [c] at d
    rw [z0] at d0
    generalize ((pmid k q - t : Int) : Rat) = D at *
    constructor <;> grind
  · have l := EE_lin (t := pmid k q) (d := t - pmid k q) (by omega)
    rw [show pmid k q + (t - pmid k q) = t by omega] at l
    have d := ic (show t - pmid k q ≤ 172800000 by omega)
    have d0 := ic (show 0 ≤ t - pmid k q by omega)
    have z0 : ((0 : Int) : Rat) = 0 := by decide +kernel
    rw [c] at d
    rw [z0] at d0
    generalize ((t - pmid k q : Int) : Rat) = D at *
    constructor <;> grind

theorem pfind_f {k q : Int} (h1 : -100000 ≤ k) (h2 : k ≤ 100000) (h3 : 0 ≤ q) (h4 : q ≤ 3) :
    ∃ L R K1, pmid k q - 172800000 ≤ L ∧ L < R ∧ R ≤ pmid k q + 172800000 ∧ R - L ≤ 600000 ∧ pe k q L < 0 ∧ 0 < pe k q R ∧ ∀ kk, K1 ≤ kk → phase_Find.f kk k q = some (L, R, 0) := by
  have rg : -345600000000000 ≤ pmid k q - 172800000 ∧ pmid k q + 172800000 < 345600086400000 := by unfold pmid; omega
  have sg : ∀ t, pmid k q - 172800000 ≤ t → t ≤ pmid k q + 172800000 → (∀ kk, 54 ≤ kk → phase_Sign.f kk q t = some (psg q t)) ∧ (¬ psg q t < 0 → -44018 ≤ pe k q t) ∧ (¬ 0 < psg q t → pe k q t ≤ 44018) ∧ (psg q t < 0 → pe k q t < 0) ∧ (0 < psg q t → 0 < pe k q t) := by
    intro t t1 t2
    have s := sign_f (q := q) (t := t) (by omega) (by omega) h3 h4
    have b := pe_b h1 h2 h3 h4 t1 t2
    refine ⟨s.1, s.2 k ?_ ?_⟩
    · unfold pe at b; grind
    · unfold pe at b; grind
  have H : Sgn (fun kk t => phase_Sign.f kk q t) (psg q) (pe k q) 54 (pmid k q - 172800000) (pmid k q + 172800000) 44018 (322500 / 1000000) 3 :=
    { val := fun kk hk t t1 t2 => (sg t t1 t2).1 kk hk
      up := fun t t1 t2 h => (sg t t1 t2).2.1 h
      dn := fun t t1 t2 h => (sg t t1 t2).2.2.1 h
      grow := fun t d t1 t2 hd => by
        have l := EE_lin (t := t) (d := d) hd
        unfold pe
        generalize (d : Rat) = D at *
        grind }
  -- the ends
  have m := EE_mid h1 h2 h3 h4
  have c : ((172800000 : Int) : Rat) = 172800000 := by decide +kernel
  have lo : psg q (pmid k q - 172800000) < 0 := by
    rcases Int.lt_or_le (psg q (pmid k q - 172800000)) 0 with g | g
    · exact g
    · exfalso
      have u := (sg (pmid k q - 172800000) (by omega) (by omega)).2.1 (by omega)
      have l := EE_lin (t := pmid k q - 172800000) (d := 172800000) (by omega)
      rw [show pmid k q - 172800000 + 172800000 = pmid k q by omega, c] at l
      unfold pe at u
      grind
  have hi : 0 < psg q (pmid k q + 172800000) := by
    rcases Int.lt_or_le 0 (psg q (pmid k q + 172800000)) with g | g
    · exact g
    · exfalso
      have u := (sg (pmid k q + 172800000) (by omega) (by omega)).2.2.1 (by omega)
      have l := EE_lin (t := pmid k q) (d := 172800000) (by omega)
      rw [c] at l
      unfold pe at u
      grind
  have cx : ((600000 : Int) : Rat) = 600000 := by decide +kernel
  obtain ⟨n, hn⟩ : ∃ n, n = (pmid k q + 172800000 - (pmid k q - 172800000)).toNat := ⟨_, rfl⟩
  obtain ⟨L, R, a1, a2, a3, a4, a5, a6, a7⟩ := narrow_f H (by omega) (by omega) (x2 := 600000) 0 (by decide +kernel) (by omega) (by rw [cx]; decide +kernel) n (pmid k q - 172800000) (pmid k q + 172800000) (Nat.le_of_eq hn.symm) (Int.le_refl _) (by omega) (Int.le_refl _) lo hi
  refine ⟨L, R, 54 + n + n + n + 10, a1, a2, a3, a6, (sg L a1 (by omega)).2.2.2.1 a4, (sg R (by omega) a3).2.2.2.2 a5, fun kk hk => ?_⟩
  have e1 : phase_Find.lo k q = pmid k q - 172800000 := by
    unfold phase_Find.lo pmid
    rw [wrap_in (n := k * 2551442878) (by omega) (by omega), wrap_in (n := 977949455 + k * 2551442878) (by omega) (by omega), wrap_in (n := q * 637860719) (by omega) (by omega), wrap_in (n := 977949455 + k * 2551442878 + q * 637860719) (by omega) (by omega), wrap_in (by omega) (by omega)]
  have e2 : phase_Find.hi k q = pmid k q + 172800000 := by
    unfold phase_Find.hi pmid
    rw [wrap_in (n := k * 2551442878) (by omega) (by omega), wrap_in (n := 977949455 + k * 2551442878) (by omega) (by omega), wrap_in (n := q * 637860719) (by omega) (by omega), wrap_in (n := 977949455 + k * 2551442878 + q * 637860719) (by omega) (by omega), wrap_in (by omega) (by omega)]
  unfold phase_Find.f
  rw [if_pos ⟨h3, h4, h1, h2⟩, e1, e2, (sg (pmid k q - 172800000) (by omega) (by omega)).1 kk (by omega), (sg (pmid k q + 172800000) (by omega) (by omega)).1 kk (by omega)]
  simp only [Option.bind_some]
  rw [if_pos lo, if_pos hi]
  exact a7 kk hk
end Go.Proofs.Ytemkeciekgdkeaa.JP
