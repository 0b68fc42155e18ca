/- How fast sines change, and the true number that a sum of terms stands for. No condition on a program. -/
import Derived.Test.YtgmjgnojjbajdaaDoorSumLaw
import Derived.Test.YtgmjgnojjbajdaaDoorZsLaw
namespace Go.Proofs.YtgmjgnojjbajdaaDoor.JG
open Go.Proofs.YtgmjgnojjbajdaaDoor.Own Go.Proofs.YtgmjgnojjbajdaaDoor.Tp Go.RowKit Go.Proofs.YtgmjgnojjbajdaaDoorW.PrintWords Go.Proofs.YtgmjgnojjbajdaaDoorW.PrintLast


theorem abs_le_sq {X b : Rat} (hb : 0 ≤ b) (h : X * X ≤ b * b) : -b ≤ X ∧ X ≤ b := by
  have key : ∀ Y : Rat, Y * Y ≤ b * b → Y ≤ b := fun Y g => by
    rcases (Rat.le_total (a := Y) (b := b)) with c | c
    · exact c
    · by_cases e : Y = b
      · grind
      · have p : 0 < Y - b := by grind
        have q : 0 < Y + b := by grind
        have := Rat.mul_pos p q
        grind
  have k1 := key X h
  have k2 := key (-X) (by grind)
  constructor <;> grind

/-- the chord of a small angle -/
theorem step_x {u w s c x : Rat} (p : u * u + w * w ≤ 1 + eps) (c1 : 1 - x * x / 2 ≤ c) (c2 : c ≤ 1) (sc : s * s + c * c ≤ 1 + eps) (s0 : 0 ≤ s) (s1 : s ≤ x) (x0 : 0 ≤ x) :
    -(x * (100006 / 100000)) ≤ u * (c - 1) + w * s ∧ u * (c - 1) + w * s ≤ x * (100006 / 100000) := by
  have ep : eps = 1 / 10000000000000 := rfl
  rw [ep] at p sc
  rcases (Rat.le_total (a := x) (b := 1 / 10000)) with g | g
  · have U1 := z_one (z := u) (w := w) (by rw [ep]; exact p)
    have W1 := z_one (z := w) (w := u) (by rw [ep]; grind)
    rw [ep] at U1 W1
    have xx : x * x ≤ x / 10000 := by
      have := Rat.mul_nonneg x0 (show 0 ≤ 1 / 10000 - x by grind); grind
    have m1 := mul_ab U1.1 U1.2 (show -(x * x / 2) ≤ c - 1 by grind) (show c - 1 ≤ x * x / 2 by grind)
    have m2 := mul_ab W1.1 W1.2 (show -x ≤ s by grind) s1
    generalize u * (c - 1) = A at *
    generalize w * s = B at *
    generalize x * x = X at *
    constructor <;> grind
  · refine abs_le_sq (by grind) ?_
    have sq : 0 ≤ (u * s - w * (c - 1)) * (u * s - w * (c - 1)) := by
      rcases (Rat.le_total (a := 0) (b := u * s - w * (c - 1))) with e | e
      · exact Rat.mul_nonneg e e
      · have := Rat.mul_nonneg (show 0 ≤ -(u * s - w * (c - 1)) by grind) (show 0 ≤ -(u * s - w * (c - 1)) by grind); grind
    have id : (u * (c - 1) + w * s) * (u * (c - 1) + w * s) = (u * u + w * w) * ((c - 1) * (c - 1) + s * s) - (u * s - w * (c - 1)) * (u * s - w * (c - 1)) := by grind
    have f0 : 0 ≤ (c - 1) * (c - 1) + s * s := by
      have a1 := Rat.mul_nonneg s0 s0
      have a2 := Rat.mul_nonneg (show 0 ≤ 1 - c by grind) (show 0 ≤ 1 - c by grind)
      grind
    have f1 : (c - 1) * (c - 1) + s * s ≤ x * x + 1 / 10000000000000 := by grind
    have pr := Rat.mul_nonneg (show 0 ≤ 1 + 1 / 10000000000000 - (u * u + w * w) by grind) f0
    have xx : 1 / 100000000 ≤ x * x := by
      have := Rat.mul_nonneg (show 0 ≤ x - 1 / 10000 by grind) (show 0 ≤ x - 1 / 10000 by grind); grind
    rw [id]
    generalize (u * s - w * (c - 1)) * (u * s - w * (c - 1)) = S at *
    have e2 : x * (100006 / 100000) * (x * (100006 / 100000)) = x * x * (10001200036 / 10000000000) := by grind
    rw [e2]
    generalize (c - 1) * (c - 1) + s * s = F at *
    generalize u * u + w * w = Q at *
    generalize x * x = X at *
    grind

theorem zlip1 (a : Int) {d : Int} (d0 : 0 ≤ d) (d1 : d ≤ 125000000) : -(arc d * (100006 / 100000) + 30 * eps) ≤ zs (a + d) - zs a ∧ zs (a + d) - zs a ≤ arc d * (100006 / 100000) + 30 * eps := by
  have z := (z_add a d).1
  have p := (z_pyth a).2
  have pd := (z_pyth d).2
  have q := z_q0 (a := d) (by omega) d1
  have b := arc_b (a := d) (by omega) d1
  have a0 : 0 ≤ arc d := by
    have := arc_mono d0
    have e : arc 0 = 0 := by decide +kernel
    grind
  have s := sn_b a0 b.2
  have c := cn_b b.1 b.2
  rw [q.1, q.2] at z pd
  have x2 : arc d * arc d * (arc d * arc d) / 24 ≤ arc d * arc d / 2 := by
    have n0 := Rat.mul_nonneg a0 a0
    have n1 : arc d * arc d ≤ 1 := by
      have := Rat.mul_nonneg (show 0 ≤ 4 / 5 - arc d by grind) (show 0 ≤ 4 / 5 + arc d by grind); grind
    generalize arc d * arc d = q at *
    have := Rat.mul_nonneg n0 (show 0 ≤ 1 - q by grind)
    grind
  have st := step_x (u := zs a) (w := zc a) (s := sn (arc d)) (c := cn (arc d)) (x := arc d) p c.1 (by grind) pd (by grind) s.2 a0
  have id : zs (a + d) - zs a = (zs a * (cn (arc d) - 1) + zc a * sn (arc d)) - (zs a * cn (arc d) + zc a * sn (arc d) - zs (a + d)) := by grind
  rw [id]
  generalize zs a * cn (arc d) + zc a * sn (arc d) - zs (a + d) = E at *
  generalize zs a * (cn (arc d) - 1) + zc a * sn (arc d) = X at *
  constructor <;> grind

/-- the most that a sine changes over an angle -/
def lip (d : Int) : Rat := arc d * (100006 / 100000) + 1 / 100000000000
theorem zlip (a : Int) {d : Int} (d0 : 0 ≤ d) : -(lip d) ≤ zs (a + d) - zs a ∧ zs (a + d) - zs a ≤ lip d := by
  have ep : eps = 1 / 10000000000000 := rfl
  unfold lip
  rcases (by omega : d ≤ 125000000 ∨ (125000000 < d ∧ d ≤ 250000000) ∨ (250000000 < d ∧ d ≤ 375000000) ∨ 375000000 < d) with c | c | c | c
  · have h := zlip1 a d0 c
    rw [ep] at h
    constructor <;> grind
  · have h1 := zlip1 a (d := 125000000) (by omega) (by omega)
    have h2 := zlip1 (a + 125000000) (d := d - 125000000) (by omega) (by omega)
    have e := arc_add (d - 125000000) 125000000
    rw [show d - 125000000 + 125000000 = d by omega] at e
    rw [show a + 125000000 + (d - 125000000) = a + d by omega] at h2
    rw [ep] at h1 h2
    constructor <;> grind
  · have h1 := zlip1 a (d := 125000000) (by omega) (by omega)
    have h2 := zlip1 (a + 125000000) (d := 125000000) (by omega) (by omega)
    have h3 := zlip1 (a + 125000000 + 125000000) (d := d - 250000000) (by omega) (by omega)
    have e := arc_add (d - 250000000) 250000000
    have e' : arc 250000000 = arc 125000000 + arc 125000000 := by decide +kernel
    rw [show d - 250000000 + 250000000 = d by omega] at e
    rw [show a + 125000000 + 125000000 + (d - 250000000) = a + d by omega] at h3
    rw [ep] at h1 h2 h3
    constructor <;> grind
  · have h1 := z_one (z := zs a) (w := zc a) (z_pyth a).2
    have h2 := z_one (z := zs (a + d)) (w := zc (a + d)) (z_pyth (a + d)).2
    have m := arc_mono (show 375000000 ≤ d by omega)
    have e : 235 / 100 ≤ arc 375000000 := by decide +kernel
    rw [ep] at h1 h2
    constructor <;> grind
theorem lip_mono {x y : Int} (h : x ≤ y) : lip x ≤ lip y := by
  have := arc_mono h
  unfold lip; grind
theorem lip_pos {x : Int} (h : 0 ≤ x) : 0 ≤ lip x := by
  have := arc_mono h
  have e : arc 0 = 0 := by decide +kernel
  unfold lip; grind

/-- a sine, within 1 -/
def cl (z : Rat) : Rat := if z ≤ -1 then -1 else if 1 ≤ z then 1 else z
def cz (a : Int) : Rat := cl (zs a)
theorem cl_b (z : Rat) : -1 ≤ cl z ∧ cl z ≤ 1 := by
  unfold cl; split
  · constructor <;> grind
  · split <;> constructor <;> grind
theorem cl_lip {x y L : Rat} (h0 : 0 ≤ L) (h1 : -L ≤ x - y) (h2 : x - y ≤ L) : -L ≤ cl x - cl y ∧ cl x - cl y ≤ L := by
  unfold cl
  split <;> split <;> (try split) <;> (try split) <;> constructor <;> grind
theorem cz_lip {a b d : Int} (h1 : -d ≤ b - a) (h2 : b - a ≤ d) : -(lip d) ≤ cz b - cz a ∧ cz b - cz a ≤ lip d := by
  have d0 : 0 ≤ d := by omega
  unfold cz
  refine cl_lip (lip_pos d0) ?_ ?_ <;> (rcases (by omega : a ≤ b ∨ b ≤ a) with c | c)
  · have h := zlip a (d := b - a) (by omega)
    rw [show a + (b - a) = b by omega] at h
    have m := lip_mono h2
    grind
  · have h := zlip b (d := a - b) (by omega)
    rw [show b + (a - b) = a by omega] at h
    have m := lip_mono (show a - b ≤ d by omega)
    grind
  · have h := zlip a (d := b - a) (by omega)
    rw [show a + (b - a) = b by omega] at h
    have m := lip_mono h2
    grind
  · have h := zlip b (d := a - b) (by omega)
    rw [show b + (a - b) = a by omega] at h
    have m := lip_mono (show a - b ≤ d by omega)
    grind
theorem cz_per (a k : Int) : cz (a + 1000000000 * k) = cz a := by unfold cz; rw [(z_per a k).1]
theorem cz_mod (a : Int) : cz (a % 1000000000) = cz a := by unfold cz; rw [(z_mod a).1]
theorem cz_near (a : Int) : -eps ≤ cz a - zs a ∧ cz a - zs a ≤ eps := by
  have h1 := z_one (z := zs a) (w := zc a) (z_pyth a).2
  have ep : 0 < eps := by decide +kernel
  unfold cz cl
  split
  · constructor <;> grind
  · split <;> constructor <;> grind

theorem sv_cz (a : Int) : ((sv (a % 1000000000)).1 : Rat) ≤ 1000000000 * cz a ∧ 1000000000 * cz a ≤ ((sv (a % 1000000000)).2 : Rat) := by
  have i := sin_in a
  have h1 := z_one (z := zs a) (w := zc a) (z_pyth a).2
  have ep : eps = 1 / 10000000000000 := rfl
  rw [ep] at h1
  have b := cl_b (zs a)
  have cT : ((1000000000 : Int) : Rat) = 1000000000 := by decide +kernel
  have cN : ((-1000000000 : Int) : Rat) = -1000000000 := by decide +kernel
  obtain ⟨i1, i2⟩ := i
  unfold cz
  constructor
  · rcases i1 with i1 | i1
    · unfold cl; split
      · grind
      · split <;> grind
    · rw [i1, cN]; grind
  · rcases i2 with i2 | i2
    · unfold cl; split
      · grind
      · split <;> grind
    · rw [i2, cT]; grind

theorem so_cz (a : Int) : ((so a).1 : Rat) ≤ 1000000000 * cz a ∧ 1000000000 * cz a ≤ ((so a).2 : Rat) := by
  have h := sv_cz a
  have b := cl_b (zs a)
  have cT : ((1000000000 : Int) : Rat) = 1000000000 := by decide +kernel
  have cN : ((-1000000000 : Int) : Rat) = -1000000000 := by decide +kernel
  unfold so
  simp only
  constructor
  · split
    · rw [cN]; unfold cz; grind
    · exact Rat.le_trans (ic (mn_l _ _).1) h.1
  · split
    · rw [cT]; unfold cz; grind
    · exact Rat.le_trans h.2 (ic (mx_l _ _).1)

/-- floor and ceiling of products -/
theorem fl_le {x : Int} {y : Rat} {D : Int} (hD : 0 < D) (h : (x : Rat) ≤ (D : Rat) * y) : ((x / D : Int) : Rat) ≤ y := by
  have e : D * (x / D) ≤ x := Int.mul_ediv_self_le (by omega)
  have e' := ic e
  rw [Rat.intCast_mul] at e'
  have hD' : (0 : Rat) < (D : Rat) := by
    have := Rat.intCast_lt_intCast.2 hD
    have c0 : ((0 : Int) : Rat) = 0 := by decide +kernel
    grind
  exact div_le hD' (Rat.le_trans e' h)
theorem le_cl {x : Int} {y : Rat} {D : Int} (hD : 0 < D) (h : (D : Rat) * y ≤ (x : Rat)) : y ≤ ((-(-x / D) : Int) : Rat) := by
  have := fl_le (x := -x) (y := -y) hD (by rw [Rat.intCast_neg]; grind)
  rw [Rat.intCast_neg]; grind

/-- the true number of a term -/
def rv (x : S85) (t : Int) : Rat := (x.f0 : Rat) * cz (tan x t)
theorem tv_rv (x : S85) (t : Int) : ((tv x t).1 : Rat) ≤ rv x t ∧ rv x t ≤ ((tv x t).2 : Rat) := by
  have s := so_cz (tan x t)
  have cT : ((1000000000 : Int) : Rat) = 1000000000 := by decide +kernel
  have c0 : ((0 : Int) : Rat) = 0 := by decide +kernel
  unfold tv rv interval_Scale.lo interval_Scale.hi
  simp only
  generalize cz (tan x t) = z at *
  generalize so (tan x t) = p at *
  by_cases c : x.f0 < 0
  · rw [if_pos c, if_pos c]
    have m0 : (0 : Rat) ≤ ((-x.f0 : Int) : Rat) := by rw [← c0]; exact ic (by omega)
    have a1 := Rat.mul_nonneg m0 (show 0 ≤ (p.2 : Rat) - 1000000000 * z by grind)
    have a2 := Rat.mul_nonneg m0 (show 0 ≤ 1000000000 * z - (p.1 : Rat) by grind)
    rw [Rat.intCast_neg] at a1 a2
    constructor
    · refine fl_le (by omega) ?_
      rw [cT, Rat.intCast_mul, Rat.intCast_neg, Rat.intCast_neg]; grind
    · have : (x.f0 : Rat) * z ≤ ((-(-(p.1 * x.f0) / 1000000000) : Int) : Rat) := by
        refine le_cl (by omega) ?_
        rw [cT, Rat.intCast_mul]; grind
      rwa [show p.1 * -x.f0 = -(p.1 * x.f0) from Int.mul_neg _ _]
  · rw [if_neg c, if_neg c]
    have m0 : (0 : Rat) ≤ (x.f0 : Rat) := by rw [← c0]; exact ic (by omega)
    have a1 := Rat.mul_nonneg m0 (show 0 ≤ (p.2 : Rat) - 1000000000 * z by grind)
    have a2 := Rat.mul_nonneg m0 (show 0 ≤ 1000000000 * z - (p.1 : Rat) by grind)
    constructor
    · refine fl_le (by omega) ?_
      rw [cT, Rat.intCast_mul]; grind
    · have : (x.f0 : Rat) * z ≤ ((-(-(p.2 * x.f0) / 1000000000) : Int) : Rat) := by
        refine le_cl (by omega) ?_
        rw [cT, Rat.intCast_mul]; grind
      rwa [show -p.2 * x.f0 = -(p.2 * x.f0) from Int.neg_mul _ _]

/-- the true number of terms -/
def rl : List S85 → Int → Rat
  | [], _ => 0
  | x :: l, t => rv x t + rl l t
theorem sl_rl : ∀ (l : List S85) (t : Int), ((sl l t).1 : Rat) ≤ rl l t ∧ rl l t ≤ ((sl l t).2 : Rat)
  | [], t => by
    have c0 : ((0 : Int) : Rat) = 0 := by decide +kernel
    simp only [sl, rl, c0]
    constructor <;> grind
  | x :: l, t => by
    have h := tv_rv x t
    have ih := sl_rl l t
    simp only [sl, rl, Rat.intCast_add]
    constructor <;> grind

/-- an angle of a rate, with whole turns -/
def ua (r t : Int) : Int := r * t / 86400000000000
theorem tn_ua (r t : Int) : ∃ k : Int, tn r t / 1000000 = ua r t + 1000000000 * k := by
  unfold tn ua
  refine ⟨-(r * t / 86400000 / 1000000000000000), ?_⟩
  have e : r * t / 86400000 / 1000000 = r * t / 86400000000000 := by rw [Int.ediv_ediv_of_nonneg (by omega)]; rfl
  rw [← e]
  generalize r * t / 86400000 = q
  omega
theorem cz_tan (x : S85) (t : Int) : cz (tan x t) = cz (ua x.f2 t + x.f1) := by
  obtain ⟨k, hk⟩ := tn_ua x.f2 t
  unfold tan
  rw [hk, show ua x.f2 t + 1000000000 * k + x.f1 = ua x.f2 t + x.f1 + 1000000000 * k by omega, cz_per]

theorem ua_step {r t d : Int} : r * d / 86400000000000 ≤ ua r (t + d) - ua r t ∧ ua r (t + d) - ua r t ≤ r * d / 86400000000000 + 1 := by
  unfold ua
  rw [Int.mul_add]
  generalize r * t = x
  generalize r * d = y
  omega
def abI (a : Int) : Int := if a < 0 then -a else a
theorem abI_b (a : Int) : 0 ≤ abI a ∧ -(abI a) ≤ a ∧ a ≤ abI a := by unfold abI; split <;> omega
/-- the change of a term -/
theorem rv_step (x : S85) {t d D : Int} (h1 : -D ≤ x.f2 * d / 86400000000000) (h2 : x.f2 * d / 86400000000000 + 1 ≤ D) :
    -((abI x.f0 : Rat) * lip D) ≤ rv x (t + d) - rv x t ∧ rv x (t + d) - rv x t ≤ (abI x.f0 : Rat) * lip D := by
  have st := ua_step (r := x.f2) (t := t) (d := d)
  have h := cz_lip (a := ua x.f2 t + x.f1) (b := ua x.f2 (t + d) + x.f1) (d := D) (by omega) (by omega)
  have ab := abI_b x.f0
  have a1 := ic ab.2.1
  have a2 := ic ab.2.2
  rw [Rat.intCast_neg] at a1
  have m := mul_ab a1 a2 h.1 h.2
  unfold rv
  rw [cz_tan, cz_tan]
  constructor <;> grind
/-- the most that terms change, where each angle changes by at most D -/
def chg : List S85 → (Int → Int) → Rat
  | [], _ => 0
  | x :: l, D => (abI x.f0 : Rat) * lip (D x.f2) + chg l D
theorem rl_step {t d : Int} {D : Int → Int} : ∀ (l : List S85), (∀ x ∈ l, -(D x.f2) ≤ x.f2 * d / 86400000000000 ∧ x.f2 * d / 86400000000000 + 1 ≤ D x.f2) →
    -(chg l D) ≤ rl l (t + d) - rl l t ∧ rl l (t + d) - rl l t ≤ chg l D
  | [], _ => by simp only [rl, chg]; constructor <;> grind
  | x :: l, h => by
    have hx := h x (by simp)
    have s := rv_step x (t := t) (d := d) hx.1 hx.2
    have ih := rl_step (t := t) (d := d) (D := D) l (fun y hy => h y (List.mem_cons_of_mem _ hy))
    simp only [rl, chg]
    constructor <;> grind

end Go.Proofs.YtgmjgnojjbajdaaDoor.JG
