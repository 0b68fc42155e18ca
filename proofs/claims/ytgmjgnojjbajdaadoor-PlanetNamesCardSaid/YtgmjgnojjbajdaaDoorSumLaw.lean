/- package series: what Turned, sum and Value compute. No condition on a program. -/
import Derived.Test.YtgmjgnojjbajdaaDoorJGx1
import Derived.Test.YtgmjgnojjbajdaaDoorJGx1
import Derived.Test.YtgmjgnojjbajdaaDoorTrigCore
namespace Go.Proofs.YtgmjgnojjbajdaaDoor.JG
open Go.Proofs.YtgmjgnojjbajdaaDoor.Own Go.RowKit Go.Proofs.YtgmjgnojjbajdaaDoorW.PrintWords Go.Proofs.YtgmjgnojjbajdaaDoorW.PrintLast

/-- the angle of a rate at an instant, in the finer unit, without whole turns -/
def tn (rate t : Int) : Int := (rate * t / 86400000) % 1000000000000000
theorem tn_b (rate t : Int) : 0 ≤ tn rate t ∧ tn rate t < 1000000000000000 := by unfold tn; omega

theorem turned_j {rate day ms r d : Int} (hr : 0 ≤ r) (hr' : r < 1000000000000000) (hR1 : -4000000000000000 ≤ rate) (hR2 : rate ≤ 4000000000000000) (hm : 0 ≤ ms) (hm' : ms < 86400000)
    (hd : 0 ≤ d) (hd' : d ≤ 4000000) (hday : (day < 0 ∧ d = -day) ∨ (¬ day < 0 ∧ d = day)) (W : Int) (hW : rate * day = r * day + 1000000000000000 * W) (k : Nat) :
    series_Turned.j0 (k + 1) rate day ms r d = some ((rate * day + rate * ms / 86400000) % 1000000000000000) := by
  have q0 : -46296297 ≤ rate / 86400000 ∧ rate / 86400000 ≤ 46296297 := by omega
  have rem : 0 ≤ rate - rate / 86400000 * 86400000 ∧ rate - rate / 86400000 * 86400000 < 86400000 := by omega
  have x0 : 0 ≤ d / 1000 ∧ d / 1000 ≤ 4000 := by omega
  have y0 : 0 ≤ d % 1000 ∧ d % 1000 ≤ 999 := by omega
  have px : 0 ≤ r * (d / 1000) ∧ r * (d / 1000) ≤ 1000000000000000 * 4000 := ⟨Int.mul_nonneg hr x0.1, Int.mul_le_mul (by omega) x0.2 x0.1 (by omega)⟩
  have py : 0 ≤ r * (d % 1000) ∧ r * (d % 1000) ≤ 1000000000000000 * 999 := ⟨Int.mul_nonneg hr y0.1, Int.mul_le_mul (by omega) y0.2 y0.1 (by omega)⟩
  have rd : r * d = r * (d / 1000) * 1000 + r * (d % 1000) := by
    have := Int.emod_add_mul_ediv d 1000
    conv => lhs; rw [← this]
    rw [Int.mul_add]
    have : r * (1000 * (d / 1000)) = r * (d / 1000) * 1000 := by grind
    omega
  have pq : -(46296297 * 86400000) ≤ rate / 86400000 * ms ∧ rate / 86400000 * ms ≤ 46296297 * 86400000 := by
    constructor
    · have h1 : -46296297 * ms ≤ rate / 86400000 * ms := Int.mul_le_mul_of_nonneg_right q0.1 hm
      omega
    · have h1 : rate / 86400000 * ms ≤ 46296297 * ms := Int.mul_le_mul_of_nonneg_right q0.2 hm
      omega
  have pr : 0 ≤ (rate - rate / 86400000 * 86400000) * ms ∧ (rate - rate / 86400000 * 86400000) * ms ≤ 86400000 * 86400000 := ⟨Int.mul_nonneg rem.1 hm, Int.mul_le_mul (by omega) (by omega) hm (by omega)⟩
  have rm : rate * ms = rate / 86400000 * ms * 86400000 + (rate - rate / 86400000 * 86400000) * ms := by grind
  have rday : r * day = if day < 0 then -(r * d) else r * d := by
    rcases hday with ⟨h, e⟩ | ⟨h, e⟩
    · rw [if_pos h, e, Int.mul_neg, Int.neg_neg]
    · rw [if_neg h, e]
  rw [hW, rm]
  generalize hQ : rate / 86400000 * ms = Q at *
  generalize hR : (rate - rate / 86400000 * 86400000) * ms = R at *
  generalize hX : r * (d / 1000) = X at *
  generalize hY : r * (d % 1000) = Y at *
  simp only [series_Turned.j0]
  have a1 : wrap64 (Int.tdiv d 1000) = d / 1000 := by rw [tdiv_nn hd, wrap_in (by omega) (by omega)]
  have a2 : Int.tmod d 1000 = d % 1000 := tmod_nn hd
  have b0 : 0 ≤ X % 1000000000000000 ∧ X % 1000000000000000 < 1000000000000000 := by omega
  have a3 : wrap64 (X % 1000000000000000 * 1000) = X % 1000000000000000 * 1000 := wrap_in (by omega) (by omega)
  have a4 : Int.tmod X 1000000000000000 = X % 1000000000000000 := tmod_nn (by omega)
  have a5 : Int.tmod (X % 1000000000000000 * 1000) 1000000000000000 = X % 1000000000000000 * 1000 % 1000000000000000 := tmod_nn (by omega)
  have a6 : Int.tmod Y 1000000000000000 = Y % 1000000000000000 := tmod_nn (by omega)
  have fl : interval_Floor.f rate 86400000 = some (rate / 86400000) := sfloor_ (by omega) (by omega) (by omega) (by omega)
  have a7 : Int.tdiv R 86400000 = R / 86400000 := tdiv_nn (by omega)
  rw [fl]
  simp only [Option.bind_some]
  rw [a1, a2, hX, hY, wrap_in (n := X) (by omega) (by omega), wrap_in (n := Y) (by omega) (by omega), a4, a3, a5, a6, hQ, wrap_in (n := Q) (by omega) (by omega), wrap_in (n := rate / 86400000 * 86400000) (by omega) (by omega), wrap_in (n := rate - rate / 86400000 * 86400000) (by omega) (by omega), hR, wrap_in (n := R) (by omega) (by omega), a7, wrap_in (n := R / 86400000) (by omega) (by omega), wrap_in (n := Q + R / 86400000) (by omega) (by omega), wrap_in (n := X % 1000000000000000 * 1000 % 1000000000000000 + Y % 1000000000000000) (by omega) (by omega)]
  have e5 : (Q * 86400000 + R) / 86400000 = Q + R / 86400000 := by omega
  have m3 : 0 ≤ Q + R / 86400000 + 4100000000000000 ∧ Q + R / 86400000 ≤ 4100000000000000 := by omega
  rw [e5]
  generalize Q + R / 86400000 = V at *
  have m4 : 0 ≤ X % 1000000000000000 * 1000 % 1000000000000000 + Y % 1000000000000000 ∧ X % 1000000000000000 * 1000 % 1000000000000000 + Y % 1000000000000000 < 2000000000000000 := by omega
  obtain ⟨Z, hZ⟩ : ∃ Z, X % 1000000000000000 * 1000 % 1000000000000000 + Y % 1000000000000000 = X * 1000 + Y - 1000000000000000 * Z :=
    ⟨(X * 1000 + Y - (X % 1000000000000000 * 1000 % 1000000000000000 + Y % 1000000000000000)) / 1000000000000000, by omega⟩
  generalize X % 1000000000000000 * 1000 % 1000000000000000 + Y % 1000000000000000 = A at *
  have fin : ∀ T : Int, -9000000000000000 ≤ T → T ≤ 9000000000000000 → (interval_Floor.f T 1000000000000000).bind (fun t => some (wrap64 (T - wrap64 (t * 1000000000000000)))) = some (T % 1000000000000000) := by
    intro T h1 h2
    rw [sfloor_ (by omega) (by omega) (by omega) (by omega)]
    simp only [Option.bind_some]
    rw [wrap_in (n := T / 1000000000000000 * 1000000000000000) (by omega) (by omega), wrap_in (by omega) (by omega)]
    congr 1; omega
  by_cases c : day < 0
  · rw [if_pos c] at rday
    rw [if_pos c, wrap_in (n := -A) (by omega) (by omega), wrap_in (n := -A + V) (by omega) (by omega), fin _ (by omega) (by omega)]
    congr 1; omega
  · rw [if_neg c] at rday
    rw [if_neg c, wrap_in (n := A + V) (by omega) (by omega), fin _ (by omega) (by omega)]
    congr 1; omega

theorem turned_f {rate t : Int} (h1 : -4000000000000000 ≤ rate) (h2 : rate ≤ 4000000000000000) (h3 : -345600000000000 ≤ t) (h4 : t < 345600086400000) (k : Nat) (hk : 1 ≤ k) : series_Turned.f k rate t = some (tn rate t) := by
  obtain ⟨k, rfl⟩ : ∃ m, k = m + 1 := ⟨k - 1, by omega⟩
  unfold series_Turned.f
  rw [sfloor_ (a := t) (by omega) (by omega) (by omega) (by omega), sfloor_ (a := rate) (by omega) (by omega) (by omega) (by omega)]
  simp only [Option.bind_some]
  have dd : -4000000 ≤ t / 86400000 ∧ t / 86400000 ≤ 4000000 := by omega
  rw [wrap_in (n := t / 86400000 * 86400000) (by omega) (by omega), wrap_in (n := t - t / 86400000 * 86400000) (by omega) (by omega), wrap_in (n := rate / 1000000000000000 * 1000000000000000) (by omega) (by omega), wrap_in (n := rate - rate / 1000000000000000 * 1000000000000000) (by omega) (by omega), wrap_in (n := -(t / 86400000)) (by omega) (by omega)]
  have hW : rate * (t / 86400000) = (rate - rate / 1000000000000000 * 1000000000000000) * (t / 86400000) + 1000000000000000 * (rate / 1000000000000000 * (t / 86400000)) := by grind
  have e : tn rate t = (rate * (t / 86400000) + rate * (t - t / 86400000 * 86400000) / 86400000) % 1000000000000000 := by
    unfold tn
    congr 1
    have : rate * t = rate * (t - t / 86400000 * 86400000) + rate * (t / 86400000) * 86400000 := by grind
    rw [this, Int.add_mul_ediv_right _ _ (by omega)]
    omega
  rw [e]
  by_cases c : t / 86400000 < 0
  · rw [if_pos c]
    exact turned_j (by omega) (by omega) h1 h2 (by omega) (by omega) (by omega) (by omega) (Or.inl ⟨c, rfl⟩) _ hW k
  · rw [if_neg c]
    exact turned_j (by omega) (by omega) h1 h2 (by omega) (by omega) (by omega) (by omega) (Or.inr ⟨c, rfl⟩) _ hW k

/-- is the angle c passed between a and a + 1 -/
def pas (a c : Int) : Bool := decide ((a + 1 - c) / 1000000000 * 1000000000 ≥ a - c)
/-- the sines of the angles from a to a + 1 -/
def so (a : Int) : Int × Int :=
  (if pas a 750000000 then -1000000000 else mn (sv (a % 1000000000)).1 (sv ((a + 1) % 1000000000)).1, if pas a 250000000 then 1000000000 else mx (sv (a % 1000000000)).2 (sv ((a + 1) % 1000000000)).2)
theorem so_b (a : Int) : -1000000000 ≤ (so a).1 ∧ (so a).1 ≤ (so a).2 ∧ (so a).2 ≤ 1000000000 := by
  have h1 := sv_b (a % 1000000000)
  have h2 := sv_b ((a + 1) % 1000000000)
  unfold so
  simp only [mn, mx]
  split <;> split <;> omega
theorem so_f {a : Int} (h1 : 0 ≤ a) (h2 : a ≤ 2000000000) (k : Nat) (hk : 11 ≤ k) : trig_SinOver.f k a (a + 1) = some ((so a).1, (so a).2, 0) := by
  have p : ∀ c : Int, 0 ≤ c → c ≤ 1000000000 → trig_passes.f a (a + 1) c = some (pas a c) := by
    intro c c1 c2
    unfold trig_passes.f pas
    rw [wrap_in (n := a + 1 - c) (by omega) (by omega), sfloor_ (by omega) (by omega) (by omega) (by omega)]
    simp only [Option.bind_some]
    rw [wrap_in (n := (a + 1 - c) / 1000000000 * 1000000000) (by omega) (by omega), wrap_in (n := a - c) (by omega) (by omega)]
  obtain ⟨k, rfl⟩ : ∃ m, k = m + 1 := ⟨k - 1, by omega⟩
  unfold trig_SinOver.f
  rw [tcheck_f (by omega) (by omega) (by omega), sin_f (a := a) (by omega) (by omega) _ hk, sin_f (a := a + 1) (by omega) (by omega) _ hk, p _ (by omega) (by omega), p _ (by omega) (by omega)]
  simp only [Option.bind_some, if_true]
  unfold so
  cases pas a 250000000 <;> cases pas a 750000000 <;> simp

theorem scale_b {s : Int × Int} {m : Int} (h1 : -1000000000 ≤ s.1) (h2 : s.1 ≤ s.2) (h3 : s.2 ≤ 1000000000) (g1 : -1000000000 ≤ m) (g2 : m ≤ 1000000000) :
    -1000000000 ≤ interval_Scale.lo s.1 s.2 m 1000000000 ∧ interval_Scale.lo s.1 s.2 m 1000000000 ≤ interval_Scale.hi s.1 s.2 m 1000000000 ∧ interval_Scale.hi s.1 s.2 m 1000000000 ≤ 1000000000 ∧ interval_Scale.f s.1 s.2 m 1000000000 = some (interval_Scale.lo s.1 s.2 m 1000000000, interval_Scale.hi s.1 s.2 m 1000000000, 0) := by
  have key : -1000000000 ≤ interval_Scale.lo s.1 s.2 m 1000000000 ∧ interval_Scale.lo s.1 s.2 m 1000000000 ≤ interval_Scale.hi s.1 s.2 m 1000000000 ∧ interval_Scale.hi s.1 s.2 m 1000000000 ≤ 1000000000 := by
    unfold interval_Scale.lo interval_Scale.hi
    by_cases c : m < 0
    · rw [if_pos c, if_pos c]
      have q1 : -1000000000 * 1000000000 ≤ -s.2 * -m ∧ s.1 * -m ≤ s.2 * -m ∧ -s.2 * -m = -(s.2 * -m) ∧ -(1000000000 * 1000000000) ≤ s.1 * -m := by
        have e : -s.2 * -m = -(s.2 * -m) := Int.neg_mul _ _
        have u1 : s.2 * -m ≤ 1000000000 * -m := Int.mul_le_mul_of_nonneg_right h3 (by omega)
        have u2 : s.1 * -m ≤ s.2 * -m := Int.mul_le_mul_of_nonneg_right h2 (by omega)
        have u3 : -1000000000 * -m ≤ s.1 * -m := Int.mul_le_mul_of_nonneg_right h1 (by omega)
        refine ⟨by omega, u2, e, by omega⟩
      obtain ⟨q1, q2, q3, q4⟩ := q1
      rw [q3] at q1
      rw [q3]
      generalize s.2 * -m = A at *
      generalize s.1 * -m = B at *
      omega
    · rw [if_neg c, if_neg c]
      have q1 : -s.2 * m = -(s.2 * m) := Int.neg_mul _ _
      have u1 : s.2 * m ≤ 1000000000 * m := Int.mul_le_mul_of_nonneg_right h3 (by omega)
      have u2 : s.1 * m ≤ s.2 * m := Int.mul_le_mul_of_nonneg_right h2 (by omega)
      have u3 : -1000000000 * m ≤ s.1 * m := Int.mul_le_mul_of_nonneg_right h1 (by omega)
      rw [q1]
      generalize s.2 * m = A at *
      generalize s.1 * m = B at *
      omega
  refine ⟨key.1, key.2.1, key.2.2, ?_⟩
  unfold interval_Scale.f
  rw [if_pos ⟨⟨by omega, by omega⟩, h2, ⟨by omega, by omega⟩, g1, g2, by omega, by omega, ⟨by omega, by omega⟩, ⟨by omega, by omega⟩⟩]

/-- a term that is permitted -/
def tok (x : S85) : Prop := -1000000000 ≤ x.f0 ∧ x.f0 ≤ 1000000000 ∧ 0 ≤ x.f1 ∧ x.f1 < 1000000000 ∧ -4000000000000000 ≤ x.f2 ∧ x.f2 ≤ 4000000000000000
/-- the angle of a term -/
def tan (x : S85) (t : Int) : Int := tn x.f2 t / 1000000 + x.f1
/-- the interval of a term -/
def tv (x : S85) (t : Int) : Int × Int := (interval_Scale.lo (so (tan x t)).1 (so (tan x t)).2 x.f0 1000000000, interval_Scale.hi (so (tan x t)).1 (so (tan x t)).2 x.f0 1000000000)
theorem tv_b {x : S85} (h : tok x) (t : Int) : -1000000000 ≤ (tv x t).1 ∧ (tv x t).1 ≤ (tv x t).2 ∧ (tv x t).2 ≤ 1000000000 := by
  have b := so_b (tan x t)
  have := scale_b b.1 b.2.1 b.2.2 h.1 h.2.1
  exact ⟨this.1, this.2.1, this.2.2.1⟩
theorem tv_f {x : S85} (h : tok x) (t : Int) : interval_Scale.f (so (tan x t)).1 (so (tan x t)).2 x.f0 1000000000 = some ((tv x t).1, (tv x t).2, 0) := by
  have b := so_b (tan x t)
  rw [(scale_b b.1 b.2.1 b.2.2 h.1 h.2.1).2.2.2]
  simp only [tv]
theorem tan_b {x : S85} (h : tok x) (t : Int) : 0 ≤ tan x t ∧ tan x t < 2000000000 := by
  have b := tn_b x.f2 t
  have h1 := h.2.2.1
  have h2 := h.2.2.2.1
  unfold tan
  omega
theorem tan_eq (x : S85) (t : Int) : tn x.f2 t / 1000000 + x.f1 = tan x t := by simp only [tan]
/-- the sum of terms -/
def sl : List S85 → Int → Int × Int
  | [], _ => (0, 0)
  | x :: l, t => ((tv x t).1 + (sl l t).1, (tv x t).2 + (sl l t).2)
theorem sl_append (l m : List S85) (t : Int) : sl (l ++ m) t = ((sl l t).1 + (sl m t).1, (sl l t).2 + (sl m t).2) := by
  induction l with
  | nil => simp [sl]
  | cons x l ih => simp only [List.cons_append, sl, ih]; ext <;> simp only <;> omega
theorem sl_b : ∀ {l : List S85}, (∀ x ∈ l, tok x) → ∀ t, -(1000000000 * (l.length : Int)) ≤ (sl l t).1 ∧ (sl l t).1 ≤ (sl l t).2 ∧ (sl l t).2 ≤ 1000000000 * (l.length : Int)
  | [], _, t => by simp [sl]
  | x :: l, h, t => by
    have b := tv_b (h x (by simp)) t
    have ih := sl_b (fun y hy => h y (List.mem_cons_of_mem _ hy)) t (l := l)
    simp only [sl, List.length_cons]
    omega

theorem rdT_get {l : List S85} {i : Nat} (h : i < l.length) : rd_T85 l (i : Int) = l[i] := by
  unfold rd_T85
  simp [List.getD, h]

theorem sum_l {l : List S85} (hl : l.length ≤ 40) (ho : ∀ x ∈ l, tok x) {t : Int} (h3 : -345600000000000 ≤ t) (h4 : t < 345600086400000) :
    ∀ (n i : Nat) (x y : Int), i + n = l.length → -100000000000 - 1000000000 * (i : Int) ≤ x → x ≤ 100000000000 + 1000000000 * (i : Int) → -100000000000 - 1000000000 * (i : Int) ≤ y → y ≤ 100000000000 + 1000000000 * (i : Int) → ∀ k, n + 13 ≤ k →
      series_sum.l0 k t l (l.length : Int) (i : Int) x y = some (x + (sl (l.drop i) t).1, y + (sl (l.drop i) t).2)
  | 0, i, x, y, hi, _, _, _, _, k, hk => by
    obtain ⟨k, rfl⟩ : ∃ m, k = m + 1 := ⟨k - 1, by omega⟩
    simp only [series_sum.l0]
    rw [if_neg (by omega), List.drop_eq_nil_of_le (by omega)]
    simp [sl]
  | n + 1, i, x, y, hi, b1, b2, b3, b4, k, hk => by
    obtain ⟨k, rfl⟩ : ∃ m, k = m + 1 := ⟨k - 1, by omega⟩
    have hlt : i < l.length := by omega
    have o := ho _ (List.getElem_mem hlt)
    have tb := tn_b l[i].f2 t
    have vb := tv_b o t
    have e : l.drop i = l[i] :: l.drop (i + 1) := List.drop_eq_getElem_cons hlt
    have ab := tan_b o t
    have hs := tv_f o t
    simp only [series_sum.l0]
    rw [if_pos (by omega), if_pos (by omega), if_pos (by omega), rdT_get hlt, turned_f o.2.2.2.2.1 o.2.2.2.2.2 h3 h4 k (by omega)]
    simp only [Option.bind_some]
    rw [tdiv_nn tb.1, wrap_in (n := tn l[i].f2 t / 1000000) (by omega) (by omega), tan_eq, wrap_in (n := tan l[i] t) (by omega) (by omega), wrap_in (n := tan l[i] t + 1) (by omega) (by omega)]
    rw [so_f (a := tan l[i] t) (by omega) (by omega) _ (by omega)]
    simp only [Option.bind_some]
    rw [hs]
    simp only [Option.bind_some]
    rw [wrap_in (n := (i : Int) + 1) (by omega) (by omega), wrap_in (n := x + (tv l[i] t).1) (by omega) (by omega), wrap_in (n := y + (tv l[i] t).2) (by omega) (by omega)]
    have ih := sum_l hl ho h3 h4 n (i + 1) (x + (tv l[i] t).1) (y + (tv l[i] t).2) (by omega) (by omega) (by omega) (by omega) (by omega) k (by omega)
    rw [show ((i : Int) + 1) = ((i + 1 : Nat) : Int) by omega, ih, e]
    simp only [sl]
    rw [Int.add_assoc, Int.add_assoc]

theorem sum_f {l : List S85} (hl : l.length ≤ 40) (ho : ∀ x ∈ l, tok x) {t : Int} (h3 : -345600000000000 ≤ t) (h4 : t < 345600086400000) {mean rest : Int} (rate : Int)
    (m1 : -1000000000 ≤ mean) (m2 : mean ≤ 1000000000) (r1 : 0 ≤ rest) (r2 : rest ≤ 100000000) (k : Nat) (hk : 53 ≤ k) :
    series_sum.f k mean rate l rest t = some (mean - rest + (sl l t).1, mean + rest + (sl l t).2) := by
  unfold series_sum.f
  rw [wrap_in (n := mean - rest) (by omega) (by omega), wrap_in (n := mean + rest) (by omega) (by omega)]
  exact sum_l hl ho h3 h4 l.length 0 _ _ (by omega) (by omega) (by omega) (by omega) (by omega) k (by omega)

theorem beyond_f {n m : Int} (hm : 0 ≤ m) (hm' : m ≤ 9000000000000000000) (h1 : -m ≤ n) (h2 : n ≤ m) : series_beyond.f n m = some false := by
  unfold series_beyond.f
  rw [wrap_in (n := -m) (by omega) (by omega), if_neg (by omega), decide_eq_false (by omega)]

theorem chk_l {l : List S85} (hl : l.length ≤ 40) (ho : ∀ x ∈ l, tok x) : ∀ (n i : Nat), i + n = l.length → ∀ k, n + 1 ≤ k → series_Check.l0 k l (l.length : Int) (i : Int) = some 0
  | 0, i, hi, k, hk => by
    obtain ⟨k, rfl⟩ : ∃ m, k = m + 1 := ⟨k - 1, by omega⟩
    simp only [series_Check.l0]
    rw [if_neg (by omega)]
  | n + 1, i, hi, k, hk => by
    obtain ⟨k, rfl⟩ : ∃ m, k = m + 1 := ⟨k - 1, by omega⟩
    have hlt : i < l.length := by omega
    obtain ⟨o1, o2, o3, o4, o5, o6⟩ := ho _ (List.getElem_mem hlt)
    simp only [series_Check.l0]
    rw [if_pos (by omega), if_pos (by omega), if_pos (by omega), rdT_get hlt, beyond_f (by omega) (by omega) o1 o2]
    simp only [Option.bind_some, Bool.false_eq_true, if_false]
    rw [if_neg (by omega), if_neg (by omega), beyond_f (by omega) (by omega) o5 o6]
    simp only [Option.bind_some, Bool.false_eq_true, if_false]
    rw [wrap_in (n := (i : Int) + 1) (by omega) (by omega), show ((i : Int) + 1) = ((i + 1 : Nat) : Int) by omega]
    exact chk_l hl ho n (i + 1) (by omega) k (by omega)

theorem chk_f {l : List S85} (hl : l.length ≤ 40) (ho : ∀ x ∈ l, tok x) {mean rate rest : Int}
    (m1 : -1000000000 ≤ mean) (m2 : mean ≤ 1000000000) (g1 : -4000000000000000 ≤ rate) (g2 : rate ≤ 4000000000000000) (r1 : 0 ≤ rest) (r2 : rest ≤ 100000000) (k : Nat) (hk : 53 ≤ k) : series_Check.f k mean rate l rest = some 0 := by
  obtain ⟨k, rfl⟩ : ∃ m, k = m + 1 := ⟨k - 1, by omega⟩
  unfold series_Check.f
  rw [if_neg (by omega), beyond_f (by omega) (by omega) m1 m2]
  simp only [Option.bind_some, Bool.false_eq_true, if_false]
  rw [beyond_f (by omega) (by omega) g1 g2]
  simp only [Option.bind_some, Bool.false_eq_true, if_false]
  rw [if_neg (by omega), decide_eq_false (by omega)]
  simp only [series_Check.j0]
  simp only [Bool.false_eq_true, if_false]
  exact chk_l hl ho l.length 0 (by omega) k (by omega)

theorem check_f {l : List S85} (hl : l.length ≤ 40) (ho : ∀ x ∈ l, tok x) {t : Int} (h3 : -345600000000000 ≤ t) (h4 : t < 345600086400000) {mean rate rest : Int}
    (m1 : -1000000000 ≤ mean) (m2 : mean ≤ 1000000000) (g1 : -4000000000000000 ≤ rate) (g2 : rate ≤ 4000000000000000) (r1 : 0 ≤ rest) (r2 : rest ≤ 100000000) (k : Nat) (hk : 53 ≤ k) : series_check.f k mean rate l rest t = some 0 := by
  unfold series_check.f
  rw [chk_f hl ho m1 m2 g1 g2 r1 r2 k hk]
  unfold series_Valid.f
  rw [if_pos (by omega), decide_eq_true (by omega)]
  rfl


end Go.Proofs.YtgmjgnojjbajdaaDoor.JG
