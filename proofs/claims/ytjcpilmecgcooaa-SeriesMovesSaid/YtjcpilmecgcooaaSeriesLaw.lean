/- What the statement's small, series.Bound and series.Slope compute. No condition on a program. -/
import Derived.Test.YtjcpilmecgcooaaJDx2
import Derived.Test.YtjcpilmecgcooaaJDx2
import Derived.Test.YtjcpilmecgcooaaJDx2
import Derived.Test.YtjcpilmecgcooaaJDx2
import Derived.Test.YtjcpilmecgcooaaSkyLaw
namespace Go.Proofs.Ytjcpilmecgcooaa.JD
open Go.Proofs.Ytjcpilmecgcooaa.Own Go.Proofs.Ytjcpilmecgcooaa.Tp Go.RowKit Go.Proofs.YtjcpilmecgcooaaW.PrintWords Go.Proofs.YtjcpilmecgcooaaW.PrintLast

abbrev ST := S69
def nm (x : ST) : ST := ⟨Int.tmod x.f0 1000000001, x.f1 % 1000000000, Int.tmod x.f2 4000000000000001⟩
theorem nm_ok (x : ST) : tok (nm x) := by
  have a := tmod_lt (a := x.f0) (m := 1000000001) (by omega)
  have b := tmod_lt (a := x.f2) (m := 4000000000000001) (by omega)
  unfold tok nm; simp only; omega
theorem series_works : ∃ k0, ∀ k, k0 ≤ k → ephemeriskeep2_seriesWorks.f k = some true :=
  of_mono (k0 := 60) ephemeriskeep2_seriesWorks.mono (by decide +kernel)
theorem instant_f (a : Int) : ephemeriskeep2_instant.f a = some (a % 604800000000000 - 302400000000000) := by
  unfold ephemeriskeep2_instant.f
  rw [tat_f (by omega) (by omega)]
  simp only [Option.bind_some]
  rw [wrap_in (by omega) (by omega)]

theorem small_l {l x3 : List ST} {a b c : Int} (hl : l.length ≤ 9223372036854775807) : ∀ (n i : Nat) (acc : List ST), i + n = l.length → acc.length ≤ 6 → acc.length = min i 6 → ∀ k, n + 1 ≤ k →
    ephemeriskeep2_small.l0 k acc l (l.length : Int) (i : Int) a b x3 c = some (a, b, acc ++ ((l.drop i).take (6 - i)).map nm, c)
  | 0, i, acc, hi, _, _, k, hk => by
    obtain ⟨k, rfl⟩ : ∃ m, k = m + 1 := ⟨k - 1, by omega⟩
    simp only [ephemeriskeep2_small.l0]
    rw [if_neg (by omega), List.drop_eq_nil_of_le (by omega)]
    simp
  | n + 1, i, acc, hi, ha, ha', k, hk => by
    obtain ⟨k, rfl⟩ : ∃ m, k = m + 1 := ⟨k - 1, by omega⟩
    have hlt : i < l.length := by omega
    have e : l.drop i = l[i] :: l.drop (i + 1) := List.drop_eq_getElem_cons hlt
    simp only [ephemeriskeep2_small.l0]
    rw [if_pos (by omega), if_pos (by omega), if_pos (by omega), rdT_get hlt]
    rw [wrap_in (n := (i : Int) + 1) (by omega) (by omega), show ((i : Int) + 1) = ((i + 1 : Nat) : Int) by omega]
    by_cases c6 : i < 6
    · rw [if_pos (by omega), tat_f (by omega) (by omega)]
      simp only [Option.bind_some]
      rw [if_pos (by omega)]
      have ih := small_l (x3 := x3) (a := a) (b := b) (c := c) hl n (i + 1) (acc ++ [nm l[i]]) (by omega) (by simp; omega) (by simp; omega) k (by omega)
      simp only [nm] at ih
      rw [ih, e, show 6 - i = (6 - (i + 1)) + 1 by omega, List.take_succ_cons, List.map_cons, List.append_assoc]
      rfl
    · rw [if_neg (by omega)]
      have ih := small_l (x3 := x3) (a := a) (b := b) (c := c) hl n (i + 1) acc (by omega) ha (by omega) k (by omega)
      rw [ih, show 6 - i = 0 by omega, show 6 - (i + 1) = 0 by omega]
      simp
theorem small_f {l : List ST} (hl : l.length ≤ 9223372036854775807) (a b c : Int) (k : Nat) (hk : l.length + 1 ≤ k) :
    ephemeriskeep2_small.f k a b l c = some (Int.tmod a 1000000001, Int.tmod b 4000000000000001, (l.take 6).map nm, c % 1000) := by
  unfold ephemeriskeep2_small.f
  rw [tat_f (by omega) (by omega)]
  have := small_l (x3 := l) (a := Int.tmod a 1000000001) (b := Int.tmod b 4000000000000001) (c := c % 1000) hl l.length 0 [] (by omega) (by simp) (by simp) k hk
  simpa using this
theorem nm_all (l : List ST) : ∀ x ∈ (l.take 6).map nm, tok x := by
  intro x hx
  obtain ⟨y, _, rfl⟩ := List.mem_map.1 hx
  exact nm_ok y
theorem nm_len (l : List ST) : ((l.take 6).map nm).length ≤ 6 := by simp; omega

theorem wl_b : ∀ {l : List ST}, (∀ x ∈ l, tok x) → 0 ≤ wl l ∧ wl l ≤ 12 * (l.length : Int)
  | [], _ => by simp [wl]
  | x :: l, h => by
    have ih := wl_b (l := l) (fun y hy => h y (List.mem_cons_of_mem _ hy))
    have o := h x (by simp)
    have o1 := o.1
    have o2 := o.2.1
    have e : 0 ≤ abI x.f0 ∧ abI x.f0 ≤ 1000000000 := by unfold abI; split <;> omega
    simp only [wl, List.length_cons]
    omega
theorem bound_l {l : List ST} (hl : l.length ≤ 40) (ho : ∀ x ∈ l, tok x) : ∀ (n i : Nat) (s : Int), i + n = l.length → 0 ≤ s → s ≤ 1000000000 + 12 * (i : Int) → ∀ k, n + 1 ≤ k →
    series_Bound.l0 k s l (l.length : Int) (i : Int) = some (s + wl (l.drop i), 0)
  | 0, i, s, hi, _, _, k, hk => by
    obtain ⟨k, rfl⟩ : ∃ m, k = m + 1 := ⟨k - 1, by omega⟩
    simp only [series_Bound.l0]
    rw [if_neg (by omega), List.drop_eq_nil_of_le (by omega)]
    simp [wl]
  | n + 1, i, s, hi, hs, hs', k, hk => by
    obtain ⟨k, rfl⟩ : ∃ m, k = m + 1 := ⟨k - 1, by omega⟩
    have hlt : i < l.length := by omega
    obtain ⟨o1, o2, _⟩ := ho _ (List.getElem_mem hlt)
    have e : l.drop i = l[i] :: l.drop (i + 1) := List.drop_eq_getElem_cons hlt
    simp only [series_Bound.l0]
    rw [if_pos (by omega), if_pos (by omega), if_pos (by omega), rdT_get hlt]
    rw [wrap_in (n := (i : Int) + 1) (by omega) (by omega), show ((i : Int) + 1) = ((i + 1 : Nat) : Int) by omega, e]
    simp only [wl]
    by_cases c : l[i].f0 < 0
    · rw [if_pos c, wrap_in (n := -l[i].f0) (by omega) (by omega), tdiv_nn (by omega), wrap_in (n := -l[i].f0 / 100000000) (by omega) (by omega), wrap_in (n := -l[i].f0 / 100000000 + 2) (by omega) (by omega), wrap_in (n := s + (-l[i].f0 / 100000000 + 2)) (by omega) (by omega)]
      rw [bound_l hl ho n (i + 1) _ (by omega) (by omega) (by omega) k (by omega), show abI l[i].f0 = -l[i].f0 by unfold abI; rw [if_pos c]]
      congr 2; omega
    · rw [if_neg c, tdiv_nn (by omega), wrap_in (n := l[i].f0 / 100000000) (by omega) (by omega), wrap_in (n := l[i].f0 / 100000000 + 2) (by omega) (by omega), wrap_in (n := s + (l[i].f0 / 100000000 + 2)) (by omega) (by omega)]
      rw [bound_l hl ho n (i + 1) _ (by omega) (by omega) (by omega) k (by omega), show abI l[i].f0 = l[i].f0 by unfold abI; rw [if_neg c]]
      congr 2; omega
theorem bound_f {l : List ST} (hl : l.length ≤ 40) (ho : ∀ x ∈ l, tok x) {mean rate rest : Int}
    (m1 : -1000000000 ≤ mean) (m2 : mean ≤ 1000000000) (g1 : -4000000000000000 ≤ rate) (g2 : rate ≤ 4000000000000000) (r1 : 0 ≤ rest) (r2 : rest ≤ 100000000) (k : Nat) (hk : 53 ≤ k) :
    series_Bound.f k mean rate l rest = some (2 * rest + wl l, 0) := by
  unfold series_Bound.f
  rw [chk_f hl ho m1 m2 g1 g2 r1 r2 k hk]
  simp only [Option.bind_some, if_true]
  rw [wrap_in (n := 2 * rest) (by omega) (by omega)]
  exact bound_l hl ho l.length 0 (2 * rest) (by omega) (by omega) (by omega) k (by omega)

/-- the ceiling -/
def ce (a b : Int) : Int := -((-a) / b)
theorem ceil_f {a b : Int} (hb : 0 < b) (hb' : b ≤ 9000000000000000000) (ha : -9000000000000000000 ≤ a) (ha' : a ≤ 9000000000000000000) : interval_Ceil.f a b = some (ce a b) := by
  unfold interval_Ceil.f ce
  have d : -9000000000000000000 ≤ (-a) / b ∧ (-a) / b ≤ 9000000000000000000 := by
    have h1 := Int.mul_ediv_self_le (x := -a) (k := b) (by omega)
    have h2 := Int.lt_mul_ediv_self_add (x := -a) (k := b) hb
    constructor
    · refine Int.le_ediv_of_mul_le hb ?_
      have : -9000000000000000000 * b ≤ -9000000000000000000 * 1 := by omega
      omega
    · have : (-a) / b * b ≤ -a := by rw [Int.mul_comm]; exact h1
      rcases Int.lt_or_le 0 ((-a) / b) with c | c
      · have := Int.mul_le_mul_of_nonneg_left (show (1 : Int) ≤ b by omega) (show 0 ≤ (-a) / b by omega)
        omega
      · omega
  rw [wrap_in (n := -a) (by omega) (by omega), sfloor_ hb hb' (by omega) (by omega)]
  simp only [Option.bind_some]
  rw [wrap_in (by omega) (by omega)]
/-- the slope of a term -/
def sp (x : ST) : Int := ce (ce (abI x.f0 * ce (abI x.f2) 1000000) 1000000000 * 44) 7
def sps : List ST → Int
  | [] => 0
  | x :: l => sp x + sps l
theorem sp_b {x : ST} (h : tok x) : 0 ≤ abI x.f0 ∧ abI x.f0 ≤ 1000000000 ∧ 0 ≤ ce (abI x.f2) 1000000 ∧ ce (abI x.f2) 1000000 ≤ 4000000000 ∧ 0 ≤ abI x.f0 * ce (abI x.f2) 1000000 ∧ abI x.f0 * ce (abI x.f2) 1000000 ≤ 4000000000000000000 ∧
    0 ≤ ce (abI x.f0 * ce (abI x.f2) 1000000) 1000000000 ∧ ce (abI x.f0 * ce (abI x.f2) 1000000) 1000000000 ≤ 4000000000 ∧ 0 ≤ sp x ∧ sp x ≤ 30000000000 := by
  obtain ⟨o1, o2, _, _, o5, o6⟩ := h
  have a : 0 ≤ abI x.f0 ∧ abI x.f0 ≤ 1000000000 := by unfold abI; split <;> omega
  have b : 0 ≤ abI x.f2 ∧ abI x.f2 ≤ 4000000000000000 := by unfold abI; split <;> omega
  have c : 0 ≤ ce (abI x.f2) 1000000 ∧ ce (abI x.f2) 1000000 ≤ 4000000000 := by unfold ce; omega
  have p1 := Int.mul_nonneg a.1 c.1
  have p2 : abI x.f0 * ce (abI x.f2) 1000000 ≤ 1000000000 * 4000000000 := Int.mul_le_mul a.2 c.2 c.1 (by omega)
  have d : 0 ≤ ce (abI x.f0 * ce (abI x.f2) 1000000) 1000000000 ∧ ce (abI x.f0 * ce (abI x.f2) 1000000) 1000000000 ≤ 4000000000 := by
    generalize abI x.f0 * ce (abI x.f2) 1000000 = q at *
    unfold ce; omega
  refine ⟨a.1, a.2, c.1, c.2, p1, by omega, d.1, d.2, ?_⟩
  unfold sp
  generalize ce (abI x.f0 * ce (abI x.f2) 1000000) 1000000000 = q at *
  unfold ce; omega
theorem sps_b : ∀ {l : List ST}, (∀ x ∈ l, tok x) → 0 ≤ sps l ∧ sps l ≤ 30000000000 * (l.length : Int)
  | [], _ => by simp [sps]
  | x :: l, h => by
    have ih := sps_b (l := l) (fun y hy => h y (List.mem_cons_of_mem _ hy))
    have o := (sp_b (h x (by simp))).2.2.2.2.2.2.2.2
    simp only [sps, List.length_cons]
    omega

theorem slope_l {l x3 : List ST} {a b c : Int} (hl : l.length ≤ 40) (ho : ∀ x ∈ l, tok x) (g1 : -4000000000000000 ≤ b) (g2 : b ≤ 4000000000000000) : ∀ (n i : Nat) (s : Int), i + n = l.length → 0 ≤ s → s ≤ 30000000000 * (i : Int) → ∀ k, 2 * n + 1 ≤ k →
    series_Slope.l0 k s l (l.length : Int) (i : Int) a b x3 c = some (b / 1000000 - (s + sps (l.drop i)), ce b 1000000 + (s + sps (l.drop i)), 0)
  | 0, i, s, hi, hs, hs', k, hk => by
    obtain ⟨k, rfl⟩ : ∃ m, k = m + 1 := ⟨k - 1, by omega⟩
    have d : -4000000000 ≤ ce b 1000000 ∧ ce b 1000000 ≤ 4000000000 := by unfold ce; omega
    simp only [series_Slope.l0]
    rw [if_neg (by omega), List.drop_eq_nil_of_le (by omega), sfloor_ (by omega) (by omega) (by omega) (by omega), ceil_f (by omega) (by omega) (by omega) (by omega)]
    simp only [Option.bind_some, sps, Int.add_zero]
    rw [wrap_in (n := b / 1000000 - s) (by omega) (by omega), wrap_in (n := ce b 1000000 + s) (by omega) (by omega)]
  | n + 1, i, s, hi, hs, hs', k, hk => by
    obtain ⟨k, rfl⟩ : ∃ m, k = m + 1 + 1 := ⟨k - 2, by omega⟩
    have hlt : i < l.length := by omega
    have o := ho _ (List.getElem_mem hlt)
    obtain ⟨b1, b2, b3, b4, b5, b6, b7, b8, b9, b10⟩ := sp_b o
    obtain ⟨o1, o2, _, _, o5, o6⟩ := o
    have e : l.drop i = l[i] :: l.drop (i + 1) := List.drop_eq_getElem_cons hlt
    have ih := slope_l (x3 := x3) (a := a) (c := c) hl ho g1 g2 n (i + 1) (s + sp l[i]) (by omega) (by omega) (by omega) k (by omega)
    have j1 : series_Slope.j1 (k + 1) s (abI l[i].f0) l[i].f2 l (l.length : Int) (i : Int) a b x3 c = some (b / 1000000 - (s + sps (l.drop i)), ce b 1000000 + (s + sps (l.drop i)), 0) := by
      have fin : (interval_Ceil.f (abI l[i].f2) 1000000).bind (fun t => (interval_Ceil.f (wrap64 (abI l[i].f0 * t)) 1000000000).bind fun u => (interval_Ceil.f (wrap64 (u * 44)) 7).bind fun v => series_Slope.l0 k (wrap64 (s + v)) l (l.length : Int) (wrap64 ((i : Int) + 1)) a b x3 c) = some (b / 1000000 - (s + sps (l.drop i)), ce b 1000000 + (s + sps (l.drop i)), 0) := by
        have ab : 0 ≤ abI l[i].f2 ∧ abI l[i].f2 ≤ 4000000000000000 := by unfold abI; split <;> omega
        rw [ceil_f (by omega) (by omega) (by omega) (by omega)]
        simp only [Option.bind_some]
        rw [wrap_in (n := abI l[i].f0 * ce (abI l[i].f2) 1000000) (by omega) (by omega), ceil_f (by omega) (by omega) (by omega) (by omega)]
        simp only [Option.bind_some]
        rw [wrap_in (n := ce (abI l[i].f0 * ce (abI l[i].f2) 1000000) 1000000000 * 44) (by omega) (by omega), ceil_f (by omega) (by omega) (by omega) (by omega)]
        simp only [Option.bind_some]
        rw [show ce (ce (abI l[i].f0 * ce (abI l[i].f2) 1000000) 1000000000 * 44) 7 = sp l[i] from rfl, wrap_in (n := s + sp l[i]) (by omega) (by omega), wrap_in (n := (i : Int) + 1) (by omega) (by omega), show ((i : Int) + 1) = ((i + 1 : Nat) : Int) by omega, ih, e]
        simp only [sps, Int.add_assoc]
      simp only [series_Slope.j1]
      by_cases cr : l[i].f2 < 0
      · rw [if_pos cr, wrap_in (n := -l[i].f2) (by omega) (by omega)]
        rw [show abI l[i].f2 = -l[i].f2 by unfold abI; rw [if_pos cr]] at fin
        exact fin
      · rw [if_neg cr]
        rw [show abI l[i].f2 = l[i].f2 by unfold abI; rw [if_neg cr]] at fin
        exact fin
    simp only [series_Slope.l0]
    rw [if_pos (by omega), if_pos (by omega), if_pos (by omega), rdT_get hlt]
    by_cases ca : l[i].f0 < 0
    · rw [if_pos ca, wrap_in (n := -l[i].f0) (by omega) (by omega)]
      rw [show abI l[i].f0 = -l[i].f0 by unfold abI; rw [if_pos ca]] at j1
      exact j1
    · rw [if_neg ca]
      rw [show abI l[i].f0 = l[i].f0 by unfold abI; rw [if_neg ca]] at j1
      exact j1
theorem slope_f {l : List ST} (hl : l.length ≤ 40) (ho : ∀ x ∈ l, tok x) {mean rate rest : Int}
    (m1 : -1000000000 ≤ mean) (m2 : mean ≤ 1000000000) (g1 : -4000000000000000 ≤ rate) (g2 : rate ≤ 4000000000000000) (r1 : 0 ≤ rest) (r2 : rest ≤ 100000000) (k : Nat) (hk : 100 ≤ k) :
    series_Slope.f k mean rate l rest = some (rate / 1000000 - sps l, ce rate 1000000 + sps l, 0) := by
  unfold series_Slope.f
  rw [chk_f hl ho m1 m2 g1 g2 r1 r2 k (by omega)]
  simp only [Option.bind_some, if_true]
  have := slope_l (x3 := l) (a := mean) (c := rest) hl ho g1 g2 l.length 0 0 (by omega) (by omega) (by omega) k (by omega)
  simpa using this

/-- two intervals about one angle -/
theorem same_f {a b c d : Int} {R : Rat} (k1 k2 : Int) (h1 : (a : Rat) ≤ R - 1000000000 * (k1 : Rat)) (h2 : R - 1000000000 * (k1 : Rat) ≤ (b : Rat)) (h3 : (c : Rat) ≤ R - 1000000000 * (k2 : Rat)) (h4 : R - 1000000000 * (k2 : Rat) ≤ (d : Rat))
    (ra : -1000000000000000000 ≤ a ∧ a ≤ 1000000000000000000) (rb : -1000000000000000000 ≤ b ∧ b ≤ 1000000000000000000) (rc : -1000000000000000000 ≤ c ∧ c ≤ 1000000000000000000) (rd : -1000000000000000000 ≤ d ∧ d ≤ 1000000000000000000) : ephemeriskeep2_same.f a b c d = some true := by
  have cT : ((1000000000 : Int) : Rat) = 1000000000 := by decide +kernel
  have i1 : c + 1000000000 * k2 ≤ b + 1000000000 * k1 := by
    apply ci
    rw [Rat.intCast_add, Rat.intCast_add, Rat.intCast_mul, Rat.intCast_mul, cT]; grind
  have i2 : a + 1000000000 * k1 ≤ d + 1000000000 * k2 := by
    apply ci
    rw [Rat.intCast_add, Rat.intCast_add, Rat.intCast_mul, Rat.intCast_mul, cT]; grind
  have i3 : a ≤ b := by
    apply ci; grind
  have i4 : c ≤ d := by
    apply ci; grind
  unfold ephemeriskeep2_same.f
  rw [wrap_in (n := c - a) (by omega) (by omega), tat_f (by omega) (by omega)]
  simp only [Option.bind_some]
  rw [wrap_in (n := b - a) (by omega) (by omega), wrap_in (n := d - c) (by omega) (by omega), wrap_in (n := 1000000000 - (d - c)) (by omega) (by omega)]
  by_cases g : (c - a) % 1000000000 ≤ b - a
  · rw [if_pos g]
  · rw [if_neg g, decide_eq_true (by omega)]
end Go.Proofs.Ytjcpilmecgcooaa.JD
