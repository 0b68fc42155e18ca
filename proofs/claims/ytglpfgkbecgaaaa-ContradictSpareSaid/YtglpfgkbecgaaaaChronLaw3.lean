/- The statements' constraints (events) are permitted and satisfied by the days; what follows for the closure of the bounds. No condition on a program. -/
import Derived.Test.YtglpfgkbecgaaaaJCx2
import Derived.Test.YtglpfgkbecgaaaaChronLaw2
namespace Go.Proofs.Ytglpfgkbecgaaaa.JC
open Go.Proofs.Ytglpfgkbecgaaaa.Own Go.Proofs.Ytglpfgkbecgaaaa.Fw Go.RowKit Go.Proofs.YtglpfgkbecgaaaaW.PrintWords Go.Proofs.YtglpfgkbecgaaaaW.PrintLast

/-- a constraint that days satisfy -/
def Sat (n : Nat) (D : Nat → Int) (x : Bd) : Prop := ∃ a b, OkC n x a b ∧ x.f2 ≤ D b - D a ∧ D b - D a ≤ x.f3 ∧ -21000 ≤ x.f2 ∧ x.f3 ≤ 21000
theorem Sat.ok {n : Nat} {D : Nat → Int} {x : Bd} (h : Sat n D x) : Ok n x := by obtain ⟨a, b, o, _⟩ := h; exact ⟨a, b, o⟩

variable {n : Nat} {D : Nat → Int}

theorem addC_eq {f : Mx} {x : Bd} {a b : Nat} (o : OkC n x a b) (p q : Nat) : addC f x p q = if p = b ∧ q = a then min (f b a) (-x.f2) else if p = a ∧ q = b then min (f a b) x.f3 else f p q := by
  unfold addC
  rw [o.fa, o.fb, Int.toNat_natCast, Int.toNat_natCast]
  have ne := o.ne
  simp only [upd]
  rw [if_neg (show ¬ (b = a ∧ a = b) from fun h => ne h.2)]
theorem addC_le {f : Mx} {x : Bd} (o : Ok n x) (p q : Nat) : addC f x p q ≤ f p q := by
  obtain ⟨a, b, o⟩ := o
  rw [addC_eq o]
  split
  · rename_i h; rw [h.1, h.2]; omega
  · split
    · rename_i h; rw [h.1, h.2]; omega
    · omega
theorem fold_le : ∀ {l : List Bd} {f : Mx}, (∀ x ∈ l, Ok n x) → ∀ p q, l.foldl addC f p q ≤ f p q
  | [], _, _, _, _ => Int.le_refl _
  | x :: l, f, h, p, q => Int.le_trans (fold_le (l := l) (f := addC f x) (fun y hy => h y (by simp [hy])) p q) (addC_le (h x (by simp)) p q)
theorem fold_mem : ∀ {l : List Bd} {f : Mx}, (∀ x ∈ l, Ok n x) → ∀ {x : Bd} {a b : Nat}, x ∈ l → OkC n x a b → l.foldl addC f a b ≤ x.f3 ∧ l.foldl addC f b a ≤ -x.f2
  | y :: l, f, h, x, a, b, hx, o => by
    rcases List.mem_cons.1 hx with rfl | hx
    · have h1 := fold_le (l := l) (f := addC f x) (fun z hz => h z (by simp [hz])) a b
      have h2 := fold_le (l := l) (f := addC f x) (fun z hz => h z (by simp [hz])) b a
      rw [addC_eq o] at h1 h2
      have ne := o.ne
      rw [if_neg (by omega), if_pos ⟨rfl, rfl⟩] at h1
      rw [if_pos ⟨rfl, rfl⟩] at h2
      simp only [List.foldl_cons]
      omega
    · exact fold_mem (l := l) (f := addC f y) (fun z hz => h z (by simp [hz])) hx o
theorem fold_low : ∀ {l : List Bd} {f : Mx}, (∀ x ∈ l, Sat n D x) → (∀ a b, D b - D a ≤ f a b) → ∀ p q, D q - D p ≤ l.foldl addC f p q
  | [], _, _, h, p, q => h p q
  | x :: l, f, ho, h, p, q => by
    refine fold_low (l := l) (f := addC f x) (fun y hy => ho y (by simp [hy])) (fun a b => ?_) p q
    obtain ⟨a', b', o, o1, o2, _⟩ := ho x (by simp)
    rw [addC_eq o]
    have h0 := h a b
    split
    · rename_i g; obtain ⟨rfl, rfl⟩ := g; have := h a b; omega
    · split
      · rename_i g; obtain ⟨rfl, rfl⟩ := g; have := h a b; omega
      · exact h0
theorem fold_small : ∀ {l : List Bd} {f : Mx}, (∀ x ∈ l, Sat n D x) → (∀ a b, f a b < far → f a b ≤ 21000) → ∀ p q, l.foldl addC f p q < far → l.foldl addC f p q ≤ 21000
  | [], _, _, h, p, q => h p q
  | x :: l, f, ho, h, p, q => by
    refine fold_small (l := l) (f := addC f x) (fun y hy => ho y (by simp [hy])) (fun a b => ?_) p q
    obtain ⟨a', b', o, o1, o2, o3, o4⟩ := ho x (by simp)
    have := o.le
    rw [addC_eq o]
    split
    · intro _; omega
    · split
      · intro _; omega
      · exact h a b
theorem fold_diag : ∀ {l : List Bd} {f : Mx}, (∀ x ∈ l, Ok n x) → ∀ p, l.foldl addC f p p = f p p
  | [], _, _, _ => rfl
  | x :: l, f, ho, p => by
    simp only [List.foldl_cons]
    rw [fold_diag (l := l) (fun y hy => ho y (by simp [hy]))]
    obtain ⟨a, b, o⟩ := ho x (by simp)
    rw [addC_eq o]
    have ne := o.ne
    rw [if_neg (by omega), if_neg (by omega)]

/-- what the laws need of the bounds and their closure -/
structure Good (n : Nat) (D : Nat → Int) (l : List Bd) : Prop where
  low : ∀ v, v ≤ n → ∀ a b, a < n → b < n → D b - D a ≤ iter (base l) v a b
  up : ∀ v a b, iter (base l) v a b ≤ base l a b
  far_ : ∀ a b, base l a b ≤ far
  diag : ∀ a, base l a a = 0
  mem : ∀ x ∈ l, ∀ a b, OkC n x a b → base l a b ≤ x.f3 ∧ base l b a ≤ -x.f2
  tri : ∀ w, w < n → Tri n (iter (base l) n) w
  pos : ∀ v, v ≤ n → ∀ a, a < n → 0 ≤ iter (base l) v a a
  no : ∀ v, v ≤ n → NoOver n (iter (base l) v)

theorem good {l : List Bd} (hn : n ≤ 8) (hD : ∀ i, -10000 ≤ D i ∧ D i ≤ 10000) (ho : ∀ x ∈ l, Sat n D x) : Good n D l := by
  have ok : ∀ x ∈ l, Ok n x := fun x hx => (ho x hx).ok
  have lo : ∀ a b, D b - D a ≤ base l a b := fold_low ho (fun a b => by
    have h1 := hD a
    have h2 := hD b
    unfold init
    split
    · rename_i e; subst e; omega
    · show _ ≤ (1000000000 : Int); omega)
  have fr : ∀ a b, base l a b ≤ far := fun a b => Int.le_trans (fold_le ok a b) (by unfold init; split; (show (0 : Int) ≤ 1000000000; omega); exact Int.le_refl _)
  have di : ∀ a, base l a a = 0 := fun a => by unfold base; rw [fold_diag ok]; unfold init; rw [if_pos rfl]
  have sm : ∀ a b, base l a b < far → base l a b ≤ 21000 := fold_small ho (fun a b => by
    unfold init
    split
    · intro _; omega
    · intro h; exact absurd h (Int.lt_irrefl _))
  have L : ∀ v, v ≤ n → Low n (fun a b => D b - D a) (iter (base l) v) := low_iter (low_days (fun a b _ _ => lo a b))
  have U : ∀ v a b, iter (base l) v a b ≤ base l a b := fun v a b => iter_le _ a b v
  have P : ∀ v, v ≤ n → ∀ a, a < n → 0 ≤ iter (base l) v a a := fun v hv a ha => by have := (L v hv).le a a ha ha; (try simp only at this); omega
  have S : Small n (base l) 21000 := fun a b ha hb => ⟨by have := lo a b; have h1 := hD a; have h2 := hD b; omega, sm a b⟩
  have pw : (21000 : Int) * 2 ^ n ≤ 400000000 := Int.le_trans (pow_le_pow (by omega) hn) (by decide)
  exact ⟨fun v hv a b ha hb => (L v hv).le a b ha hb, U, fr, di, fun x hx a b o => fold_mem ok hx o, fun w hw => iter_tri (by omega) S pw n (Nat.le_refl _) (fun u hu => P u (by omega) u hu) w hw, P,
    fun v hv a b ha hb => ⟨by have := (L v hv).le a b ha hb; (try simp only at this); have h1 := hD a; have h2 := hD b; omega, Int.le_trans (U v a b) (fr a b)⟩⟩

theorem tight_good {l : List Bd} (h1 : 1 ≤ n) (hn : n ≤ 8) (hl : l.length ≤ 40) (ho : ∀ x ∈ l, Sat n D x) (g : Good n D l) :
    Goes (fun k => chron_Tightest.f k n l) (spans n (iter (base l) n), 0) :=
  tight_goes h1 (by omega) hl (fun x hx => (ho x hx).ok) g.pos g.no

theorem at_f {a m : Int} (h : 0 < m) (h' : m ≤ 4000000000000000000) : ephemeriskeep2_at.f a m = some (a % m) := by
  unfold ephemeriskeep2_at.f
  rw [if_neg (by omega), at_val h h']

/-- the days of the statements -/
def dy (days : List Int) (i : Nat) : Int := Int.tmod (rd days i) 10000
theorem dy_b (days : List Int) (i : Nat) : -10000 ≤ dy days i ∧ dy days i ≤ 10000 := by
  have := tmod_lt (a := rd days i) (m := 10000) (by omega)
  unfold dy; omega

theorem events_loop {days : List Int} {l : List Bd} (hn : n ≤ 8) (hnd : n ≤ days.length) (hd : days.length ≤ 1000000000000000) (hl : l.length ≤ 9223372036854775807) : ∀ (rest : List Bd) (i : Nat) (acc : List Bd), l.drop i = rest → (∀ x ∈ acc, Sat n (dy days) x) → acc.length ≤ i → i ≤ 20 →
    ∃ L, Goes (fun k => ephemeriskeep2_events.l0 k days n acc l l.length (i : Int)) ((n : Int), L) ∧ (∀ x ∈ L, Sat n (dy days) x) ∧ L.length ≤ 20
  | [], i, acc, hdr, ha, hi, h20 => by
    have := List.drop_eq_nil_iff.1 hdr
    refine ⟨acc, ⟨1, fun k hk => ?_⟩, ha, by omega⟩
    obtain ⟨m, rfl⟩ : ∃ m, k = m + 1 := ⟨k - 1, by omega⟩
    simp only [ephemeriskeep2_events.l0]
    rw [if_neg (by omega)]
  | x :: rest, i, acc, hdr, ha, hi, h20 => by
    obtain ⟨hil, hx, hdr'⟩ := drop_rd hdr
    by_cases c : (i : Int) = 20 ∨ n < 2
    · refine ⟨acc, ⟨2, fun k hk => ?_⟩, ha, by omega⟩
      obtain ⟨m, rfl⟩ : ∃ m, k = m + 2 := ⟨k - 2, by omega⟩
      simp only [ephemeriskeep2_events.l0]
      rw [if_pos (by omega), if_pos (by omega), if_pos (by omega)]
      by_cases c1 : (i : Int) = 20
      · rw [if_pos c1]; simp only [ephemeriskeep2_events.j1, if_true]
      · rw [if_neg c1, decide_eq_true (by omega)]; simp only [ephemeriskeep2_events.j1, if_true]
    · have e1 : 0 ≤ x.f0 % n ∧ x.f0 % n < n := ⟨Int.emod_nonneg _ (by omega), Int.emod_lt_of_pos _ (by omega)⟩
      have e2 : 0 ≤ x.f1 % ((n : Int) - 1) ∧ x.f1 % ((n : Int) - 1) < n - 1 := ⟨Int.emod_nonneg _ (by omega), Int.emod_lt_of_pos _ (by omega)⟩
      have e3 : 0 ≤ x.f2 % 50 ∧ x.f2 % 50 < 50 := by omega
      have e4 : 0 ≤ x.f3 % 50 ∧ x.f3 % 50 < 50 := by omega
      obtain ⟨a, ea⟩ : ∃ a : Nat, x.f0 % n = a := ⟨(x.f0 % n).toNat, by omega⟩
      obtain ⟨t, et⟩ : ∃ t : Int, x.f1 % ((n : Int) - 1) = t := ⟨_, rfl⟩
      obtain ⟨b, eb⟩ : ∃ b : Nat, Int.tmod ((a : Int) + 1 + t) n = b := ⟨(Int.tmod ((a : Int) + 1 + t) n).toNat, by rw [tmod_nn (by omega)]; have := Int.emod_nonneg ((a : Int) + 1 + t) (show (n : Int) ≠ 0 by omega); omega⟩
      have eb' : (b : Int) = if (a : Int) + 1 + t < n then (a : Int) + 1 + t else (a : Int) + 1 + t - n := by
        rw [← eb, tmod_nn (by omega)]
        split
        · exact Int.emod_eq_of_lt (by omega) (by omega)
        · rw [← Int.sub_emod_right]
          exact Int.emod_eq_of_lt (by omega) (by omega)
      have da := dy_b days a
      have db := dy_b days b
      have sat : Sat n (dy days) ⟨a, b, dy days b - dy days a - x.f2 % 50, dy days b - dy days a + x.f3 % 50⟩ :=
        ⟨a, b, ⟨by omega, by split at eb' <;> omega, by split at eb' <;> omega, rfl, rfl, by show _ ≤ dy days b - dy days a - x.f2 % 50; omega, by show dy days b - dy days a - x.f2 % 50 ≤ dy days b - dy days a + x.f3 % 50; omega, by show dy days b - dy days a + x.f3 % 50 ≤ _; omega⟩,
          by show dy days b - dy days a - x.f2 % 50 ≤ _; omega, by show _ ≤ dy days b - dy days a + x.f3 % 50; omega, by show _ ≤ dy days b - dy days a - x.f2 % 50; omega, by show dy days b - dy days a + x.f3 % 50 ≤ _; omega⟩
      obtain ⟨L, g1, g2, g3⟩ := events_loop hn hnd hd hl rest (i + 1) (acc ++ [⟨a, b, dy days b - dy days a - x.f2 % 50, dy days b - dy days a + x.f3 % 50⟩]) hdr' (fun y hy => by
        rcases List.mem_append.1 hy with e | e
        · exact ha y e
        · simp only [List.mem_singleton] at e; subst e; exact sat) (by simp; omega) (by omega)
      refine ⟨L, Goes.step (g := fun k => ephemeriskeep2_events.j1 k days n acc l l.length (i : Int) false x.f0 x.f1 x.f2 x.f3) (fun k => ?_) (Goes.step (fun k => ?_) g1), g2, g3⟩
      · simp only [ephemeriskeep2_events.l0]
        rw [hx, if_pos (by omega), if_pos (by omega), if_pos (by omega), if_neg (by omega), decide_eq_false (by omega)]
      · simp only [ephemeriskeep2_events.j1, Bool.false_eq_true, if_false]
        rw [wrap_in (n := (n : Int) - 1) (by omega) (by omega), at_f (by omega) (by omega), at_f (by omega) (by omega), at_f (by omega) (by omega), at_f (by omega) (by omega), ea, et]
        simp only [Option.bind_some]
        have hbn : (b : Int) < n := by split at eb' <;> omega
        rw [wrap_in (n := (a : Int) + 1) (by omega) (by omega), wrap_in (n := (a : Int) + 1 + t) (by omega) (by omega), eb, if_neg (by omega), if_pos (by omega), if_pos (by omega), if_pos (by omega), if_pos (by omega), if_pos (by omega)]
        have w1 : wrap64 (Int.tmod (rd days b) 10000 - Int.tmod (rd days a) 10000) = dy days b - dy days a := wrap_in (by unfold dy at da db; omega) (by unfold dy at da db; omega)
        rw [w1, wrap_in (n := dy days b - dy days a - x.f2 % 50) (by omega) (by omega), wrap_in (n := dy days b - dy days a + x.f3 % 50) (by omega) (by omega), wrap_in (n := (i : Int) + 1) (by omega) (by omega)]
        rfl

theorem events_goes {days : List Int} {l : List Bd} (hd : days.length ≤ 1000000000000000) (hl : l.length ≤ 9223372036854775807) :
    ∃ L, Goes (fun k => ephemeriskeep2_events.f k days l) (((min days.length 8 : Nat) : Int), L) ∧ (∀ x ∈ L, Sat (min days.length 8) (dy days) x) ∧ L.length ≤ 20 := by
  obtain ⟨L, g1, g2, g3⟩ := events_loop (n := min days.length 8) (days := days) (l := l) (by omega) (by omega) hd hl l 0 [] rfl (fun x h => by cases h) (Nat.le_refl _) (by omega)
  refine ⟨L, Goes.congr (fun k => ?_) g1, g2, g3⟩
  unfold ephemeriskeep2_events.f
  rw [mn_min]
  congr 1
  omega


end Go.Proofs.Ytglpfgkbecgaaaa.JC
