/- The statements' constraints (events) are permitted and satisfied by the days; what follows for the closure of the bounds. No condition on a program. -/
import Derived.Test.YtoecglgbmhhdnaaChronLaw2
namespace Go.Proofs.Ytoecglgbmhhdnaa.JE
open Go.Proofs.Ytoecglgbmhhdnaa.Own Go.Proofs.Ytoecglgbmhhdnaa.Fw Go.RowKit Go.Proofs.YtoecglgbmhhdnaaW.PrintWords Go.Proofs.YtoecglgbmhhdnaaW.PrintLast

/-- a constraint that days satisfy -/
def Sat (n : Nat) (D : Nat → Int) (x : Bd) : Prop := ∃ a b, OkC n x a b ∧ x.f2 ≤ D b - D a ∧ D b - D a ≤ x.f3 ∧ -21000 ≤ x.f2 ∧ x.f3 ≤ 21000
theorem Sat.ok {n : Nat} {D : Nat → Int} {x : Bd} (h : Sat n D x) : Ok n x := by obtain ⟨a, b, o, _⟩ := h; exact ⟨a, b, o⟩

variable {n : Nat} {D : Nat → Int}

theorem addC_eq {f : Mx} {x : Bd} {a b : Nat} (o : OkC n x a b) (p q : Nat) : addC f x p q = if p = b ∧ q = a then min (f b a) (-x.f2) else if p = a ∧ q = b then min (f a b) x.f3 else f p q := by
  unfold addC
  rw [o.fa, o.fb, Int.toNat_natCast, Int.toNat_natCast]
  have ne := o.ne
  simp only [upd]
  rw [if_neg (show ¬ (b = a ∧ a = b) from fun h => ne h.2)]
theorem addC_le {f : Mx} {x : Bd} (o : Ok n x) (p q : Nat) : addC f x p q ≤ f p q := by
  obtain ⟨a, b, o⟩ := o
  rw [addC_eq o]
  split
  · rename_i h; rw [h.1, h.2]; omega
  · split
    · rename_i h; rw [h.1, h.2]; omega
    · omega
theorem fold_le : ∀ {l : List Bd} {f : Mx}, (∀ x ∈ l, Ok n x) → ∀ p q, l.foldl addC f p q ≤ f p q
  | [], _, _, _, _ => Int.le_refl _
  | x :: l, f, h, p, q => Int.le_trans (fold_le (l := l) (f := addC f x) (fun y hy => h y (by simp [hy])) p q) (addC_le (h x (by simp)) p q)
theorem fold_mem : ∀ {l : List Bd} {f : Mx}, (∀ x ∈ l, Ok n x) → ∀ {x : Bd} {a b : Nat}, x ∈ l → OkC n x a b → l.foldl addC f a b ≤ x.f3 ∧ l.foldl addC f b a ≤ -x.f2
  | y :: l, f, h, x, a, b, hx, o => by
    rcases List.mem_cons.1 hx with rfl | hx
    · have h1 := fold_le (l := l) (f := addC f x) (fun z hz => h z (by simp [hz])) a b
      have h2 := fold_le (l := l) (f := addC f x) (fun z hz => h z (by simp [hz])) b a
      rw [addC_eq o] at h1 h2
      have ne := o.ne
      rw [if_neg (by omega), if_pos ⟨rfl, rfl⟩] at h1
      rw [if_pos ⟨rfl, rfl⟩] at h2
      simp only [List.foldl_cons]
      omega
    · exact fold_mem (l := l) (f := addC f y) (fun z hz => h z (by simp [hz])) hx o
theorem fold_low : ∀ {l : List Bd} {f : Mx}, (∀ x ∈ l, Sat n D x) → (∀ a b, D b - D a ≤ f a b) → ∀ p q, D q - D p ≤ l.foldl addC f p q
  | [], _, _, h, p, q => h p q
  | x :: l, f, ho, h, p, q => by
    refine fold_low (l := l) (f := addC f x) (fun y hy => ho y (by simp [hy])) (fun a b => ?_) p q
    obtain ⟨a', b', o, o1, o2, _⟩ := ho x (by simp)
    rw [addC_eq o]
    have h0 := h a b
    split
    · rename_i g; obtain ⟨rfl, rfl⟩ := g; have := h a b; omega
    · split
      · rename_i g; obtain ⟨rfl, rfl⟩ := g; have := h a b; omega
      · exact h0
theorem fold_small : ∀ {l : List Bd} {f : Mx}, (∀ x ∈ l, Sat n D x) → (∀ a b, f a b < far → f a b ≤ 21000) → ∀ p q, l.foldl addC f p q < far → l.foldl addC f p q ≤ 21000
  | [], _, _, h, p, q => h p q
  | x :: l, f, ho, h, p, q => by
    refine fold_small (l := l) (f := addC f x) (fun y hy => ho y (by simp [hy])) (fun a b => ?_) p q
    obtain ⟨a', b', o, o1, o2, o3, o4⟩ := ho x (by simp)
    have := o.le
    rw [addC_eq o]
    split
    · intro _; omega
    · split
      · intro _; omega
      · exact h a b
theorem fold_diag : ∀ {l : List Bd} {f : Mx}, (∀ x ∈ l, Ok n x) → ∀ p, l.foldl addC f p p = f p p
  | [], _, _, _ => rfl
  | x :: l, f, ho, p => by
    simp only [List.foldl_cons]
    rw [fold_diag (l := l) (fun y hy => ho y (by simp [hy]))]
    obtain ⟨a, b, o⟩ := ho x (by simp)
    rw [addC_eq o]
    have ne := o.ne
    rw [if_neg (by omega), if_neg (by omega)]

/-- what the laws need of the bounds and their closure -/
structure Good (n : Nat) (D : Nat → Int) (l : List Bd) : Prop where
  low : ∀ v, v ≤ n → ∀ a b, a < n → b < n → D b - D a ≤ iter (base l) v a b
  up : ∀ v a b, iter (base l) v a b ≤ base l a b
  far_ : ∀ a b, base l a b ≤ far
  diag : ∀ a, base l a a = 0
  mem : ∀ x ∈ l, ∀ a b, OkC n x a b → base l a b ≤ x.f3 ∧ base l b a ≤ -x.f2
  tri : ∀ w, w < n → Tri n (iter (base l) n) w
  pos : ∀ v, v ≤ n → ∀ a, a < n → 0 ≤ iter (base l) v a a
  no : ∀ v, v ≤ n → NoOver n (iter (base l) v)

theorem good {l : List Bd} (hn : n ≤ 8) (hD : ∀ i, -10000 ≤ D i ∧ D i ≤ 10000) (ho : ∀ x ∈ l, Sat n D x) : Good n D l := by
  have ok : ∀ x ∈ l, Ok n x := fun x hx => (ho x hx).ok
  have lo : ∀ a b, D b - D a ≤ base l a b := fold_low ho (fun a b => by
    have h1 := hD a
    have h2 := hD b
    unfold init
    split
    · rename_i e; subst e; omega
    · show _ ≤ (1000000000 : Int); omega)
  have fr : ∀ a b, base l a b ≤ far := fun a b => Int.le_trans (fold_le ok a b) (by unfold init; split; (show (0 : Int) ≤ 1000000000; omega); exact Int.le_refl _)
  have di : ∀ a, base l a a = 0 := fun a => by unfold base; rw [fold_diag ok]; unfold init; rw [if_pos rfl]
  have sm : ∀ a b, base l a b < far → base l a b ≤ 21000 := fold_small ho (fun a b => by
    unfold init
    split
    · intro _; omega
    · intro h; exact absurd h (Int.lt_irrefl _))
  have L : ∀ v, v ≤ n → Low n (fun a b => D b - D a) (iter (base l) v) := low_iter (low_days (fun a b _ _ => lo a b))
  have U : ∀ v a b, iter (base l) v a b ≤ base l a b := fun v a b => iter_le _ a b v
  have P : ∀ v, v ≤ n → ∀ a, a < n → 0 ≤ iter (base l) v a a := fun v hv a ha => by have := (L v hv).le a a ha ha; (try simp only at this); omega
  have S : Small n (base l) 21000 := fun a b ha hb => ⟨by have := lo a b; have h1 := hD a; have h2 := hD b; omega, sm a b⟩
  have pw : (21000 : Int) * 2 ^ n ≤ 400000000 := Int.le_trans (pow_le_pow (by omega) hn) (by decide)
  exact ⟨fun v hv a b ha hb => (L v hv).le a b ha hb, U, fr, di, fun x hx a b o => fold_mem ok hx o, fun w hw => iter_tri (by omega) S pw n (Nat.le_refl _) (fun u hu => P u (by omega) u hu) w hw, P,
    fun v hv a b ha hb => ⟨by have := (L v hv).le a b ha hb; (try simp only at this); have h1 := hD a; have h2 := hD b; omega, Int.le_trans (U v a b) (fr a b)⟩⟩

theorem tight_good {l : List Bd} (h1 : 1 ≤ n) (hn : n ≤ 8) (hl : l.length ≤ 40) (ho : ∀ x ∈ l, Sat n D x) (g : Good n D l) :
    Goes (fun k => chron_Tightest.f k n l) (spans n (iter (base l) n), 0) :=
  tight_goes h1 (by omega) hl (fun x hx => (ho x hx).ok) g.pos g.no



end Go.Proofs.Ytoecglgbmhhdnaa.JE
