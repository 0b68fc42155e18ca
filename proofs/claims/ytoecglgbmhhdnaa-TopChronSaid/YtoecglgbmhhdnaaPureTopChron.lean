/- The law TopChron: each tightest bound is attained by days that satisfy all constraints, and a constraint beyond it contradicts them. No condition. -/
import Derived.Test.YtoecglgbmhhdnaaJEx2
import Derived.Test.YtoecglgbmhhdnaaTopEvents
namespace Go.Proofs.Ytoecglgbmhhdnaa.Pure
open Go.Proofs.Ytoecglgbmhhdnaa.JE Go.Proofs.Ytoecglgbmhhdnaa.Own Go.Proofs.Ytoecglgbmhhdnaa.Fw Go.RowKit Go.Proofs.YtoecglgbmhhdnaaW.PrintWords Go.Proofs.YtoecglgbmhhdnaaW.PrintLast

theorem snoc_base (L : List Bd) (x : Bd) : base (L ++ [x]) = addC (base L) x := by unfold base; rw [List.foldl_append]; rfl

variable {n : Nat} {D : Nat → Int} {L : List Bd}

/-- days within all bounds keep the closure from going below them -/
theorem free_of {f : Mx} {E : Nat → Int} (h : ∀ a b, a < n → b < n → E b - E a ≤ f a b) : Free n f := fun v hv a ha => by
  have := (low_iter (low_days h) v hv).le a a ha ha
  (try simp only at this)
  omega

theorem small_of (hD : ∀ i, -10000 ≤ D i ∧ D i ≤ 10000) (ho : ∀ x ∈ L, Sat n D x) : Small n (base L) 21000 := fun a b _ _ => by
  have lo : ∀ a b, D b - D a ≤ base L a b := fold_low ho (fun a b => by
    have h1 := hD a
    have h2 := hD b
    unfold init
    split
    · rename_i e; subst e; omega
    · show _ ≤ (1000000000 : Int); omega)
  refine ⟨by have := lo a b; have h1 := hD a; have h2 := hD b; omega, fold_small ho (fun a b => ?_) a b⟩
  unfold init
  split
  · intro _; omega
  · intro h; exact absurd h (Int.lt_irrefl _)

/-- a number of days between two events that some days have is found again -/
theorem attained {i k : Nat} {d : Int} {E : Nat → Int} (ok : ∀ x ∈ L, Ok n x) (o : OkC n ⟨i, k, d, d⟩ i k) (hn : n ≤ 8) (hl : L.length ≤ 20) (hE : ∀ a b, a < n → b < n → E b - E a ≤ base L a b) (hd : E k - E i = d) :
    ∃ H : Mx, Goes (fun r => chron_Tightest.f r n (L ++ [⟨i, k, d, d⟩])) (spans n H, 0) ∧ H i k = d ∧ H k i = -d := by
  have ha := o.ha
  have hb := o.hb
  have okx : ∀ x ∈ L ++ [(⟨i, k, d, d⟩ : Bd)], Ok n x := fun x hx => by
    rcases List.mem_append.1 hx with e | e
    · exact ok x e
    · simp only [List.mem_singleton] at e; subst e; exact ⟨i, k, o⟩
  have hB : ∀ a b, a < n → b < n → E b - E a ≤ base (L ++ [(⟨i, k, d, d⟩ : Bd)]) a b := fun a b h1 h2 => by
    have h0 := hE a b h1 h2
    rw [snoc_base, addC_eq o]
    split
    · rename_i e; obtain ⟨rfl, rfl⟩ := e; show _ ≤ min _ (-d); omega
    · split
      · rename_i e; obtain ⟨rfl, rfl⟩ := e; show _ ≤ min _ d; omega
      · exact h0
  have lw := (low_iter (low_days hB) n (Nat.le_refl _)).le
  have m := fold_mem (f := init) okx (x := ⟨i, k, d, d⟩) (by simp) o
  have u1 := iter_le (base (L ++ [(⟨i, k, d, d⟩ : Bd)])) i k n
  have u2 := iter_le (base (L ++ [(⟨i, k, d, d⟩ : Bd)])) k i n
  have l1 := lw i k ha hb
  have l2 := lw k i hb ha
  have m1 : base (L ++ [(⟨i, k, d, d⟩ : Bd)]) i k ≤ d := m.1
  have m2 : base (L ++ [(⟨i, k, d, d⟩ : Bd)]) k i ≤ -d := m.2
  (try simp only at l1 l2)
  exact ⟨iter (base (L ++ [(⟨i, k, d, d⟩ : Bd)])) n, tight_goes (by omega) (by omega) (by simp; omega) okx (free_of hB) (fun v hv => no_over (by omega) okx v hv), by omega, by omega⟩

/-- a constraint that goes round to less than nothing -/
theorem beyond {x : Bd} {i k p q : Nat} (sm : Small n (base L) 21000) (ok : ∀ x ∈ L, Ok n x) (o : OkC n x i k) (hn : n ≤ 8) (hl : L.length ≤ 20) (h2 : -1100000 ≤ x.f2) (h3 : x.f3 ≤ 1100000) (hp : p < n) (hq : q < n)
    (f1 : iter (base (L ++ [x])) n p q ≤ 2000000) (f2 : iter (base (L ++ [x])) n q p ≤ 2000000) (h : iter (base (L ++ [x])) n p q + iter (base (L ++ [x])) n q p < 0) : Goes (fun r => chron_Tightest.f r n (L ++ [x])) ([], 10) := by
  have okx : ∀ y ∈ L ++ [x], Ok n y := fun y hy => by
    rcases List.mem_append.1 hy with e | e
    · exact ok y e
    · simp only [List.mem_singleton] at e; subst e; exact ⟨i, k, o⟩
  have hf : far = 1000000000 := rfl
  have S : Small n (base (L ++ [x])) 1100000 := fun a b h1 h4 => by
    have s := sm a b h1 h4
    have le := o.le
    rw [snoc_base, addC_eq o]
    split
    · rename_i e; obtain ⟨rfl, rfl⟩ := e; omega
    · split
      · rename_i e; obtain ⟨rfl, rfl⟩ := e; omega
      · omega
  refine tight_bad (by omega) (by omega) (by simp; omega) okx (fun fr => ?_)
  have pw : (1100000 : Int) * 2 ^ n ≤ 400000000 := Int.le_trans (pow_le_pow (by omega) hn) (by decide)
  have t := iter_tri (by omega) S pw n (Nat.le_refl _) (fun u hu => fr u (by omega) u hu) q hq p p hp hp (by omega) (by omega)
  have := fr n (Nat.le_refl _) p hp
  omega

theorem at_b {a m : Int} (h : 0 < m) : 0 ≤ a % m ∧ a % m < m := ⟨Int.emod_nonneg _ (by omega), Int.emod_lt_of_pos _ h⟩

theorem TopChron : ephemeristop_TopChron.Pure := by
  intro days l a2 a3 hd _ _ hl _ _ _
  unfold maxLen at hd hl
  obtain ⟨L, e1, e2, e3⟩ := events_goes (days := days) (l := l) (by omega) (by omega)
  obtain ⟨n, hn⟩ : ∃ n, min days.length 8 = n := ⟨_, rfl⟩
  rw [hn] at e1 e2
  have n8 : n ≤ 8 := by omega
  have : Goes (fun k => ephemeristop_TopChron.f k days l a2 a3) true := by
    unfold ephemeristop_TopChron.f
    refine Goes.bind chron_works ?_
    simp only [if_true]
    refine Goes.bind e1 ?_
    dsimp only
    by_cases c : n < 2
    · exact Goes.of (fun k => by rw [if_pos (by omega)])
    · have b1 := at_b (a := a2) (m := n) (by omega)
      have b2 := at_b (a := a3) (m := (n : Int) - 1) (by omega)
      obtain ⟨i, ei⟩ : ∃ i : Nat, a2 % (n : Int) = i := ⟨(a2 % (n : Int)).toNat, by omega⟩
      obtain ⟨t, et⟩ : ∃ t : Int, a3 % ((n : Int) - 1) = t := ⟨_, rfl⟩
      rw [ei] at b1
      rw [et] at b2
      obtain ⟨k, ek⟩ : ∃ k : Nat, Int.tmod ((i : Int) + 1 + t) n = k := ⟨(Int.tmod ((i : Int) + 1 + t) n).toNat, by rw [tmod_nn (by omega)]; have := Int.emod_nonneg ((i : Int) + 1 + t) (show (n : Int) ≠ 0 by omega); omega⟩
      have ek' : (k : Int) = if (i : Int) + 1 + t < n then (i : Int) + 1 + t else (i : Int) + 1 + t - n := by
        rw [← ek, tmod_nn (by omega)]
        split
        · exact Int.emod_eq_of_lt (by omega) (by omega)
        · rw [← Int.sub_emod_right]
          exact Int.emod_eq_of_lt (by omega) (by omega)
      have hi : i < n := by omega
      have hk : k < n := by split at ek' <;> omega
      have ne : i ≠ k := by split at ek' <;> omega
      have ok : ∀ x ∈ L, Ok n x := fun x hx => (e2 x hx).ok
      have g := good n8 (dy_b days) e2
      have sm := small_of (dy_b days) e2
      have hf : far = 1000000000 := rfl
      obtain ⟨G, eG⟩ : ∃ G, iter (base L) n = G := ⟨_, rfl⟩
      have tL := tight_good (by omega) n8 (by omega) e2 g
      rw [eG] at tL
      have gtri := g.tri
      rw [eG] at gtri
      have gup : ∀ a b, G a b ≤ base L a b := fun a b => by rw [← eG]; exact g.up n a b
      have glow : ∀ a b, a < n → b < n → dy days b - dy days a ≤ G a b := fun a b ha hb => by rw [← eG]; exact g.low n (Nat.le_refl _) a b ha hb
      have blow : ∀ a b, a < n → b < n → dy days b - dy days a ≤ base L a b := fun a b ha hb => Int.le_trans (glow a b ha hb) (gup a b)
      have gsm : ∀ a b, a < n → b < n → G a b < far → G a b ≤ 5376000 := fun a b ha hb h => by
        have s := (small_iter (by omega) sm n (Nat.le_refl _) a b ha hb).2
        rw [eG] at s
        have p : (21000 : Int) * 2 ^ n ≤ 21000 * 2 ^ 8 := pow_le_pow (by omega) n8
        have q : (21000 : Int) * 2 ^ 8 = 5376000 := by decide
        have := s h
        omega
      have gii : G i i = 0 := by
        have h1 := gup i i
        have h2 := g.pos n (Nat.le_refl _) i hi
        rw [eG] at h2
        have h3 := g.diag i
        omega
      have bfar := g.far_
      have ddy := dy_b days
      have lik := glow i k hi hk
      have lki := glow k i hk hi
      simp only [at_f (show (0 : Int) < n by omega) (show (n : Int) ≤ _ by omega), wrap_in (n := (n : Int) - 1) (by omega) (by omega), at_f (show (0 : Int) < (n : Int) - 1 by omega) (show (n : Int) - 1 ≤ _ by omega), Option.bind_some, ei, et, wrap_in (n := (i : Int) + 1) (by omega) (by omega), wrap_in (n := (i : Int) + 1 + t) (by omega) (by omega), ek]
      refine Goes.congr (g := fun r => (chron_Tightest.f r n L).bind fun bt191 => (if bt191.2 = 0 then (if (bt191.1.length : Int) = n then (if (i : Int) < (bt191.1.length : Int) then (ephemeristop_TopChron.j0 r L i k n bt191.1 (((rd_L4 bt191.1 i).length : Int) != n)) else none) else (ephemeristop_TopChron.j0 r L i k n bt191.1 true)) else (ephemeristop_TopChron.j0 r L i k n bt191.1 true))) (fun r => ?_) ?_
      · rw [if_neg (by omega), if_neg (by omega)]
        simp only [if_pos (show (0 : Int) ≤ (i : Int) by omega)]
      refine Goes.bind tL ?_
      simp only [if_true, spans_len, if_pos (show (i : Int) < (n : Int) by omega), spans_rd _ hi, row_len, bne_self_eq_false]
      refine Goes.step (g := fun r => if (G i k) ≥ 1000000 then (ephemeristop_TopChron.j1 r L i k n true (-(G k i)) (G i k)) else (ephemeristop_TopChron.j1 r L i k n (decide (-(G k i) ≤ -1000000)) (-(G k i)) (G i k))) (fun r => ?_) ?_
      · simp only [ephemeristop_TopChron.j0, Bool.false_eq_true, if_false]
        rw [if_pos (by omega), spans_len, if_pos (by omega), if_pos (by omega), spans_rd _ hi, row_len, if_pos (by omega), rds_row _ hk]
        rfl
      by_cases big : G i k ≥ 1000000 ∨ -(G k i) ≤ -1000000
      · refine Goes.congr (g := fun r => ephemeristop_TopChron.j1 r L i k n true (-(G k i)) (G i k)) (fun r => ?_) ?_
        · by_cases c1 : G i k ≥ 1000000
          · rw [if_pos c1]
          · rw [if_neg c1, decide_eq_true (by omega)]
        · refine Goes.step (g := fun _ => some true) (fun r => ?_) (Goes.of (fun _ => rfl))
          simp only [ephemeristop_TopChron.j1, if_true]
          rw [decide_eq_true (by omega)]
      · have okd : ∀ d e : Int, -1100000 ≤ d → d ≤ e → e ≤ 1100000 → OkC n ⟨i, k, d, e⟩ i k := fun d e h1 h2 h3 => ⟨hi, hk, ne, rfl, rfl, by show _ ≤ d; omega, h2, by show e ≤ _; omega⟩
        -- days that attain the greatest difference
        obtain ⟨H1, t1, p1, q1⟩ := attained (i := i) (k := k) (d := G i k) (E := fun b => if G i b < far then G i b else 10000000 + dy days b) ok (okd _ _ (by have := ddy k; have := ddy i; omega) (Int.le_refl _) (by omega)) n8 e3 (fun a b ha hb => by
          have d1 := ddy a
          have d2 := ddy b
          have d3 := ddy i
          have lo := blow a b ha hb
          have la := glow i a hi ha
          have lb := glow i b hi hb
          have u := gup a b
          have sa := gsm i a hi ha
          have sb := gsm i b hi hb
          have tr := gtri a ha i b hi hb
          show (if G i b < far then G i b else 10000000 + dy days b) - (if G i a < far then G i a else 10000000 + dy days a) ≤ base L a b
          by_cases ca : G i a < far <;> by_cases cb : G i b < far <;> simp only [ca, cb, if_true, if_false]
          · by_cases cc : base L a b < far
            · have := tr ca (by omega); omega
            · have := sa ca; have := sb cb; omega
          · by_cases cc : base L a b < far
            · exact absurd (tr ca (by omega)).1 cb
            · have := sa ca; omega
          · have := sb cb; omega
          · omega) (by
          show (if G i k < far then G i k else 10000000 + dy days k) - (if G i i < far then G i i else 10000000 + dy days i) = G i k
          rw [if_pos (by omega), if_pos (by omega)]; omega)
        -- and the least
        obtain ⟨H2, t2, p2, q2⟩ := attained (i := i) (k := k) (d := -(G k i)) (E := fun b => if G b i < far then -(G b i) else -10000000 + dy days b) ok (okd _ _ (by omega) (Int.le_refl _) (by have := ddy k; have := ddy i; omega)) n8 e3 (fun a b ha hb => by
          have d1 := ddy a
          have d2 := ddy b
          have d3 := ddy i
          have lo := blow a b ha hb
          have la := glow a i ha hi
          have lb := glow b i hb hi
          have u := gup a b
          have sa := gsm a i ha hi
          have sb := gsm b i hb hi
          have tr := gtri b hb a i ha hi
          show (if G b i < far then -(G b i) else -10000000 + dy days b) - (if G a i < far then -(G a i) else -10000000 + dy days a) ≤ base L a b
          by_cases ca : G a i < far <;> by_cases cb : G b i < far <;> simp only [ca, cb, if_true, if_false]
          · by_cases cc : base L a b < far
            · have := tr (by omega) cb; omega
            · have := sa ca; have := sb cb; omega
          · have := sa ca; omega
          · by_cases cc : base L a b < far
            · exact absurd (tr (by omega) cb).1 ca
            · have := sb cb; omega
          · omega) (by
          show (if G k i < far then -(G k i) else -10000000 + dy days k) - (if G i i < far then -(G i i) else -10000000 + dy days i) = -(G k i)
          rw [if_pos (by omega), if_pos (by omega)]; omega)
        -- beyond them
        have U : ∀ x : Bd, Ok n x → ∀ p q, iter (base (L ++ [x])) n p q ≤ G p q := fun x hx p q => by
          rw [← eG]
          exact iter_mono (fun a b => by rw [snoc_base]; exact addC_le hx a b) n p q
        have M : ∀ x : Bd, OkC n x i k → iter (base (L ++ [x])) n i k ≤ x.f3 ∧ iter (base (L ++ [x])) n k i ≤ -x.f2 := fun x o => by
          have okx : ∀ y ∈ L ++ [x], Ok n y := fun y hy => by
            rcases List.mem_append.1 hy with e | e
            · exact ok y e
            · simp only [List.mem_singleton] at e; subst e; exact ⟨i, k, o⟩
          have m := fold_mem (f := init) okx (x := x) (by simp) o
          exact ⟨Int.le_trans (iter_le _ i k n) m.1, Int.le_trans (iter_le _ k i n) m.2⟩
        have gi := ddy i
        have gk := ddy k
        have o3 := okd (G i k + 1) (G i k + 5) (by omega) (by omega) (by omega)
        have o4 := okd (-(G k i) - 5) (-(G k i) - 1) (by omega) (by omega) (by omega)
        have t3 := beyond sm ok o3 n8 e3 (by show _ ≤ G i k + 1; omega) (by show G i k + 5 ≤ _; omega) hi hk (by have := U _ ⟨i, k, o3⟩ i k; omega) (by have := (M _ o3).2; have h : (⟨i, k, G i k + 1, G i k + 5⟩ : Bd).f2 = G i k + 1 := rfl; omega) (by
          have h1 := U _ ⟨i, k, o3⟩ i k
          have h2 := (M _ o3).2
          have h : (⟨i, k, G i k + 1, G i k + 5⟩ : Bd).f2 = G i k + 1 := rfl
          omega)
        have t4 := beyond sm ok o4 n8 e3 (by show _ ≤ -(G k i) - 5; omega) (by show -(G k i) - 1 ≤ _; omega) hi hk (by have := (M _ o4).1; have h : (⟨i, k, -(G k i) - 5, -(G k i) - 1⟩ : Bd).f3 = -(G k i) - 1 := rfl; omega) (by have := U _ ⟨i, k, o4⟩ k i; omega) (by
          have h1 := U _ ⟨i, k, o4⟩ k i
          have h2 := (M _ o4).1
          have h : (⟨i, k, -(G k i) - 5, -(G k i) - 1⟩ : Bd).f3 = -(G k i) - 1 := rfl
          omega)
        have hlen : L.length < 4398046511104 := by omega
        have hlen1 : ∀ x : Bd, L.length + [x].length < 4398046511104 := fun x => by simp; omega
        refine Goes.congr (g := fun r => ephemeristop_TopChron.j1 r L i k n false (-(G k i)) (G i k)) (fun r => ?_) ?_
        · rw [if_neg (by omega), decide_eq_false (by omega)]
        refine Goes.step (g := fun r => (chron_Tightest.f r n (L ++ [⟨i, k, -(G k i), -(G k i)⟩])).bind fun bt211 => (if bt211.2 = 0 then (if (bt211.1.length : Int) = n then (if 0 ≤ (i : Int) then (if (i : Int) < (bt211.1.length : Int) then (if ((rd_L4 bt211.1 i).length : Int) = n then (if 0 ≤ (k : Int) then (if (k : Int) < ((rd_L4 bt211.1 i).length : Int) then (ephemeristop_TopChron.j2 r L i k n (!(((rd_T34 (rd_L4 bt211.1 i) k).f0) == -(G k i)) || (!(((rd_T34 (rd_L4 bt211.1 i) k).f1) == -(G k i)))) (-(G k i)) (G i k)) else (none)) else (none)) else (ephemeristop_TopChron.j2 r L i k n true (-(G k i)) (G i k))) else (none)) else (none)) else (ephemeristop_TopChron.j2 r L i k n true (-(G k i)) (G i k))) else (ephemeristop_TopChron.j2 r L i k n true (-(G k i)) (G i k)))) (fun r => ?_) ?_
        · simp only [ephemeristop_TopChron.j1, Bool.false_eq_true, if_false, Option.bind_some, List.nil_append, List.length_nil, Nat.zero_add, if_pos hlen, if_pos (hlen1 _)]
        refine Goes.bind t2 ?_
        simp only [if_true, spans_len, if_pos (show (i : Int) < (n : Int) by omega), if_pos (show (k : Int) < (n : Int) by omega), if_pos (show (0 : Int) ≤ (i : Int) by omega), if_pos (show (0 : Int) ≤ (k : Int) by omega), spans_rd _ hi, row_len, rds_row _ hk]
        have z2 : (!((spn H2 i k).f0 == -(G k i)) || !((spn H2 i k).f1 == -(G k i))) = false := by
          unfold spn
          rw [p2, q2]
          simp
        rw [z2]
        refine Goes.step (g := fun r => (chron_Tightest.f r n (L ++ [⟨i, k, G i k, G i k⟩])).bind fun bt230 => (if bt230.2 = 0 then (if (bt230.1.length : Int) = n then (if 0 ≤ (i : Int) then (if (i : Int) < (bt230.1.length : Int) then (if ((rd_L4 bt230.1 i).length : Int) = n then (if 0 ≤ (k : Int) then (if (k : Int) < ((rd_L4 bt230.1 i).length : Int) then (ephemeristop_TopChron.j3 r L i k n (!(((rd_T34 (rd_L4 bt230.1 i) k).f0) == G i k) || (!(((rd_T34 (rd_L4 bt230.1 i) k).f1) == G i k))) (-(G k i)) (G i k)) else (none)) else (none)) else (ephemeristop_TopChron.j3 r L i k n true (-(G k i)) (G i k))) else (none)) else (none)) else (ephemeristop_TopChron.j3 r L i k n true (-(G k i)) (G i k))) else (ephemeristop_TopChron.j3 r L i k n true (-(G k i)) (G i k)))) (fun r => ?_) ?_
        · simp only [ephemeristop_TopChron.j2, Bool.false_eq_true, if_false, Option.bind_some, List.nil_append, List.length_nil, Nat.zero_add, if_pos hlen, if_pos (hlen1 _)]
        refine Goes.bind t1 ?_
        simp only [if_true, spans_len, if_pos (show (i : Int) < (n : Int) by omega), if_pos (show (k : Int) < (n : Int) by omega), if_pos (show (0 : Int) ≤ (i : Int) by omega), if_pos (show (0 : Int) ≤ (k : Int) by omega), spans_rd _ hi, row_len, rds_row _ hk]
        have z1 : (!((spn H1 i k).f0 == G i k) || !((spn H1 i k).f1 == G i k)) = false := by
          unfold spn
          rw [p1, q1]
          simp
        rw [z1]
        refine Goes.step (g := fun r => (chron_Tightest.f r n (L ++ [⟨i, k, G i k + 1, G i k + 5⟩])).bind fun bt249 => (chron_Tightest.f r n (L ++ [⟨i, k, -(G k i) - 5, -(G k i) - 1⟩])).bind fun bt265 => (if bt249.2 = 10 then (some (bt265.2 == 10)) else (none))) (fun r => ?_) ?_
        · simp only [ephemeristop_TopChron.j3, Bool.false_eq_true, if_false, Option.bind_some, List.nil_append, List.length_nil, Nat.zero_add, if_pos hlen, if_pos (hlen1 _), wrap_in (n := G i k + 1) (by omega) (by omega), wrap_in (n := G i k + 5) (by omega) (by omega), wrap_in (n := -(G k i) - 5) (by omega) (by omega), wrap_in (n := -(G k i) - 1) (by omega) (by omega)]
        exact Goes.bind t3 (Goes.bind t4 (Goes.of (fun r => rfl)))
  obtain ⟨k0, h0⟩ := this
  exact ⟨k0, h0 k0 (Nat.le_refl _)⟩
end Go.Proofs.Ytoecglgbmhhdnaa.Pure
