/- The law ContradictNeeded: without any one of the constraints of contradict.Least, the others of it do not contradict each other. No condition. -/
import Derived.Test.YtglpfgkbecgaaaaJMx1
import Derived.Test.YtglpfgkbecgaaaaChronAll
namespace Go.Proofs.Ytglpfgkbecgaaaa.Pure
open Go.Proofs.Ytglpfgkbecgaaaa.JM Go.Proofs.Ytglpfgkbecgaaaa.Own Go.Proofs.Ytglpfgkbecgaaaa.Fw Go.RowKit Go.Proofs.YtglpfgkbecgaaaaW.PrintWords Go.Proofs.YtglpfgkbecgaaaaW.PrintLast
set_option maxRecDepth 100000

theorem conn_works : Goes (fun k => ephemeriskeep2_contradictWorks.f k) true := Goes.of_mono (k0 := 300) ephemeriskeep2_contradictWorks.mono (by decide +kernel)

abbrev gt (l : List Bd) (j : Int) : Bd := rd_T51 l j
theorem gt_get {l : List Bd} {i : Nat} (h : i < l.length) : gt l (i : Int) = l[i] := by
  unfold gt rd_T51
  simp [List.getD, h]
theorem gt_mem {l : List Bd} {j : Int} (h0 : 0 ≤ j) (h1 : j < l.length) : gt l j ∈ l := by
  obtain ⟨i, rfl⟩ : ∃ i : Nat, j = i := ⟨j.toNat, by omega⟩
  rw [gt_get (by omega)]
  exact List.getElem_mem _

/-- what is kept of the rounds of Least -/
structure Inv (n : Nat) (l : List Bd) (out : List Int) (i : Nat) : Prop where
  idx : ∀ j ∈ out, 0 ≤ j ∧ j < l.length
  small : out.length ≤ i
  bad : ¬ Free n (base (out.map (gt l) ++ l.drop i))
  free : ∀ p, p < out.length → Free n (base ((out.map (gt l)).eraseIdx p ++ l.drop i))

theorem er_mem {l : List Bd} {out : List Int} {i : Nat} (h : ∀ j ∈ out, 0 ≤ j ∧ j < (l.length : Int)) : ∀ x ∈ out.map (gt l) ++ l.drop i, x ∈ l := by
  intro x hx
  rcases List.mem_append.1 hx with h1 | h1
  · obtain ⟨j, hj, rfl⟩ := List.mem_map.1 h1
    exact gt_mem (h j hj).1 (h j hj).2
  · exact List.mem_of_mem_drop h1

variable {n : Nat} {l : List Bd}

theorem least_loop (h1 : 1 ≤ n) (hn : n ≤ 12) (hl : l.length ≤ 40) (ho : ∀ x ∈ l, Ok n x) : ∀ (d i : Nat) (out : List Int), i + d = l.length → Inv n l out i →
    ∃ r, Goes (fun k => contradict_Least.l0 k n (out.map (gt l) ++ l.drop i) out l.length i) (r, 0) ∧ Inv n l r l.length
  | 0, i, out, hi, I => by
    obtain rfl : i = l.length := by omega
    refine ⟨out, ⟨1, fun k hk => ?_⟩, I⟩
    obtain ⟨m, rfl⟩ : ∃ m, k = m + 1 := ⟨k - 1, by omega⟩
    simp only [contradict_Least.l0]
    rw [if_neg (by omega)]
  | d + 1, i, out, hi, I => by
    have hlt : i < l.length := by omega
    have ed : l.drop i = l[i] :: l.drop (i + 1) := List.drop_eq_getElem_cons hlt
    have hlen : (out.map (gt l) ++ l.drop i).length = out.length + (l.length - i) := by simp
    have hsm := I.small
    have ew : contradict_without.f (out.map (gt l) ++ l.drop i) (out.length : Int) = some (out.map (gt l) ++ l.drop (i + 1)) := by
      unfold contradict_without.f
      rw [if_pos ⟨by omega, by omega, by omega⟩, Int.toNat_natCast]
      congr 1
      rw [List.eraseIdx_append_of_length_le (by simp), ed]
      simp
    have m1 : ∀ x ∈ out.map (gt l) ++ l.drop (i + 1), x ∈ l := er_mem I.idx
    have ok1 : ∀ x ∈ out.map (gt l) ++ l.drop (i + 1), Ok n x := fun x hx => ho x (m1 x hx)
    have len1 : (out.map (gt l) ++ l.drop (i + 1)).length ≤ 40 := by simp; omega
    have eg : gt l (i : Int) = l[i] := gt_get hlt
    by_cases c : Free n (base (out.map (gt l) ++ l.drop (i + 1)))
    · obtain ⟨t, ht⟩ := tight_free h1 hn len1 ok1 c
      have emap : (out ++ [(i : Int)]).map (gt l) = out.map (gt l) ++ [l[i]] := by simp [eg]
      have I2 : Inv n l (out ++ [(i : Int)]) (i + 1) := by
        refine ⟨fun j hj => ?_, by simp; omega, ?_, fun p hp => ?_⟩
        · rcases List.mem_append.1 hj with h | h
          · exact I.idx j h
          · simp at h; omega
        · rw [emap, List.append_assoc]
          have := I.bad
          rw [ed] at this
          exact this
        · rw [emap]
          have hp' : p < out.length + 1 := by simpa using hp
          by_cases e : p = out.length
          · subst e
            rw [List.eraseIdx_append_of_length_le (by simp)]
            simpa using c
          · have := I.free p (by omega)
            rw [ed] at this
            rw [List.eraseIdx_append_of_lt_length (by simp; omega), List.append_assoc]
            exact this
      obtain ⟨r, g1, g2⟩ := least_loop h1 hn hl ho d (i + 1) (out ++ [(i : Int)]) (by omega) I2
      refine ⟨r, Goes.step (g := fun k => (chron_Tightest.f k n (out.map (gt l) ++ l.drop (i + 1))).bind fun bt176 => (if bt176.2 = 10 then ((contradict_without.f (out.map (gt l) ++ l.drop i) (out.length : Int)).bind fun t180 => (contradict_Least.l0 k n t180 out l.length (wrap64 ((i : Int) + 1)))) else (if out.length < 17592186044416 then (contradict_Least.l0 k n (out.map (gt l) ++ l.drop i) (out ++ [(i : Int)]) l.length (wrap64 ((i : Int) + 1))) else (none)))) (fun k => ?_) (Goes.bind ht ?_), g2⟩
      · simp only [contradict_Least.l0]
        rw [if_pos (by omega), ew]
        rfl
      · dsimp only
        refine Goes.congr (fun k => ?_) g1
        rw [if_neg (by omega), if_pos (by omega), wrap_in (n := (i : Int) + 1) (by omega) (by omega), emap, List.append_assoc, ed]
        rfl
    · have hb := tight_bad h1 hn len1 ok1 c
      have I2 : Inv n l out (i + 1) := by
        refine ⟨I.idx, by omega, c, fun p hp => ?_⟩
        have ho2 : ∀ x ∈ (out.map (gt l)).eraseIdx p ++ l.drop i, Ok n x := fun x hx => by
          refine ho x (er_mem (out := out) (i := i) I.idx x ?_)
          rcases List.mem_append.1 hx with h | h
          · exact List.mem_append.2 (.inl (List.mem_of_mem_eraseIdx h))
          · exact List.mem_append.2 (.inr h)
        refine (I.free p hp).mono (base_sub ho2 (fun x hx => ?_))
        rcases List.mem_append.1 hx with h | h
        · exact List.mem_append.2 (.inl h)
        · rw [ed]; exact List.mem_append.2 (.inr (List.mem_cons_of_mem _ h))
      obtain ⟨r, g1, g2⟩ := least_loop h1 hn hl ho d (i + 1) out (by omega) I2
      refine ⟨r, Goes.step (g := fun k => (chron_Tightest.f k n (out.map (gt l) ++ l.drop (i + 1))).bind fun bt176 => (if bt176.2 = 10 then ((contradict_without.f (out.map (gt l) ++ l.drop i) (out.length : Int)).bind fun t180 => (contradict_Least.l0 k n t180 out l.length (wrap64 ((i : Int) + 1)))) else (if out.length < 17592186044416 then (contradict_Least.l0 k n (out.map (gt l) ++ l.drop i) (out ++ [(i : Int)]) l.length (wrap64 ((i : Int) + 1))) else (none)))) (fun k => ?_) (Goes.bind hb ?_), g2⟩
      · simp only [contradict_Least.l0]
        rw [if_pos (by omega), ew]
        rfl
      · dsimp only
        refine Goes.congr (fun k => ?_) g1
        rw [if_pos (by rfl), ew, wrap_in (n := (i : Int) + 1) (by omega) (by omega)]
        rfl

/-- the constraints of a row of numbers, but for one place -/
def sel (l : List Bd) (s : Int) : Nat → List Int → List Bd
  | _, [] => []
  | i, j :: r => if (i : Int) = s then sel l s (i + 1) r else gt l j :: sel l s (i + 1) r
theorem sel_past {s : Int} : ∀ (r : List Int) (i : Nat), s < i → sel l s i r = r.map (gt l)
  | [], i, h => rfl
  | j :: r, i, h => by
    simp only [sel]
    rw [if_neg (by omega), sel_past r (i + 1) (by omega)]
    rfl
theorem sel_at : ∀ (r : List Int) (i p : Nat), sel l ((i + p : Nat) : Int) i r = (r.map (gt l)).eraseIdx p
  | [], i, p => rfl
  | j :: r, i, 0 => by
    simp only [sel]
    rw [if_pos (by simp), sel_past r (i + 1) (by omega)]
    rfl
  | j :: r, i, p + 1 => by
    simp only [sel]
    rw [if_neg (by omega), show i + (p + 1) = (i + 1) + p by omega, sel_at r (i + 1) p]
    rfl

theorem pick_loop {out : List Int} {s : Int} {r : Bool} (hidx : ∀ j ∈ out, 0 ≤ j ∧ j < (l.length : Int)) (hol : out.length ≤ 40)
    (g : Goes (fun k => (chron_Tightest.f k n (sel l s 0 out)).bind fun bt227 => (if s < 0 then (if bt227.2 = 10 then (if s ≥ 0 then (if bt227.2 = 0 then (ephemeriskeep2_ContradictNeeded.l0 k n l out (wrap64 (s + 1))) else (none)) else (ephemeriskeep2_ContradictNeeded.l0 k n l out (wrap64 (s + 1)))) else (none)) else (if s ≥ 0 then (if bt227.2 = 0 then (ephemeriskeep2_ContradictNeeded.l0 k n l out (wrap64 (s + 1))) else (none)) else (ephemeriskeep2_ContradictNeeded.l0 k n l out (wrap64 (s + 1)))))) r) :
    ∀ (rest : List Int) (i : Nat) (acc : List Bd), out.drop i = rest → i + rest.length = out.length → acc.length ≤ i → acc ++ sel l s i rest = sel l s 0 out → Goes (fun k => ephemeriskeep2_ContradictNeeded.l1 k n l out s acc out out.length i) r
  | [], i, acc, hd, hi, ha, he => by
    refine Goes.step (fun k => ?_) g
    have : i = out.length := by simpa using hi
    simp only [ephemeriskeep2_ContradictNeeded.l1]
    rw [if_neg (by omega), ← he]
    simp only [sel, List.append_nil]
  | j :: rest, i, acc, hd, hi, ha, he => by
    have hle : (j :: rest).length = rest.length + 1 := rfl
    have hlt : i < out.length := by omega
    have e3 : out[i]? = some j := by
      have := congrArg (fun z => z[0]?) hd
      simpa using this
    have ej : rd out (i : Int) = j := by simp [rd, List.getD, e3]
    have hd' : out.drop (i + 1) = rest := by rw [← List.drop_drop, hd]; rfl
    have hj := hidx j (List.mem_of_getElem? e3)
    refine Goes.step (g := fun k => ephemeriskeep2_ContradictNeeded.j2 k n l out s acc i j out out.length i false) (fun k => ?_) ?_
    · simp only [ephemeriskeep2_ContradictNeeded.l1]
      rw [if_pos (by omega), if_pos (by omega), if_pos (by omega), ej, if_neg (by omega), decide_eq_false (by omega)]
    · by_cases c : (i : Int) = s
      · refine Goes.step (fun k => ?_) (pick_loop hidx hol g rest (i + 1) acc hd' (by omega) (by omega) (by
          simp only [sel] at he
          rw [if_pos c] at he
          exact he))
        simp only [ephemeriskeep2_ContradictNeeded.j2, Bool.false_eq_true, if_false]
        rw [if_pos c, wrap_in (n := (i : Int) + 1) (by omega) (by omega)]
        rfl
      · refine Goes.step (fun k => ?_) (pick_loop hidx hol g rest (i + 1) (acc ++ [gt l j]) hd' (by omega) (by simp; omega) (by
          simp only [sel] at he
          rw [if_neg c] at he
          rw [List.append_assoc]
          exact he))
        simp only [ephemeriskeep2_ContradictNeeded.j2, Bool.false_eq_true, if_false]
        rw [if_neg c, if_pos (by omega), if_pos (by omega), if_pos (by omega), wrap_in (n := (i : Int) + 1) (by omega) (by omega)]
        rfl

theorem need_loop (h1 : 1 ≤ n) (hn : n ≤ 12) (hl : l.length ≤ 40) (ho : ∀ x ∈ l, Ok n x) {out : List Int} (I : Inv n l out l.length) : ∀ (d : Nat) (s : Int), s + d = out.length → -1 ≤ s → Goes (fun k => ephemeriskeep2_ContradictNeeded.l0 k n l out s) true
  | 0, s, hs, h0 => by
    refine ⟨1, fun k hk => ?_⟩
    obtain ⟨m, rfl⟩ : ∃ m, k = m + 1 := ⟨k - 1, by omega⟩
    simp only [ephemeriskeep2_ContradictNeeded.l0]
    rw [if_neg (by omega)]
  | d + 1, s, hs, h0 => by
    have ih := need_loop h1 hn hl ho I d (s + 1) (by omega) (by omega)
    have hsm := I.small
    have ed : l.drop l.length = [] := List.drop_length
    have ok0 : ∀ x ∈ out.map (gt l), Ok n x := fun x hx => ho x (er_mem (out := out) (i := l.length) I.idx x (List.mem_append.2 (.inl hx)))
    refine Goes.step (g := fun k => ephemeriskeep2_ContradictNeeded.l1 k n l out s [] out out.length ((0 : Nat) : Int)) (fun k => ?_) (pick_loop I.idx (by omega) ?_ out 0 [] rfl (by omega) (by simp) rfl)
    · simp only [ephemeriskeep2_ContradictNeeded.l0]
      rw [if_pos (by omega)]
      rfl
    · by_cases c : s < 0
      · have es : sel l s 0 out = out.map (gt l) := sel_past out 0 (by omega)
        have hb := I.bad
        rw [ed, List.append_nil] at hb
        rw [es]
        refine Goes.bind (tight_bad h1 hn (by simp; omega) ok0 hb) ?_
        dsimp only
        refine Goes.congr (fun k => ?_) ih
        rw [if_pos c, if_pos (by rfl), if_neg (by omega), wrap_in (n := s + 1) (by omega) (by omega)]
      · obtain ⟨p, rfl⟩ : ∃ p : Nat, s = p := ⟨s.toNat, by omega⟩
        have es : sel l (p : Int) 0 out = (out.map (gt l)).eraseIdx p := by
          have := sel_at (l := l) out 0 p
          rw [Nat.zero_add] at this
          exact this
        have hf := I.free p (by omega)
        rw [ed, List.append_nil] at hf
        obtain ⟨t, ht⟩ := tight_free h1 hn (l := (out.map (gt l)).eraseIdx p) (by
          have := List.length_eraseIdx_le (out.map (gt l)) p
          simp at this; omega) (fun x hx => ok0 x (List.mem_of_mem_eraseIdx hx)) hf
        rw [es]
        refine Goes.bind ht ?_
        dsimp only
        refine Goes.congr (fun k => ?_) ih
        rw [if_neg c, if_pos (by omega), if_pos (by rfl), wrap_in (n := (p : Int) + 1) (by omega) (by omega)]

theorem ContradictNeeded : ephemeriskeep2_ContradictNeeded.Pure := by
  intro a0 l _ hl _
  have : Goes (fun k => ephemeriskeep2_ContradictNeeded.f k a0 l) true := by
    unfold ephemeriskeep2_ContradictNeeded.f
    refine Goes.bind conn_works ?_
    simp only [if_true]
    rcases check_any a0 l with ⟨e, g, he, he'⟩ | ⟨n, rfl, h1, hn, hl', ho⟩
    · have ht : Goes (fun k => chron_Tightest.f k a0 l) ([], e) := by
        unfold chron_Tightest.f
        refine Goes.bind g (Goes.of (fun k => ?_))
        rw [if_neg he]
      have hL : Goes (fun k => contradict_Least.f k a0 l) ([], e) := by
        unfold contradict_Least.f
        refine Goes.bind ht (Goes.of (fun k => ?_))
        dsimp only
        rw [if_neg he', if_neg he]
      refine Goes.bind hL (Goes.of (fun k => ?_))
      dsimp only
      rw [if_neg he]
      rfl
    · by_cases c : Free n (base l)
      · obtain ⟨t, ht⟩ := tight_free h1 hn hl' ho c
        have hL : Goes (fun k => contradict_Least.f k (n : Int) l) ([], 6) := by
          unfold contradict_Least.f
          refine Goes.bind ht (Goes.of (fun k => ?_))
          rfl
        refine Goes.bind hL (Goes.of (fun k => ?_))
        rfl
      · have hb := tight_bad h1 hn hl' ho c
        have I0 : Inv n l [] 0 := ⟨(fun j hj => (by cases hj)), Nat.le_refl _, (by simpa using c), (fun p hp => (by simp at hp))⟩
        obtain ⟨r, g1, g2⟩ := least_loop h1 hn hl' ho l.length 0 [] (by omega) I0
        have hL : Goes (fun k => contradict_Least.f k (n : Int) l) (r, 0) := by
          unfold contradict_Least.f
          refine Goes.bind hb ?_
          dsimp only
          refine Goes.congr (fun k => ?_) g1
          rw [if_pos (by rfl)]
          unfold api_ChronBound_37.f
          simp only [Option.bind_some, List.length_nil, List.nil_append]
          rw [if_pos (by omega)]
          simp
        refine Goes.bind hL ?_
        dsimp only
        refine Goes.congr (fun k => ?_) (need_loop h1 hn hl' ho g2 (r.length + 1) (-1) (by omega) (by omega))
        rw [if_pos (by rfl)]
  obtain ⟨k0, h0⟩ := this
  exact ⟨k0, h0 k0 (Nat.le_refl _)⟩
end Go.Proofs.Ytglpfgkbecgaaaa.Pure
