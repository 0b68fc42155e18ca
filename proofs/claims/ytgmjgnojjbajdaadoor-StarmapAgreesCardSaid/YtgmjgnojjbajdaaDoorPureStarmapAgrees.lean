/- The law StarmapAgrees: the stars that are surely up are those for which Up is 1. No condition. -/
import Derived.Test.YtgmjgnojjbajdaaDoorJMx1
import Derived.Test.YtgmjgnojjbajdaaDoorJMx1
import Derived.Test.YtgmjgnojjbajdaaDoorPlaceLaw
import Derived.Test.YtgmjgnojjbajdaaDoorStarLaw
namespace Go.Proofs.YtgmjgnojjbajdaaDoor.Pure
open Go.Proofs.YtgmjgnojjbajdaaDoor.JM Go.Proofs.YtgmjgnojjbajdaaDoor.Own Go.RowKit Go.Proofs.YtgmjgnojjbajdaaDoorW.PrintWords Go.Proofs.YtgmjgnojjbajdaaDoorW.PrintLast
theorem map_works : ∃ k0, ∀ k, k0 ≤ k → ephemeriskeep2_starmapWorks.f k = some true :=
  of_mono (k0 := 70) ephemeriskeep2_starmapWorks.mono (by decide +kernel)
theorem lt_d : ∀ i : Nat, i < 8 → -249000000 ≤ (lx_ i).2.2 ∧ (lx_ i).2.2 ≤ 249000000
  | 0, _ => by decide
  | 1, _ => by decide
  | 2, _ => by decide
  | 3, _ => by decide
  | 4, _ => by decide
  | 5, _ => by decide
  | 6, _ => by decide
  | 7, _ => by decide
  | i + 8, h => by omega
abbrev Dot := S47
abbrev Sp := S28
theorem dots_rd {l : List Dot} {i : Nat} {x : Dot} {rest : List Dot} (hd : l.drop i = x :: rest) : i < l.length ∧ rd_T47 l (i : Int) = x ∧ l.drop (i + 1) = rest := by
  refine ⟨?_, ?_, ?_⟩
  · rcases Nat.lt_or_ge i l.length with h | h
    · exact h
    · rw [List.drop_eq_nil_of_le h] at hd; cases hd
  · unfold rd_T47
    rw [Int.toNat_natCast, List.getD_eq_getElem?_getD]
    have : (l.drop i)[0]? = some x := by rw [hd]; rfl
    rw [List.getElem?_drop, Nat.add_zero] at this
    rw [this]; rfl
  · rw [← List.drop_drop, hd]; rfl
/-- a star's name -/
def nm_ (i : Nat) : ByteArray := rdOf ByteArray.empty nms_ (i : Int)
section
variable {p0 p1 t : Int} {hf : Nat → Int × Int} {gf : Nat → Int × Int × Int × Int}
/-- the dot of a star -/
def dot_ (hf : Nat → Int × Int) (gf : Nat → Int × Int × Int × Int) (i : Nat) : Dot := ⟨nm_ i, (⟨(gf i).1, (gf i).2.1⟩ : Sp), (⟨(gf i).2.2.1, (gf i).2.2.2⟩ : Sp), decide ((hf i).1 > 0)⟩
/-- the dots from a star on -/
def ds_ (hf : Nat → Int × Int) (gf : Nat → Int × Int × Int × Int) : Nat → Nat → List Dot
  | 0, _ => []
  | d + 1, i => if (hf i).2 < 0 then ds_ hf gf d (i + 1) else dot_ hf gf i :: ds_ hf gf d (i + 1)
/-- a star's interval of the right ascension, at an instant -/
def ra_ (t : Int) (i : Nat) : Int := mm (lx_ i).2.1 97300000 100 t % 1000000000
theorem map_loop (h3 : -345600000000000 ≤ t) (h4 : t < 345600086400000)
    (H : ∀ i, i < 8 → ∀ k, 61 ≤ k → place_Height.f k p0 p1 (ra_ t i) (ra_ t i + 201) ((lx_ i).2.2 - 100) ((lx_ i).2.2 + 100) t = some ((hf i).1, (hf i).2, 0))
    (G : ∀ i, i < 8 → ∀ k, 61 ≤ k → place_Ground.f k p0 p1 (ra_ t i) (ra_ t i + 201) ((lx_ i).2.2 - 100) ((lx_ i).2.2 + 100) t = some ((gf i).1, (gf i).2.1, (gf i).2.2.1, (gf i).2.2.2, 0)) :
    ∀ (d i : Nat) (acc : List Dot), i + d = 8 → acc.length ≤ i → ∀ k, 62 + d ≤ k → starmap_Map.l0 k t acc nms_ (nms_.length : Int) (i : Int) p0 p1 = some (acc ++ ds_ hf gf d i, 0)
  | 0, i, acc, hi, ha, k, hk => by
    have nl : (nms_.length : Int) = 8 := rfl
    obtain ⟨k, rfl⟩ : ∃ m, k = m + 1 := ⟨k - 1, by omega⟩
    simp only [starmap_Map.l0]
    rw [if_neg (by omega)]
    simp [ds_]
  | d + 1, i, acc, hi, ha, k, hk => by
    have nl : (nms_.length : Int) = 8 := rfl
    obtain ⟨k, rfl⟩ : ∃ m, k = m + 1 := ⟨k - 1, by omega⟩
    simp only [starmap_Map.l0]
    rw [if_pos (by omega), if_pos (by omega), if_pos (by omega), at_star (by omega) h3 h4 k (by omega)]
    simp only [Option.bind_some]
    have e := H i (by omega) k (by omega)
    have g := G i (by omega) k (by omega)
    unfold ra_ at e g
    rw [e]
    simp only [Option.bind_some]
    rw [wrap_in (n := (i : Int) + 1) (by omega) (by omega), show ((i : Int) + 1) = ((i + 1 : Nat) : Int) by omega]
    by_cases c : (hf i).2 < 0
    · rw [if_pos c, map_loop h3 h4 H G d (i + 1) acc (by omega) (by omega) k (by omega)]
      simp only [ds_, if_pos c]
    · rw [if_neg c, g]
      simp only [Option.bind_some]
      rw [if_pos (by omega), map_loop h3 h4 H G d (i + 1) _ (by omega) (by simp; omega) k (by omega)]
      simp only [ds_, if_neg c, List.append_assoc, List.singleton_append]
      rfl
theorem agree_loop (h3 : -345600000000000 ≤ t) (h4 : t < 345600086400000) (g1 : -500000000 ≤ p0) (g2 : p0 ≤ 500000000) (g3 : -220000000 ≤ p1) (g4 : p1 ≤ 220000000)
    (H : ∀ i, i < 8 → ∀ k, 61 ≤ k → place_Height.f k p0 p1 (ra_ t i) (ra_ t i + 201) ((lx_ i).2.2 - 100) ((lx_ i).2.2 + 100) t = some ((hf i).1, (hf i).2, 0)) (Hl : ∀ i, i < 8 → (hf i).1 ≤ (hf i).2) {full : List Dot} (hf9 : full.length ≤ 100) :
    ∀ (d i j : Nat), i + d = 8 → full.drop j = ds_ hf gf d i → j ≤ full.length → ∀ k, 70 + 2 * d ≤ k → ephemeriskeep2_StarmapAgrees.l0 k t full 0 (j : Int) nms_ (nms_.length : Int) (i : Int) p0 p1 = some true
  | 0, i, j, hi, hd, hj, k, hk => by
    have nl : (nms_.length : Int) = 8 := rfl
    obtain ⟨k, rfl⟩ : ∃ m, k = m + 1 := ⟨k - 1, by omega⟩
    have e := List.drop_eq_nil_iff.1 hd
    simp only [ephemeriskeep2_StarmapAgrees.l0]
    rw [if_neg (by omega), if_pos trivial]
    congr 1
    simp
    omega
  | d + 1, i, j, hi, hd, hj, k, hk => by
    have nl : (nms_.length : Int) = 8 := rfl
    obtain ⟨k, rfl⟩ : ∃ m, k = m + 2 := ⟨k - 2, by omega⟩
    have pc : place_Check.f p0 p1 = some 0 := by
      unfold place_Check.f
      rw [if_neg (by omega), if_neg (by omega), if_neg (by omega), if_neg (by omega)]
    have e := H i (by omega) (k + 1) (by omega)
    have l := Hl i (by omega)
    unfold ra_ at e
    have up : starmap_Up.f (k + 1) p0 p1 (rdOf ByteArray.empty nms_ (i : Int)) t = some (if (hf i).1 > 0 then (1, 0) else if (hf i).2 < 0 then (-1, 0) else (0, 11)) := by
      unfold starmap_Up.f
      rw [pc]
      simp only [Option.bind_some, if_true]
      rw [at_star (by omega) h3 h4 (k + 1) (by omega)]
      simp only [Option.bind_some, if_true]
      rw [e]
      simp only [Option.bind_some]
      by_cases c1 : (hf i).1 > 0
      · rw [if_pos c1, if_pos c1]
      · rw [if_neg c1, if_neg c1]
        by_cases c2 : (hf i).2 < 0
        · rw [if_pos c2, if_pos c2]
        · rw [if_neg c2, if_neg c2]
    simp only [ephemeriskeep2_StarmapAgrees.l0]
    rw [if_pos (by omega), if_pos (by omega), if_pos (by omega), up]
    simp only [Option.bind_some]
    simp only [ds_] at hd
    by_cases c : (hf i).2 < 0
    · rw [if_neg (show ¬ (hf i).1 > 0 by omega), if_pos c]
      rw [if_pos c] at hd
      simp only [if_true, ephemeriskeep2_StarmapAgrees.j1, beq_self_eq_true]
      rw [wrap_in (n := (i : Int) + 1) (by omega) (by omega), show ((i : Int) + 1) = ((i + 1 : Nat) : Int) by omega]
      exact agree_loop h3 h4 g1 g2 g3 g4 H Hl hf9 d (i + 1) j (by omega) hd hj k (by omega)
    · rw [if_neg c] at hd
      obtain ⟨q1, q2, q3⟩ := dots_rd hd
      have next := agree_loop h3 h4 g1 g2 g3 g4 H Hl hf9 d (i + 1) (j + 1) (by omega) q3 (by omega) k (by omega)
      have hn : (rd_T47 full (j : Int)).f0 = rdOf ByteArray.empty nms_ (i : Int) := by rw [q2]; rfl
      have hs : (rd_T47 full (j : Int)).f3 = decide ((hf i).1 > 0) := by rw [q2]; rfl
      by_cases c1 : (hf i).1 > 0
      · rw [if_pos c1]
        rw [if_neg (show ¬ ((1 : Int), (0 : Int)).1 = -1 by decide)]
        simp only [ephemeriskeep2_StarmapAgrees.j1, Bool.false_eq_true, if_false]
        rw [if_neg (by omega), if_pos (by omega), if_pos (by omega), hn, if_pos rfl, hs, decide_eq_true c1, if_neg (by decide), wrap_in (n := (j : Int) + 1) (by omega) (by omega), wrap_in (n := (i : Int) + 1) (by omega) (by omega), show ((i : Int) + 1) = ((i + 1 : Nat) : Int) by omega, show ((j : Int) + 1) = ((j + 1 : Nat) : Int) by omega]
        exact next
      · rw [if_neg c1, if_neg c]
        rw [if_neg (show ¬ ((0 : Int), (11 : Int)).1 = -1 by decide)]
        simp only [ephemeriskeep2_StarmapAgrees.j1, Bool.false_eq_true, if_false]
        rw [if_neg (by omega), if_pos (by omega), if_pos (by omega), hn, if_pos rfl, hs, decide_eq_false c1, if_neg (by decide), wrap_in (n := (j : Int) + 1) (by omega) (by omega), wrap_in (n := (i : Int) + 1) (by omega) (by omega), show ((i : Int) + 1) = ((i + 1 : Nat) : Int) by omega, show ((j : Int) + 1) = ((j + 1 : Nat) : Int) by omega]
        exact next
end
theorem ds_len (hf : Nat → Int × Int) (gf : Nat → Int × Int × Int × Int) : ∀ d i, (ds_ hf gf d i).length ≤ d
  | 0, _ => Nat.le_refl _
  | d + 1, i => by
    have := ds_len hf gf d (i + 1)
    simp only [ds_]
    split
    · omega
    · simp; omega
theorem StarmapAgrees : ephemeriskeep2_StarmapAgrees.Pure := by
  intro a0 a1 c _ _ _
  obtain ⟨kw, hw⟩ := map_works
  have m0 := tmod_lt (a := a0) (m := 500000001) (by omega)
  have m1 := tmod_lt (a := a1) (m := 220000001) (by omega)
  have bt : -302400000000000 ≤ c % 604800000000000 - 302400000000000 ∧ c % 604800000000000 - 302400000000000 < 302400000000000 := by omega
  refine ⟨kw + 100, ?_⟩
  unfold ephemeriskeep2_StarmapAgrees.f ephemeriskeep2_site.f
  rw [hw _ (by omega), inst_f]
  generalize c % 604800000000000 - 302400000000000 = t at *
  generalize Int.tmod a0 500000001 = p0 at *
  generalize Int.tmod a1 220000001 = p1 at *
  have HH : ∀ i : Nat, ∃ h : Int × Int, i < 8 → h.1 ≤ h.2 ∧ ∀ k, 61 ≤ k → place_Height.f k p0 p1 (ra_ t i) (ra_ t i + 201) ((lx_ i).2.2 - 100) ((lx_ i).2.2 + 100) t = some (h.1, h.2, 0) := fun i => by
    by_cases hi : i < 8
    · have b := lt_d i hi
      have r : 0 ≤ ra_ t i ∧ ra_ t i < 1000000000 := by unfold ra_; omega
      obtain ⟨h0, h1, hl, h⟩ := height_f (t := t) (p0 := p0) (p1 := p1) (r0 := ra_ t i) (r1 := ra_ t i + 201) (d0 := (lx_ i).2.2 - 100) (d1 := (lx_ i).2.2 + 100) (by omega) (by omega) (by omega) (by omega) (by omega) (by omega) (by omega) (by omega) (by omega) (by omega) (by omega) (by omega) (by omega)
      exact ⟨(h0, h1), fun _ => ⟨hl, h⟩⟩
    · exact ⟨(0, 0), fun h => absurd h hi⟩
  have GG : ∀ i : Nat, ∃ z : Int × Int × Int × Int, i < 8 → ∀ k, 61 ≤ k → place_Ground.f k p0 p1 (ra_ t i) (ra_ t i + 201) ((lx_ i).2.2 - 100) ((lx_ i).2.2 + 100) t = some (z.1, z.2.1, z.2.2.1, z.2.2.2, 0) := fun i => by
    by_cases hi : i < 8
    · have b := lt_d i hi
      have r : 0 ≤ ra_ t i ∧ ra_ t i < 1000000000 := by unfold ra_; omega
      obtain ⟨z, h⟩ := ground_f (t := t) (p0 := p0) (p1 := p1) (r0 := ra_ t i) (r1 := ra_ t i + 201) (d0 := (lx_ i).2.2 - 100) (d1 := (lx_ i).2.2 + 100) (by omega) (by omega) (by omega) (by omega) (by omega) (by omega) (by omega) (by omega) (by omega) (by omega) (by omega) (by omega) (by omega)
      exact ⟨z, fun _ => h⟩
    · exact ⟨(0, 0, 0, 0), fun h => absurd h hi⟩
  obtain ⟨hf, Hf⟩ := Classical.axiomOfChoice HH
  obtain ⟨gf, Gf⟩ := Classical.axiomOfChoice GG
  have pc : place_Check.f p0 p1 = some 0 := by
    unfold place_Check.f
    rw [if_neg (by omega), if_neg (by omega), if_neg (by omega), if_neg (by omega)]
  have mp : starmap_Map.f (kw + 100) p0 p1 t = some (ds_ hf gf 8 0, 0) := by
    unfold starmap_Map.f
    rw [pc]
    unfold series_Valid.f
    rw [if_pos (by omega), decide_eq_true (by omega), names_f]
    simp only [Option.bind_some, if_true]
    have := map_loop (p0 := p0) (p1 := p1) (t := t) (hf := hf) (gf := gf) (by omega) (by omega) (fun i hi k hk => (Hf i hi).2 k hk) (fun i hi k hk => Gf i hi k hk) 8 0 [] (by omega) (by simp) (kw + 100) (by omega)
    rw [List.nil_append] at this
    exact this
  simp only [Option.bind_some, if_true]
  rw [mp, names_f]
  simp only [Option.bind_some]
  have ln := ds_len hf gf 8 0
  exact agree_loop (p0 := p0) (p1 := p1) (t := t) (hf := hf) (gf := gf) (full := ds_ hf gf 8 0) (by omega) (by omega) (by omega) (by omega) (by omega) (by omega) (fun i hi k hk => (Hf i hi).2 k hk) (fun i hi => (Hf i hi).1) (by omega) 8 0 0 (by omega) rfl (Nat.zero_le _) (kw + 100) (by omega)
end Go.Proofs.YtgmjgnojjbajdaaDoor.Pure
