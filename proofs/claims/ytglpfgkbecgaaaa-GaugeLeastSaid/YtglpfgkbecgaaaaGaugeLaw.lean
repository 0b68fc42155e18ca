/- What readings, gauge.Check, gauge.gcd and the ends of gauge.Fit compute. No condition on a program. -/
import Derived.Test.YtglpfgkbecgaaaaJUx1
import Derived.Test.YtglpfgkbecgaaaaJUx1
import Derived.Test.YtglpfgkbecgaaaaGaugeNormal
namespace Go.Proofs.Ytglpfgkbecgaaaa.JU
open Go.Proofs.Ytglpfgkbecgaaaa.Own Go.RowKit Go.Proofs.YtglpfgkbecgaaaaW.PrintWords Go.Proofs.YtglpfgkbecgaaaaW.PrintLast
set_option maxRecDepth 100000

theorem of_monoG {α : Type} {f : Nat → Option α} {r : α} {k0 : Nat} (h : ∀ k, LeO (f k) (f (k + 1))) (h0 : f k0 = some r) : Goes f r := by
  refine ⟨k0, fun k hk => ?_⟩
  obtain ⟨m, rfl⟩ := Nat.le.dest hk
  clear hk
  induction m with
  | zero => exact h0
  | succ m ih => exact h _ _ ih
theorem gauge_works : Goes ephemeriskeep2_gaugeWorks.f true := of_monoG (k0 := 40) ephemeriskeep2_gaugeWorks.mono (by decide +kernel)

/-- a list of small numbers -/
def sm (b : Int) (l : List Int) : Prop := ∀ z ∈ l, -b ≤ z ∧ z ≤ b
theorem sm_set {b : Int} {l : List Int} {i : Nat} {v : Int} (h : sm b l) (hv : -b ≤ v ∧ v ≤ b) : sm b (l.set i v) := by
  intro z hz
  rcases List.mem_or_eq_of_mem_set hz with h1 | h1
  · exact h z h1
  · rw [h1]; exact hv

theorem read_in {K : Nat} (hK : K ≤ 10) {acc x10 : Mx} {x7 : List Int} {x11 x12 : Int} (ha : acc.length ≤ 10) {P : Mx → Prop} (g : ∀ r, okR K r → ∃ R, Goes (fun k => ephemeriskeep2_readings.l0 k K (acc ++ [r]) x10 x11 (wrap64 (x12 + 1))) R ∧ P R) :
    ∀ (n i : Nat) (x8 : List Int), i + n = K → okR K x8 → ∃ R, Goes (fun k => ephemeriskeep2_readings.l1 k K acc x7 x8 x10 x11 x12 K i) R ∧ P R
  | 0, i, x8, hi, h8 => by
    obtain ⟨R, g1, g2⟩ := g x8 h8
    refine ⟨R, Goes.step (fun k => ?_) g1, g2⟩
    simp only [ephemeriskeep2_readings.l1]
    rw [if_neg (by omega), if_pos (by omega)]
  | n + 1, i, x8, hi, h8 => by
    have h1 := h8.1
    by_cases c : (i : Int) < x7.length
    · have b := tmod_lt (a := rd x7 i) (m := 11) (by omega)
      obtain ⟨R, g1, g2⟩ := read_in hK ha g n (i + 1) (x8.set (i : Int).toNat (Int.tmod (rd x7 i) 11)) (by omega) ⟨by rw [List.length_set]; exact h1, sm_set (b := 10) h8.2 (by omega)⟩
      refine ⟨R, Goes.step (fun k => ?_) g1, g2⟩
      simp only [ephemeriskeep2_readings.l1]
      rw [if_pos (by omega), if_pos c, if_pos (by omega), if_pos (by omega), wrap_in (by omega) (by omega)]
      rfl
    · obtain ⟨R, g1, g2⟩ := read_in hK ha g n (i + 1) x8 (by omega) h8
      refine ⟨R, Goes.step (fun k => ?_) g1, g2⟩
      simp only [ephemeriskeep2_readings.l1]
      rw [if_pos (by omega), if_neg c, wrap_in (by omega) (by omega)]
      rfl

theorem read_out {K : Nat} (hK : K ≤ 10) {l : Mx} (hl : l.length ≤ 9223372036854775807) : ∀ (n i : Nat) (acc : Mx), i + n = l.length → i ≤ 6 → acc.length = i → (∀ r ∈ acc, okR K r) →
    ∃ R, Goes (fun k => ephemeriskeep2_readings.l0 k K acc l l.length i) R ∧ (R.length ≤ 6 ∧ ∀ r ∈ R, okR K r)
  | 0, i, acc, hi, h6, ha, hr => ⟨acc, Goes.one (fun k => by simp only [ephemeriskeep2_readings.l0]; rw [if_neg (by omega)]), by omega, hr⟩
  | n + 1, i, acc, hi, h6, ha, hr => by
    by_cases c : i = 6
    · exact ⟨acc, Goes.one (fun k => by simp only [ephemeriskeep2_readings.l0]; rw [if_pos (by omega), if_pos (by omega), if_pos (by omega), if_pos (by omega)]), by omega, hr⟩
    · have hz : okR K (List.replicate K (0 : Int)) := ⟨by simp, fun z hz => by rw [(List.mem_replicate.1 hz).2]; omega⟩
      obtain ⟨R, g1, g2⟩ := read_in (acc := acc) (x10 := l) (x7 := rd_L1 l i) (x11 := l.length) (x12 := i) hK (by omega) (P := fun R => R.length ≤ 6 ∧ ∀ r ∈ R, okR K r) (fun r hr' => by
        rw [wrap_in (by omega) (by omega), show (i : Int) + 1 = ((i + 1 : Nat) : Int) by omega]
        exact read_out hK hl n (i + 1) (acc ++ [r]) (by omega) (by omega) (by simp; omega) (fun x hx => by
          rcases List.mem_append.1 hx with h | h
          · exact hr x h
          · simp at h; rw [h]; exact hr')) K 0 (List.replicate K 0) (by omega) hz
      refine ⟨R, Goes.step (fun k => ?_) g1, g2⟩
      simp only [ephemeriskeep2_readings.l0]
      rw [if_pos (by omega), if_pos (by omega), if_pos (by omega), if_neg (by omega), if_pos (by omega), if_pos (by omega)]
      simp only [Option.bind_some, List.length_replicate, Int.toNat_natCast]
      rfl

theorem readings_f {K : Nat} (hK : K ≤ 10) {l : Mx} (hl : l.length ≤ 9223372036854775807) : ∃ R, Goes (fun k => ephemeriskeep2_readings.f k l K) R ∧ (R.length ≤ 6 ∧ ∀ r ∈ R, okR K r) := by
  obtain ⟨R, g1, g2⟩ := read_out hK hl l.length 0 [] (by omega) (by omega) rfl (fun r hr => by cases hr)
  exact ⟨R, Goes.congr (fun k => rfl) g1, g2⟩

theorem rd_sm {b : Int} {l : List Int} (h : sm b l) (hb : 0 ≤ b) (i : Int) : -b ≤ rd l i ∧ rd l i ≤ b := by
  unfold rd
  rcases Nat.lt_or_ge i.toNat l.length with c | c
  · rw [List.getD_eq_getElem?_getD, List.getElem?_eq_getElem c]
    exact h _ (List.getElem_mem c)
  · rw [List.getD_eq_getElem?_getD, List.getElem?_eq_none c]; simp; omega

theorem chk_in {R : Mx} {hs : List Int} {K : Nat} (hK : K ≤ 10) {p : Nat} {x37 : Int} (hp : p < hs.length) (h6 : R.length ≤ 6) (hh : sm 1000 hs) {r : List Int} (hr : okR K r) {z : Int} (g : Goes (fun k => gauge_Check.l0 k R hs R x37 (wrap64 ((p : Int) + 1))) z) :
    ∀ (n i : Nat), i + n = K → Goes (fun k => gauge_Check.l1 k R hs p R x37 p r K i) z
  | 0, i, hi => by
    have b := rd_sm hh (by omega) (p : Int)
    refine Goes.step (fun k => ?_) g
    simp only [gauge_Check.l1]
    rw [if_neg (by omega), if_pos (by omega), if_pos (by omega), if_neg (by omega), if_neg (by omega)]
  | n + 1, i, hi => by
    have h1 := hr.1
    have b := okR_rd hr (i : Int)
    refine Goes.step (fun k => ?_) (chk_in hK hp h6 hh hr g n (i + 1) (by omega))
    simp only [gauge_Check.l1]
    rw [if_pos (by omega), if_pos (by omega), if_pos (by omega), if_neg (by omega), if_neg (by omega), wrap_in (by omega) (by omega)]
    rfl
theorem chk_out {R : Mx} {hs : List Int} {K : Nat} (hK : K ≤ 10) (hlen : hs.length = R.length) (h6 : R.length ≤ 6) (hR : ∀ r ∈ R, okR K r) (hh : sm 1000 hs) : ∀ (n p : Nat), p + n = R.length → Goes (fun k => gauge_Check.l0 k R hs R R.length p) 0
  | 0, p, hp => Goes.one (fun k => by simp only [gauge_Check.l0]; rw [if_neg (by omega)])
  | n + 1, p, hp => by
    have hlt : p < R.length := by omega
    have e : R[p]? = some R[p] := List.getElem?_eq_getElem hlt
    have hm := hR R[p] (List.getElem_mem hlt)
    generalize R[p] = r at *
    have e0 : ((rd_L1 R 0).length : Int) = K := by
      match R, hlt with
      | r :: R, _ => have := (hR r (by simp)).1; simp [rd_L1, this]
    refine Goes.step (g := fun k => gauge_Check.l1 k R hs p R R.length p r K (0 : Nat)) (fun k => ?_) (chk_in hK (by omega) h6 hh hm ?_ K 0 (by omega))
    · simp only [gauge_Check.l0]
      rw [if_pos (by omega), if_pos (by omega), if_pos (by omega), if_pos (by omega), rdL e, e0, hm.1, if_pos rfl]
      rfl
    · rw [wrap_in (by omega) (by omega), show (p : Int) + 1 = ((p + 1 : Nat) : Int) by omega]
      exact chk_out hK hlen h6 hR hh n (p + 1) (by omega)
theorem check_f {R : Mx} {hs : List Int} {K : Nat} (hK : K ≤ 3) (hK1 : 1 ≤ K) (hne : R ≠ []) (hlen : hs.length = R.length) (h6 : R.length ≤ 6) (hR : ∀ r ∈ R, okR K r) (hh : sm 1000 hs) : Goes (fun k => gauge_Check.f k R hs) 0 := by
  have hpos : 0 < R.length := List.length_pos_iff.mpr hne
  have e0 : ((rd_L1 R 0).length : Int) = K := by
    match R, hne with
    | r :: R, _ => have := (hR r (by simp)).1; simp [rd_L1, this]
  refine Goes.congr (g := fun k => gauge_Check.j0 k R hs false) (fun k => ?_) (Goes.step (fun k => ?_) (chk_out (by omega) hlen h6 hR hh R.length 0 (by omega)))
  · unfold gauge_Check.f
    rw [if_neg (by omega), if_neg (by omega), if_pos (by omega), if_pos (by omega), if_neg (by omega), decide_eq_false (by omega)]
  · simp only [gauge_Check.j0]
    rfl
theorem check_nil (hs : List Int) : Goes (fun k => gauge_Check.f k [] hs) 8 := by
  refine Goes.congr (g := fun k => gauge_Check.j0 k [] hs true) (fun k => by unfold gauge_Check.f; simp) (Goes.one (fun k => by simp only [gauge_Check.j0]; rfl))

theorem abs_f {a : Int} (h1 : -9000000000000000000 ≤ a) (h2 : a ≤ 9000000000000000000) : gauge_abs.f a = some (a.natAbs : Int) := by
  unfold gauge_abs.f
  split
  · rw [wrap_in (by omega) (by omega)]; congr 1; omega
  · congr 1; omega
theorem gcd_l : ∀ (n : Nat) (a b : Int), b.natAbs < n → ∃ g : Int, Goes (fun k => gauge_gcd.l0 k a b) g ∧ g.natAbs = Nat.gcd a.natAbs b.natAbs ∧ (0 ≤ a → 0 ≤ b → 0 ≤ g)
  | 0, a, b, h => by omega
  | n + 1, a, b, h => by
    by_cases c : b = 0
    · subst c
      exact ⟨a, Goes.one (fun k => by simp only [gauge_gcd.l0]; rw [if_pos (by trivial)]), by simp, fun h _ => h⟩
    · have e : (Int.tmod a b).natAbs = a.natAbs % b.natAbs := Int.natAbs_tmod a b
      have hlt : a.natAbs % b.natAbs < b.natAbs := Nat.mod_lt _ (by omega)
      obtain ⟨g, g1, g2, g3⟩ := gcd_l n b (Int.tmod a b) (by omega)
      refine ⟨g, Goes.step (fun k => ?_) g1, ?_, fun ha hb => g3 hb (Int.tmod_nonneg b ha)⟩
      · simp only [gauge_gcd.l0]; rw [if_neg c]
      · rw [g2, e, Nat.gcd_comm, ← Nat.gcd_rec, Nat.gcd_comm]
theorem gcd_f (a b : Int) : ∃ g : Int, Goes (fun k => gauge_gcd.f k a b) g ∧ g.natAbs = Nat.gcd a.natAbs b.natAbs ∧ (0 ≤ a → 0 ≤ b → 0 ≤ g) := by
  obtain ⟨g, g1, g2⟩ := gcd_l (b.natAbs + 1) a b (by omega)
  exact ⟨g, Goes.congr (fun k => rfl) g1, g2⟩

theorem wrap_ne {a : Int} (h : a ≠ 0) (h1 : -9223372036854775808 ≤ a) (h2 : a ≤ 9223372036854775807) : wrap64 (-a) ≠ 0 := by unfold wrap64; omega
theorem wrap_b (a : Int) : -9223372036854775808 ≤ wrap64 a ∧ wrap64 a ≤ 9223372036854775807 := by unfold wrap64; omega
/-- the factors, divided -/
theorem divs {g den : Int} (hg : g ≠ 0) {N : Nat} (hN : N ≤ 10) : ∀ (n i : Nat) (acc : List Int), i + n = N → acc.length = N → Goes (fun k => gauge_Fit.l1 k g N i acc den) ((acc.take i ++ (acc.drop i).map fun x => wrap64 (Int.tdiv x g)), den, 0)
  | 0, i, acc, hi, ha => Goes.one (fun k => by
    simp only [gauge_Fit.l1]; rw [if_neg (by omega), List.drop_eq_nil_of_le (by omega), List.take_of_length_le (by omega)]; simp)
  | n + 1, i, acc, hi, ha => by
    have hlt : i < acc.length := by omega
    have ih := divs (den := den) hg hN n (i + 1) (acc.set (i : Int).toNat (wrap64 (Int.tdiv (rd acc i) g))) (by omega) (by rw [List.length_set]; exact ha)
    have E : ((acc.set (i : Int).toNat (wrap64 (Int.tdiv (rd acc i) g))).take (i + 1) ++ ((acc.set (i : Int).toNat (wrap64 (Int.tdiv (rd acc i) g))).drop (i + 1)).map fun x => wrap64 (Int.tdiv x g)) = (acc.take i ++ (acc.drop i).map fun x => wrap64 (Int.tdiv x g)) := by
      have ed : acc.drop i = acc[i] :: acc.drop (i + 1) := List.drop_eq_getElem_cons hlt
      have er : rd acc (i : Int) = acc[i] := by simp [rd, List.getD, hlt]
      rw [ed, Int.toNat_natCast, List.take_add_one, List.drop_set_of_lt (by omega), List.take_set_of_le (by omega), List.map_cons, List.append_assoc, List.getElem?_set_self hlt, er]
      rfl
    rw [E] at ih
    refine Goes.step (fun k => ?_) ih
    simp only [gauge_Fit.l1]
    rw [if_pos (by omega), if_pos (by omega), if_pos (by omega), if_neg hg, wrap_in (n := (i : Int) + 1) (by omega) (by omega)]
    rfl
end Go.Proofs.Ytglpfgkbecgaaaa.JU
