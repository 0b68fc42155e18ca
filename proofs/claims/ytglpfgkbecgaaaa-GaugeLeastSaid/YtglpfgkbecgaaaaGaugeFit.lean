/- What gauge.Fit computes out of the matrix. No condition on a program. -/
import Derived.Test.YtglpfgkbecgaaaaGaugeLaw
namespace Go.Proofs.Ytglpfgkbecgaaaa.JU
open Go.Proofs.Ytglpfgkbecgaaaa.Own Go.RowKit Go.Proofs.YtglpfgkbecgaaaaW.PrintWords Go.Proofs.YtglpfgkbecgaaaaW.PrintLast
set_option maxRecDepth 100000

theorem abs_e (a : Int) (h : -9223372036854775808 ≤ a ∧ a ≤ 9223372036854775807) : ∃ b, gauge_abs.f a = some b ∧ (a ≠ 0 → b ≠ 0) ∧ b.natAbs ≤ 9223372036854775808 := by
  unfold gauge_abs.f
  split
  · have := wrap_b (-a)
    exact ⟨_, rfl, fun h0 => wrap_ne h0 h.1 h.2, by omega⟩
  · exact ⟨_, rfl, fun h0 => h0, by omega⟩

theorem fit_end {g Den : Int} (hg : g ≠ 0) (hb : g.natAbs ≤ 9223372036854775808) (acc : List Int) (ha : acc.length ≤ 10) :
    Goes (fun k => if Den < 0 then gauge_Fit.j1 k (wrap64 (-g)) acc Den else gauge_Fit.j1 k g acc Den)
      (acc.map (fun x => wrap64 (Int.tdiv x (if Den < 0 then wrap64 (-g) else g))), wrap64 (Int.tdiv Den (if Den < 0 then wrap64 (-g) else g)), 0) := by
  have one : ∀ g' : Int, g' ≠ 0 → Goes (fun k => gauge_Fit.j1 k g' acc Den) (acc.map (fun x => wrap64 (Int.tdiv x g')), wrap64 (Int.tdiv Den g'), 0) := by
    intro g' h'
    have d := divs (g := g') (den := wrap64 (Int.tdiv Den g')) h' ha acc.length 0 acc (by omega) rfl
    refine Goes.step (fun k => ?_) d
    simp only [gauge_Fit.j1]
    rw [if_neg h']
    rfl
  have hw : wrap64 (-g) ≠ 0 := by unfold wrap64; omega
  by_cases c : Den < 0
  · simp only [if_pos c]; exact one _ hw
  · simp only [if_neg c]; exact one _ hg

theorem fit_tail {m : Mx} {n : Nat} (hn : n ≤ 10) (hd : ∀ c : Nat, c < n → ∃ v, gauge_det.f m c = some v ∧ (-9223372036854775808 ≤ v ∧ v ≤ 9223372036854775807)) {Den : Int} : ∀ (j i : Nat) (g : Int) (acc : List Int), i + j = n → acc.length = i → g ≠ 0 → g.natAbs ≤ 9223372036854775808 → ∃ v, Goes (fun k => gauge_Fit.l0 k m g n i acc Den) v ∧ v.1.length = n
  | 0, i, g, acc, hi, ha, hg, hb => by
    refine ⟨_, Goes.step (fun k => ?_) (fit_end (Den := Den) hg hb acc (by omega)), by simp; omega⟩
    simp only [gauge_Fit.l0]
    rw [if_neg (by omega)]
  | j + 1, i, g, acc, hi, ha, hg, hb => by
    obtain ⟨t, ht, hr⟩ := hd i (by omega)
    obtain ⟨a, h1, _, _⟩ := abs_e t hr
    obtain ⟨g', q1, q2, _⟩ := gcd_f g a
    have hg' : g' ≠ 0 := by
      intro h0
      rw [h0] at q2
      have := Nat.gcd_pos_of_pos_left a.natAbs (m := g.natAbs) (by omega)
      simp at q2; omega
    have hle : g'.natAbs ≤ g.natAbs := by rw [q2]; exact Nat.gcd_le_left _ (by omega)
    obtain ⟨v, hv, hv2⟩ := fit_tail hn hd j (i + 1) g' (acc ++ [t]) (by omega) (by simp; omega) hg' (by omega)
    have er : rd (acc ++ [t]) (i : Int) = t := by subst ha; simp [rd, List.getD]
    refine ⟨v, Goes.step (g := fun k => (gauge_gcd.f k g a).bind fun t145 => gauge_Fit.l0 k m t145 n ((i + 1 : Nat) : Int) (acc ++ [t]) Den) (fun k => ?_) (Goes.bind q1 hv), hv2⟩
    simp only [gauge_Fit.l0]
    rw [if_pos (by omega), ht]
    simp only [Option.bind_some]
    rw [if_pos (by omega), if_pos (by omega), if_pos (by simp; omega), er, h1, wrap_in (n := (i : Int) + 1) (by omega) (by omega)]
    rfl

/-- Fit behind the matrix -/
def fitM (m : Mx) (k : Nat) : Option (List Int × Int × Int) := (gauge_det.f m (-1)).bind fun t136 => (if t136 = 0 then (some (([] : List Int), 0, 6)) else ((gauge_abs.f t136).bind fun t138 => (gauge_Fit.l0 k m t138 (m.length : Int) 0 ([] : List Int) t136)))
theorem fit_m {R : Mx} {hs : List Int} {m : Mx} {v : List Int × Int × Int} (hc : Goes (fun k => gauge_Check.f k R hs) 0) (hn : Goes (fun k => gauge_normal.f k R hs) m) (hv : Goes (fitM m) v) : Goes (fun k => gauge_Fit.f k R hs) v := by
  refine Goes.congr (g := fun k => (gauge_Check.f k R hs).bind fun t132 => (if t132 = 0 then ((gauge_normal.f k R hs).bind fun t133 => fitM t133 k) else (some (([] : List Int), 0, t132)))) (fun k => rfl) ?_
  refine Goes.bind hc ?_
  simp only [if_true]
  exact Goes.bind hn hv
theorem fit_nil {hs : List Int} : Goes (fun k => gauge_Fit.f k [] hs) ([], 0, 8) := by
  refine Goes.congr (g := fun k => (gauge_Check.f k [] hs).bind fun t132 => (if t132 = 0 then ((gauge_normal.f k [] hs).bind fun t133 => fitM t133 k) else (some (([] : List Int), 0, t132)))) (fun k => rfl) ?_
  refine Goes.bind (check_nil hs) ?_
  exact Goes.of (fun k => rfl)

theorem det_three (a b c d e f g h i j k l : Int) (n : Int) (hn : n = -1 ∨ n = 0 ∨ n = 1 ∨ n = 2) : ∃ v, gauge_det.f [[a, b, c, d], [e, f, g, h], [i, j, k, l]] n = some v ∧ (-9223372036854775808 ≤ v ∧ v ≤ 9223372036854775807) := by
  rcases hn with rfl | rfl | rfl | rfl <;> (refine ⟨_, by simp [gauge_det.f, gauge_det.at, rd_L1, rd]; rfl, wrap_b _⟩)

theorem fit_three {R : Mx} {hs : List Int} : ∃ v, Goes (fitM (N3 R hs)) v ∧ v.1.length ≤ 3 := by
  unfold N3
  obtain ⟨t, ht, hb⟩ := det_three (SS R 0 0) (SS R 0 1) (SS R 0 2) (ST R hs 0) (SS R 1 0) (SS R 1 1) (SS R 1 2) (ST R hs 1) (SS R 2 0) (SS R 2 1) (SS R 2 2) (ST R hs 2) (-1) (.inl rfl)
  by_cases c : t = 0
  · refine ⟨([], 0, 6), Goes.of (fun k => ?_), by simp⟩
    unfold fitM
    rw [ht]
    simp only [Option.bind_some]
    rw [if_pos c]
  · obtain ⟨b, h1, h2, h3⟩ := abs_e t hb
    obtain ⟨v, hv, hv2⟩ := fit_tail (m := [[SS R 0 0, SS R 0 1, SS R 0 2, ST R hs 0], [SS R 1 0, SS R 1 1, SS R 1 2, ST R hs 1], [SS R 2 0, SS R 2 1, SS R 2 2, ST R hs 2]]) (n := 3) (by omega) (fun c hc => det_three _ _ _ _ _ _ _ _ _ _ _ _ (c : Int) (by omega)) (Den := t) 3 0 b [] rfl rfl (h2 c) h3
    refine ⟨v, Goes.congr (fun k => ?_) hv, by omega⟩
    unfold fitM
    rw [ht]
    simp only [Option.bind_some]
    rw [if_neg c, h1]
    rfl
end Go.Proofs.Ytglpfgkbecgaaaa.JU
