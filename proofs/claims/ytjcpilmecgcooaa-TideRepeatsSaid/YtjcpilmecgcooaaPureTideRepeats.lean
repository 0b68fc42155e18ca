/- The law TideRepeats: a tide of constituents with whole numbers of turns in a day repeats each day. No condition. -/
import Derived.Test.YtjcpilmecgcooaaJDx2
import Derived.Test.YtjcpilmecgcooaaTideLaw
namespace Go.Proofs.Ytjcpilmecgcooaa.Pure
open Go.Proofs.Ytjcpilmecgcooaa.JD Go.Proofs.Ytjcpilmecgcooaa.Own Go.RowKit Go.Proofs.YtjcpilmecgcooaaW.PrintWords Go.Proofs.YtjcpilmecgcooaaW.PrintLast

/-- a constituent with a whole number of turns in a day -/
def wh (x : TT) : TT := ⟨x.f0, x.f1, (1 + x.f2 % 3) * 1000000000000000⟩
theorem wh_ok {x : TT} (h : okT x) : okT (wh x) := by obtain ⟨a, b, c, d, e, f⟩ := h; unfold okT wh; simp only; omega
theorem tn_day (r t d : Int) : tn ((1 + r) * 1000000000000000) (t + d * 86400000) = tn ((1 + r) * 1000000000000000) t := by
  unfold tn
  have e : (1 + r) * 1000000000000000 * (t + d * 86400000) = (1 + r) * 1000000000000000 * t + ((1 + r) * d * 1000000000000000) * 86400000 := by grind
  rw [e, Int.add_mul_ediv_right _ _ (by omega)]
  generalize (1 + r) * d = q
  omega
theorem tv_day (x : TT) (t d : Int) : tv (tt (wh x)) (t + d * 86400000) = tv (tt (wh x)) t := by
  unfold tv tan tt wh
  simp only
  rw [tn_day]
theorem ht_day (l : List TT) (t d : Int) : ht (l.map wh) (t + d * 86400000) = ht (l.map wh) t := by
  unfold ht
  induction l with
  | nil => rfl
  | cons x l ih => simp only [List.map_cons, sl, tv_day, ih]

theorem rep_l {l : List TT} (hl : l.length ≤ 6) (ho : ∀ x ∈ l, okT x) {t d : Int} (h3 : -302400000000000 ≤ t) (h4 : t < 302400000000000) (d0 : 0 ≤ d) (d1 : d < 1000) : ∀ (n i : Nat), i + n = l.length → ∀ k, n + 60 ≤ k →
    ephemeriskeep2_TideRepeats.l0 k ((l.take i).map wh ++ l.drop i) t d (l.length : Int) (i : Int) = some true
  | 0, i, hi, k, hk => by
    obtain ⟨k, rfl⟩ : ∃ m, k = m + 1 := ⟨k - 1, by omega⟩
    have ow : ∀ x ∈ l.map wh, okT x := by
      intro x hx
      obtain ⟨y, hy, rfl⟩ := List.mem_map.1 hx
      exact wh_ok (ho y hy)
    simp only [ephemeriskeep2_TideRepeats.l0]
    rw [if_neg (by omega), List.drop_eq_nil_of_le (by omega), List.take_of_length_le (by omega), List.append_nil]
    rw [wrap_in (n := d * 86400000) (by omega) (by omega), wrap_in (n := t + d * 86400000) (by omega) (by omega)]
    rw [height_f (by simp; omega) ow (by omega) (by omega) _ (by omega), height_f (by simp; omega) ow (by omega) (by omega) _ (by omega), ht_day]
    have b := ht_b (l := l.map wh) (by simp; omega) ow t
    simp only [Option.bind_some, if_true]
    unfold ephemeriskeep2_meets.f
    rw [if_pos (by omega)]
    simp only [Option.bind_some]
    rw [decide_eq_true (by omega)]
  | n + 1, i, hi, k, hk => by
    obtain ⟨k, rfl⟩ : ∃ m, k = m + 1 := ⟨k - 1, by omega⟩
    have hlt : i < l.length := by omega
    obtain ⟨o1, o2, o3, o4, o5, o6⟩ := ho _ (List.getElem_mem hlt)
    have e : l.drop i = l[i] :: l.drop (i + 1) := List.drop_eq_getElem_cons hlt
    have le : ((l.take i).map wh).length = i := by simp; omega
    have hg : rd_T48 ((l.take i).map wh ++ l.drop i) (i : Int) = l[i] := by
      rw [rdTT_get (by simp; omega), List.getElem_append_right (by omega)]
      simp only [le, List.getElem_drop, Nat.sub_self, Nat.add_zero]
    simp only [ephemeriskeep2_TideRepeats.l0]
    rw [if_pos (by omega), if_pos (by omega), if_pos (by simp; omega), hg, tmod_nn (by omega), wrap_in (n := 1 + l[i].f2 % 3) (by omega) (by omega), wrap_in (n := (1 + l[i].f2 % 3) * 1000000000000000) (by omega) (by omega)]
    rw [wrap_in (n := (i : Int) + 1) (by omega) (by omega), show ((i : Int) + 1) = ((i + 1 : Nat) : Int) by omega]
    have ih := rep_l hl ho h3 h4 d0 d1 n (i + 1) (by omega) k (by omega)
    have es : ((l.take i).map wh ++ l.drop i).set (i : Int).toNat (wh l[i]) = (l.take (i + 1)).map wh ++ l.drop (i + 1) := by
      rw [Int.toNat_natCast, List.set_append_right _ _ (by omega), le, Nat.sub_self, e, List.set_cons_zero, List.take_succ_eq_append_getElem hlt]
      simp only [List.map_append, List.map_cons, List.map_nil, List.append_assoc, List.singleton_append]
    rw [← es] at ih
    exact ih

theorem TideRepeats : ephemeriskeep2_TideRepeats.Pure := by
  intro l a d hl _ _ _
  have hl' : l.length ≤ 9223372036854775807 := by unfold maxLen at hl; omega
  obtain ⟨k0, hw⟩ := tide_works
  refine ⟨k0 + l.length + 100, ?_⟩
  have nl := nt_len l
  have ol := nt_all l
  unfold ephemeriskeep2_TideRepeats.f
  rw [hw _ (by omega), tides_f hl' _ (by omega), instant_f, tat_f (by omega) (by omega)]
  simp only [Option.bind_some, if_true]
  have := rep_l nl ol (t := a % 604800000000000 - 302400000000000) (d := d % 1000) (by omega) (by omega) (by omega) (by omega) _ 0 (Nat.zero_add _) (k0 + l.length + 100) (by omega)
  simpa using this
end Go.Proofs.Ytjcpilmecgcooaa.Pure
