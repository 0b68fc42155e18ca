/- The law GaugeOrder: the order of the readings makes no difference. No condition. -/
import Derived.Test.YtglpfgkbecgaaaaJUx1
import Derived.Test.YtglpfgkbecgaaaaGaugeFit
namespace Go.Proofs.Ytglpfgkbecgaaaa.Pure
open Go.Proofs.Ytglpfgkbecgaaaa.JU Go.Proofs.Ytglpfgkbecgaaaa.Own Go.RowKit Go.Proofs.YtglpfgkbecgaaaaW.PrintWords Go.Proofs.YtglpfgkbecgaaaaW.PrintLast

theorem go_at_eq {a m : Int} (h : 0 < m) (h' : m ≤ 4000000000000000000) : ephemeriskeep2_at.f a m = some (a % m) := by
  unfold ephemeriskeep2_at.f
  rw [if_neg (by omega), at_val h h']

theorem turn_SS (R : Mx) (t : Nat) (i j : Int) : SS (R.drop t ++ R.take t) i j = SS R i j := by
  have e : SS R i j = SS (R.take t ++ R.drop t) i j := by rw [List.take_append_drop]
  rw [e]
  unfold SS
  rw [List.map_append, List.map_append, List.sum_append, List.sum_append, Int.add_comm]
theorem turn_ST (R : Mx) (hs : List Int) (h : hs.length = R.length) (t : Nat) (i : Int) : Go.Proofs.Ytglpfgkbecgaaaa.JU.ST (R.drop t ++ R.take t) (hs.drop t ++ hs.take t) i = Go.Proofs.Ytglpfgkbecgaaaa.JU.ST R hs i := by
  have e : Go.Proofs.Ytglpfgkbecgaaaa.JU.ST R hs i = Go.Proofs.Ytglpfgkbecgaaaa.JU.ST (R.take t ++ R.drop t) (hs.take t ++ hs.drop t) i := by rw [List.take_append_drop, List.take_append_drop]
  rw [e]
  unfold Go.Proofs.Ytglpfgkbecgaaaa.JU.ST
  rw [List.zipWith_append (by simp; omega), List.zipWith_append (by simp; omega), List.sum_append, List.sum_append, Int.add_comm]
theorem turn_N3 (R : Mx) (hs : List Int) (h : hs.length = R.length) (t : Nat) : N3 (R.drop t ++ R.take t) (hs.drop t ++ hs.take t) = N3 R hs := by
  unfold N3
  simp only [turn_SS, turn_ST R hs h]

theorem order_end {nums : List Int} {den : Int} {e : Int} (hn : nums.length ≤ 9000000000000000000) : ∀ (n i : Nat), i + n = nums.length → Goes (fun k => ephemeriskeep2_GaugeOrder.l1 k nums.length i nums den nums den) true
  | 0, i, hi => Goes.one (fun k => by simp only [ephemeriskeep2_GaugeOrder.l1]; rw [if_neg (by omega)])
  | n + 1, i, hi => by
    refine Goes.step (fun k => ?_) (order_end (e := e) (den := den) hn n (i + 1) (by omega))
    simp only [ephemeriskeep2_GaugeOrder.l1]
    rw [if_pos (by omega), if_pos (by omega), if_pos (by omega), if_pos (by omega), wrap_in (by omega) (by omega)]
    simp only [if_true]
    rfl

theorem order_j1 {R : Mx} {hs nums : List Int} {den e : Int} (hn : nums.length ≤ 9000000000000000000) (g : Goes (fun k => gauge_Fit.f k R hs) (nums, den, e)) : Goes (fun k => ephemeriskeep2_GaugeOrder.j1 k R hs e nums den) true := by
  refine Goes.step (g := fun k => (gauge_Fit.f k R hs).bind fun bt308 => (if e = bt308.2.2 then (if den = bt308.2.1 then (ephemeriskeep2_GaugeOrder.j2 k ((nums.length : Int) != (bt308.1.length : Int)) nums den bt308.1 bt308.2.1) else (ephemeriskeep2_GaugeOrder.j2 k true nums den bt308.1 bt308.2.1)) else (ephemeriskeep2_GaugeOrder.j2 k true nums den bt308.1 bt308.2.1))) (fun k => by simp only [ephemeriskeep2_GaugeOrder.j1]) ?_
  refine Goes.bind g ?_
  simp only [if_true]
  refine Goes.step (fun k => ?_) (order_end (e := e) (den := den) hn nums.length 0 (by omega))
  simp only [ephemeriskeep2_GaugeOrder.j2]
  simp

theorem len_rot {R : Mx} {t : Nat} (h : t ≤ R.length) : (R.drop t ++ R.take t).length = R.length := by simp; omega

theorem order_loop {R : Mx} {l1 : List Int} {k2 : Int} (h6 : R.length ≤ 6) (hR : ∀ r ∈ R, okR 3 r) : ∀ (n i : Nat) (hs : List Int), i + n = R.length → hs.length = R.length → sm 1000 hs → Goes (fun k => ephemeriskeep2_GaugeOrder.l0 k R l1 k2 hs R.length i) true
  | n + 1, i, hs, hi, hl, hh => by
    by_cases c : (i : Int) < l1.length
    · have b := tmod_lt (a := rd l1 i) (m := 1001) (by omega)
      refine Goes.step (fun k => ?_) (order_loop (l1 := l1) (k2 := k2) h6 hR n (i + 1) (hs.set (i : Int).toNat (Int.tmod (rd l1 i) 1001)) (by omega) (by rw [List.length_set]; exact hl) (sm_set hh (by omega)))
      simp only [ephemeriskeep2_GaugeOrder.l0]
      rw [if_pos (by omega), if_pos c, if_pos (by omega), if_pos (by omega), wrap_in (by omega) (by omega)]
      rfl
    · refine Goes.step (fun k => ?_) (order_loop (l1 := l1) (k2 := k2) h6 hR n (i + 1) hs (by omega) hl hh)
      simp only [ephemeriskeep2_GaugeOrder.l0]
      rw [if_pos (by omega), if_neg c, wrap_in (by omega) (by omega)]
      rfl
  | 0, i, hs, hi, hl, hh => by
    have hi' : i = R.length := by omega
    subst hi'
    by_cases c : R = []
    · subst c
      have : hs = [] := List.length_eq_zero_iff.1 hl
      subst this
      refine Goes.step (g := fun k => (gauge_Fit.f k [] []).bind fun bt263 => ephemeriskeep2_GaugeOrder.j1 k [] [] bt263.2.2 bt263.1 bt263.2.1) (fun k => ?_) (Goes.bind fit_nil (order_j1 (by simp) fit_nil))
      simp only [ephemeriskeep2_GaugeOrder.l0]
      rw [if_neg (by simp)]
      simp
    · have hpos : 0 < R.length := List.length_pos_iff.mpr c
      obtain ⟨⟨nums, den, e⟩, hv, hv2⟩ := fit_three (R := R) (hs := hs)
      have F1 := fit_m (check_f (K := 3) (by omega) (by omega) c hl h6 hR hh) (normal_three c hl h6 hR hh) hv
      obtain ⟨t, ht, ht'⟩ : ∃ t : Nat, k2 % (R.length : Int) = t ∧ t < R.length := by
        have a := Int.emod_nonneg k2 (b := (R.length : Int)) (by omega)
        have b := Int.emod_lt_of_pos k2 (b := (R.length : Int)) (by omega)
        exact ⟨(k2 % (R.length : Int)).toNat, by omega, by omega⟩
      have c2 : R.drop t ++ R.take t ≠ [] := by
        intro h0
        have := congrArg List.length h0
        rw [len_rot (by omega)] at this
        have h3 : R.length = 0 := this
        omega
      have hR2 : ∀ r ∈ R.drop t ++ R.take t, okR 3 r := by
        intro r hr
        rcases List.mem_append.1 hr with h | h
        · exact hR r (List.mem_of_mem_drop h)
        · exact hR r (List.mem_of_mem_take h)
      have hh2 : sm 1000 (hs.drop t ++ hs.take t) := by
        intro r hr
        rcases List.mem_append.1 hr with h | h
        · exact hh r (List.mem_of_mem_drop h)
        · exact hh r (List.mem_of_mem_take h)
      have hl2 : (hs.drop t ++ hs.take t).length = (R.drop t ++ R.take t).length := by simp; omega
      have h62 : (R.drop t ++ R.take t).length ≤ 6 := by rw [len_rot (by omega)]; exact h6
      have F2 := fit_m (check_f (K := 3) (by omega) (by omega) c2 hl2 h62 hR2 hh2) (normal_three c2 hl2 h62 hR2 hh2) (by rw [turn_N3 R hs hl]; exact hv)
      have hn : nums.length ≤ 9000000000000000000 := by
        have h3 : nums.length ≤ 3 := hv2
        omega
      refine Goes.step (g := fun k => (gauge_Fit.f k R hs).bind fun bt263 => ephemeriskeep2_GaugeOrder.j1 k (R.drop t ++ R.take t) (hs.drop t ++ hs.take t) bt263.2.2 bt263.1 bt263.2.1) (fun k => ?_) (Goes.bind F1 (order_j1 hn F2))
      simp only [ephemeriskeep2_GaugeOrder.l0]
      rw [if_neg (by omega)]
      refine congrArg (fun z => (gauge_Fit.f k R hs).bind z) (funext fun v => ?_)
      rw [if_pos (by omega), go_at_eq (by omega) (by omega), ht]
      simp only [Option.bind_some, List.nil_append, List.length_nil, Int.toNat_natCast]
      rw [if_pos (by omega), if_pos (by omega), if_pos (by simp; omega), if_pos (by simp; omega), if_pos (by omega), if_pos (by simp; omega), if_pos (by simp; omega)]

theorem GaugeOrder : ephemeriskeep2_GaugeOrder.Pure := by
  intro l0 l1 a2 hl _ _ _ _ _
  have hl' : l0.length ≤ 9223372036854775807 := by unfold maxLen at hl; omega
  obtain ⟨R, hr, h6, hR⟩ := readings_f (K := 3) (by omega) hl'
  have G : Goes (fun k => ephemeriskeep2_GaugeOrder.f k l0 l1 a2) true := by
    refine Goes.bind gauge_works ?_
    simp only [if_true]
    refine Goes.bind hr ?_
    have o := order_loop (R := R) (l1 := l1) (k2 := a2) h6 hR R.length 0 (List.replicate R.length 0) (by omega) (by simp) (fun z hz => by rw [(List.mem_replicate.1 hz).2]; omega)
    refine Goes.congr (fun k => ?_) o
    rw [if_pos (by omega), if_pos (by omega)]
    simp
  obtain ⟨k0, h0⟩ := G
  exact ⟨k0, h0 k0 (Nat.le_refl _)⟩
end Go.Proofs.Ytglpfgkbecgaaaa.Pure
