/- The law SeriesMoves: the angle moves as Slope permits. No condition. -/
import Derived.Test.YtjcpilmecgcooaaJDx2
import Derived.Test.YtjcpilmecgcooaaSeriesLaw
namespace Go.Proofs.Ytjcpilmecgcooaa.Pure
open Go.Proofs.Ytjcpilmecgcooaa.JD Go.Proofs.Ytjcpilmecgcooaa.Own Go.Proofs.Ytjcpilmecgcooaa.Tp Go.RowKit Go.Proofs.YtjcpilmecgcooaaW.PrintWords Go.Proofs.YtjcpilmecgcooaaW.PrintLast

theorem ua_day {r t d : Int} (hd : 0 ≤ d) : d * (r / 1000000) ≤ ua r (t + d * 86400000) - ua r t ∧ ua r (t + d * 86400000) - ua r t ≤ d * ce r 1000000 := by
  have u : r * d / 1000000 ≤ ua r (t + d * 86400000) - ua r t ∧ ua r (t + d * 86400000) - ua r t ≤ -((-(r * d)) / 1000000) := by
    unfold ua
    rw [Int.mul_add, show r * (d * 86400000) = r * d * 86400000 by grind]
    generalize r * t = x
    generalize r * d = y
    omega
  have f1 : d * (r / 1000000) ≤ r * d / 1000000 := by
    refine Int.le_ediv_of_mul_le (by omega) ?_
    have : r / 1000000 * 1000000 ≤ r := by omega
    have := Int.mul_le_mul_of_nonneg_right this hd
    have e : d * (r / 1000000) * 1000000 = r / 1000000 * 1000000 * d := by grind
    omega
  have f2 : d * ((-r) / 1000000) ≤ (-(r * d)) / 1000000 := by
    refine Int.le_ediv_of_mul_le (by omega) ?_
    have : (-r) / 1000000 * 1000000 ≤ -r := by omega
    have := Int.mul_le_mul_of_nonneg_right this hd
    have e : d * ((-r) / 1000000) * 1000000 = (-r) / 1000000 * 1000000 * d := by grind
    have e2 : -r * d = -(r * d) := Int.neg_mul _ _
    omega
  unfold ce
  rw [Int.mul_neg]
  omega

/-- the last step, in numbers -/
theorem fin7 {D n M C K S e : Rat} (dq : 1 ≤ D) (q0 : 0 ≤ n) (m1 : M ≤ 1000000000) (k1 : K ≤ 62836 / 10000000000000) (k0 : 0 ≤ K) (n1 : D * (M * C) ≤ D * (1000000000 * n)) (n2 : D * (44 * n + e) ≤ D * (7 * S)) (he : e = 1 ∨ (e = 0 ∧ 5 ≤ n)) :
    M * (K * (D * C) + 1 / 100000000000) ≤ D * S := by
  have e0 : M * (K * (D * C) + 1 / 100000000000) = K * (D * (M * C)) + M / 100000000000 := by grind
  rw [e0]
  have dn := Rat.mul_nonneg (show 0 ≤ D by grind) q0
  have p1 := Rat.mul_nonneg k0 (show 0 ≤ D * (1000000000 * n) - D * (M * C) by grind)
  have p2 := Rat.mul_nonneg (show 0 ≤ 62836 / 10000000000000 - K by grind) dn
  have e4 : D * (1000000000 * n) = 1000000000 * (D * n) := by grind
  have e5 : D * (7 * S) = 7 * (D * S) := by grind
  rw [e4] at p1
  rw [e5] at n2
  rcases he with he | ⟨he, h5⟩
  · have e3 : D * (44 * n + e) = 44 * (D * n) + D := by rw [he]; grind
    rw [e3] at n2
    generalize D * (M * C) = P at *
    generalize D * n = X at *
    generalize D * S = Y at *
    grind
  · have e3 : D * (44 * n + e) = 44 * (D * n) := by rw [he]; grind
    have x5 : 5 ≤ D * n := by
      have := Rat.mul_nonneg (show 0 ≤ D - 1 by grind) (show 0 ≤ n - 5 by grind)
      grind
    rw [e3] at n2
    generalize D * (M * C) = P at *
    generalize D * n = X at *
    generalize D * S = Y at *
    grind

/-- a term's change over days -/
theorem term_slope {x : ST} (h : tok x) (t : Int) {d : Int} (hd : 0 ≤ d) : -((d * sp x : Int) : Rat) ≤ rv x (t + d * 86400000) - rv x t ∧ rv x (t + d * 86400000) - rv x t ≤ ((d * sp x : Int) : Rat) := by
  obtain ⟨b1, b2, b3, b4, b5, b6, b7, b8, b9, b10⟩ := sp_b h
  have u := ua_day (r := x.f2) (t := t) hd
  have z0 : ((0 : Int) : Rat) = 0 := by decide +kernel
  have ds : (0 : Rat) ≤ ((d * sp x : Int) : Rat) := by rw [← z0]; exact ic (Int.mul_nonneg hd b9)
  have cc : -(ce (abI x.f2) 1000000) ≤ x.f2 / 1000000 ∧ ce x.f2 1000000 ≤ ce (abI x.f2) 1000000 := by
    unfold ce abI; split <;> omega
  have v1 : -(d * ce (abI x.f2) 1000000) ≤ ua x.f2 (t + d * 86400000) - ua x.f2 t := by
    have := Int.mul_le_mul_of_nonneg_left cc.1 hd
    rw [Int.mul_neg] at this
    omega
  have v2 : ua x.f2 (t + d * 86400000) - ua x.f2 t ≤ d * ce (abI x.f2) 1000000 := by
    have := Int.mul_le_mul_of_nonneg_left cc.2 hd
    omega
  have dC := Int.mul_nonneg hd b3
  unfold rv
  rw [cz_tan, cz_tan]
  by_cases z : d * ce (abI x.f2) 1000000 = 0
  · have e : ua x.f2 (t + d * 86400000) = ua x.f2 t := by omega
    rw [e]
    constructor <;> grind
  · have d1 : 1 ≤ d := by
      rcases (by omega : d = 0 ∨ 1 ≤ d) with e | e
      · exfalso; apply z; rw [e, Int.zero_mul]
      · exact e
    have l := cz_lip (a := ua x.f2 t + x.f1) (b := ua x.f2 (t + d * 86400000) + x.f1) (d := d * ce (abI x.f2) 1000000) (by omega) (by omega)
    have ab := abI_b x.f0
    have a1 := ic ab.2.1
    have a2 := ic ab.2.2
    rw [Rat.intCast_neg] at a1
    have m := mul_ab a1 a2 l.1 l.2
    have key : (abI x.f0 : Rat) * lip (d * ce (abI x.f2) 1000000) ≤ ((d * sp x : Int) : Rat) := by
      -- the whole numbers
      have n1 : abI x.f0 * ce (abI x.f2) 1000000 ≤ 1000000000 * ce (abI x.f0 * ce (abI x.f2) 1000000) 1000000000 := by
        generalize abI x.f0 * ce (abI x.f2) 1000000 = q
        unfold ce; omega
      have n2 : 44 * ce (abI x.f0 * ce (abI x.f2) 1000000) 1000000000 + (if ce (abI x.f0 * ce (abI x.f2) 1000000) 1000000000 ≤ 4 ∧ 1 ≤ ce (abI x.f0 * ce (abI x.f2) 1000000) 1000000000 then 1 else 0) ≤ 7 * sp x := by
        unfold sp
        generalize ce (abI x.f0 * ce (abI x.f2) 1000000) 1000000000 = q
        unfold ce
        split <;> omega
      have n1' := ic (Int.mul_le_mul_of_nonneg_left n1 hd)
      have n2' := ic (Int.mul_le_mul_of_nonneg_left n2 hd)
      have dq := ic d1
      have q0 := ic b7
      have m0 := ic b1
      have m1 := ic b2
      have c1 : ((1 : Int) : Rat) = 1 := by decide +kernel
      have c7 : ((7 : Int) : Rat) = 7 := by decide +kernel
      have c44 : ((44 : Int) : Rat) = 44 := by decide +kernel
      have cT : ((1000000000 : Int) : Rat) = 1000000000 := by decide +kernel
      have pos : ce (abI x.f0 * ce (abI x.f2) 1000000) 1000000000 = 0 → abI x.f0 = 0 := by
        intro g
        rw [g] at n1
        have q : abI x.f0 * ce (abI x.f2) 1000000 = 0 := by omega
        rcases Int.mul_eq_zero.1 q with e | e
        · exact e
        · exfalso; apply z; rw [e, Int.mul_zero]
      rw [Rat.intCast_mul, Rat.intCast_mul, Rat.intCast_mul, Rat.intCast_mul, cT] at n1'
      rw [Rat.intCast_mul, Rat.intCast_mul, Rat.intCast_mul, Rat.intCast_add, Rat.intCast_mul, c44, c7] at n2'
      rw [z0] at q0 m0
      rw [cT] at m1
      rw [c1] at dq
      have la : lip (d * ce (abI x.f2) 1000000) = KK * ((d : Rat) * (ce (abI x.f2) 1000000 : Rat)) + 1 / 100000000000 := by
        unfold lip arc KK
        rw [Rat.intCast_mul]; grind
      have kk : KK ≤ 62836 / 10000000000000 ∧ 0 ≤ KK := by decide +kernel
      rw [la, Rat.intCast_mul]
      generalize KK = K at *
      rcases (by omega : ce (abI x.f0 * ce (abI x.f2) 1000000) 1000000000 = 0 ∨ (1 ≤ ce (abI x.f0 * ce (abI x.f2) 1000000) 1000000000 ∧ ce (abI x.f0 * ce (abI x.f2) 1000000) 1000000000 ≤ 4) ∨ 5 ≤ ce (abI x.f0 * ce (abI x.f2) 1000000) 1000000000) with g | g | g
      · rw [pos g, z0]
        rw [Rat.intCast_mul] at ds
        grind
      · rw [if_pos ⟨g.2, g.1⟩, c1] at n2'
        have fin := fin7 dq q0 m1 kk.1 kk.2 n1' n2' (e := 1) (Or.inl (by decide +kernel))
        exact fin
      · rw [if_neg (by omega), z0] at n2'
        have g2 := ic g
        have c5 : ((5 : Int) : Rat) = 5 := by decide +kernel
        rw [c5] at g2
        have fin := fin7 dq q0 m1 kk.1 kk.2 n1' n2' (e := 0) (Or.inr ⟨by decide +kernel, g2⟩)
        exact fin
    constructor <;> grind
theorem terms_slope (t : Int) {d : Int} (hd : 0 ≤ d) : ∀ {l : List ST}, (∀ x ∈ l, tok x) → -((d * sps l : Int) : Rat) ≤ rl l (t + d * 86400000) - rl l t ∧ rl l (t + d * 86400000) - rl l t ≤ ((d * sps l : Int) : Rat)
  | [], _ => by
    have z0 : ((0 : Int) : Rat) = 0 := by decide +kernel
    simp only [rl, sps, Int.mul_zero, z0]
    constructor <;> grind
  | x :: l, h => by
    have s := term_slope (h x (by simp)) t hd
    have ih := terms_slope t hd (l := l) (fun y hy => h y (List.mem_cons_of_mem _ hy))
    simp only [rl, sps, Int.mul_add, Rat.intCast_add]
    constructor <;> grind

theorem SeriesMoves : ephemeriskeep2_SeriesMoves.Pure := by
  intro mean rate l rest a days _ _ hl _ _ _ _
  have hl' : l.length ≤ 9223372036854775807 := by unfold maxLen at hl; omega
  obtain ⟨k0, hw⟩ := series_works
  refine ⟨k0 + l.length + 200, ?_⟩
  have nl := nm_len l
  have ol := nm_all l
  have m := tmod_lt (a := mean) (m := 1000000001) (by omega)
  have r := tmod_lt (a := rate) (m := 4000000000000001) (by omega)
  have h3 : -302400000000000 ≤ a % 604800000000000 - 302400000000000 := by omega
  have h4 : a % 604800000000000 - 302400000000000 < 302400000000000 := by omega
  have ei := instant_f a
  have d0 : 0 ≤ days % 20 ∧ days % 20 < 20 := by omega
  have r0 : 0 ≤ rest % 1000 ∧ rest % 1000 < 1000 := by omega
  unfold ephemeriskeep2_SeriesMoves.f
  rw [hw _ (by omega), small_f hl' _ _ _ _ (by omega), ei, tat_f (by omega) (by omega)]
  generalize (l.take 6).map nm = L at *
  generalize Int.tmod mean 1000000001 = M at *
  generalize Int.tmod rate 4000000000000001 = V at *
  generalize a % 604800000000000 - 302400000000000 = t at *
  generalize days % 20 = d at *
  generalize rest % 1000 = c at *
  simp only [Option.bind_some, if_true]
  obtain ⟨p, q, hp, p1, p2, p3, p4, i, p5, p6⟩ := angle_f (l := L) (by omega) ol (t := t) (by omega) (by omega) (mean := M) (rate := V) (rest := c) (by omega) (by omega) (by omega) (by omega) (by omega) (by omega)
  obtain ⟨u, v, hu, u1, u2, u3, u4, j, u5, u6⟩ := angle_f (l := L) (by omega) ol (t := t + d * 86400000) (by omega) (by omega) (mean := M) (rate := V) (rest := c) (by omega) (by omega) (by omega) (by omega) (by omega) (by omega)
  have w := wl_b ol
  have sb := sps_b ol
  have cb : -4000000000 ≤ ce V 1000000 ∧ ce V 1000000 ≤ 4000000000 := by unfold ce; omega
  rw [wrap_in (n := d * 86400000) (by omega) (by omega), wrap_in (n := t + d * 86400000) (by omega) (by omega), hp _ (by omega), hu _ (by omega), slope_f (by omega) ol (by omega) (by omega) (by omega) (by omega) (by omega) (by omega) _ (by omega)]
  simp only [Option.bind_some, if_true]
  have ts := terms_slope t d0.1 ol
  have ud := ua_day (r := V) (t := t) d0.1
  have e1 : d * (V / 1000000 - sps L) = d * (V / 1000000) - d * sps L := Int.mul_sub _ _ _
  have e2 : d * (ce V 1000000 + sps L) = d * ce V 1000000 + d * sps L := Int.mul_add _ _ _
  have g1 : -80000000000 ≤ d * (V / 1000000) ∧ d * (V / 1000000) ≤ 80000000000 := by
    have x1 := Int.mul_le_mul_of_nonneg_left (show -4000000000 ≤ V / 1000000 by omega) d0.1
    have x2 := Int.mul_le_mul_of_nonneg_left (show V / 1000000 ≤ 4000000000 by omega) d0.1
    omega
  have g2 : -80000000000 ≤ d * ce V 1000000 ∧ d * ce V 1000000 ≤ 80000000000 := by
    have x1 := Int.mul_le_mul_of_nonneg_left cb.1 d0.1
    have x2 := Int.mul_le_mul_of_nonneg_left cb.2 d0.1
    omega
  have g3 : 0 ≤ d * sps L ∧ d * sps L ≤ 5000000000000 := by
    have x1 := Int.mul_nonneg d0.1 sb.1
    have x2 := Int.mul_le_mul_of_nonneg_left (show sps L ≤ 180000000000 by omega) d0.1
    omega
  by_cases far : wrap64 (ce V 1000000 + sps L - (V / 1000000 - sps L)) > 100000000000
  · rw [if_pos far]
  · rw [if_neg far, wrap_in (n := d * (V / 1000000 - sps L)) (by omega) (by omega), wrap_in (n := d * (ce V 1000000 + sps L)) (by omega) (by omega), wrap_in (n := p + d * (V / 1000000 - sps L)) (by omega) (by omega), wrap_in (n := q + d * (ce V 1000000 + sps L)) (by omega) (by omega)]
    have R' : RR M V L (t + d * 86400000) - RR M V L t = rl L (t + d * 86400000) - rl L t + ((ua V (t + d * 86400000) - ua V t : Int) : Rat) := by
      unfold RR; rw [Rat.intCast_sub]; grind
    have lo := ic ud.1
    have hi := ic ud.2
    rw [same_f (R := RR M V L (t + d * 86400000)) j i u5 u6 ?_ ?_ (by omega) (by omega) (by omega) (by omega)]
    · rfl
    · rw [e1, Rat.intCast_add, Rat.intCast_sub]; grind
    · rw [e2, Rat.intCast_add, Rat.intCast_add]; grind
end Go.Proofs.Ytjcpilmecgcooaa.Pure
