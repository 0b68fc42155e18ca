/- The law NoticeBytes: a notice of which a byte of the text was changed is not right. No condition. -/
import Derived.Test.YtoecglgbmhhdnaaDoorJBx1
import Derived.Test.YtoecglgbmhhdnaaDoorNoticeLaw
namespace Go.Proofs.YtoecglgbmhhdnaaDoor.Pure
open Go.Proofs.YtoecglgbmhhdnaaDoor.JB Go.Proofs.YtoecglgbmhhdnaaDoor.Own Go.RowKit Go.Proofs.YtoecglgbmhhdnaaDoorW.PrintWords
theorem works : Goes (fun k => ephemeriskeep2_noticeWorks.f k) true := Goes.of_mono_ (k0 := 300) ephemeriskeep2_noticeWorks.mono (by decide +kernel)

/-- two sums that differ stay apart -/
theorem st_inj {g h : Int} {b : UInt8} (g0 : 0 ≤ g) (g1 : g < 2147483647) (h0 : 0 ≤ h) (h1 : h < 2147483647) (e : st_ g b = st_ h b) : g = h := by
  unfold st_ at e
  omega
theorem fold_inj : ∀ (l : List UInt8) {g h : Int}, 0 ≤ g → g < 2147483647 → 0 ≤ h → h < 2147483647 → l.foldl st_ g = l.foldl st_ h → g = h
  | [], _, _, _, _, _, _, e => e
  | b :: l, g, h, g0, g1, h0, h1, e => st_inj g0 g1 h0 h1 (fold_inj l (st_b g b).1 (st_b g b).2 (st_b h b).1 (st_b h b).2 e)
theorem fold_ne {c : UInt8} : ∀ (l : List UInt8) (k : Nat) (hk : k < l.length), l[k] ≠ c → ∀ {h : Int}, 0 ≤ h → h < 2147483647 → l.foldl st_ h ≠ (l.set k c).foldl st_ h
  | b :: l, 0, _, ne, h, h0, h1, e => by
    simp only [List.set_cons_zero, List.foldl_cons] at e
    have e2 := fold_inj l (st_b h b).1 (st_b h b).2 (st_b h c).1 (st_b h c).2 e
    unfold st_ at e2
    have hb := b.toNat_lt
    have hc := c.toNat_lt
    have : b.toNat = c.toNat := by omega
    exact ne (UInt8.toNat_inj.1 this)
  | b :: l, k + 1, hk, ne, h, h0, h1, e => by
    simp only [List.set_cons_succ, List.foldl_cons] at e
    exact fold_ne l k (by simpa using hk) (by simpa using ne) (st_b h b).1 (st_b h b).2 e
theorem fold_range : ∀ (l : List UInt8) {h : Int}, 0 ≤ h → h < 2147483647 → 0 ≤ l.foldl st_ h ∧ l.foldl st_ h < 2147483647
  | [], _, h0, h1 => ⟨h0, h1⟩
  | b :: l, h, _, _ => fold_range l (st_b h b).1 (st_b h b).2
theorem sm_ne {key a n : Int} {T U : ByteArray} {k : Nat} {c : UInt8} (k1 : 0 ≤ key) (k2 : key ≤ 1000000000) (hk : k < T.data.toList.length) (ne : T.data.toList[k] ≠ c) (hU : U.data.toList = T.data.toList.set k c) : sm_ key (tx_ a n T) ≠ sm_ key (tx_ a n U) := by
  unfold sm_ tx_
  have e1 : ∀ X : List UInt8, (dig_ 10 a.toNat ++ [32] ++ dig_ 10 n.toNat ++ [32] ++ X).foldl st_ key = X.foldl st_ ((dig_ 10 a.toNat ++ [32] ++ dig_ 10 n.toNat ++ [32]).foldl st_ key) := fun X => List.foldl_append
  rw [hU, e1, e1]
  have r := fold_range (dig_ 10 a.toNat ++ [32] ++ dig_ 10 n.toNat ++ [32]) (h := key) k1 (by omega)
  generalize List.foldl st_ key (dig_ 10 a.toNat ++ [32] ++ dig_ 10 n.toNat ++ [32]) = g at r ⊢
  have f1 := fold_range T.data.toList r.1 r.2
  have f2 := fold_range (T.data.toList.set k c) r.1 r.2
  have f3 := fold_ne T.data.toList k hk ne r.1 r.2
  generalize List.foldl st_ g T.data.toList = x at *
  generalize List.foldl st_ g (T.data.toList.set k c) = y at *
  omega

theorem NoticeBytes : ephemeriskeep2_NoticeBytes.Pure := by
  intro key a n t s k c _ _ _ ht _ _ hc
  have c0 : 0 ≤ c ∧ c < 256 := by
    have := hc
    have m1 : IntKind.u8.min = 0 := rfl
    have m2 : IntKind.u8.max = 255 := rfl
    simp [Lit.wf, m1, m2] at this
    omega
  unfold maxLen at ht
  obtain ⟨T, hT, ok⟩ := plain_goes (x := t) (by omega)
  have b1 : 0 ≤ key % 1000000000 ∧ key % 1000000000 < 1000000000 := by omega
  have b2 : 0 ≤ a % 8 ∧ a % 8 < 8 := by omega
  have b3 : 0 ≤ n % 2147483647 ∧ n % 2147483647 < 2147483647 := by omega
  have sb := sm_b (1 + key % 1000000000) (tx_ (a % 8) (1 + n % 2147483647) T)
  have : Goes (fun r => ephemeriskeep2_NoticeBytes.f r key a n t s k c) true := by
    unfold ephemeriskeep2_NoticeBytes.f
    refine Goes.bind works ?_
    simp only [if_true, at_f (show (0 : Int) < 1000000000 by omega) (by omega), at_f (show (0 : Int) < 8 by omega) (by omega), at_f (show (0 : Int) < 2147483647 by omega) (by omega), Option.bind_some, hT, wrap_in (n := 1 + key % 1000000000) (by omega) (by omega), wrap_in (n := 1 + n % 2147483647) (by omega) (by omega)]
    refine Goes.bind (sign_goes ok (by omega) (by omega) b2.1 b2.2 (by omega) (by omega)) ?_
    dsimp only
    refine Goes.bind (right_goes ok (by omega) (by omega) b2.1 b2.2 (by omega) (by omega) sb.1 sb.2) ?_
    simp only [if_true, beq_self_eq_true, Bool.not_true]
    by_cases z : T.size = 0
    · refine Goes.step (g := fun _ => some true) (fun r => ?_) (Goes.of fun _ => rfl)
      simp only [ephemeriskeep2_NoticeBytes.j0, Bool.false_eq_true, if_false]
      rw [if_pos (by omega)]
    · have s200 := ok.1
      have kb : 0 ≤ k % (T.size : Int) ∧ k % (T.size : Int) < T.size := ⟨Int.emod_nonneg _ (by omega), Int.emod_lt_of_pos _ (by omega)⟩
      obtain ⟨i, hi⟩ : ∃ i : Nat, k % (T.size : Int) = i := ⟨(k % (T.size : Int)).toNat, by omega⟩
      rw [hi] at kb
      have hv : (32 + Int.tmod c 95) % 256 = 32 + c % 95 := by rw [tmod_nn c0.1]; omega
      obtain ⟨b, rest, e1, e2, e3⟩ := bt_get (x := T) (i := i) (by omega)
      have hil : i < T.data.toList.length := by simpa using (show i < T.size by omega)
      have eb : T.data.toList[i] = b := by
        have := List.drop_eq_getElem_cons hil
        rw [e1] at this
        injection this with h1 h2
        exact h1.symm
      by_cases q : (b.toNat : Int) = 32 + c % 95
      · refine Goes.step (g := fun _ => some true) (fun r => ?_) (Goes.of fun _ => rfl)
        simp only [ephemeriskeep2_NoticeBytes.j0, Bool.false_eq_true, if_false]
        rw [if_neg (by omega), at_f (by omega) (by omega), hi]
        simp only [Option.bind_some]
        rw [if_pos (by omega), if_pos (by omega), hv, e2, if_pos q]
      · obtain ⟨U, hU⟩ : ∃ U : ByteArray, U = ⟨T.data.setIfInBounds i (UInt8.ofNat (32 + c % 95).toNat)⟩ := ⟨_, rfl⟩
        have hUl : U.data.toList = T.data.toList.set i (UInt8.ofNat (32 + c % 95).toNat) := by rw [hU]; simp
        have hn : (UInt8.ofNat (32 + c % 95).toNat).toNat = (32 + c % 95).toNat := by
          rw [UInt8.toNat_ofNat']
          omega
        have okU : Okt U := by
          refine ⟨?_, fun x hx => ?_⟩
          · rw [hU]
            show (T.data.setIfInBounds i _).size ≤ 200
            rw [Array.size_setIfInBounds]
            exact s200
          · rw [hUl] at hx
            rcases List.mem_or_eq_of_mem_set hx with h | h
            · exact ok.2 x h
            · rw [h, hn]; omega
        have ne := sm_ne (key := 1 + key % 1000000000) (a := a % 8) (n := 1 + n % 2147483647) (by omega) (by omega) hil (c := UInt8.ofNat (32 + c % 95).toNat) (by
          rw [eb]
          intro h
          have : b.toNat = (32 + c % 95).toNat := by rw [h, hn]
          omega) hUl
        refine Goes.step (g := fun r => (notice_Right.f r (1 + key % 1000000000) (a % 8) (1 + n % 2147483647) U (sm_ (1 + key % 1000000000) (tx_ (a % 8) (1 + n % 2147483647) T))).bind fun z => if z.2 = 0 then some (!z.1) else none) (fun r => ?_) ?_
        · simp only [ephemeriskeep2_NoticeBytes.j0, Bool.false_eq_true, if_false]
          rw [if_neg (by omega), at_f (by omega) (by omega), hi]
          simp only [Option.bind_some]
          rw [if_pos (by omega), if_pos (by omega), hv, e2, if_neg q]
          unfold setb_
          rw [if_pos ⟨by omega, by omega, by omega, by omega⟩, Int.toNat_natCast, ← hU]
          rfl
        · refine Goes.bind (right_goes okU (by omega) (by omega) b2.1 b2.2 (by omega) (by omega) sb.1 sb.2) (Goes.of fun _ => ?_)
          simp only [if_true]
          congr 1
          simpa using ne
  obtain ⟨k0, h0⟩ := this
  exact ⟨k0, h0 k0 (Nat.le_refl _)⟩
end Go.Proofs.YtoecglgbmhhdnaaDoor.Pure
