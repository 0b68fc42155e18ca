-- Made by a program of this session (wip/hp.py, over the kit's print) out of the translation. Not trusted: Lean checks it.
import Derived.Test.YtoecglgbmhhdnaaDoorJBx0
import Derived.Test.YtoecglgbmhhdnaaDoorJBx1
import Derived.Lib.AtoiErrMem
import Derived.Lib.ConvBytes
import Derived.Lib.SlBytesRow
import Derived.StillTailTactics
namespace Go.Proofs.YtoecglgbmhhdnaaDoor.JB
open Go.RowKit Go.Proofs.YtoecglgbmhhdnaaDoorW.PrintWords Go.Proofs.YtoecglgbmhhdnaaDoorW.PrintLast Go.Proofs.YtoecglgbmhhdnaaDoorW.PrintMore
attribute [local go_sem] max2_int min2_int max_two min_two max_three min_three max_four min_four   -- for this text's walks alone
set_option linter.unusedVariables false
set_option linter.unusedSimpArgs false

/-! ### ephemeriskeep2_plain: function 9 -/
-- hand
-- body
-- IMPORT Derived.Lib.SlBytesRow
-- IMPORT Derived.Lib.ConvBytes
-- IMPORT Derived.Lib.AtoiErrMem
-- IMPORT Derived.StillTailTactics
theorem pl_nat (b : UInt8) : (pl_ b).toNat = 32 + b.toNat % 95 := by
  unfold pl_
  have h : (b % 95).toNat = b.toNat % 95 := by simp
  have h1 := Nat.mod_lt b.toNat (show 95 > 0 by omega)
  rw [UInt8.toNat_add, h]
  show (32 + b.toNat % 95) % 256 = _
  omega
/-- the row while its first k bytes are turned -/
def Rw_ (s : ByteArray) (k : Nat) (g : Nat) (W : World) : Prop := ∃ cur n, W.heap[g]? = some (.cells cur 5 (n, n + 1)) ∧ cur.size = n ∧ s.size ≤ n ∧ ∀ i, i < s.size → cur[i]? = some (.int .u8 (if i < k then ((pl_ (s.data.toList.getD i 0)).toNat : Int) else ((s.data.toList.getD i 0).toNat : Int)))
theorem rw_cell {s : ByteArray} {k g i : Nat} {W : World} (h : Rw_ s k g W) (hi : i < s.size) : W.cell? ⟨g, i, none⟩ = some (.int .u8 (if i < k then ((pl_ (s.data.toList.getD i 0)).toNat : Int) else ((s.data.toList.getD i 0).toNat : Int))) := by
  obtain ⟨cur, n, h1, h2, h3, h4⟩ := h
  have e := h4 i hi
  simp [World.cell?, h1, e]
theorem rw_frozen {s : ByteArray} {k g i : Nat} {W : World} (h : Rw_ s k g W) (hi : i < s.size) : W.frozen? ⟨g, i, none⟩ = false := by
  obtain ⟨cur, n, h1, h2, h3, h4⟩ := h
  simp [World.frozen?, h1]
  omega
theorem rw_set {s : ByteArray} {k g : Nat} {W : World} (h : Rw_ s k g W) (hk : k < s.size) : Rw_ s (k + 1) g (W.setCell ⟨g, k, none⟩ (.int .u8 ((pl_ (s.data.toList.getD k 0)).toNat : Int))) := by
  obtain ⟨cur, n, h1, h2, h3, h4⟩ := h
  refine ⟨cur.setIfInBounds k (.int .u8 ((pl_ (s.data.toList.getD k 0)).toNat : Int)), n, ?_, by simp [h2], h3, fun i hi => ?_⟩
  · simp [World.setCell, h1, Array.getElem?_modify]
  · have e := h4 i hi
    by_cases c : i = k
    · subst c
      rw [if_pos (by omega), Array.getElem?_setIfInBounds_self_of_lt (by omega)]
    · rw [Array.getElem?_setIfInBounds_ne (by omega), e]
      congr 2
      by_cases d : i < k
      · rw [if_pos d, if_pos (by omega)]
      · rw [if_neg d, if_neg (by omega)]
theorem rw_bytes {s : ByteArray} {g : Nat} {W : World} (h : Rw_ s s.size g W) : Lib.Bytes W g 0 ⟨(s.data.toList.map pl_).toArray⟩ := by
  intro i hi
  have hl : s.data.toList.length = s.size := by simp
  have hi' : i < s.size := by
    have h_ : (s.data.toList.map pl_).toArray.size = s.size := by simp
    exact h_ ▸ hi
  have e := rw_cell h hi'
  rw [if_pos hi'] at e
  rw [Nat.zero_add, e]
  congr 3
  show _ = ((s.data.toList.map pl_).toArray[i]'_).toNat
  rw [List.getElem_toArray, List.getElem_map, List.getD_eq_getElem?_getD, List.getElem?_eq_getElem (by rw [hl]; exact hi'), Option.getD_some]
/-- a row of bytes that holds a text -/
def Rb_ (s : ByteArray) (g : Nat) (W : World) : Prop := ∃ cur n, W.heap[g]? = some (.cells cur 5 (n, n + 1)) ∧ cur.size = n ∧ s.size ≤ n ∧ ∀ i (h : i < s.size), cur[i]? = some (.int .u8 (s[i]'h).toNat)
theorem rb_start (w : World) (s : ByteArray) : Rb_ s w.heap.size (Lib.bytesWorld w 5 s) := by
  have h_ : s.data.size = s.size := rfl
  refine ⟨_, _, Lib.bytesWorld_at_new w 5 s, rfl, ?_, fun i hi => ?_⟩
  · unfold Lib.bytesCells
    rw [Array.size_append, Array.size_map, h_]
    omega
  · unfold Lib.bytesCells
    rw [Array.getElem?_append_left (by rw [Array.size_map]; omega), Array.getElem?_map, Array.getElem?_eq_getElem (by omega)]
    rfl
theorem rb_drewN {s : ByteArray} {g : Nat} {W : World} (h : Rb_ s g W) (n : Nat) : Rb_ s g (W.drewN n) := h
theorem rb_cell {s : ByteArray} {g i : Nat} {W : World} (h : Rb_ s g W) (hi : i < s.size) : W.cell? ⟨g, i, none⟩ = some (.int .u8 (bt s (i : Int))) := by
  obtain ⟨cur, n, h1, h2, h3, h4⟩ := h
  have e := h4 i hi
  have e2 := bt_at s (i : Int) (by simpa using hi)
  rw [← e2]
  simp [World.cell?, h1, e]
theorem rb_frozen {s : ByteArray} {g i : Nat} {W : World} (h : Rb_ s g W) (hi : i < s.size) : W.frozen? ⟨g, i, none⟩ = false := by
  obtain ⟨cur, n, h1, h2, h3, h4⟩ := h
  simp [World.frozen?, h1]
  omega
theorem rb_set {s : ByteArray} {g i : Nat} {v : Int} {W : World} (h : Rb_ s g W) (hi : i < s.size) (v0 : 0 ≤ v) (v1 : v < 256) : Rb_ ⟨s.data.setIfInBounds i (UInt8.ofNat v.toNat)⟩ g (W.setCell ⟨g, i, none⟩ (.int .u8 v)) := by
  obtain ⟨cur, n, h1, h2, h3, h4⟩ := h
  have hs : s.data.size = s.size := rfl
  have hz : (⟨s.data.setIfInBounds i (UInt8.ofNat v.toNat)⟩ : ByteArray).size = s.size := by
    show (s.data.setIfInBounds i (UInt8.ofNat v.toNat)).size = s.size
    rw [Array.size_setIfInBounds]; rfl
  refine ⟨cur.setIfInBounds i (.int .u8 v), n, ?_, by simp [h2], by omega, fun j hj => ?_⟩
  · simp [World.setCell, h1, Array.getElem?_modify]
  · have e := h4 j (by omega)
    have ej : ((⟨s.data.setIfInBounds i (UInt8.ofNat v.toNat)⟩ : ByteArray)[j]'hj) = (s.data.setIfInBounds i (UInt8.ofNat v.toNat))[j]'(by rw [Array.size_setIfInBounds]; omega) := rfl
    rw [ej]
    by_cases c : j = i
    · subst c
      rw [Array.getElem?_setIfInBounds_self_of_lt (by omega), Array.getElem_setIfInBounds_self]
      congr 2
      have : (UInt8.ofNat v.toNat).toNat = v.toNat := by
        rw [UInt8.toNat_ofNat']
        omega
      omega
    · rw [Array.getElem?_setIfInBounds_ne (by omega), e, Array.getElem_setIfInBounds_ne (by omega) (by omega)]
      rfl
theorem rb_bytes {s : ByteArray} {g : Nat} {W : World} (h : Rb_ s g W) : Lib.Bytes W g 0 s := by
  obtain ⟨cur, n, h1, h2, h3, h4⟩ := h
  intro i hi
  have e := h4 i hi
  rw [Nat.zero_add]
  simp [World.cell?, h1, e]
set_option maxHeartbeats 8000000 in
set_option maxRecDepth 100000 in
theorem ephemeriskeep2_plain.calls (a0 : ByteArray) (r : ByteArray) (w : World) (h : ephemeriskeep2_plain.f a0 = some r) :
    Calls Tryd.prog 9 #[.string a0] w fun e w' => e = .returned (.string r) ∧ Below w.heap.size w w' := by
  have hu5 := Tryd.underlying5
  have hu33 := Tryd.underlying33
  unfold ephemeriskeep2_plain.f at h
  by_cases hs : a0.size ≤ 9223372036854775807
  rotate_left
  · rw [if_neg hs] at h
    cases h
  rw [if_pos hs] at h
  obtain rfl := Option.some.inj h
  clear h
  have cv : ∀ w, (convert 9 33 (.string a0)).run Tryd.prog w = .ok (.slice (some ⟨w.heap.size, 0, none⟩) a0.size (grownCap w a0.size 0 5)) (Lib.bytesWorld w 5 a0) := fun w => Lib.run_convert_string_bytes w 9 33 5 a0 Tryd.underlying9 Tryd.underlying33 Tryd.underlying5
  have RW := Aside0.mk (show Rw_ a0 0 w.heap.size (Lib.bytesWorld w 5 a0) from ⟨_, _, Lib.bytesWorld_at_new w 5 a0, rfl, by
    have h_ : a0.data.size = a0.size := rfl
    unfold Lib.bytesCells
    rw [Array.size_append, Array.size_map, h_]
    omega, fun i hi => by
    have h_ : a0.data.size = a0.size := rfl
    rw [if_neg (by omega)]
    unfold Lib.bytesCells
    rw [Array.getElem?_append_left (by rw [Array.size_map]; omega), Array.getElem?_map, List.getD_eq_getElem?_getD, Array.getElem?_toList, Array.getElem?_eq_getElem (by omega)]
    rfl⟩)
  have HB := Aside0.mk (Lib.bytesWorld_below w 5 a0)
  go_enter Tryd.func9, Tryd.ntmps9
  go_wp2
  generalize Lib.bytesWorld w 5 a0 = w1 at RW HB ⊢
  have hcp : a0.size ≤ grownCap w a0.size 0 5 := grownCap_ge _ _ _ _
  generalize grownCap w a0.size 0 5 = cp at hcp ⊢
  clear cv
  go_loopw [9] (fun v wr => ∃ (k : Nat) (z : Int), k ≤ a0.size ∧ z = k ∧ v = .int .i64 z ∧ Aside0 (Rw_ a0 k w.heap.size wr) ∧ Aside0 (Below w.heap.size w wr)) (fun v _ => a0.size - (intOf v).toNat)
  case atStart =>
    exact ⟨0, 0, by omega, rfl, rfl, RW, HB⟩
  case round =>
    obtain ⟨k, z, hk, hz, rfl, RK, BK⟩ := hrel
    subst hz
    clear RW HB
    by_cases c : k < a0.size
    · have hx := rw_cell RK.out c
      rw [if_neg (by omega)] at hx
      have hf := rw_frozen RK.out c
      have hb : ((a0.data.toList.getD k 0).toNat : Int) < 256 := by have := (a0.data.toList.getD k 0).toNat_lt; omega
      have c1 : (k : Int) < (a0.size : Int) := by omega
      have c2 : (0 : Int) ≤ (k : Int) := by omega
      go_wp2
      go_roundw
      case rel =>
        refine ⟨k + 1, (k : Int) + 1, by omega, by simp, ?_, ⟨?_⟩, ⟨?_⟩⟩
        · first | rfl | go_num | (congr 1; exact IntWalk.i64_in _ (by omega))
        · have e := rw_set RK.out c
          have e1 : a0.data.toList.getD k 0 = a0.data[k]'c := by
            rw [List.getD_eq_getElem?_getD, Array.getElem?_toList, Array.getElem?_eq_getElem c]
            rfl
          rw [pl_nat, e1] at e
          have e2 : ((32 + (a0.data[k]'c).toNat % 95 : Nat) : Int) = 32 + ((a0.data[k]'c).toNat : Int) % 95 := by omega
          rw [e2] at e
          exact e
        · exact below_set BK.out (by simp)
      case measure => simp [intOf]; omega
    · have c1 : ¬ (k : Int) < (a0.size : Int) := by omega
      have hk2 : k = a0.size := by omega
      have RF := rw_bytes (hk2 ▸ RK.out)
      have hl : a0.data.toList.length = a0.size := by simp
      have sz : (⟨(a0.data.toList.map pl_).toArray⟩ : ByteArray).size = a0.size := by
        show (a0.data.toList.map pl_).toArray.size = _
        simp
      by_cases d : 200 < a0.size
      · have d1 : ((200 : Int) < (a0.size : Int)) := by omega
        have d2 : ((200 : Int) ≤ (cp : Int)) := by omega
        have d3 : ¬ cp = 0 := by omega
        have cw := Lib.run_convert_window (P := Tryd.prog) wr 33 5 9 Tryd.underlying33 Tryd.underlying5 Tryd.underlying9 w.heap.size 0 _ RF 0 200 cp (by omega)
        go_wp2
        go_ret
        refine ⟨?_, BK.out⟩
        have ee : (⟨(a0.data.toList.map pl_).toArray⟩ : ByteArray).extract 0 200 = ⟨((a0.data.toList.map pl_).take 200).toArray⟩ := by
          apply ByteArray.ext
          rw [ByteArray.data_extract]
          simp
        rw [← ee]
        rfl
      · have d1 : ¬ ((200 : Int) < (a0.size : Int)) := by omega
        have cw := Lib.run_convert_whole (P := Tryd.prog) wr 33 5 9 Tryd.underlying33 Tryd.underlying5 Tryd.underlying9 w.heap.size 0 _ RF cp
        rw [sz] at cw
        go_wp2
        go_ret
        refine ⟨?_, BK.out⟩
        rw [List.take_of_length_le (by simp; omega)]
        rfl

end Go.Proofs.YtoecglgbmhhdnaaDoor.JB
