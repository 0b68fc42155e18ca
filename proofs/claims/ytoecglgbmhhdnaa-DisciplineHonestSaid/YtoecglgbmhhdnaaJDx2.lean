-- Made by a program of this session (wip/hp.py, over the kit's print) out of the translation. Not trusted: Lean checks it.
import Derived.Test.YtoecglgbmhhdnaaJDx0
import Derived.Test.YtoecglgbmhhdnaaJDx1
namespace Go.Proofs.Ytoecglgbmhhdnaa.JD
open Go.RowKit Go.Proofs.YtoecglgbmhhdnaaW.PrintWords Go.Proofs.YtoecglgbmhhdnaaW.PrintLast Go.Proofs.YtoecglgbmhhdnaaW.PrintMore
attribute [local go_sem] max2_int min2_int max_two min_two max_three min_three max_four min_four   -- for this text's walks alone
set_option linter.unusedVariables false
set_option linter.unusedSimpArgs false

/-! ### discipline_New: function 17 -/
-- hand
-- raw
def rcs_ (rs : List S62) : List Value := rs.flatMap fun x => [.int .i64 x.f0, .int .i64 x.f1.f0, .int .i64 x.f1.f1]
theorem rcs_len (rs : List S62) : (rcs_ rs).length = rs.length * 3 := by
  induction rs with
  | nil => rfl
  | cons a t ih => simp only [rcs_, List.flatMap_cons, List.length_append, List.length_cons, List.length_nil] at ih ⊢; omega
theorem rcs_get {x : S62} : ∀ (rs : List S62) (j : Nat), rs[j]? = some x → (rcs_ rs)[j * 3]? = some (.int .i64 x.f0) ∧ (rcs_ rs)[j * 3 + 1]? = some (.int .i64 x.f1.f0) ∧ (rcs_ rs)[j * 3 + 2]? = some (.int .i64 x.f1.f1)
  | [], j, h => by simp at h
  | a :: t, 0, h => by
    simp at h; subst h
    exact ⟨rfl, rfl, rfl⟩
  | a :: t, j + 1, h => by
    have := rcs_get t j (by simpa using h)
    have e : (j + 1) * 3 = (((j * 3) + 1) + 1) + 1 := by omega
    rw [e]
    exact this
theorem rcs_set {x : S62} : ∀ (rs : List S62) (j : Nat), (((rcs_ rs).set (j * 3) (.int .i64 x.f0)).set (j * 3 + 1) (.int .i64 x.f1.f0)).set (j * 3 + 2) (.int .i64 x.f1.f1) = rcs_ (rs.set j x)
  | [], j => by simp [rcs_]
  | a :: t, 0 => rfl
  | a :: t, j + 1 => by
    have := rcs_set t j (x := x)
    have e : (j + 1) * 3 = (((j * 3) + 1) + 1) + 1 := by omega
    rw [e]
    show _ :: _ :: _ :: _ = _ :: _ :: _ :: _
    congr 3
def hcs_ (hs : List Bool) : List Value := hs.map .bool
/-- a keeper of a clock at block g: what it holds -/
def Keeps_ (B : Nat) (w : World) (g : Nat) (d f last : Int) (hs : List Bool) (rs : List S62) : Prop :=
  ∃ gh gr, B ≤ gh ∧ B ≤ gr ∧ B ≤ g ∧ gh ≠ g ∧ gr ≠ g ∧ gh ≠ gr ∧ w.heap[g]? = some (.cells #[.int .i64 d, .int .i64 f, .int .i64 last, .slice (some ⟨gh, 0, none⟩) hs.length hs.length, .slice (some ⟨gr, 0, none⟩) rs.length rs.length] 84 (0, 0)) ∧
    w.heap[gh]? = some (.cells (hcs_ hs).toArray 4 (0, 0)) ∧ w.heap[gr]? = some (.cells (rcs_ rs).toArray 62 (0, 0))
theorem info4_ : (Try.prog.info? 4).map (fun i => (i.zero, i.size, i.bytes)) = some (some (.bool false), 1, 1) := by kernel_rfl
theorem info62_ : (Try.prog.info? 62).map (fun i => (i.zero, i.size, i.bytes)) = some (some (.agg #[.int .i64 0, .int .i64 0, .int .i64 0]), 3, 24) := by kernel_rfl
theorem made4_ (n : Nat) : madeCells #[.bool false] (n * 1) = (hcs_ (List.replicate n false)).toArray := by
  apply Array.ext
  · simp [madeCells, hcs_]
  · intro i h1 h2
    simp [madeCells, hcs_, Nat.mod_one]
theorem made62_ (n : Nat) : madeCells #[.int .i64 0, .int .i64 0, .int .i64 0] (n * 3) = (rcs_ (List.replicate n z62)).toArray := by
  apply Array.ext
  · simp [madeCells, rcs_len]
  · intro i h1 h2
    have hi : i < n * 3 := by simpa [madeCells] using h1
    obtain ⟨e0, e1, e2⟩ := rcs_get (List.replicate n z62) (i / 3) (x := z62) (by rw [List.getElem?_replicate, if_pos (by omega)])
    have hm : i % 3 < 3 := Nat.mod_lt _ (by omega)
    have hd := Nat.div_add_mod i 3
    have key : (rcs_ (List.replicate n z62))[i]? = some (.int .i64 0) := by
      have : i % 3 = 0 ∨ i % 3 = 1 ∨ i % 3 = 2 := by omega
      rcases this with h | h | h
      · rw [show i = i / 3 * 3 by omega]; exact e0
      · rw [show i = i / 3 * 3 + 1 by omega]; exact e1
      · rw [show i = i / 3 * 3 + 2 by omega]; exact e2
    have k2 : (rcs_ (List.replicate n z62)).toArray[i] = .int .i64 0 := by
      obtain ⟨hl, he⟩ := List.getElem?_eq_some_iff.mp key
      simpa using he
    rw [k2]
    have : i % 3 = 0 ∨ i % 3 = 1 ∨ i % 3 = 2 := by omega
    rcases this with h | h | h <;> simp [madeCells, h]
theorem mk4_ (n : Nat) (hn : n ≤ 40) (w : World) : (Instr.makeSlice 81 (.int .i64 n) (.int .i64 n)).run Try.prog w = .ok (.slice (some ⟨w.heap.size, 0, none⟩) n n) (w.alloc (.cells (hcs_ (List.replicate n false)).toArray 4)) := by
  obtain ⟨i0, hi, hz⟩ := Option.map_eq_some_iff.1 info4_
  simp only [Prod.mk.injEq] at hz
  obtain ⟨h0, h1, h2⟩ := hz
  have hr := run_make (P := Try.prog) w 81 4 i0 (.bool false) Try.underlying81 hi h0 .i64 .i64 (n : Int) (n : Int) (by omega) (by omega) (by rw [h2]; omega) (by omega)
  simp only [Int.toNat_natCast] at hr
  rw [h1] at hr
  rw [hr, ← made4_]
  rfl
theorem mk62_ (n : Nat) (hn : n ≤ 40) (w : World) : (Instr.makeSlice 82 (.int .i64 n) (.int .i64 n)).run Try.prog w = .ok (.slice (some ⟨w.heap.size, 0, none⟩) n n) (w.alloc (.cells (rcs_ (List.replicate n z62)).toArray 62)) := by
  obtain ⟨i0, hi, hz⟩ := Option.map_eq_some_iff.1 info62_
  simp only [Prod.mk.injEq] at hz
  obtain ⟨h0, h1, h2⟩ := hz
  have hr := run_make (P := Try.prog) w 82 62 i0 (.agg #[.int .i64 0, .int .i64 0, .int .i64 0]) Try.underlying82 hi h0 .i64 .i64 (n : Int) (n : Int) (by omega) (by omega) (by rw [h2]; omega) (by omega)
  simp only [Int.toNat_natCast] at hr
  rw [h1] at hr
  rw [hr, ← made62_]
  rfl
set_option maxHeartbeats 8000000 in
set_option maxRecDepth 100000 in
theorem New_keeps (d f : Int) (n : Nat) (w : World) (h0 : 0 ≤ d) (h1 : d ≤ 100000) (n0 : 1 ≤ n) (n1 : n ≤ 40) (f0 : 0 ≤ f) (f1 : 2 * f < n) :
    Calls Try.prog 17 #[.int .i64 d, .int .i64 (n : Int), .int .i64 f] w fun e w' => ∃ g : Nat, e = .returned (.tuple #[.pointer (some ⟨g, 0, none⟩), .int .i64 0]) ∧ Keeps_ w.heap.size w' g d f 0 (List.replicate n false) (List.replicate n z62) ∧ Below w.heap.size w w' := by
  have hu84 := Try.underlying84
  have w1 : wrap64 (2 * f) = 2 * f := wrap_in_ (by omega) (by omega)
  have c1 : decide (d < 0) = false := decide_eq_false (by omega)
  have c2 : decide (100000 < d) = false := decide_eq_false (by omega)
  have c3 : decide ((n : Int) < 1) = false := decide_eq_false (by omega)
  have c4 : decide (40 < (n : Int)) = false := decide_eq_false (by omega)
  have c5 : decide (f < 0) = false := decide_eq_false (by omega)
  have c6 : decide ((n : Int) ≤ f) = false := decide_eq_false (by omega)
  have c7 : decide ((n : Int) ≤ 2 * f) = false := decide_eq_false (by omega)
  go_enter Try.func17, Try.ntmps17
  go_wp2_with fail
  have m4 := mk4_ n n1
  have m62 := mk62_ n n1
  go_region
  · go_wp2
    go_ret2
    refine ⟨w.heap.size + 1 + 1, rfl, ⟨w.heap.size, w.heap.size + 1, by omega, by omega, by omega, by omega, by omega, by omega, ?_, ?_, ?_⟩, ?_⟩
    · have h_ := blk_new ((w.alloc (.cells (hcs_ (List.replicate n false)).toArray 4)).alloc (.cells (rcs_ (List.replicate n z62)).toArray 62)) (.cells #[.int .i64 d, .int .i64 f, .int .i64 0, .slice (some ⟨w.heap.size, 0, none⟩) n n, .slice (some ⟨w.heap.size + 1, 0, none⟩) n n] 84)
      exact blk_drew (by simpa using h_)
    · exact blk_alloc (blk_alloc (blk_new w _) _) _
    · refine blk_alloc ?_ _
      have h_ := blk_new (w.alloc (.cells (hcs_ (List.replicate n false)).toArray 4)) (.cells (rcs_ (List.replicate n z62)).toArray 62)
      simpa using h_
    · exact below_drew (below_alloc (below_alloc (below_alloc (Below.refl _ w) _) _) _)
  · go_wp2
    go_ret2
    refine ⟨w.heap.size + 1 + 1, rfl, ⟨w.heap.size + 1, w.heap.size, by omega, by omega, by omega, by omega, by omega, by omega, ?_, ?_, ?_⟩, ?_⟩
    · have h_ := blk_new ((w.alloc (.cells (rcs_ (List.replicate n z62)).toArray 62)).alloc (.cells (hcs_ (List.replicate n false)).toArray 4)) (.cells #[.int .i64 d, .int .i64 f, .int .i64 0, .slice (some ⟨w.heap.size + 1, 0, none⟩) n n, .slice (some ⟨w.heap.size, 0, none⟩) n n] 84)
      exact blk_drew (by simpa using h_)
    · refine blk_alloc ?_ _
      have h_ := blk_new (w.alloc (.cells (rcs_ (List.replicate n z62)).toArray 62)) (.cells (hcs_ (List.replicate n false)).toArray 4)
      simpa using h_
    · exact blk_alloc (blk_alloc (blk_new w _) _) _
    · exact below_drew (below_alloc (below_alloc (below_alloc (Below.refl _ w) _) _) _)

end Go.Proofs.Ytoecglgbmhhdnaa.JD
