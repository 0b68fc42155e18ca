/- The constraints of the laws over several layers (sEvents) are permitted and satisfied by the days. No condition on a program. -/
import Derived.Test.YtoecglgbmhhdnaaJEx2
import Derived.Test.YtoecglgbmhhdnaaJEx2
import Derived.Test.YtoecglgbmhhdnaaChronAll
namespace Go.Proofs.Ytoecglgbmhhdnaa.JE
open Go.Proofs.Ytoecglgbmhhdnaa.Own Go.Proofs.Ytoecglgbmhhdnaa.Fw Go.RowKit Go.Proofs.YtoecglgbmhhdnaaW.PrintWords Go.Proofs.YtoecglgbmhhdnaaW.PrintLast
variable {n : Nat} {D : Nat → Int}
theorem at_f {a m : Int} (h : 0 < m) (h' : m ≤ 4000000000000000000) : ephemeristop_sAt.f a m = some (a % m) := by
  unfold ephemeristop_sAt.f
  rw [if_neg (by omega), at_val h h']

/-- the days of the statements -/
def dy (days : List Int) (i : Nat) : Int := Int.tmod (rd days i) 10000
theorem dy_b (days : List Int) (i : Nat) : -10000 ≤ dy days i ∧ dy days i ≤ 10000 := by
  have := tmod_lt (a := rd days i) (m := 10000) (by omega)
  unfold dy; omega

theorem events_loop {days : List Int} {l : List Bd} (hn : n ≤ 8) (hnd : n ≤ days.length) (hd : days.length ≤ 1000000000000000) (hl : l.length ≤ 9223372036854775807) : ∀ (rest : List Bd) (i : Nat) (acc : List Bd), l.drop i = rest → (∀ x ∈ acc, Sat n (dy days) x) → acc.length ≤ i → i ≤ 20 →
    ∃ L, Goes (fun k => ephemeristop_sEvents.l0 k days n acc l l.length (i : Int)) ((n : Int), L) ∧ (∀ x ∈ L, Sat n (dy days) x) ∧ L.length ≤ 20
  | [], i, acc, hdr, ha, hi, h20 => by
    have := List.drop_eq_nil_iff.1 hdr
    refine ⟨acc, ⟨1, fun k hk => ?_⟩, ha, by omega⟩
    obtain ⟨m, rfl⟩ : ∃ m, k = m + 1 := ⟨k - 1, by omega⟩
    simp only [ephemeristop_sEvents.l0]
    rw [if_neg (by omega)]
  | x :: rest, i, acc, hdr, ha, hi, h20 => by
    obtain ⟨hil, hx, hdr'⟩ := drop_rd hdr
    by_cases c : (i : Int) = 20 ∨ n < 2
    · refine ⟨acc, ⟨2, fun k hk => ?_⟩, ha, by omega⟩
      obtain ⟨m, rfl⟩ : ∃ m, k = m + 2 := ⟨k - 2, by omega⟩
      simp only [ephemeristop_sEvents.l0]
      rw [if_pos (by omega), if_pos (by omega), if_pos (by omega)]
      by_cases c1 : (i : Int) = 20
      · rw [if_pos c1]; simp only [ephemeristop_sEvents.j1, if_true]
      · rw [if_neg c1, decide_eq_true (by omega)]; simp only [ephemeristop_sEvents.j1, if_true]
    · have e1 : 0 ≤ x.f0 % n ∧ x.f0 % n < n := ⟨Int.emod_nonneg _ (by omega), Int.emod_lt_of_pos _ (by omega)⟩
      have e2 : 0 ≤ x.f1 % ((n : Int) - 1) ∧ x.f1 % ((n : Int) - 1) < n - 1 := ⟨Int.emod_nonneg _ (by omega), Int.emod_lt_of_pos _ (by omega)⟩
      have e3 : 0 ≤ x.f2 % 50 ∧ x.f2 % 50 < 50 := by omega
      have e4 : 0 ≤ x.f3 % 50 ∧ x.f3 % 50 < 50 := by omega
      obtain ⟨a, ea⟩ : ∃ a : Nat, x.f0 % n = a := ⟨(x.f0 % n).toNat, by omega⟩
      obtain ⟨t, et⟩ : ∃ t : Int, x.f1 % ((n : Int) - 1) = t := ⟨_, rfl⟩
      obtain ⟨b, eb⟩ : ∃ b : Nat, Int.tmod ((a : Int) + 1 + t) n = b := ⟨(Int.tmod ((a : Int) + 1 + t) n).toNat, by rw [tmod_nn (by omega)]; have := Int.emod_nonneg ((a : Int) + 1 + t) (show (n : Int) ≠ 0 by omega); omega⟩
      have eb' : (b : Int) = if (a : Int) + 1 + t < n then (a : Int) + 1 + t else (a : Int) + 1 + t - n := by
        rw [← eb, tmod_nn (by omega)]
        split
        · exact Int.emod_eq_of_lt (by omega) (by omega)
        · rw [← Int.sub_emod_right]
          exact Int.emod_eq_of_lt (by omega) (by omega)
      have da := dy_b days a
      have db := dy_b days b
      have sat : Sat n (dy days) ⟨a, b, dy days b - dy days a - x.f2 % 50, dy days b - dy days a + x.f3 % 50⟩ :=
        ⟨a, b, ⟨by omega, by split at eb' <;> omega, by split at eb' <;> omega, rfl, rfl, by show _ ≤ dy days b - dy days a - x.f2 % 50; omega, by show dy days b - dy days a - x.f2 % 50 ≤ dy days b - dy days a + x.f3 % 50; omega, by show dy days b - dy days a + x.f3 % 50 ≤ _; omega⟩,
          by show dy days b - dy days a - x.f2 % 50 ≤ _; omega, by show _ ≤ dy days b - dy days a + x.f3 % 50; omega, by show _ ≤ dy days b - dy days a - x.f2 % 50; omega, by show dy days b - dy days a + x.f3 % 50 ≤ _; omega⟩
      obtain ⟨L, g1, g2, g3⟩ := events_loop hn hnd hd hl rest (i + 1) (acc ++ [⟨a, b, dy days b - dy days a - x.f2 % 50, dy days b - dy days a + x.f3 % 50⟩]) hdr' (fun y hy => by
        rcases List.mem_append.1 hy with e | e
        · exact ha y e
        · simp only [List.mem_singleton] at e; subst e; exact sat) (by simp; omega) (by omega)
      refine ⟨L, Goes.step (g := fun k => ephemeristop_sEvents.j1 k days n acc l l.length (i : Int) false x.f0 x.f1 x.f2 x.f3) (fun k => ?_) (Goes.step (fun k => ?_) g1), g2, g3⟩
      · simp only [ephemeristop_sEvents.l0]
        rw [hx, if_pos (by omega), if_pos (by omega), if_pos (by omega), if_neg (by omega), decide_eq_false (by omega)]
      · simp only [ephemeristop_sEvents.j1, Bool.false_eq_true, if_false]
        rw [wrap_in (n := (n : Int) - 1) (by omega) (by omega), at_f (by omega) (by omega), at_f (by omega) (by omega), at_f (by omega) (by omega), at_f (by omega) (by omega), ea, et]
        simp only [Option.bind_some]
        have hbn : (b : Int) < n := by split at eb' <;> omega
        rw [wrap_in (n := (a : Int) + 1) (by omega) (by omega), wrap_in (n := (a : Int) + 1 + t) (by omega) (by omega), eb, if_neg (by omega), if_pos (by omega), if_pos (by omega), if_pos (by omega), if_pos (by omega), if_pos (by omega)]
        have w1 : wrap64 (Int.tmod (rd days b) 10000 - Int.tmod (rd days a) 10000) = dy days b - dy days a := wrap_in (by unfold dy at da db; omega) (by unfold dy at da db; omega)
        rw [w1, wrap_in (n := dy days b - dy days a - x.f2 % 50) (by omega) (by omega), wrap_in (n := dy days b - dy days a + x.f3 % 50) (by omega) (by omega), wrap_in (n := (i : Int) + 1) (by omega) (by omega)]
        rfl

theorem events_goes {days : List Int} {l : List Bd} (hd : days.length ≤ 1000000000000000) (hl : l.length ≤ 9223372036854775807) :
    ∃ L, Goes (fun k => ephemeristop_sEvents.f k days l) (((min days.length 8 : Nat) : Int), L) ∧ (∀ x ∈ L, Sat (min days.length 8) (dy days) x) ∧ L.length ≤ 20 := by
  obtain ⟨L, g1, g2, g3⟩ := events_loop (n := min days.length 8) (days := days) (l := l) (by omega) (by omega) hd hl l 0 [] rfl (fun x h => by cases h) (Nat.le_refl _) (by omega)
  refine ⟨L, Goes.congr (fun k => ?_) g1, g2, g3⟩
  unfold ephemeristop_sEvents.f
  rw [mn_min]
  congr 1
  omega

theorem chron_works : Goes (fun k => ephemeristop_sChron.f k) true := Goes.of_mono (k0 := 300) ephemeristop_sChron.mono (by decide +kernel)

end Go.Proofs.Ytoecglgbmhhdnaa.JE
