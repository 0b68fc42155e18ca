/- The law ContradictLoose: constraints that days satisfy do not contradict each other. No condition. -/
import Derived.Test.YtglpfgkbecgaaaaJCx2
import Derived.Test.YtglpfgkbecgaaaaChronLaw3
namespace Go.Proofs.Ytglpfgkbecgaaaa.Pure
open Go.Proofs.Ytglpfgkbecgaaaa.JC Go.Proofs.Ytglpfgkbecgaaaa.Own Go.Proofs.Ytglpfgkbecgaaaa.Fw Go.RowKit Go.Proofs.YtglpfgkbecgaaaaW.PrintWords Go.Proofs.YtglpfgkbecgaaaaW.PrintLast

theorem con_works : Goes (fun k => ephemeriskeep2_contradictWorks.f k) true := Goes.of_mono (k0 := 300) ephemeriskeep2_contradictWorks.mono (by decide +kernel)

theorem check_none {L : List Bd} (hL : L.length ≤ 40) : Goes (fun k => chron_Check.f k 0 L) 8 := by
  refine Goes.of_mono (k0 := 3) (fun k => chron_Check.mono _ _ _) ?_
  unfold chron_Check.f
  rw [if_neg (by omega)]
  first | (rw [decide_eq_false (by omega)]; rfl) | (simp only [chron_Check.j0]; rfl) | skip

theorem ContradictLoose : ephemeriskeep2_ContradictLoose.Pure := by
  intro days l hd _ _ hl _
  unfold maxLen at hd hl
  obtain ⟨L, e1, e2, e3⟩ := events_goes (days := days) (l := l) (by omega) (by omega)
  obtain ⟨n, hn⟩ : ∃ n, min days.length 8 = n := ⟨_, rfl⟩
  rw [hn] at e1 e2
  have n8 : n ≤ 8 := by omega
  have : Goes (fun k => ephemeriskeep2_ContradictLoose.f k days l) true := by
    unfold ephemeriskeep2_ContradictLoose.f
    refine Goes.bind con_works ?_
    simp only [if_true]
    refine Goes.bind e1 ?_
    by_cases c : n = 0
    · subst c
      have hc := check_none (L := L) (by omega)
      have ht : Goes (fun k => chron_Tightest.f k ((0 : Nat) : Int) L) ([], 8) := by
        unfold chron_Tightest.f
        exact Goes.bind hc (Goes.of (fun k => rfl))
      have hl : Goes (fun k => contradict_Least.f k ((0 : Nat) : Int) L) ([], 8) := by
        unfold contradict_Least.f
        exact Goes.bind ht (Goes.of (fun k => rfl))
      exact Goes.bind hl (Goes.of (fun k => rfl))
    · have g := good n8 (dy_b days) e2
      have ht := tight_good (by omega) n8 (by omega) e2 g
      have hl : Goes (fun k => contradict_Least.f k (n : Int) L) ([], 6) := by
        unfold contradict_Least.f
        exact Goes.bind ht (Goes.of (fun k => rfl))
      refine Goes.bind hl (Goes.of (fun k => ?_))
      dsimp only
      rw [if_neg (by omega)]
      rfl
  obtain ⟨k0, h0⟩ := this
  exact ⟨k0, h0 k0 (Nat.le_refl _)⟩
end Go.Proofs.Ytglpfgkbecgaaaa.Pure
