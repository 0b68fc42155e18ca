/-
  No cell of these rows narrows 'for every input' (looked for: loops, veiled, ifaces, maps, wideKeys, modest, calm, conditions, laid).
  DERIVED. THE GIVEN ROWS OF THIS SEAT. 8 by the template 'for every input the law returns true; each argument reads behind the call as it read before'; 0 by the template 'total and deterministic' (their statements: YtemkeciekgdkeaaTotals.lean).
  GIVEN WITH THE SEED: the statements are not yours to turn. If you find one false, say at which input.
  Laid BY PROGRAM, IN A SANDBOX (cutbox-rows.mjs): the forced cells as the released guide's own fill.sh prints them over the translation e0be0a39c8797166… (all of the seat's roots in one cut). By AI agents, Wed Nov 11 2026. No macro, syntax, notation, axiom, sorry.
-/
import Derived.Test.YtemkeciekgdkeaaChecked
import GoSem.Claim
import GoSem.ClaimJoined
import GoSem.ClaimMapViews
import Derived.JoinedTies
import Derived.KernelRfl
namespace Go.Proofs.Ytemkeciekgdkeaa
/- THE CELL 'sum', in the pinned program and in every row, IS THE sha256 OF THE DUMP (.gsa) THAT YtemkeciekgdkeaaProg.lean LOADS. Nothing in Lean hashes anything: it is a label: what it is worth is what the hold of that sum in a sandbox is worth. -/
noncomputable def Try.pinned : Pinned := { name := "ytemkeciekgdkeaa", sum := "e0be0a39c87971662d0a6ac464a87eea85e4680135e787e71d65ac3e5bb45b11", checked := Try.checked }
namespace Rows
def none {H : Type} : Left H := { results := [], args := [] }

/-- 'ephemeriskeep2.PhasesInOrder': WHATEVER THE INPUT: true; the input reads as it did. -/
def phasesInOrderSpec : ChangeSpec := { name := "phasesInOrder", fn := fun _ => fun
  | [d] => { results := [.lit (.bool true)], args := [d] }
  | _ => none }
def phasesInOrderRow : OpenClaim := { program := "ytemkeciekgdkeaa", sum := "e0be0a39c87971662d0a6ac464a87eea85e4680135e787e71d65ac3e5bb45b11", func := "ephemeris/ephemeriskeep2.PhasesInOrder", spec := "phasesInOrder", unfollowed := true, recurses := true, apart := false }
def PhasesInOrderSaid : Prop := phasesInOrderRow.holds Try.pinned (OpenSpec.ofChange phasesInOrderSpec)

/-- ITS FALSE NEIGHBOUR: 'it returns false'. Refute it at one input. -/
def phasesInOrderWrong : ChangeSpec := { name := "phasesInOrder", fn := fun _ => fun
  | [d] => { results := [.lit (.bool false)], args := [d] }
  | _ => none }
def PhasesInOrderWrongFalsely : Prop := phasesInOrderRow.holds Try.pinned (OpenSpec.ofChange phasesInOrderWrong)

/-- 'ephemeriskeep2.PhaseNumbersGrow': WHATEVER THE INPUT: true; the input reads as it did. -/
def phaseNumbersGrowSpec : ChangeSpec := { name := "phaseNumbersGrow", fn := fun _ => fun
  | [d1, d2] => { results := [.lit (.bool true)], args := [d1, d2] }
  | _ => none }
def phaseNumbersGrowRow : OpenClaim := { program := "ytemkeciekgdkeaa", sum := "e0be0a39c87971662d0a6ac464a87eea85e4680135e787e71d65ac3e5bb45b11", func := "ephemeris/ephemeriskeep2.PhaseNumbersGrow", spec := "phaseNumbersGrow", unfollowed := true, recurses := true, apart := false }
def PhaseNumbersGrowSaid : Prop := phaseNumbersGrowRow.holds Try.pinned (OpenSpec.ofChange phaseNumbersGrowSpec)

/-- ITS FALSE NEIGHBOUR: 'it returns false'. Refute it at one input. -/
def phaseNumbersGrowWrong : ChangeSpec := { name := "phaseNumbersGrow", fn := fun _ => fun
  | [d1, d2] => { results := [.lit (.bool false)], args := [d1, d2] }
  | _ => none }
def PhaseNumbersGrowWrongFalsely : Prop := phaseNumbersGrowRow.holds Try.pinned (OpenSpec.ofChange phaseNumbersGrowWrong)

/-- 'ephemeriskeep2.PhaseLight': WHATEVER THE INPUT: true; the input reads as it did. -/
def phaseLightSpec : ChangeSpec := { name := "phaseLight", fn := fun _ => fun
  | [d1, d2] => { results := [.lit (.bool true)], args := [d1, d2] }
  | _ => none }
def phaseLightRow : OpenClaim := { program := "ytemkeciekgdkeaa", sum := "e0be0a39c87971662d0a6ac464a87eea85e4680135e787e71d65ac3e5bb45b11", func := "ephemeris/ephemeriskeep2.PhaseLight", spec := "phaseLight", unfollowed := true, recurses := true, apart := false }
def PhaseLightSaid : Prop := phaseLightRow.holds Try.pinned (OpenSpec.ofChange phaseLightSpec)

/-- ITS FALSE NEIGHBOUR: 'it returns false'. Refute it at one input. -/
def phaseLightWrong : ChangeSpec := { name := "phaseLight", fn := fun _ => fun
  | [d1, d2] => { results := [.lit (.bool false)], args := [d1, d2] }
  | _ => none }
def PhaseLightWrongFalsely : Prop := phaseLightRow.holds Try.pinned (OpenSpec.ofChange phaseLightWrong)

/-- 'ephemeriskeep2.SeasonsInOrder': WHATEVER THE INPUT: true; the input reads as it did. -/
def seasonsInOrderSpec : ChangeSpec := { name := "seasonsInOrder", fn := fun _ => fun
  | [d] => { results := [.lit (.bool true)], args := [d] }
  | _ => none }
def seasonsInOrderRow : OpenClaim := { program := "ytemkeciekgdkeaa", sum := "e0be0a39c87971662d0a6ac464a87eea85e4680135e787e71d65ac3e5bb45b11", func := "ephemeris/ephemeriskeep2.SeasonsInOrder", spec := "seasonsInOrder", unfollowed := true, recurses := true, apart := false }
def SeasonsInOrderSaid : Prop := seasonsInOrderRow.holds Try.pinned (OpenSpec.ofChange seasonsInOrderSpec)

/-- ITS FALSE NEIGHBOUR: 'it returns false'. Refute it at one input. -/
def seasonsInOrderWrong : ChangeSpec := { name := "seasonsInOrder", fn := fun _ => fun
  | [d] => { results := [.lit (.bool false)], args := [d] }
  | _ => none }
def SeasonsInOrderWrongFalsely : Prop := seasonsInOrderRow.holds Try.pinned (OpenSpec.ofChange seasonsInOrderWrong)

/-- 'ephemeriskeep2.SeasonYears': WHATEVER THE INPUT: true; the input reads as it did. -/
def seasonYearsSpec : ChangeSpec := { name := "seasonYears", fn := fun _ => fun
  | [d1, d2] => { results := [.lit (.bool true)], args := [d1, d2] }
  | _ => none }
def seasonYearsRow : OpenClaim := { program := "ytemkeciekgdkeaa", sum := "e0be0a39c87971662d0a6ac464a87eea85e4680135e787e71d65ac3e5bb45b11", func := "ephemeris/ephemeriskeep2.SeasonYears", spec := "seasonYears", unfollowed := true, recurses := true, apart := false }
def SeasonYearsSaid : Prop := seasonYearsRow.holds Try.pinned (OpenSpec.ofChange seasonYearsSpec)

/-- ITS FALSE NEIGHBOUR: 'it returns false'. Refute it at one input. -/
def seasonYearsWrong : ChangeSpec := { name := "seasonYears", fn := fun _ => fun
  | [d1, d2] => { results := [.lit (.bool false)], args := [d1, d2] }
  | _ => none }
def SeasonYearsWrongFalsely : Prop := seasonYearsRow.holds Try.pinned (OpenSpec.ofChange seasonYearsWrong)

/-- 'ephemeriskeep2.SharpenMeets': WHATEVER THE INPUT: true; the input reads as it did. -/
def sharpenMeetsSpec : ChangeSpec := { name := "sharpenMeets", fn := fun _ => fun
  | [d1, d2, d3, d4] => { results := [.lit (.bool true)], args := [d1, d2, d3, d4] }
  | _ => none }
def sharpenMeetsRow : OpenClaim := { program := "ytemkeciekgdkeaa", sum := "e0be0a39c87971662d0a6ac464a87eea85e4680135e787e71d65ac3e5bb45b11", func := "ephemeris/ephemeriskeep2.SharpenMeets", spec := "sharpenMeets", unfollowed := true, recurses := true, apart := false }
def SharpenMeetsSaid : Prop := sharpenMeetsRow.holds Try.pinned (OpenSpec.ofChange sharpenMeetsSpec)

/-- ITS FALSE NEIGHBOUR: 'it returns false'. Refute it at one input. -/
def sharpenMeetsWrong : ChangeSpec := { name := "sharpenMeets", fn := fun _ => fun
  | [d1, d2, d3, d4] => { results := [.lit (.bool false)], args := [d1, d2, d3, d4] }
  | _ => none }
def SharpenMeetsWrongFalsely : Prop := sharpenMeetsRow.holds Try.pinned (OpenSpec.ofChange sharpenMeetsWrong)

/-- 'ephemeriskeep2.SunYears': WHATEVER THE INPUT: true; the input reads as it did. -/
def sunYearsSpec : ChangeSpec := { name := "sunYears", fn := fun _ => fun
  | [d1, d2] => { results := [.lit (.bool true)], args := [d1, d2] }
  | _ => none }
def sunYearsRow : OpenClaim := { program := "ytemkeciekgdkeaa", sum := "e0be0a39c87971662d0a6ac464a87eea85e4680135e787e71d65ac3e5bb45b11", func := "ephemeris/ephemeriskeep2.SunYears", spec := "sunYears", apart := false }
def SunYearsSaid : Prop := sunYearsRow.holds Try.pinned (OpenSpec.ofChange sunYearsSpec)

/-- ITS FALSE NEIGHBOUR: 'it returns false'. Refute it at one input. -/
def sunYearsWrong : ChangeSpec := { name := "sunYears", fn := fun _ => fun
  | [d1, d2] => { results := [.lit (.bool false)], args := [d1, d2] }
  | _ => none }
def SunYearsWrongFalsely : Prop := sunYearsRow.holds Try.pinned (OpenSpec.ofChange sunYearsWrong)

/-- 'ephemeriskeep2.MoonTilts': WHATEVER THE INPUT: true; the input reads as it did. -/
def moonTiltsSpec : ChangeSpec := { name := "moonTilts", fn := fun _ => fun
  | [d] => { results := [.lit (.bool true)], args := [d] }
  | _ => none }
def moonTiltsRow : OpenClaim := { program := "ytemkeciekgdkeaa", sum := "e0be0a39c87971662d0a6ac464a87eea85e4680135e787e71d65ac3e5bb45b11", func := "ephemeris/ephemeriskeep2.MoonTilts", spec := "moonTilts", apart := false }
def MoonTiltsSaid : Prop := moonTiltsRow.holds Try.pinned (OpenSpec.ofChange moonTiltsSpec)

/-- ITS FALSE NEIGHBOUR: 'it returns false'. Refute it at one input. -/
def moonTiltsWrong : ChangeSpec := { name := "moonTilts", fn := fun _ => fun
  | [d] => { results := [.lit (.bool false)], args := [d] }
  | _ => none }
def MoonTiltsWrongFalsely : Prop := moonTiltsRow.holds Try.pinned (OpenSpec.ofChange moonTiltsWrong)

/- THE SECOND FORM. 'bulk': how many values and letters a reading holds, each counted each time it is reached (what is shared counts as often as it is met; a slice's spare places count too). A statement '..UptoSaid' is the law's where the arguments, and the package variables that the reading takes, are together of bulk at most 1048576: NARROWER than '..Said'. Prove '..Said' where nothing that the law and all that it calls make is longer than what came in: it says more and counts as full. Else prove '..UptoSaid'. A law counts once. -/
mutual
def uptoBulk {H : Type} : DataW H → Nat
  | .lit (.string bytes) => bytes.length + 1
  | .lit _ => 1
  | .nil => 1
  | .ptr d => uptoBulk d + 1
  | .slice elems spare => uptoBulkAll elems + uptoBulkAll spare + 1
  | .agg parts => uptoBulkAll parts + 1
  | .iface _ d => uptoBulk d + 1
  | .map entries => uptoBulkEntries entries + 1
  | .held _ => 1
def uptoBulkAll {H : Type} : List (DataW H) → Nat
  | [] => 0
  | d :: r => uptoBulk d + uptoBulkAll r
def uptoBulkEntries {H : Type} : List (Lit × DataW H) → Nat
  | [] => 0
  | x :: r => uptoBulkEntry x + uptoBulkEntries r
def uptoBulkEntry {H : Type} : Lit × DataW H → Nat
  | (.string bytes, d) => bytes.length + uptoBulk d + 1
  | (_, d) => uptoBulk d + 1
 end
def uptoSmall : (H : Type) → List (DataW H) → Bool := fun _ ds => decide (uptoBulkAll ds ≤ 1048576)
def OpenSpec.upto (s : _root_.Go.ChangeSpec) : _root_.Go.OpenSpec := { _root_.Go.OpenSpec.ofChange s with cond := some uptoSmall }

/-- 'ephemeriskeep2.PhasesInOrder', WHERE WHAT IT READS IS OF BULK AT MOST 1048576: true; the input reads as it did. -/
def phasesInOrderUptoRow : OpenClaim := { program := "ytemkeciekgdkeaa", sum := "e0be0a39c87971662d0a6ac464a87eea85e4680135e787e71d65ac3e5bb45b11", func := "ephemeris/ephemeriskeep2.PhasesInOrder", spec := "phasesInOrder", unfollowed := true, recurses := true, apart := false, narrowed := true }
def PhasesInOrderUptoSaid : Prop := phasesInOrderUptoRow.holds Try.pinned (OpenSpec.upto phasesInOrderSpec)

/-- 'ephemeriskeep2.PhaseNumbersGrow', WHERE WHAT IT READS IS OF BULK AT MOST 1048576: true; the input reads as it did. -/
def phaseNumbersGrowUptoRow : OpenClaim := { program := "ytemkeciekgdkeaa", sum := "e0be0a39c87971662d0a6ac464a87eea85e4680135e787e71d65ac3e5bb45b11", func := "ephemeris/ephemeriskeep2.PhaseNumbersGrow", spec := "phaseNumbersGrow", unfollowed := true, recurses := true, apart := false, narrowed := true }
def PhaseNumbersGrowUptoSaid : Prop := phaseNumbersGrowUptoRow.holds Try.pinned (OpenSpec.upto phaseNumbersGrowSpec)

/-- 'ephemeriskeep2.PhaseLight', WHERE WHAT IT READS IS OF BULK AT MOST 1048576: true; the input reads as it did. -/
def phaseLightUptoRow : OpenClaim := { program := "ytemkeciekgdkeaa", sum := "e0be0a39c87971662d0a6ac464a87eea85e4680135e787e71d65ac3e5bb45b11", func := "ephemeris/ephemeriskeep2.PhaseLight", spec := "phaseLight", unfollowed := true, recurses := true, apart := false, narrowed := true }
def PhaseLightUptoSaid : Prop := phaseLightUptoRow.holds Try.pinned (OpenSpec.upto phaseLightSpec)

/-- 'ephemeriskeep2.SeasonsInOrder', WHERE WHAT IT READS IS OF BULK AT MOST 1048576: true; the input reads as it did. -/
def seasonsInOrderUptoRow : OpenClaim := { program := "ytemkeciekgdkeaa", sum := "e0be0a39c87971662d0a6ac464a87eea85e4680135e787e71d65ac3e5bb45b11", func := "ephemeris/ephemeriskeep2.SeasonsInOrder", spec := "seasonsInOrder", unfollowed := true, recurses := true, apart := false, narrowed := true }
def SeasonsInOrderUptoSaid : Prop := seasonsInOrderUptoRow.holds Try.pinned (OpenSpec.upto seasonsInOrderSpec)

/-- 'ephemeriskeep2.SeasonYears', WHERE WHAT IT READS IS OF BULK AT MOST 1048576: true; the input reads as it did. -/
def seasonYearsUptoRow : OpenClaim := { program := "ytemkeciekgdkeaa", sum := "e0be0a39c87971662d0a6ac464a87eea85e4680135e787e71d65ac3e5bb45b11", func := "ephemeris/ephemeriskeep2.SeasonYears", spec := "seasonYears", unfollowed := true, recurses := true, apart := false, narrowed := true }
def SeasonYearsUptoSaid : Prop := seasonYearsUptoRow.holds Try.pinned (OpenSpec.upto seasonYearsSpec)

/-- 'ephemeriskeep2.SharpenMeets', WHERE WHAT IT READS IS OF BULK AT MOST 1048576: true; the input reads as it did. -/
def sharpenMeetsUptoRow : OpenClaim := { program := "ytemkeciekgdkeaa", sum := "e0be0a39c87971662d0a6ac464a87eea85e4680135e787e71d65ac3e5bb45b11", func := "ephemeris/ephemeriskeep2.SharpenMeets", spec := "sharpenMeets", unfollowed := true, recurses := true, apart := false, narrowed := true }
def SharpenMeetsUptoSaid : Prop := sharpenMeetsUptoRow.holds Try.pinned (OpenSpec.upto sharpenMeetsSpec)

/-- 'ephemeriskeep2.SunYears', WHERE WHAT IT READS IS OF BULK AT MOST 1048576: true; the input reads as it did. -/
def sunYearsUptoRow : OpenClaim := { program := "ytemkeciekgdkeaa", sum := "e0be0a39c87971662d0a6ac464a87eea85e4680135e787e71d65ac3e5bb45b11", func := "ephemeris/ephemeriskeep2.SunYears", spec := "sunYears", apart := false, narrowed := true }
def SunYearsUptoSaid : Prop := sunYearsUptoRow.holds Try.pinned (OpenSpec.upto sunYearsSpec)

/-- 'ephemeriskeep2.MoonTilts', WHERE WHAT IT READS IS OF BULK AT MOST 1048576: true; the input reads as it did. -/
def moonTiltsUptoRow : OpenClaim := { program := "ytemkeciekgdkeaa", sum := "e0be0a39c87971662d0a6ac464a87eea85e4680135e787e71d65ac3e5bb45b11", func := "ephemeris/ephemeriskeep2.MoonTilts", spec := "moonTilts", apart := false, narrowed := true }
def MoonTiltsUptoSaid : Prop := moonTiltsUptoRow.holds Try.pinned (OpenSpec.upto moonTiltsSpec)

end Rows
end Go.Proofs.Ytemkeciekgdkeaa
