/-
  No cell of these rows narrows 'for every input' (looked for: loops, veiled, ifaces, maps, wideKeys, modest, calm, conditions, laid).
  DERIVED. THE GIVEN ROWS OF THIS SEAT. 3 by the template 'for every input the law returns true; each argument reads behind the call as it read before'; 0 by the template 'total and deterministic' (their statements: YtemfkcdhkmmbeaaTotals.lean).
  GIVEN WITH THE SEED: the statements are not yours to turn. If you find one false, say at which input.
  Laid BY PROGRAM, IN A SANDBOX (cutbox-rows.mjs): the forced cells as the released guide's own fill.sh prints them over the translation 2038ca00912681cf… (all of the seat's roots in one cut). By AI agents, Wed Nov 11 2026. No macro, syntax, notation, axiom, sorry.
-/
import Derived.Test.YtemfkcdhkmmbeaaChecked
import GoSem.Claim
import GoSem.ClaimJoined
import GoSem.ClaimMapViews
import Derived.JoinedTies
import Derived.KernelRfl
namespace Go.Proofs.Ytemfkcdhkmmbeaa
/- THE CELL 'sum', in the pinned program and in every row, IS THE sha256 OF THE DUMP (.gsa) THAT YtemfkcdhkmmbeaaProg.lean LOADS. Nothing in Lean hashes anything: it is a label: what it is worth is what the hold of that sum in a sandbox is worth. -/
noncomputable def Try.pinned : Pinned := { name := "ytemfkcdhkmmbeaa", sum := "2038ca00912681cfc7b2dc1e0ab1be83c2cbc05d8954938d3f261cec5ff5edc8", checked := Try.checked }
namespace Rows
def none {H : Type} : Left H := { results := [], args := [] }

/-- 'ephemeriskeep2.SeriesAdds': WHATEVER THE INPUT: true; the input reads as it did. -/
def seriesAddsSpec : ChangeSpec := { name := "seriesAdds", fn := fun _ => fun
  | [d1, d2, d3] => { results := [.lit (.bool true)], args := [d1, d2, d3] }
  | _ => none }
def seriesAddsRow : OpenClaim := { program := "ytemfkcdhkmmbeaa", sum := "2038ca00912681cfc7b2dc1e0ab1be83c2cbc05d8954938d3f261cec5ff5edc8", func := "ephemeris/ephemeriskeep2.SeriesAdds", spec := "seriesAdds", apart := false }
def SeriesAddsSaid : Prop := seriesAddsRow.holds Try.pinned (OpenSpec.ofChange seriesAddsSpec)

/-- ITS FALSE NEIGHBOUR: 'it returns false'. Refute it at one input. -/
def seriesAddsWrong : ChangeSpec := { name := "seriesAdds", fn := fun _ => fun
  | [d1, d2, d3] => { results := [.lit (.bool false)], args := [d1, d2, d3] }
  | _ => none }
def SeriesAddsWrongFalsely : Prop := seriesAddsRow.holds Try.pinned (OpenSpec.ofChange seriesAddsWrong)

/-- 'ephemeriskeep2.PlaceShifts': WHATEVER THE INPUT: true; the input reads as it did. -/
def placeShiftsSpec : ChangeSpec := { name := "placeShifts", fn := fun _ => fun
  | [d1, d2, d3] => { results := [.lit (.bool true)], args := [d1, d2, d3] }
  | _ => none }
def placeShiftsRow : OpenClaim := { program := "ytemfkcdhkmmbeaa", sum := "2038ca00912681cfc7b2dc1e0ab1be83c2cbc05d8954938d3f261cec5ff5edc8", func := "ephemeris/ephemeriskeep2.PlaceShifts", spec := "placeShifts", apart := false }
def PlaceShiftsSaid : Prop := placeShiftsRow.holds Try.pinned (OpenSpec.ofChange placeShiftsSpec)

/-- ITS FALSE NEIGHBOUR: 'it returns false'. Refute it at one input. -/
def placeShiftsWrong : ChangeSpec := { name := "placeShifts", fn := fun _ => fun
  | [d1, d2, d3] => { results := [.lit (.bool false)], args := [d1, d2, d3] }
  | _ => none }
def PlaceShiftsWrongFalsely : Prop := placeShiftsRow.holds Try.pinned (OpenSpec.ofChange placeShiftsWrong)

/-- 'ephemeriskeep2.TrigInverts': WHATEVER THE INPUT: true; the input reads as it did. -/
def trigInvertsSpec : ChangeSpec := { name := "trigInverts", fn := fun _ => fun
  | [d] => { results := [.lit (.bool true)], args := [d] }
  | _ => none }
def trigInvertsRow : OpenClaim := { program := "ytemfkcdhkmmbeaa", sum := "2038ca00912681cfc7b2dc1e0ab1be83c2cbc05d8954938d3f261cec5ff5edc8", func := "ephemeris/ephemeriskeep2.TrigInverts", spec := "trigInverts", apart := false }
def TrigInvertsSaid : Prop := trigInvertsRow.holds Try.pinned (OpenSpec.ofChange trigInvertsSpec)

/-- ITS FALSE NEIGHBOUR: 'it returns false'. Refute it at one input. -/
def trigInvertsWrong : ChangeSpec := { name := "trigInverts", fn := fun _ => fun
  | [d] => { results := [.lit (.bool false)], args := [d] }
  | _ => none }
def TrigInvertsWrongFalsely : Prop := trigInvertsRow.holds Try.pinned (OpenSpec.ofChange trigInvertsWrong)

/- THE SECOND FORM. 'bulk': how many values and letters a reading holds, each counted each time it is reached (what is shared counts as often as it is met; a slice's spare places count too). A statement '..UptoSaid' is the law's where the arguments, and the package variables that the reading takes, are together of bulk at most 1048576: NARROWER than '..Said'. Prove '..Said' where nothing that the law and all that it calls make is longer than what came in: it says more and counts as full. Else prove '..UptoSaid'. A law counts once. -/
mutual
def uptoBulk {H : Type} : DataW H → Nat
  | .lit (.string bytes) => bytes.length + 1
  | .lit _ => 1
  | .nil => 1
  | .ptr d => uptoBulk d + 1
  | .slice elems spare => uptoBulkAll elems + uptoBulkAll spare + 1
  | .agg parts => uptoBulkAll parts + 1
  | .iface _ d => uptoBulk d + 1
  | .map entries => uptoBulkEntries entries + 1
  | .held _ => 1
def uptoBulkAll {H : Type} : List (DataW H) → Nat
  | [] => 0
  | d :: r => uptoBulk d + uptoBulkAll r
def uptoBulkEntries {H : Type} : List (Lit × DataW H) → Nat
  | [] => 0
  | x :: r => uptoBulkEntry x + uptoBulkEntries r
def uptoBulkEntry {H : Type} : Lit × DataW H → Nat
  | (.string bytes, d) => bytes.length + uptoBulk d + 1
  | (_, d) => uptoBulk d + 1
 end
def uptoSmall : (H : Type) → List (DataW H) → Bool := fun _ ds => decide (uptoBulkAll ds ≤ 1048576)
def OpenSpec.upto (s : _root_.Go.ChangeSpec) : _root_.Go.OpenSpec := { _root_.Go.OpenSpec.ofChange s with cond := some uptoSmall }

/-- 'ephemeriskeep2.SeriesAdds', WHERE WHAT IT READS IS OF BULK AT MOST 1048576: true; the input reads as it did. -/
def seriesAddsUptoRow : OpenClaim := { program := "ytemfkcdhkmmbeaa", sum := "2038ca00912681cfc7b2dc1e0ab1be83c2cbc05d8954938d3f261cec5ff5edc8", func := "ephemeris/ephemeriskeep2.SeriesAdds", spec := "seriesAdds", apart := false, narrowed := true }
def SeriesAddsUptoSaid : Prop := seriesAddsUptoRow.holds Try.pinned (OpenSpec.upto seriesAddsSpec)

/-- 'ephemeriskeep2.PlaceShifts', WHERE WHAT IT READS IS OF BULK AT MOST 1048576: true; the input reads as it did. -/
def placeShiftsUptoRow : OpenClaim := { program := "ytemfkcdhkmmbeaa", sum := "2038ca00912681cfc7b2dc1e0ab1be83c2cbc05d8954938d3f261cec5ff5edc8", func := "ephemeris/ephemeriskeep2.PlaceShifts", spec := "placeShifts", apart := false, narrowed := true }
def PlaceShiftsUptoSaid : Prop := placeShiftsUptoRow.holds Try.pinned (OpenSpec.upto placeShiftsSpec)

/-- 'ephemeriskeep2.TrigInverts', WHERE WHAT IT READS IS OF BULK AT MOST 1048576: true; the input reads as it did. -/
def trigInvertsUptoRow : OpenClaim := { program := "ytemfkcdhkmmbeaa", sum := "2038ca00912681cfc7b2dc1e0ab1be83c2cbc05d8954938d3f261cec5ff5edc8", func := "ephemeris/ephemeriskeep2.TrigInverts", spec := "trigInverts", apart := false, narrowed := true }
def TrigInvertsUptoSaid : Prop := trigInvertsUptoRow.holds Try.pinned (OpenSpec.upto trigInvertsSpec)

end Rows
end Go.Proofs.Ytemfkcdhkmmbeaa
