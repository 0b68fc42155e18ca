/-
  No cell of these rows narrows 'for every input' (looked for: loops, veiled, ifaces, maps, wideKeys, modest, calm, conditions, laid).
  DERIVED. THE GIVEN ROWS OF THIS SEAT. 11 by the template 'for every input the law returns true; each argument reads behind the call as it read before'; 0 by the template 'total and deterministic' (their statements: YtjcpilmecgcooaaTotals.lean).
  GIVEN WITH THE SEED: the statements are not yours to turn. If you find one false, say at which input.
  Laid BY PROGRAM, IN A SANDBOX (cutbox-rows.mjs): the forced cells as the released guide's own fill.sh prints them over the translation 76bbd3756b98eb64… (all of the seat's roots in one cut). By AI agents, Wed Nov 11 2026. No macro, syntax, notation, axiom, sorry.
-/
import Derived.Test.YtjcpilmecgcooaaChecked
import GoSem.Claim
import GoSem.ClaimJoined
import GoSem.ClaimMapViews
import Derived.JoinedTies
import Derived.KernelRfl
namespace Go.Proofs.Ytjcpilmecgcooaa
/- THE CELL 'sum', in the pinned program and in every row, IS THE sha256 OF THE DUMP (.gsa) THAT YtjcpilmecgcooaaProg.lean LOADS. Nothing in Lean hashes anything: it is a label: what it is worth is what the hold of that sum in a sandbox is worth. -/
noncomputable def Try.pinned : Pinned := { name := "ytjcpilmecgcooaa", sum := "76bbd3756b98eb64b0d4f615f9f5bceb4fd45fc29cd6bdea9e1061fd323c087b", checked := Try.checked }
namespace Rows
def none {H : Type} : Left H := { results := [], args := [] }

/-- 'ephemeriskeep2.SeriesAdds': WHATEVER THE INPUT: true; the input reads as it did. -/
def seriesAddsSpec : ChangeSpec := { name := "seriesAdds", fn := fun _ => fun
  | [d1, d2, d3] => { results := [.lit (.bool true)], args := [d1, d2, d3] }
  | _ => none }
def seriesAddsRow : OpenClaim := { program := "ytjcpilmecgcooaa", sum := "76bbd3756b98eb64b0d4f615f9f5bceb4fd45fc29cd6bdea9e1061fd323c087b", func := "ephemeris/ephemeriskeep2.SeriesAdds", spec := "seriesAdds", apart := false }
def SeriesAddsSaid : Prop := seriesAddsRow.holds Try.pinned (OpenSpec.ofChange seriesAddsSpec)

/-- ITS FALSE NEIGHBOUR: 'it returns false'. Refute it at one input. -/
def seriesAddsWrong : ChangeSpec := { name := "seriesAdds", fn := fun _ => fun
  | [d1, d2, d3] => { results := [.lit (.bool false)], args := [d1, d2, d3] }
  | _ => none }
def SeriesAddsWrongFalsely : Prop := seriesAddsRow.holds Try.pinned (OpenSpec.ofChange seriesAddsWrong)

/-- 'ephemeriskeep2.SeriesRests': WHATEVER THE INPUT: true; the input reads as it did. -/
def seriesRestsSpec : ChangeSpec := { name := "seriesRests", fn := fun _ => fun
  | [d1, d2, d3] => { results := [.lit (.bool true)], args := [d1, d2, d3] }
  | _ => none }
def seriesRestsRow : OpenClaim := { program := "ytjcpilmecgcooaa", sum := "76bbd3756b98eb64b0d4f615f9f5bceb4fd45fc29cd6bdea9e1061fd323c087b", func := "ephemeris/ephemeriskeep2.SeriesRests", spec := "seriesRests", apart := false }
def SeriesRestsSaid : Prop := seriesRestsRow.holds Try.pinned (OpenSpec.ofChange seriesRestsSpec)

/-- ITS FALSE NEIGHBOUR: 'it returns false'. Refute it at one input. -/
def seriesRestsWrong : ChangeSpec := { name := "seriesRests", fn := fun _ => fun
  | [d1, d2, d3] => { results := [.lit (.bool false)], args := [d1, d2, d3] }
  | _ => none }
def SeriesRestsWrongFalsely : Prop := seriesRestsRow.holds Try.pinned (OpenSpec.ofChange seriesRestsWrong)

/-- 'ephemeriskeep2.SeriesMoves': WHATEVER THE INPUT: true; the input reads as it did. -/
def seriesMovesSpec : ChangeSpec := { name := "seriesMoves", fn := fun _ => fun
  | [d1, d2, d3] => { results := [.lit (.bool true)], args := [d1, d2, d3] }
  | _ => none }
def seriesMovesRow : OpenClaim := { program := "ytjcpilmecgcooaa", sum := "76bbd3756b98eb64b0d4f615f9f5bceb4fd45fc29cd6bdea9e1061fd323c087b", func := "ephemeris/ephemeriskeep2.SeriesMoves", spec := "seriesMoves", apart := false }
def SeriesMovesSaid : Prop := seriesMovesRow.holds Try.pinned (OpenSpec.ofChange seriesMovesSpec)

/-- ITS FALSE NEIGHBOUR: 'it returns false'. Refute it at one input. -/
def seriesMovesWrong : ChangeSpec := { name := "seriesMoves", fn := fun _ => fun
  | [d1, d2, d3] => { results := [.lit (.bool false)], args := [d1, d2, d3] }
  | _ => none }
def SeriesMovesWrongFalsely : Prop := seriesMovesRow.holds Try.pinned (OpenSpec.ofChange seriesMovesWrong)

/-- 'ephemeriskeep2.MoonGains': WHATEVER THE INPUT: true; the input reads as it did. -/
def moonGainsSpec : ChangeSpec := { name := "moonGains", fn := fun _ => fun
  | [d] => { results := [.lit (.bool true)], args := [d] }
  | _ => none }
def moonGainsRow : OpenClaim := { program := "ytjcpilmecgcooaa", sum := "76bbd3756b98eb64b0d4f615f9f5bceb4fd45fc29cd6bdea9e1061fd323c087b", func := "ephemeris/ephemeriskeep2.MoonGains", spec := "moonGains", apart := false }
def MoonGainsSaid : Prop := moonGainsRow.holds Try.pinned (OpenSpec.ofChange moonGainsSpec)

/-- ITS FALSE NEIGHBOUR: 'it returns false'. Refute it at one input. -/
def moonGainsWrong : ChangeSpec := { name := "moonGains", fn := fun _ => fun
  | [d] => { results := [.lit (.bool false)], args := [d] }
  | _ => none }
def MoonGainsWrongFalsely : Prop := moonGainsRow.holds Try.pinned (OpenSpec.ofChange moonGainsWrong)

/-- 'ephemeriskeep2.TideSums': WHATEVER THE INPUT: true; the input reads as it did. -/
def tideSumsSpec : ChangeSpec := { name := "tideSums", fn := fun _ => fun
  | [d1, d2, d3] => { results := [.lit (.bool true)], args := [d1, d2, d3] }
  | _ => none }
def tideSumsRow : OpenClaim := { program := "ytjcpilmecgcooaa", sum := "76bbd3756b98eb64b0d4f615f9f5bceb4fd45fc29cd6bdea9e1061fd323c087b", func := "ephemeris/ephemeriskeep2.TideSums", spec := "tideSums", apart := false }
def TideSumsSaid : Prop := tideSumsRow.holds Try.pinned (OpenSpec.ofChange tideSumsSpec)

/-- ITS FALSE NEIGHBOUR: 'it returns false'. Refute it at one input. -/
def tideSumsWrong : ChangeSpec := { name := "tideSums", fn := fun _ => fun
  | [d1, d2, d3] => { results := [.lit (.bool false)], args := [d1, d2, d3] }
  | _ => none }
def TideSumsWrongFalsely : Prop := tideSumsRow.holds Try.pinned (OpenSpec.ofChange tideSumsWrong)

/-- 'ephemeriskeep2.TideRepeats': WHATEVER THE INPUT: true; the input reads as it did. -/
def tideRepeatsSpec : ChangeSpec := { name := "tideRepeats", fn := fun _ => fun
  | [d1, d2, d3] => { results := [.lit (.bool true)], args := [d1, d2, d3] }
  | _ => none }
def tideRepeatsRow : OpenClaim := { program := "ytjcpilmecgcooaa", sum := "76bbd3756b98eb64b0d4f615f9f5bceb4fd45fc29cd6bdea9e1061fd323c087b", func := "ephemeris/ephemeriskeep2.TideRepeats", spec := "tideRepeats", apart := false }
def TideRepeatsSaid : Prop := tideRepeatsRow.holds Try.pinned (OpenSpec.ofChange tideRepeatsSpec)

/-- ITS FALSE NEIGHBOUR: 'it returns false'. Refute it at one input. -/
def tideRepeatsWrong : ChangeSpec := { name := "tideRepeats", fn := fun _ => fun
  | [d1, d2, d3] => { results := [.lit (.bool false)], args := [d1, d2, d3] }
  | _ => none }
def TideRepeatsWrongFalsely : Prop := tideRepeatsRow.holds Try.pinned (OpenSpec.ofChange tideRepeatsWrong)

/-- 'ephemeriskeep2.TideTops': WHATEVER THE INPUT: true; the input reads as it did. -/
def tideTopsSpec : ChangeSpec := { name := "tideTops", fn := fun _ => fun
  | [d1, d2, d3] => { results := [.lit (.bool true)], args := [d1, d2, d3] }
  | _ => none }
def tideTopsRow : OpenClaim := { program := "ytjcpilmecgcooaa", sum := "76bbd3756b98eb64b0d4f615f9f5bceb4fd45fc29cd6bdea9e1061fd323c087b", func := "ephemeris/ephemeriskeep2.TideTops", spec := "tideTops", apart := false }
def TideTopsSaid : Prop := tideTopsRow.holds Try.pinned (OpenSpec.ofChange tideTopsSpec)

/-- ITS FALSE NEIGHBOUR: 'it returns false'. Refute it at one input. -/
def tideTopsWrong : ChangeSpec := { name := "tideTops", fn := fun _ => fun
  | [d1, d2, d3] => { results := [.lit (.bool false)], args := [d1, d2, d3] }
  | _ => none }
def TideTopsWrongFalsely : Prop := tideTopsRow.holds Try.pinned (OpenSpec.ofChange tideTopsWrong)

/-- 'ephemeriskeep2.DialSides': WHATEVER THE INPUT: true; the input reads as it did. -/
def dialSidesSpec : ChangeSpec := { name := "dialSides", fn := fun _ => fun
  | [d1, d2] => { results := [.lit (.bool true)], args := [d1, d2] }
  | _ => none }
def dialSidesRow : OpenClaim := { program := "ytjcpilmecgcooaa", sum := "76bbd3756b98eb64b0d4f615f9f5bceb4fd45fc29cd6bdea9e1061fd323c087b", func := "ephemeris/ephemeriskeep2.DialSides", spec := "dialSides", apart := false }
def DialSidesSaid : Prop := dialSidesRow.holds Try.pinned (OpenSpec.ofChange dialSidesSpec)

/-- ITS FALSE NEIGHBOUR: 'it returns false'. Refute it at one input. -/
def dialSidesWrong : ChangeSpec := { name := "dialSides", fn := fun _ => fun
  | [d1, d2] => { results := [.lit (.bool false)], args := [d1, d2] }
  | _ => none }
def DialSidesWrongFalsely : Prop := dialSidesRow.holds Try.pinned (OpenSpec.ofChange dialSidesWrong)

/-- 'ephemeriskeep2.DialNoon': WHATEVER THE INPUT: true; the input reads as it did. -/
def dialNoonSpec : ChangeSpec := { name := "dialNoon", fn := fun _ => fun
  | [d] => { results := [.lit (.bool true)], args := [d] }
  | _ => none }
def dialNoonRow : OpenClaim := { program := "ytjcpilmecgcooaa", sum := "76bbd3756b98eb64b0d4f615f9f5bceb4fd45fc29cd6bdea9e1061fd323c087b", func := "ephemeris/ephemeriskeep2.DialNoon", spec := "dialNoon", apart := false }
def DialNoonSaid : Prop := dialNoonRow.holds Try.pinned (OpenSpec.ofChange dialNoonSpec)

/-- ITS FALSE NEIGHBOUR: 'it returns false'. Refute it at one input. -/
def dialNoonWrong : ChangeSpec := { name := "dialNoon", fn := fun _ => fun
  | [d] => { results := [.lit (.bool false)], args := [d] }
  | _ => none }
def DialNoonWrongFalsely : Prop := dialNoonRow.holds Try.pinned (OpenSpec.ofChange dialNoonWrong)

/-- 'ephemeriskeep2.PlaceShifts': WHATEVER THE INPUT: true; the input reads as it did. -/
def placeShiftsSpec : ChangeSpec := { name := "placeShifts", fn := fun _ => fun
  | [d1, d2, d3] => { results := [.lit (.bool true)], args := [d1, d2, d3] }
  | _ => none }
def placeShiftsRow : OpenClaim := { program := "ytjcpilmecgcooaa", sum := "76bbd3756b98eb64b0d4f615f9f5bceb4fd45fc29cd6bdea9e1061fd323c087b", func := "ephemeris/ephemeriskeep2.PlaceShifts", spec := "placeShifts", apart := false }
def PlaceShiftsSaid : Prop := placeShiftsRow.holds Try.pinned (OpenSpec.ofChange placeShiftsSpec)

/-- ITS FALSE NEIGHBOUR: 'it returns false'. Refute it at one input. -/
def placeShiftsWrong : ChangeSpec := { name := "placeShifts", fn := fun _ => fun
  | [d1, d2, d3] => { results := [.lit (.bool false)], args := [d1, d2, d3] }
  | _ => none }
def PlaceShiftsWrongFalsely : Prop := placeShiftsRow.holds Try.pinned (OpenSpec.ofChange placeShiftsWrong)

/-- 'ephemeriskeep2.DisciplineHonest': WHATEVER THE INPUT: true; the input reads as it did. -/
def disciplineHonestSpec : ChangeSpec := { name := "disciplineHonest", fn := fun _ => fun
  | [d1, d2, d3, d4] => { results := [.lit (.bool true)], args := [d1, d2, d3, d4] }
  | _ => none }
def disciplineHonestRow : OpenClaim := { program := "ytjcpilmecgcooaa", sum := "76bbd3756b98eb64b0d4f615f9f5bceb4fd45fc29cd6bdea9e1061fd323c087b", func := "ephemeris/ephemeriskeep2.DisciplineHonest", spec := "disciplineHonest", apart := false }
def DisciplineHonestSaid : Prop := disciplineHonestRow.holds Try.pinned (OpenSpec.ofChange disciplineHonestSpec)

/-- ITS FALSE NEIGHBOUR: 'it returns false'. Refute it at one input. -/
def disciplineHonestWrong : ChangeSpec := { name := "disciplineHonest", fn := fun _ => fun
  | [d1, d2, d3, d4] => { results := [.lit (.bool false)], args := [d1, d2, d3, d4] }
  | _ => none }
def DisciplineHonestWrongFalsely : Prop := disciplineHonestRow.holds Try.pinned (OpenSpec.ofChange disciplineHonestWrong)

/- THE SECOND FORM. 'bulk': how many values and letters a reading holds, each counted each time it is reached (what is shared counts as often as it is met; a slice's spare places count too). A statement '..UptoSaid' is the law's where the arguments, and the package variables that the reading takes, are together of bulk at most 1048576: NARROWER than '..Said'. Prove '..Said' where nothing that the law and all that it calls make is longer than what came in: it says more and counts as full. Else prove '..UptoSaid'. A law counts once. -/
mutual
def uptoBulk {H : Type} : DataW H → Nat
  | .lit (.string bytes) => bytes.length + 1
  | .lit _ => 1
  | .nil => 1
  | .ptr d => uptoBulk d + 1
  | .slice elems spare => uptoBulkAll elems + uptoBulkAll spare + 1
  | .agg parts => uptoBulkAll parts + 1
  | .iface _ d => uptoBulk d + 1
  | .map entries => uptoBulkEntries entries + 1
  | .held _ => 1
def uptoBulkAll {H : Type} : List (DataW H) → Nat
  | [] => 0
  | d :: r => uptoBulk d + uptoBulkAll r
def uptoBulkEntries {H : Type} : List (Lit × DataW H) → Nat
  | [] => 0
  | x :: r => uptoBulkEntry x + uptoBulkEntries r
def uptoBulkEntry {H : Type} : Lit × DataW H → Nat
  | (.string bytes, d) => bytes.length + uptoBulk d + 1
  | (_, d) => uptoBulk d + 1
 end
def uptoSmall : (H : Type) → List (DataW H) → Bool := fun _ ds => decide (uptoBulkAll ds ≤ 1048576)
def OpenSpec.upto (s : _root_.Go.ChangeSpec) : _root_.Go.OpenSpec := { _root_.Go.OpenSpec.ofChange s with cond := some uptoSmall }

/-- 'ephemeriskeep2.SeriesAdds', WHERE WHAT IT READS IS OF BULK AT MOST 1048576: true; the input reads as it did. -/
def seriesAddsUptoRow : OpenClaim := { program := "ytjcpilmecgcooaa", sum := "76bbd3756b98eb64b0d4f615f9f5bceb4fd45fc29cd6bdea9e1061fd323c087b", func := "ephemeris/ephemeriskeep2.SeriesAdds", spec := "seriesAdds", apart := false, narrowed := true }
def SeriesAddsUptoSaid : Prop := seriesAddsUptoRow.holds Try.pinned (OpenSpec.upto seriesAddsSpec)

/-- 'ephemeriskeep2.SeriesRests', WHERE WHAT IT READS IS OF BULK AT MOST 1048576: true; the input reads as it did. -/
def seriesRestsUptoRow : OpenClaim := { program := "ytjcpilmecgcooaa", sum := "76bbd3756b98eb64b0d4f615f9f5bceb4fd45fc29cd6bdea9e1061fd323c087b", func := "ephemeris/ephemeriskeep2.SeriesRests", spec := "seriesRests", apart := false, narrowed := true }
def SeriesRestsUptoSaid : Prop := seriesRestsUptoRow.holds Try.pinned (OpenSpec.upto seriesRestsSpec)

/-- 'ephemeriskeep2.SeriesMoves', WHERE WHAT IT READS IS OF BULK AT MOST 1048576: true; the input reads as it did. -/
def seriesMovesUptoRow : OpenClaim := { program := "ytjcpilmecgcooaa", sum := "76bbd3756b98eb64b0d4f615f9f5bceb4fd45fc29cd6bdea9e1061fd323c087b", func := "ephemeris/ephemeriskeep2.SeriesMoves", spec := "seriesMoves", apart := false, narrowed := true }
def SeriesMovesUptoSaid : Prop := seriesMovesUptoRow.holds Try.pinned (OpenSpec.upto seriesMovesSpec)

/-- 'ephemeriskeep2.MoonGains', WHERE WHAT IT READS IS OF BULK AT MOST 1048576: true; the input reads as it did. -/
def moonGainsUptoRow : OpenClaim := { program := "ytjcpilmecgcooaa", sum := "76bbd3756b98eb64b0d4f615f9f5bceb4fd45fc29cd6bdea9e1061fd323c087b", func := "ephemeris/ephemeriskeep2.MoonGains", spec := "moonGains", apart := false, narrowed := true }
def MoonGainsUptoSaid : Prop := moonGainsUptoRow.holds Try.pinned (OpenSpec.upto moonGainsSpec)

/-- 'ephemeriskeep2.TideSums', WHERE WHAT IT READS IS OF BULK AT MOST 1048576: true; the input reads as it did. -/
def tideSumsUptoRow : OpenClaim := { program := "ytjcpilmecgcooaa", sum := "76bbd3756b98eb64b0d4f615f9f5bceb4fd45fc29cd6bdea9e1061fd323c087b", func := "ephemeris/ephemeriskeep2.TideSums", spec := "tideSums", apart := false, narrowed := true }
def TideSumsUptoSaid : Prop := tideSumsUptoRow.holds Try.pinned (OpenSpec.upto tideSumsSpec)

/-- 'ephemeriskeep2.TideRepeats', WHERE WHAT IT READS IS OF BULK AT MOST 1048576: true; the input reads as it did. -/
def tideRepeatsUptoRow : OpenClaim := { program := "ytjcpilmecgcooaa", sum := "76bbd3756b98eb64b0d4f615f9f5bceb4fd45fc29cd6bdea9e1061fd323c087b", func := "ephemeris/ephemeriskeep2.TideRepeats", spec := "tideRepeats", apart := false, narrowed := true }
def TideRepeatsUptoSaid : Prop := tideRepeatsUptoRow.holds Try.pinned (OpenSpec.upto tideRepeatsSpec)

/-- 'ephemeriskeep2.TideTops', WHERE WHAT IT READS IS OF BULK AT MOST 1048576: true; the input reads as it did. -/
def tideTopsUptoRow : OpenClaim := { program := "ytjcpilmecgcooaa", sum := "76bbd3756b98eb64b0d4f615f9f5bceb4fd45fc29cd6bdea9e1061fd323c087b", func := "ephemeris/ephemeriskeep2.TideTops", spec := "tideTops", apart := false, narrowed := true }
def TideTopsUptoSaid : Prop := tideTopsUptoRow.holds Try.pinned (OpenSpec.upto tideTopsSpec)

/-- 'ephemeriskeep2.DialSides', WHERE WHAT IT READS IS OF BULK AT MOST 1048576: true; the input reads as it did. -/
def dialSidesUptoRow : OpenClaim := { program := "ytjcpilmecgcooaa", sum := "76bbd3756b98eb64b0d4f615f9f5bceb4fd45fc29cd6bdea9e1061fd323c087b", func := "ephemeris/ephemeriskeep2.DialSides", spec := "dialSides", apart := false, narrowed := true }
def DialSidesUptoSaid : Prop := dialSidesUptoRow.holds Try.pinned (OpenSpec.upto dialSidesSpec)

/-- 'ephemeriskeep2.DialNoon', WHERE WHAT IT READS IS OF BULK AT MOST 1048576: true; the input reads as it did. -/
def dialNoonUptoRow : OpenClaim := { program := "ytjcpilmecgcooaa", sum := "76bbd3756b98eb64b0d4f615f9f5bceb4fd45fc29cd6bdea9e1061fd323c087b", func := "ephemeris/ephemeriskeep2.DialNoon", spec := "dialNoon", apart := false, narrowed := true }
def DialNoonUptoSaid : Prop := dialNoonUptoRow.holds Try.pinned (OpenSpec.upto dialNoonSpec)

/-- 'ephemeriskeep2.PlaceShifts', WHERE WHAT IT READS IS OF BULK AT MOST 1048576: true; the input reads as it did. -/
def placeShiftsUptoRow : OpenClaim := { program := "ytjcpilmecgcooaa", sum := "76bbd3756b98eb64b0d4f615f9f5bceb4fd45fc29cd6bdea9e1061fd323c087b", func := "ephemeris/ephemeriskeep2.PlaceShifts", spec := "placeShifts", apart := false, narrowed := true }
def PlaceShiftsUptoSaid : Prop := placeShiftsUptoRow.holds Try.pinned (OpenSpec.upto placeShiftsSpec)

/-- 'ephemeriskeep2.DisciplineHonest', WHERE WHAT IT READS IS OF BULK AT MOST 1048576: true; the input reads as it did. -/
def disciplineHonestUptoRow : OpenClaim := { program := "ytjcpilmecgcooaa", sum := "76bbd3756b98eb64b0d4f615f9f5bceb4fd45fc29cd6bdea9e1061fd323c087b", func := "ephemeris/ephemeriskeep2.DisciplineHonest", spec := "disciplineHonest", apart := false, narrowed := true }
def DisciplineHonestUptoSaid : Prop := disciplineHonestUptoRow.holds Try.pinned (OpenSpec.upto disciplineHonestSpec)

end Rows
end Go.Proofs.Ytjcpilmecgcooaa
