/-
  No cell of these rows narrows 'for every input' (looked for: loops, veiled, ifaces, maps, wideKeys, modest, calm, conditions, laid).
  DERIVED. THE GIVEN ROWS OF THIS SEAT. 3 by the template 'for every input the law returns true; each argument reads behind the call as it read before'; 0 by the template 'total and deterministic' (their statements: YtoecglgbmhhdnaaTotals.lean).
  GIVEN WITH THE SEED: the statements are not yours to turn. If you find one false, say at which input.
  Laid BY PROGRAM, IN A SANDBOX (cutbox-rows.mjs): the forced cells as the released guide's own fill.sh prints them over the translation 9125d0274e80d131… (all of the seat's roots in one cut). By AI agents, Wed Nov 11 2026. No macro, syntax, notation, axiom, sorry.
-/
import Derived.Test.YtoecglgbmhhdnaaChecked
import GoSem.Claim
import GoSem.ClaimJoined
import GoSem.ClaimMapViews
import Derived.JoinedTies
import Derived.KernelRfl
namespace Go.Proofs.Ytoecglgbmhhdnaa
/- THE CELL 'sum', in the pinned program and in every row, IS THE sha256 OF THE DUMP (.gsa) THAT YtoecglgbmhhdnaaProg.lean LOADS. Nothing in Lean hashes anything: it is a label: what it is worth is what the hold of that sum in a sandbox is worth. -/
noncomputable def Try.pinned : Pinned := { name := "ytoecglgbmhhdnaa", sum := "9125d0274e80d131189fdf0d3bf878ec74ccf9d3d3d3a0b060eb50b5c605aa4f", checked := Try.checked }
namespace Rows
def none {H : Type} : Left H := { results := [], args := [] }

/-- 'ephemeristop.TopChron': WHATEVER THE INPUT: true; the input reads as it did. -/
def topChronSpec : ChangeSpec := { name := "topChron", fn := fun _ => fun
  | [d1, d2, d3, d4] => { results := [.lit (.bool true)], args := [d1, d2, d3, d4] }
  | _ => none }
def topChronRow : OpenClaim := { program := "ytoecglgbmhhdnaa", sum := "9125d0274e80d131189fdf0d3bf878ec74ccf9d3d3d3a0b060eb50b5c605aa4f", func := "ephemeris/ephemeristop.TopChron", spec := "topChron", apart := false }
def TopChronSaid : Prop := topChronRow.holds Try.pinned (OpenSpec.ofChange topChronSpec)

/-- ITS FALSE NEIGHBOUR: 'it returns false'. Refute it at one input. -/
def topChronWrong : ChangeSpec := { name := "topChron", fn := fun _ => fun
  | [d1, d2, d3, d4] => { results := [.lit (.bool false)], args := [d1, d2, d3, d4] }
  | _ => none }
def TopChronWrongFalsely : Prop := topChronRow.holds Try.pinned (OpenSpec.ofChange topChronWrong)

/-- 'ephemeristop.TopTides': WHATEVER THE INPUT: true; the input reads as it did. -/
def topTidesSpec : ChangeSpec := { name := "topTides", fn := fun _ => fun
  | [d1, d2, d3, d4] => { results := [.lit (.bool true)], args := [d1, d2, d3, d4] }
  | _ => none }
def topTidesRow : OpenClaim := { program := "ytoecglgbmhhdnaa", sum := "9125d0274e80d131189fdf0d3bf878ec74ccf9d3d3d3a0b060eb50b5c605aa4f", func := "ephemeris/ephemeristop.TopTides", spec := "topTides", unfollowed := true, recurses := true, apart := false }
def TopTidesSaid : Prop := topTidesRow.holds Try.pinned (OpenSpec.ofChange topTidesSpec)

/-- ITS FALSE NEIGHBOUR: 'it returns false'. Refute it at one input. -/
def topTidesWrong : ChangeSpec := { name := "topTides", fn := fun _ => fun
  | [d1, d2, d3, d4] => { results := [.lit (.bool false)], args := [d1, d2, d3, d4] }
  | _ => none }
def TopTidesWrongFalsely : Prop := topTidesRow.holds Try.pinned (OpenSpec.ofChange topTidesWrong)

/-- 'ephemeriskeep2.DisciplineHonest': WHATEVER THE INPUT: true; the input reads as it did. -/
def disciplineHonestSpec : ChangeSpec := { name := "disciplineHonest", fn := fun _ => fun
  | [d1, d2, d3, d4] => { results := [.lit (.bool true)], args := [d1, d2, d3, d4] }
  | _ => none }
def disciplineHonestRow : OpenClaim := { program := "ytoecglgbmhhdnaa", sum := "9125d0274e80d131189fdf0d3bf878ec74ccf9d3d3d3a0b060eb50b5c605aa4f", func := "ephemeris/ephemeriskeep2.DisciplineHonest", spec := "disciplineHonest", apart := false }
def DisciplineHonestSaid : Prop := disciplineHonestRow.holds Try.pinned (OpenSpec.ofChange disciplineHonestSpec)

/-- ITS FALSE NEIGHBOUR: 'it returns false'. Refute it at one input. -/
def disciplineHonestWrong : ChangeSpec := { name := "disciplineHonest", fn := fun _ => fun
  | [d1, d2, d3, d4] => { results := [.lit (.bool false)], args := [d1, d2, d3, d4] }
  | _ => none }
def DisciplineHonestWrongFalsely : Prop := disciplineHonestRow.holds Try.pinned (OpenSpec.ofChange disciplineHonestWrong)

/- THE SECOND FORM. 'bulk': how many values and letters a reading holds, each counted each time it is reached (what is shared counts as often as it is met; a slice's spare places count too). A statement '..UptoSaid' is the law's where the arguments, and the package variables that the reading takes, are together of bulk at most 1048576: NARROWER than '..Said'. Prove '..Said' where nothing that the law and all that it calls make is longer than what came in: it says more and counts as full. Else prove '..UptoSaid'. A law counts once. -/
mutual
def uptoBulk {H : Type} : DataW H → Nat
  | .lit (.string bytes) => bytes.length + 1
  | .lit _ => 1
  | .nil => 1
  | .ptr d => uptoBulk d + 1
  | .slice elems spare => uptoBulkAll elems + uptoBulkAll spare + 1
  | .agg parts => uptoBulkAll parts + 1
  | .iface _ d => uptoBulk d + 1
  | .map entries => uptoBulkEntries entries + 1
  | .held _ => 1
def uptoBulkAll {H : Type} : List (DataW H) → Nat
  | [] => 0
  | d :: r => uptoBulk d + uptoBulkAll r
def uptoBulkEntries {H : Type} : List (Lit × DataW H) → Nat
  | [] => 0
  | x :: r => uptoBulkEntry x + uptoBulkEntries r
def uptoBulkEntry {H : Type} : Lit × DataW H → Nat
  | (.string bytes, d) => bytes.length + uptoBulk d + 1
  | (_, d) => uptoBulk d + 1
 end
def uptoSmall : (H : Type) → List (DataW H) → Bool := fun _ ds => decide (uptoBulkAll ds ≤ 1048576)
def OpenSpec.upto (s : _root_.Go.ChangeSpec) : _root_.Go.OpenSpec := { _root_.Go.OpenSpec.ofChange s with cond := some uptoSmall }

/-- 'ephemeristop.TopChron', WHERE WHAT IT READS IS OF BULK AT MOST 1048576: true; the input reads as it did. -/
def topChronUptoRow : OpenClaim := { program := "ytoecglgbmhhdnaa", sum := "9125d0274e80d131189fdf0d3bf878ec74ccf9d3d3d3a0b060eb50b5c605aa4f", func := "ephemeris/ephemeristop.TopChron", spec := "topChron", apart := false, narrowed := true }
def TopChronUptoSaid : Prop := topChronUptoRow.holds Try.pinned (OpenSpec.upto topChronSpec)

/-- 'ephemeristop.TopTides', WHERE WHAT IT READS IS OF BULK AT MOST 1048576: true; the input reads as it did. -/
def topTidesUptoRow : OpenClaim := { program := "ytoecglgbmhhdnaa", sum := "9125d0274e80d131189fdf0d3bf878ec74ccf9d3d3d3a0b060eb50b5c605aa4f", func := "ephemeris/ephemeristop.TopTides", spec := "topTides", unfollowed := true, recurses := true, apart := false, narrowed := true }
def TopTidesUptoSaid : Prop := topTidesUptoRow.holds Try.pinned (OpenSpec.upto topTidesSpec)

/-- 'ephemeriskeep2.DisciplineHonest', WHERE WHAT IT READS IS OF BULK AT MOST 1048576: true; the input reads as it did. -/
def disciplineHonestUptoRow : OpenClaim := { program := "ytoecglgbmhhdnaa", sum := "9125d0274e80d131189fdf0d3bf878ec74ccf9d3d3d3a0b060eb50b5c605aa4f", func := "ephemeris/ephemeriskeep2.DisciplineHonest", spec := "disciplineHonest", apart := false, narrowed := true }
def DisciplineHonestUptoSaid : Prop := disciplineHonestUptoRow.holds Try.pinned (OpenSpec.upto disciplineHonestSpec)

end Rows
end Go.Proofs.Ytoecglgbmhhdnaa
