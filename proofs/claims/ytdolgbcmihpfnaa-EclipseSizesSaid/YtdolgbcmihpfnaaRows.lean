/-
  No cell of these rows narrows 'for every input' (looked for: loops, veiled, ifaces, maps, wideKeys, modest, calm, conditions, laid).
  DERIVED. THE GIVEN ROWS OF THIS SEAT. 2 by the template 'for every input the law returns true; each argument reads behind the call as it read before'; 0 by the template 'total and deterministic' (their statements: YtdolgbcmihpfnaaTotals.lean).
  GIVEN WITH THE SEED: the statements are not yours to turn. If you find one false, say at which input.
  Laid BY PROGRAM, IN A SANDBOX (cutbox-rows.mjs): the forced cells as the released guide's own fill.sh prints them over the translation 72f5dda60970170f… (all of the seat's roots in one cut). By AI agents, Wed Nov 11 2026. No macro, syntax, notation, axiom, sorry.
-/
import Derived.Test.YtdolgbcmihpfnaaChecked
import GoSem.Claim
import GoSem.ClaimJoined
import GoSem.ClaimMapViews
import Derived.JoinedTies
import Derived.KernelRfl
namespace Go.Proofs.Ytdolgbcmihpfnaa
/- THE CELL 'sum', in the pinned program and in every row, IS THE sha256 OF THE DUMP (.gsa) THAT YtdolgbcmihpfnaaProg.lean LOADS. Nothing in Lean hashes anything: it is a label: what it is worth is what the hold of that sum in a sandbox is worth. -/
noncomputable def Try.pinned : Pinned := { name := "ytdolgbcmihpfnaa", sum := "72f5dda60970170fe58fc6cae096ef1793ecc8278d21439df0d93d096dd4cf6d", checked := Try.checked }
namespace Rows
def none {H : Type} : Left H := { results := [], args := [] }

/-- 'ephemeriskeep2.EclipseSizes': WHATEVER THE INPUT: true; the input reads as it did. -/
def eclipseSizesSpec : ChangeSpec := { name := "eclipseSizes", fn := fun _ => fun
  | [d1, d2] => { results := [.lit (.bool true)], args := [d1, d2] }
  | _ => none }
def eclipseSizesRow : OpenClaim := { program := "ytdolgbcmihpfnaa", sum := "72f5dda60970170fe58fc6cae096ef1793ecc8278d21439df0d93d096dd4cf6d", func := "ephemeris/ephemeriskeep2.EclipseSizes", spec := "eclipseSizes", unfollowed := true, recurses := true, apart := false }
def EclipseSizesSaid : Prop := eclipseSizesRow.holds Try.pinned (OpenSpec.ofChange eclipseSizesSpec)

/-- ITS FALSE NEIGHBOUR: 'it returns false'. Refute it at one input. -/
def eclipseSizesWrong : ChangeSpec := { name := "eclipseSizes", fn := fun _ => fun
  | [d1, d2] => { results := [.lit (.bool false)], args := [d1, d2] }
  | _ => none }
def EclipseSizesWrongFalsely : Prop := eclipseSizesRow.holds Try.pinned (OpenSpec.ofChange eclipseSizesWrong)

/-- 'ephemeriskeep2.SharpenAgrees': WHATEVER THE INPUT: true; the input reads as it did. -/
def sharpenAgreesSpec : ChangeSpec := { name := "sharpenAgrees", fn := fun _ => fun
  | [d1, d2, d3] => { results := [.lit (.bool true)], args := [d1, d2, d3] }
  | _ => none }
def sharpenAgreesRow : OpenClaim := { program := "ytdolgbcmihpfnaa", sum := "72f5dda60970170fe58fc6cae096ef1793ecc8278d21439df0d93d096dd4cf6d", func := "ephemeris/ephemeriskeep2.SharpenAgrees", spec := "sharpenAgrees", unfollowed := true, recurses := true, apart := false }
def SharpenAgreesSaid : Prop := sharpenAgreesRow.holds Try.pinned (OpenSpec.ofChange sharpenAgreesSpec)

/-- ITS FALSE NEIGHBOUR: 'it returns false'. Refute it at one input. -/
def sharpenAgreesWrong : ChangeSpec := { name := "sharpenAgrees", fn := fun _ => fun
  | [d1, d2, d3] => { results := [.lit (.bool false)], args := [d1, d2, d3] }
  | _ => none }
def SharpenAgreesWrongFalsely : Prop := sharpenAgreesRow.holds Try.pinned (OpenSpec.ofChange sharpenAgreesWrong)

/- THE SECOND FORM. 'bulk': how many values and letters a reading holds, each counted each time it is reached (what is shared counts as often as it is met; a slice's spare places count too). A statement '..UptoSaid' is the law's where the arguments, and the package variables that the reading takes, are together of bulk at most 1048576: NARROWER than '..Said'. Prove '..Said' where nothing that the law and all that it calls make is longer than what came in: it says more and counts as full. Else prove '..UptoSaid'. A law counts once. -/
mutual
def uptoBulk {H : Type} : DataW H → Nat
  | .lit (.string bytes) => bytes.length + 1
  | .lit _ => 1
  | .nil => 1
  | .ptr d => uptoBulk d + 1
  | .slice elems spare => uptoBulkAll elems + uptoBulkAll spare + 1
  | .agg parts => uptoBulkAll parts + 1
  | .iface _ d => uptoBulk d + 1
  | .map entries => uptoBulkEntries entries + 1
  | .held _ => 1
def uptoBulkAll {H : Type} : List (DataW H) → Nat
  | [] => 0
  | d :: r => uptoBulk d + uptoBulkAll r
def uptoBulkEntries {H : Type} : List (Lit × DataW H) → Nat
  | [] => 0
  | x :: r => uptoBulkEntry x + uptoBulkEntries r
def uptoBulkEntry {H : Type} : Lit × DataW H → Nat
  | (.string bytes, d) => bytes.length + uptoBulk d + 1
  | (_, d) => uptoBulk d + 1
 end
def uptoSmall : (H : Type) → List (DataW H) → Bool := fun _ ds => decide (uptoBulkAll ds ≤ 1048576)
def OpenSpec.upto (s : _root_.Go.ChangeSpec) : _root_.Go.OpenSpec := { _root_.Go.OpenSpec.ofChange s with cond := some uptoSmall }

/-- 'ephemeriskeep2.EclipseSizes', WHERE WHAT IT READS IS OF BULK AT MOST 1048576: true; the input reads as it did. -/
def eclipseSizesUptoRow : OpenClaim := { program := "ytdolgbcmihpfnaa", sum := "72f5dda60970170fe58fc6cae096ef1793ecc8278d21439df0d93d096dd4cf6d", func := "ephemeris/ephemeriskeep2.EclipseSizes", spec := "eclipseSizes", unfollowed := true, recurses := true, apart := false, narrowed := true }
def EclipseSizesUptoSaid : Prop := eclipseSizesUptoRow.holds Try.pinned (OpenSpec.upto eclipseSizesSpec)

/-- 'ephemeriskeep2.SharpenAgrees', WHERE WHAT IT READS IS OF BULK AT MOST 1048576: true; the input reads as it did. -/
def sharpenAgreesUptoRow : OpenClaim := { program := "ytdolgbcmihpfnaa", sum := "72f5dda60970170fe58fc6cae096ef1793ecc8278d21439df0d93d096dd4cf6d", func := "ephemeris/ephemeriskeep2.SharpenAgrees", spec := "sharpenAgrees", unfollowed := true, recurses := true, apart := false, narrowed := true }
def SharpenAgreesUptoSaid : Prop := sharpenAgreesUptoRow.holds Try.pinned (OpenSpec.upto sharpenAgreesSpec)

end Rows
end Go.Proofs.Ytdolgbcmihpfnaa
