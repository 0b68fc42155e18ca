/-
  No cell of these rows narrows 'for every input' (looked for: loops, veiled, ifaces, maps, wideKeys, modest, calm, conditions, laid).
  DERIVED. THE GIVEN ROWS OF THIS SEAT. 4 by the template 'for every input the law returns true; each argument reads behind the call as it read before'; 0 by the template 'total and deterministic' (their statements: YtfmjlglkleinmaaTotals.lean).
  GIVEN WITH THE SEED: the statements are not yours to turn. If you find one false, say at which input.
  Laid BY PROGRAM, IN A SANDBOX (cutbox-rows.mjs): the forced cells as the released guide's own fill.sh prints them over the translation ace6ed7b9d92bb00… (all of the seat's roots in one cut). By AI agents, Wed Nov 11 2026. No macro, syntax, notation, axiom, sorry.
-/
import Derived.Test.YtfmjlglkleinmaaChecked
import GoSem.Claim
import GoSem.ClaimJoined
import GoSem.ClaimMapViews
import Derived.JoinedTies
import Derived.KernelRfl
namespace Go.Proofs.Ytfmjlglkleinmaa
/- THE CELL 'sum', in the pinned program and in every row, IS THE sha256 OF THE DUMP (.gsa) THAT YtfmjlglkleinmaaProg.lean LOADS. Nothing in Lean hashes anything: it is a label: what it is worth is what the hold of that sum in a sandbox is worth. -/
noncomputable def Try.pinned : Pinned := { name := "ytfmjlglkleinmaa", sum := "ace6ed7b9d92bb00db70454392fcf4defc1df3d6c7be9d0294e944235b14ef4b", checked := Try.checked }
namespace Rows
def none {H : Type} : Left H := { results := [], args := [] }

/-- 'ephemeristop.TopChron': WHATEVER THE INPUT: true; the input reads as it did. -/
def topChronSpec : ChangeSpec := { name := "topChron", fn := fun _ => fun
  | [d1, d2, d3, d4] => { results := [.lit (.bool true)], args := [d1, d2, d3, d4] }
  | _ => none }
def topChronRow : OpenClaim := { program := "ytfmjlglkleinmaa", sum := "ace6ed7b9d92bb00db70454392fcf4defc1df3d6c7be9d0294e944235b14ef4b", func := "ephemeris/ephemeristop.TopChron", spec := "topChron", apart := false }
def TopChronSaid : Prop := topChronRow.holds Try.pinned (OpenSpec.ofChange topChronSpec)

/-- ITS FALSE NEIGHBOUR: 'it returns false'. Refute it at one input. -/
def topChronWrong : ChangeSpec := { name := "topChron", fn := fun _ => fun
  | [d1, d2, d3, d4] => { results := [.lit (.bool false)], args := [d1, d2, d3, d4] }
  | _ => none }
def TopChronWrongFalsely : Prop := topChronRow.holds Try.pinned (OpenSpec.ofChange topChronWrong)

/-- 'ephemeristop.TopSmear': WHATEVER THE INPUT: true; the input reads as it did. -/
def topSmearSpec : ChangeSpec := { name := "topSmear", fn := fun _ => fun
  | [d1, d2, d3, d4] => { results := [.lit (.bool true)], args := [d1, d2, d3, d4] }
  | _ => none }
def topSmearRow : OpenClaim := { program := "ytfmjlglkleinmaa", sum := "ace6ed7b9d92bb00db70454392fcf4defc1df3d6c7be9d0294e944235b14ef4b", func := "ephemeris/ephemeristop.TopSmear", spec := "topSmear", apart := false }
def TopSmearSaid : Prop := topSmearRow.holds Try.pinned (OpenSpec.ofChange topSmearSpec)

/-- ITS FALSE NEIGHBOUR: 'it returns false'. Refute it at one input. -/
def topSmearWrong : ChangeSpec := { name := "topSmear", fn := fun _ => fun
  | [d1, d2, d3, d4] => { results := [.lit (.bool false)], args := [d1, d2, d3, d4] }
  | _ => none }
def TopSmearWrongFalsely : Prop := topSmearRow.holds Try.pinned (OpenSpec.ofChange topSmearWrong)

/-- 'ephemeristop.TopSums': WHATEVER THE INPUT: true; the input reads as it did. -/
def topSumsSpec : ChangeSpec := { name := "topSums", fn := fun _ => fun
  | [d1, d2] => { results := [.lit (.bool true)], args := [d1, d2] }
  | _ => none }
def topSumsRow : OpenClaim := { program := "ytfmjlglkleinmaa", sum := "ace6ed7b9d92bb00db70454392fcf4defc1df3d6c7be9d0294e944235b14ef4b", func := "ephemeris/ephemeristop.TopSums", spec := "topSums", unfollowed := true, recurses := true, leaving := true, apart := false }
def TopSumsSaid : Prop := topSumsRow.holds Try.pinned (OpenSpec.ofChange topSumsSpec)

/-- ITS FALSE NEIGHBOUR: 'it returns false'. Refute it at one input. -/
def topSumsWrong : ChangeSpec := { name := "topSums", fn := fun _ => fun
  | [d1, d2] => { results := [.lit (.bool false)], args := [d1, d2] }
  | _ => none }
def TopSumsWrongFalsely : Prop := topSumsRow.holds Try.pinned (OpenSpec.ofChange topSumsWrong)

/-- 'ephemeristop.TopNetwork': WHATEVER THE INPUT: true; the input reads as it did. -/
def topNetworkSpec : ChangeSpec := { name := "topNetwork", fn := fun _ => fun
  | [d1, d2, d3] => { results := [.lit (.bool true)], args := [d1, d2, d3] }
  | _ => none }
def topNetworkRow : OpenClaim := { program := "ytfmjlglkleinmaa", sum := "ace6ed7b9d92bb00db70454392fcf4defc1df3d6c7be9d0294e944235b14ef4b", func := "ephemeris/ephemeristop.TopNetwork", spec := "topNetwork", inPlace := ["(*sync.WaitGroup).Add", "internal/race.ReleaseMerge", "internal/race.Disable", "internal/race.Enable", "internal/synctest.IsInBubble", "internal/synctest.Associate[sync.WaitGroup]", "sync.fatal", "sync/atomic.OrUint64", "sync/atomic.AddUint64", "internal/race.Read", "sync/atomic.LoadUint64", "sync/atomic.StoreUint64", "internal/synctest.Disassociate[sync.WaitGroup]", "sync.runtime_Semrelease", "(*sync.WaitGroup).Done", "(*sync.WaitGroup).Wait", "internal/race.Acquire", "internal/synctest.IsAssociated[sync.WaitGroup]", "sync/atomic.CompareAndSwapUint64", "internal/race.Write", "sync.runtime_SemacquireWaitGroup"], unfollowed := true, recurses := true, leaving := true, apart := false }
def TopNetworkSaid : Prop := topNetworkRow.holds Try.pinned (OpenSpec.ofChange topNetworkSpec)

/-- ITS FALSE NEIGHBOUR: 'it returns false'. Refute it at one input. -/
def topNetworkWrong : ChangeSpec := { name := "topNetwork", fn := fun _ => fun
  | [d1, d2, d3] => { results := [.lit (.bool false)], args := [d1, d2, d3] }
  | _ => none }
def TopNetworkWrongFalsely : Prop := topNetworkRow.holds Try.pinned (OpenSpec.ofChange topNetworkWrong)

/- THE SECOND FORM. 'bulk': how many values and letters a reading holds, each counted each time it is reached (what is shared counts as often as it is met; a slice's spare places count too). A statement '..UptoSaid' is the law's where the arguments, and the package variables that the reading takes, are together of bulk at most 1048576: NARROWER than '..Said'. Prove '..Said' where nothing that the law and all that it calls make is longer than what came in: it says more and counts as full. Else prove '..UptoSaid'. A law counts once. -/
mutual
def uptoBulk {H : Type} : DataW H → Nat
  | .lit (.string bytes) => bytes.length + 1
  | .lit _ => 1
  | .nil => 1
  | .ptr d => uptoBulk d + 1
  | .slice elems spare => uptoBulkAll elems + uptoBulkAll spare + 1
  | .agg parts => uptoBulkAll parts + 1
  | .iface _ d => uptoBulk d + 1
  | .map entries => uptoBulkEntries entries + 1
  | .held _ => 1
def uptoBulkAll {H : Type} : List (DataW H) → Nat
  | [] => 0
  | d :: r => uptoBulk d + uptoBulkAll r
def uptoBulkEntries {H : Type} : List (Lit × DataW H) → Nat
  | [] => 0
  | x :: r => uptoBulkEntry x + uptoBulkEntries r
def uptoBulkEntry {H : Type} : Lit × DataW H → Nat
  | (.string bytes, d) => bytes.length + uptoBulk d + 1
  | (_, d) => uptoBulk d + 1
 end
def uptoSmall : (H : Type) → List (DataW H) → Bool := fun _ ds => decide (uptoBulkAll ds ≤ 1048576)
def OpenSpec.upto (s : _root_.Go.ChangeSpec) : _root_.Go.OpenSpec := { _root_.Go.OpenSpec.ofChange s with cond := some uptoSmall }

/-- 'ephemeristop.TopChron', WHERE WHAT IT READS IS OF BULK AT MOST 1048576: true; the input reads as it did. -/
def topChronUptoRow : OpenClaim := { program := "ytfmjlglkleinmaa", sum := "ace6ed7b9d92bb00db70454392fcf4defc1df3d6c7be9d0294e944235b14ef4b", func := "ephemeris/ephemeristop.TopChron", spec := "topChron", apart := false, narrowed := true }
def TopChronUptoSaid : Prop := topChronUptoRow.holds Try.pinned (OpenSpec.upto topChronSpec)

/-- 'ephemeristop.TopSmear', WHERE WHAT IT READS IS OF BULK AT MOST 1048576: true; the input reads as it did. -/
def topSmearUptoRow : OpenClaim := { program := "ytfmjlglkleinmaa", sum := "ace6ed7b9d92bb00db70454392fcf4defc1df3d6c7be9d0294e944235b14ef4b", func := "ephemeris/ephemeristop.TopSmear", spec := "topSmear", apart := false, narrowed := true }
def TopSmearUptoSaid : Prop := topSmearUptoRow.holds Try.pinned (OpenSpec.upto topSmearSpec)

/-- 'ephemeristop.TopSums', WHERE WHAT IT READS IS OF BULK AT MOST 1048576: true; the input reads as it did. -/
def topSumsUptoRow : OpenClaim := { program := "ytfmjlglkleinmaa", sum := "ace6ed7b9d92bb00db70454392fcf4defc1df3d6c7be9d0294e944235b14ef4b", func := "ephemeris/ephemeristop.TopSums", spec := "topSums", unfollowed := true, recurses := true, leaving := true, apart := false, narrowed := true }
def TopSumsUptoSaid : Prop := topSumsUptoRow.holds Try.pinned (OpenSpec.upto topSumsSpec)

/-- 'ephemeristop.TopNetwork', WHERE WHAT IT READS IS OF BULK AT MOST 1048576: true; the input reads as it did. -/
def topNetworkUptoRow : OpenClaim := { program := "ytfmjlglkleinmaa", sum := "ace6ed7b9d92bb00db70454392fcf4defc1df3d6c7be9d0294e944235b14ef4b", func := "ephemeris/ephemeristop.TopNetwork", spec := "topNetwork", inPlace := ["(*sync.WaitGroup).Add", "internal/race.ReleaseMerge", "internal/race.Disable", "internal/race.Enable", "internal/synctest.IsInBubble", "internal/synctest.Associate[sync.WaitGroup]", "sync.fatal", "sync/atomic.OrUint64", "sync/atomic.AddUint64", "internal/race.Read", "sync/atomic.LoadUint64", "sync/atomic.StoreUint64", "internal/synctest.Disassociate[sync.WaitGroup]", "sync.runtime_Semrelease", "(*sync.WaitGroup).Done", "(*sync.WaitGroup).Wait", "internal/race.Acquire", "internal/synctest.IsAssociated[sync.WaitGroup]", "sync/atomic.CompareAndSwapUint64", "internal/race.Write", "sync.runtime_SemacquireWaitGroup"], unfollowed := true, recurses := true, leaving := true, apart := false, narrowed := true }
def TopNetworkUptoSaid : Prop := topNetworkUptoRow.holds Try.pinned (OpenSpec.upto topNetworkSpec)

end Rows
end Go.Proofs.Ytfmjlglkleinmaa
