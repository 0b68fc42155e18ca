/-
  No cell of these rows narrows 'for every input' (looked for: loops, veiled, ifaces, maps, wideKeys, modest, calm, conditions, laid).
  DERIVED. THE GIVEN ROWS OF THIS SEAT. 8 by the template 'for every input the law returns true; each argument reads behind the call as it read before'; 0 by the template 'total and deterministic' (their statements: YtglpfgkbecgaaaaTotals.lean).
  GIVEN WITH THE SEED: the statements are not yours to turn. If you find one false, say at which input.
  Laid BY PROGRAM, IN A SANDBOX (cutbox-rows.mjs): the forced cells as the released guide's own fill.sh prints them over the translation ba1625a62c7512a8… (all of the seat's roots in one cut). By AI agents, Wed Nov 11 2026. No macro, syntax, notation, axiom, sorry.
-/
import Derived.Test.YtglpfgkbecgaaaaChecked
import GoSem.Claim
import GoSem.ClaimJoined
import GoSem.ClaimMapViews
import Derived.JoinedTies
import Derived.KernelRfl
namespace Go.Proofs.Ytglpfgkbecgaaaa
/- THE CELL 'sum', in the pinned program and in every row, IS THE sha256 OF THE DUMP (.gsa) THAT YtglpfgkbecgaaaaProg.lean LOADS. Nothing in Lean hashes anything: it is a label: what it is worth is what the hold of that sum in a sandbox is worth. -/
noncomputable def Try.pinned : Pinned := { name := "ytglpfgkbecgaaaa", sum := "ba1625a62c7512a8b6503ff36fad8d9e5f0ffddbebe6b50d169d68bdeb7b4ee9", checked := Try.checked }
namespace Rows
def none {H : Type} : Left H := { results := [], args := [] }

/-- 'ephemeriskeep2.LinkBestHonest': WHATEVER THE INPUT: true; the input reads as it did. -/
def linkBestHonestSpec : ChangeSpec := { name := "linkBestHonest", fn := fun _ => fun
  | [d1, d2] => { results := [.lit (.bool true)], args := [d1, d2] }
  | _ => none }
def linkBestHonestRow : OpenClaim := { program := "ytglpfgkbecgaaaa", sum := "ba1625a62c7512a8b6503ff36fad8d9e5f0ffddbebe6b50d169d68bdeb7b4ee9", func := "ephemeris/ephemeriskeep2.LinkBestHonest", spec := "linkBestHonest", apart := false }
def LinkBestHonestSaid : Prop := linkBestHonestRow.holds Try.pinned (OpenSpec.ofChange linkBestHonestSpec)

/-- ITS FALSE NEIGHBOUR: 'it returns false'. Refute it at one input. -/
def linkBestHonestWrong : ChangeSpec := { name := "linkBestHonest", fn := fun _ => fun
  | [d1, d2] => { results := [.lit (.bool false)], args := [d1, d2] }
  | _ => none }
def LinkBestHonestWrongFalsely : Prop := linkBestHonestRow.holds Try.pinned (OpenSpec.ofChange linkBestHonestWrong)

/-- 'ephemeriskeep2.AgreeTurned': WHATEVER THE INPUT: true; the input reads as it did. -/
def agreeTurnedSpec : ChangeSpec := { name := "agreeTurned", fn := fun _ => fun
  | [d1, d2] => { results := [.lit (.bool true)], args := [d1, d2] }
  | _ => none }
def agreeTurnedRow : OpenClaim := { program := "ytglpfgkbecgaaaa", sum := "ba1625a62c7512a8b6503ff36fad8d9e5f0ffddbebe6b50d169d68bdeb7b4ee9", func := "ephemeris/ephemeriskeep2.AgreeTurned", spec := "agreeTurned", apart := false }
def AgreeTurnedSaid : Prop := agreeTurnedRow.holds Try.pinned (OpenSpec.ofChange agreeTurnedSpec)

/-- ITS FALSE NEIGHBOUR: 'it returns false'. Refute it at one input. -/
def agreeTurnedWrong : ChangeSpec := { name := "agreeTurned", fn := fun _ => fun
  | [d1, d2] => { results := [.lit (.bool false)], args := [d1, d2] }
  | _ => none }
def AgreeTurnedWrongFalsely : Prop := agreeTurnedRow.holds Try.pinned (OpenSpec.ofChange agreeTurnedWrong)

/-- 'ephemeriskeep2.ContradictLoose': WHATEVER THE INPUT: true; the input reads as it did. -/
def contradictLooseSpec : ChangeSpec := { name := "contradictLoose", fn := fun _ => fun
  | [d1, d2] => { results := [.lit (.bool true)], args := [d1, d2] }
  | _ => none }
def contradictLooseRow : OpenClaim := { program := "ytglpfgkbecgaaaa", sum := "ba1625a62c7512a8b6503ff36fad8d9e5f0ffddbebe6b50d169d68bdeb7b4ee9", func := "ephemeris/ephemeriskeep2.ContradictLoose", spec := "contradictLoose", apart := false }
def ContradictLooseSaid : Prop := contradictLooseRow.holds Try.pinned (OpenSpec.ofChange contradictLooseSpec)

/-- ITS FALSE NEIGHBOUR: 'it returns false'. Refute it at one input. -/
def contradictLooseWrong : ChangeSpec := { name := "contradictLoose", fn := fun _ => fun
  | [d1, d2] => { results := [.lit (.bool false)], args := [d1, d2] }
  | _ => none }
def ContradictLooseWrongFalsely : Prop := contradictLooseRow.holds Try.pinned (OpenSpec.ofChange contradictLooseWrong)

/-- 'ephemeriskeep2.ContradictNeeded': WHATEVER THE INPUT: true; the input reads as it did. -/
def contradictNeededSpec : ChangeSpec := { name := "contradictNeeded", fn := fun _ => fun
  | [d1, d2] => { results := [.lit (.bool true)], args := [d1, d2] }
  | _ => none }
def contradictNeededRow : OpenClaim := { program := "ytglpfgkbecgaaaa", sum := "ba1625a62c7512a8b6503ff36fad8d9e5f0ffddbebe6b50d169d68bdeb7b4ee9", func := "ephemeris/ephemeriskeep2.ContradictNeeded", spec := "contradictNeeded", apart := false }
def ContradictNeededSaid : Prop := contradictNeededRow.holds Try.pinned (OpenSpec.ofChange contradictNeededSpec)

/-- ITS FALSE NEIGHBOUR: 'it returns false'. Refute it at one input. -/
def contradictNeededWrong : ChangeSpec := { name := "contradictNeeded", fn := fun _ => fun
  | [d1, d2] => { results := [.lit (.bool false)], args := [d1, d2] }
  | _ => none }
def ContradictNeededWrongFalsely : Prop := contradictNeededRow.holds Try.pinned (OpenSpec.ofChange contradictNeededWrong)

/-- 'ephemeriskeep2.ContradictSpare': WHATEVER THE INPUT: true; the input reads as it did. -/
def contradictSpareSpec : ChangeSpec := { name := "contradictSpare", fn := fun _ => fun
  | [d1, d2] => { results := [.lit (.bool true)], args := [d1, d2] }
  | _ => none }
def contradictSpareRow : OpenClaim := { program := "ytglpfgkbecgaaaa", sum := "ba1625a62c7512a8b6503ff36fad8d9e5f0ffddbebe6b50d169d68bdeb7b4ee9", func := "ephemeris/ephemeriskeep2.ContradictSpare", spec := "contradictSpare", apart := false }
def ContradictSpareSaid : Prop := contradictSpareRow.holds Try.pinned (OpenSpec.ofChange contradictSpareSpec)

/-- ITS FALSE NEIGHBOUR: 'it returns false'. Refute it at one input. -/
def contradictSpareWrong : ChangeSpec := { name := "contradictSpare", fn := fun _ => fun
  | [d1, d2] => { results := [.lit (.bool false)], args := [d1, d2] }
  | _ => none }
def ContradictSpareWrongFalsely : Prop := contradictSpareRow.holds Try.pinned (OpenSpec.ofChange contradictSpareWrong)

/-- 'ephemeriskeep2.GaugeExact': WHATEVER THE INPUT: true; the input reads as it did. -/
def gaugeExactSpec : ChangeSpec := { name := "gaugeExact", fn := fun _ => fun
  | [d1, d2] => { results := [.lit (.bool true)], args := [d1, d2] }
  | _ => none }
def gaugeExactRow : OpenClaim := { program := "ytglpfgkbecgaaaa", sum := "ba1625a62c7512a8b6503ff36fad8d9e5f0ffddbebe6b50d169d68bdeb7b4ee9", func := "ephemeris/ephemeriskeep2.GaugeExact", spec := "gaugeExact", unfollowed := true, recurses := true, apart := false }
def GaugeExactSaid : Prop := gaugeExactRow.holds Try.pinned (OpenSpec.ofChange gaugeExactSpec)

/-- ITS FALSE NEIGHBOUR: 'it returns false'. Refute it at one input. -/
def gaugeExactWrong : ChangeSpec := { name := "gaugeExact", fn := fun _ => fun
  | [d1, d2] => { results := [.lit (.bool false)], args := [d1, d2] }
  | _ => none }
def GaugeExactWrongFalsely : Prop := gaugeExactRow.holds Try.pinned (OpenSpec.ofChange gaugeExactWrong)

/-- 'ephemeriskeep2.GaugeLeast': WHATEVER THE INPUT: true; the input reads as it did. -/
def gaugeLeastSpec : ChangeSpec := { name := "gaugeLeast", fn := fun _ => fun
  | [d1, d2, d3] => { results := [.lit (.bool true)], args := [d1, d2, d3] }
  | _ => none }
def gaugeLeastRow : OpenClaim := { program := "ytglpfgkbecgaaaa", sum := "ba1625a62c7512a8b6503ff36fad8d9e5f0ffddbebe6b50d169d68bdeb7b4ee9", func := "ephemeris/ephemeriskeep2.GaugeLeast", spec := "gaugeLeast", unfollowed := true, recurses := true, apart := false }
def GaugeLeastSaid : Prop := gaugeLeastRow.holds Try.pinned (OpenSpec.ofChange gaugeLeastSpec)

/-- ITS FALSE NEIGHBOUR: 'it returns false'. Refute it at one input. -/
def gaugeLeastWrong : ChangeSpec := { name := "gaugeLeast", fn := fun _ => fun
  | [d1, d2, d3] => { results := [.lit (.bool false)], args := [d1, d2, d3] }
  | _ => none }
def GaugeLeastWrongFalsely : Prop := gaugeLeastRow.holds Try.pinned (OpenSpec.ofChange gaugeLeastWrong)

/-- 'ephemeriskeep2.GaugeOrder': WHATEVER THE INPUT: true; the input reads as it did. -/
def gaugeOrderSpec : ChangeSpec := { name := "gaugeOrder", fn := fun _ => fun
  | [d1, d2, d3] => { results := [.lit (.bool true)], args := [d1, d2, d3] }
  | _ => none }
def gaugeOrderRow : OpenClaim := { program := "ytglpfgkbecgaaaa", sum := "ba1625a62c7512a8b6503ff36fad8d9e5f0ffddbebe6b50d169d68bdeb7b4ee9", func := "ephemeris/ephemeriskeep2.GaugeOrder", spec := "gaugeOrder", unfollowed := true, recurses := true, apart := false }
def GaugeOrderSaid : Prop := gaugeOrderRow.holds Try.pinned (OpenSpec.ofChange gaugeOrderSpec)

/-- ITS FALSE NEIGHBOUR: 'it returns false'. Refute it at one input. -/
def gaugeOrderWrong : ChangeSpec := { name := "gaugeOrder", fn := fun _ => fun
  | [d1, d2, d3] => { results := [.lit (.bool false)], args := [d1, d2, d3] }
  | _ => none }
def GaugeOrderWrongFalsely : Prop := gaugeOrderRow.holds Try.pinned (OpenSpec.ofChange gaugeOrderWrong)

/- THE SECOND FORM. 'bulk': how many values and letters a reading holds, each counted each time it is reached (what is shared counts as often as it is met; a slice's spare places count too). A statement '..UptoSaid' is the law's where the arguments, and the package variables that the reading takes, are together of bulk at most 1048576: NARROWER than '..Said'. Prove '..Said' where nothing that the law and all that it calls make is longer than what came in: it says more and counts as full. Else prove '..UptoSaid'. A law counts once. -/
mutual
def uptoBulk {H : Type} : DataW H → Nat
  | .lit (.string bytes) => bytes.length + 1
  | .lit _ => 1
  | .nil => 1
  | .ptr d => uptoBulk d + 1
  | .slice elems spare => uptoBulkAll elems + uptoBulkAll spare + 1
  | .agg parts => uptoBulkAll parts + 1
  | .iface _ d => uptoBulk d + 1
  | .map entries => uptoBulkEntries entries + 1
  | .held _ => 1
def uptoBulkAll {H : Type} : List (DataW H) → Nat
  | [] => 0
  | d :: r => uptoBulk d + uptoBulkAll r
def uptoBulkEntries {H : Type} : List (Lit × DataW H) → Nat
  | [] => 0
  | x :: r => uptoBulkEntry x + uptoBulkEntries r
def uptoBulkEntry {H : Type} : Lit × DataW H → Nat
  | (.string bytes, d) => bytes.length + uptoBulk d + 1
  | (_, d) => uptoBulk d + 1
 end
def uptoSmall : (H : Type) → List (DataW H) → Bool := fun _ ds => decide (uptoBulkAll ds ≤ 1048576)
def OpenSpec.upto (s : _root_.Go.ChangeSpec) : _root_.Go.OpenSpec := { _root_.Go.OpenSpec.ofChange s with cond := some uptoSmall }

/-- 'ephemeriskeep2.LinkBestHonest', WHERE WHAT IT READS IS OF BULK AT MOST 1048576: true; the input reads as it did. -/
def linkBestHonestUptoRow : OpenClaim := { program := "ytglpfgkbecgaaaa", sum := "ba1625a62c7512a8b6503ff36fad8d9e5f0ffddbebe6b50d169d68bdeb7b4ee9", func := "ephemeris/ephemeriskeep2.LinkBestHonest", spec := "linkBestHonest", apart := false, narrowed := true }
def LinkBestHonestUptoSaid : Prop := linkBestHonestUptoRow.holds Try.pinned (OpenSpec.upto linkBestHonestSpec)

/-- 'ephemeriskeep2.AgreeTurned', WHERE WHAT IT READS IS OF BULK AT MOST 1048576: true; the input reads as it did. -/
def agreeTurnedUptoRow : OpenClaim := { program := "ytglpfgkbecgaaaa", sum := "ba1625a62c7512a8b6503ff36fad8d9e5f0ffddbebe6b50d169d68bdeb7b4ee9", func := "ephemeris/ephemeriskeep2.AgreeTurned", spec := "agreeTurned", apart := false, narrowed := true }
def AgreeTurnedUptoSaid : Prop := agreeTurnedUptoRow.holds Try.pinned (OpenSpec.upto agreeTurnedSpec)

/-- 'ephemeriskeep2.ContradictLoose', WHERE WHAT IT READS IS OF BULK AT MOST 1048576: true; the input reads as it did. -/
def contradictLooseUptoRow : OpenClaim := { program := "ytglpfgkbecgaaaa", sum := "ba1625a62c7512a8b6503ff36fad8d9e5f0ffddbebe6b50d169d68bdeb7b4ee9", func := "ephemeris/ephemeriskeep2.ContradictLoose", spec := "contradictLoose", apart := false, narrowed := true }
def ContradictLooseUptoSaid : Prop := contradictLooseUptoRow.holds Try.pinned (OpenSpec.upto contradictLooseSpec)

/-- 'ephemeriskeep2.ContradictNeeded', WHERE WHAT IT READS IS OF BULK AT MOST 1048576: true; the input reads as it did. -/
def contradictNeededUptoRow : OpenClaim := { program := "ytglpfgkbecgaaaa", sum := "ba1625a62c7512a8b6503ff36fad8d9e5f0ffddbebe6b50d169d68bdeb7b4ee9", func := "ephemeris/ephemeriskeep2.ContradictNeeded", spec := "contradictNeeded", apart := false, narrowed := true }
def ContradictNeededUptoSaid : Prop := contradictNeededUptoRow.holds Try.pinned (OpenSpec.upto contradictNeededSpec)

/-- 'ephemeriskeep2.ContradictSpare', WHERE WHAT IT READS IS OF BULK AT MOST 1048576: true; the input reads as it did. -/
def contradictSpareUptoRow : OpenClaim := { program := "ytglpfgkbecgaaaa", sum := "ba1625a62c7512a8b6503ff36fad8d9e5f0ffddbebe6b50d169d68bdeb7b4ee9", func := "ephemeris/ephemeriskeep2.ContradictSpare", spec := "contradictSpare", apart := false, narrowed := true }
def ContradictSpareUptoSaid : Prop := contradictSpareUptoRow.holds Try.pinned (OpenSpec.upto contradictSpareSpec)

/-- 'ephemeriskeep2.GaugeExact', WHERE WHAT IT READS IS OF BULK AT MOST 1048576: true; the input reads as it did. -/
def gaugeExactUptoRow : OpenClaim := { program := "ytglpfgkbecgaaaa", sum := "ba1625a62c7512a8b6503ff36fad8d9e5f0ffddbebe6b50d169d68bdeb7b4ee9", func := "ephemeris/ephemeriskeep2.GaugeExact", spec := "gaugeExact", unfollowed := true, recurses := true, apart := false, narrowed := true }
def GaugeExactUptoSaid : Prop := gaugeExactUptoRow.holds Try.pinned (OpenSpec.upto gaugeExactSpec)

/-- 'ephemeriskeep2.GaugeLeast', WHERE WHAT IT READS IS OF BULK AT MOST 1048576: true; the input reads as it did. -/
def gaugeLeastUptoRow : OpenClaim := { program := "ytglpfgkbecgaaaa", sum := "ba1625a62c7512a8b6503ff36fad8d9e5f0ffddbebe6b50d169d68bdeb7b4ee9", func := "ephemeris/ephemeriskeep2.GaugeLeast", spec := "gaugeLeast", unfollowed := true, recurses := true, apart := false, narrowed := true }
def GaugeLeastUptoSaid : Prop := gaugeLeastUptoRow.holds Try.pinned (OpenSpec.upto gaugeLeastSpec)

/-- 'ephemeriskeep2.GaugeOrder', WHERE WHAT IT READS IS OF BULK AT MOST 1048576: true; the input reads as it did. -/
def gaugeOrderUptoRow : OpenClaim := { program := "ytglpfgkbecgaaaa", sum := "ba1625a62c7512a8b6503ff36fad8d9e5f0ffddbebe6b50d169d68bdeb7b4ee9", func := "ephemeris/ephemeriskeep2.GaugeOrder", spec := "gaugeOrder", unfollowed := true, recurses := true, apart := false, narrowed := true }
def GaugeOrderUptoSaid : Prop := gaugeOrderUptoRow.holds Try.pinned (OpenSpec.upto gaugeOrderSpec)

end Rows
end Go.Proofs.Ytglpfgkbecgaaaa
