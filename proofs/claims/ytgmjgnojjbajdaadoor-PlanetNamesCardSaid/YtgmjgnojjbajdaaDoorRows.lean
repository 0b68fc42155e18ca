/-
  NARROWER THAN 'FOR EVERY INPUT', by the rows' own cells (each row's printed sentence says how): StarStays: laid · PlanetNames: laid · PlanetNear: laid · StarmapRound: laid · StarmapAgrees: laid.
  DERIVED. THE GIVEN ROWS OF THIS SEAT. 5 by the template 'for every input the law returns true; each argument reads behind the call as it read before'; 0 by the template 'total and deterministic' (their statements: YtgmjgnojjbajdaaDoorTotals.lean).
  GIVEN WITH THE SEED: the statements are not yours to turn. If you find one false, say at which input.
  Laid BY PROGRAM, IN A SANDBOX (cutbox-rows.mjs): the forced cells as the released guide's own fill.sh prints them over the translation cd87840cbd97de2f… (all of the seat's roots in one cut). By AI agents, Wed Nov 11 2026. No macro, syntax, notation, axiom, sorry.
-/
import Derived.Test.YtgmjgnojjbajdaaDoorChecked
import GoSem.Claim
import GoSem.ClaimJoined
import GoSem.ClaimMapViews
import Derived.JoinedTies
import Derived.KernelRfl
namespace Go.Proofs.YtgmjgnojjbajdaaDoor
/- THE CELL 'sum', in the pinned program and in every row, IS THE sha256 OF THE DUMP (.gsa) THAT YtgmjgnojjbajdaaDoorProg.lean LOADS. Nothing in Lean hashes anything: it is a label: what it is worth is what the hold of that sum in a sandbox is worth. -/
noncomputable def Tryd.pinned : Pinned := { name := "ytgmjgnojjbajdaadoor", sum := "cd87840cbd97de2f1ecf474fc3d0083254d623c0c33a8d9ba8d3a7da18e0989d", checked := Tryd.checked }
namespace Rows
def none {H : Type} : Left H := { results := [], args := [] }

/- WHAT THE LISTED PACKAGE-LEVEL VARIABLES READ AS WHEN THE CALL BEGINS. Each datum BY PROGRAM (the guide's laid-datum.mjs) off the statement by which the dump's own 'gosem.cut.vars' lays the variable. In a bare row this is a premise. The card (YtgmjgnojjbajdaaDoorCards.lean) ties it to the program's text. -/
def laid_ephemeris_star_lights {H : Type} : DataW H := .agg [.agg [.lit (.string [112, 111, 108, 97, 114, 105, 115]), .lit (.int .i64 105428000), .lit (.int .i64 247955800)], .agg [.lit (.string [97, 108, 100, 101, 98, 97, 114, 97, 110]), .lit (.int .i64 191609000), .lit (.int .i64 45859200)], .agg [.lit (.string [114, 105, 103, 101, 108]), .lit (.int .i64 218426000), .lit (.int .i64 (-22782200))], .agg [.lit (.string [115, 105, 114, 105, 117, 115]), .lit (.int .i64 281354000), .lit (.int .i64 (-46433600))], .agg [.lit (.string [114, 101, 103, 117, 108, 117, 115]), .lit (.int .i64 422477000), .lit (.int .i64 33242200)], .agg [.lit (.string [115, 112, 105, 99, 97]), .lit (.int .i64 559167000), .lit (.int .i64 (-31003900))], .agg [.lit (.string [97, 110, 116, 97, 114, 101, 115]), .lit (.int .i64 687083000), .lit (.int .i64 (-73422200))], .agg [.lit (.string [118, 101, 103, 97]), .lit (.int .i64 775650000), .lit (.int .i64 107732500)]]
def laid_ephemeris_planet_orbits {H : Type} : DataW H := .agg [.agg [.lit (.string [109, 101, 114, 99, 117, 114, 121]), .lit (.int .i64 387), .lit (.int .i64 986042219), .lit (.int .i64 11367595694444)], .agg [.lit (.string [118, 101, 110, 117, 115]), .lit (.int .i64 723), .lit (.int .i64 204930817), .lit (.int .i64 4450362055556)], .agg [.lit (.string [109, 97, 114, 115]), .lit (.int .i64 1524), .lit (.int .i64 214414189), .lit (.int .i64 1455613000000)], .agg [.lit (.string [106, 117, 112, 105, 116, 101, 114]), .lit (.int .i64 5203), .lit (.int .i64 589101452), .lit (.int .i64 230792472222)], .agg [.lit (.string [115, 97, 116, 117, 114, 110]), .lit (.int .i64 9537), .lit (.int .i64 310632725), .lit (.int .i64 92900388889)]]

/-- 'ephemeriskeep2.StarStays': WHATEVER THE INPUT: true; the input reads as it did. -/
def starStaysSpec : ChangeSpec := { name := "starStays", fn := fun _ => fun
  | [d1, d2, d3] => { results := [.lit (.bool true)], args := [d1, d2, d3] }
  | _ => none }
def starStaysRow : OpenClaim := { program := "ytgmjgnojjbajdaadoor", sum := "cd87840cbd97de2f1ecf474fc3d0083254d623c0c33a8d9ba8d3a7da18e0989d", func := "ephemeris/ephemeriskeep2.StarStays", spec := "starStays", named := ["ephemeris/star.lights"], apart := false, laid := [("ephemeris/star.lights", laid_ephemeris_star_lights)] }
def StarStaysSaid : Prop := starStaysRow.holds Tryd.pinned (OpenSpec.ofChange starStaysSpec)

/-- ITS FALSE NEIGHBOUR: 'it returns false'. Refute it at one input. -/
def starStaysWrong : ChangeSpec := { name := "starStays", fn := fun _ => fun
  | [d1, d2, d3] => { results := [.lit (.bool false)], args := [d1, d2, d3] }
  | _ => none }
def StarStaysWrongFalsely : Prop := starStaysRow.holds Tryd.pinned (OpenSpec.ofChange starStaysWrong)

/-- 'ephemeriskeep2.PlanetNames': WHATEVER THE INPUT: true; the input reads as it did. -/
def planetNamesSpec : ChangeSpec := { name := "planetNames", fn := fun _ => fun
  | [d1, d2] => { results := [.lit (.bool true)], args := [d1, d2] }
  | _ => none }
def planetNamesRow : OpenClaim := { program := "ytgmjgnojjbajdaadoor", sum := "cd87840cbd97de2f1ecf474fc3d0083254d623c0c33a8d9ba8d3a7da18e0989d", func := "ephemeris/ephemeriskeep2.PlanetNames", spec := "planetNames", unfollowed := true, recurses := true, named := ["ephemeris/planet.orbits"], apart := false, laid := [("ephemeris/planet.orbits", laid_ephemeris_planet_orbits)] }
def PlanetNamesSaid : Prop := planetNamesRow.holds Tryd.pinned (OpenSpec.ofChange planetNamesSpec)

/-- ITS FALSE NEIGHBOUR: 'it returns false'. Refute it at one input. -/
def planetNamesWrong : ChangeSpec := { name := "planetNames", fn := fun _ => fun
  | [d1, d2] => { results := [.lit (.bool false)], args := [d1, d2] }
  | _ => none }
def PlanetNamesWrongFalsely : Prop := planetNamesRow.holds Tryd.pinned (OpenSpec.ofChange planetNamesWrong)

/-- 'ephemeriskeep2.PlanetNear': WHATEVER THE INPUT: true; the input reads as it did. -/
def planetNearSpec : ChangeSpec := { name := "planetNear", fn := fun _ => fun
  | [d] => { results := [.lit (.bool true)], args := [d] }
  | _ => none }
def planetNearRow : OpenClaim := { program := "ytgmjgnojjbajdaadoor", sum := "cd87840cbd97de2f1ecf474fc3d0083254d623c0c33a8d9ba8d3a7da18e0989d", func := "ephemeris/ephemeriskeep2.PlanetNear", spec := "planetNear", unfollowed := true, recurses := true, named := ["ephemeris/planet.orbits"], apart := false, laid := [("ephemeris/planet.orbits", laid_ephemeris_planet_orbits)] }
def PlanetNearSaid : Prop := planetNearRow.holds Tryd.pinned (OpenSpec.ofChange planetNearSpec)

/-- ITS FALSE NEIGHBOUR: 'it returns false'. Refute it at one input. -/
def planetNearWrong : ChangeSpec := { name := "planetNear", fn := fun _ => fun
  | [d] => { results := [.lit (.bool false)], args := [d] }
  | _ => none }
def PlanetNearWrongFalsely : Prop := planetNearRow.holds Tryd.pinned (OpenSpec.ofChange planetNearWrong)

/-- 'ephemeriskeep2.StarmapRound': WHATEVER THE INPUT: true; the input reads as it did. -/
def starmapRoundSpec : ChangeSpec := { name := "starmapRound", fn := fun _ => fun
  | [d1, d2] => { results := [.lit (.bool true)], args := [d1, d2] }
  | _ => none }
def starmapRoundRow : OpenClaim := { program := "ytgmjgnojjbajdaadoor", sum := "cd87840cbd97de2f1ecf474fc3d0083254d623c0c33a8d9ba8d3a7da18e0989d", func := "ephemeris/ephemeriskeep2.StarmapRound", spec := "starmapRound", named := ["ephemeris/star.lights"], apart := false, laid := [("ephemeris/star.lights", laid_ephemeris_star_lights)] }
def StarmapRoundSaid : Prop := starmapRoundRow.holds Tryd.pinned (OpenSpec.ofChange starmapRoundSpec)

/-- ITS FALSE NEIGHBOUR: 'it returns false'. Refute it at one input. -/
def starmapRoundWrong : ChangeSpec := { name := "starmapRound", fn := fun _ => fun
  | [d1, d2] => { results := [.lit (.bool false)], args := [d1, d2] }
  | _ => none }
def StarmapRoundWrongFalsely : Prop := starmapRoundRow.holds Tryd.pinned (OpenSpec.ofChange starmapRoundWrong)

/-- 'ephemeriskeep2.StarmapAgrees': WHATEVER THE INPUT: true; the input reads as it did. -/
def starmapAgreesSpec : ChangeSpec := { name := "starmapAgrees", fn := fun _ => fun
  | [d1, d2] => { results := [.lit (.bool true)], args := [d1, d2] }
  | _ => none }
def starmapAgreesRow : OpenClaim := { program := "ytgmjgnojjbajdaadoor", sum := "cd87840cbd97de2f1ecf474fc3d0083254d623c0c33a8d9ba8d3a7da18e0989d", func := "ephemeris/ephemeriskeep2.StarmapAgrees", spec := "starmapAgrees", named := ["ephemeris/star.lights"], apart := false, laid := [("ephemeris/star.lights", laid_ephemeris_star_lights)] }
def StarmapAgreesSaid : Prop := starmapAgreesRow.holds Tryd.pinned (OpenSpec.ofChange starmapAgreesSpec)

/-- ITS FALSE NEIGHBOUR: 'it returns false'. Refute it at one input. -/
def starmapAgreesWrong : ChangeSpec := { name := "starmapAgrees", fn := fun _ => fun
  | [d1, d2] => { results := [.lit (.bool false)], args := [d1, d2] }
  | _ => none }
def StarmapAgreesWrongFalsely : Prop := starmapAgreesRow.holds Tryd.pinned (OpenSpec.ofChange starmapAgreesWrong)

/- THE SECOND FORM. 'bulk': how many values and letters a reading holds, each counted each time it is reached (what is shared counts as often as it is met; a slice's spare places count too). A statement '..UptoSaid' is the law's where the arguments, and the package variables that the reading takes, are together of bulk at most 1048576: NARROWER than '..Said'. Prove '..Said' where nothing that the law and all that it calls make is longer than what came in: it says more and counts as full. Else prove '..UptoSaid'. A law counts once. -/
mutual
def uptoBulk {H : Type} : DataW H → Nat
  | .lit (.string bytes) => bytes.length + 1
  | .lit _ => 1
  | .nil => 1
  | .ptr d => uptoBulk d + 1
  | .slice elems spare => uptoBulkAll elems + uptoBulkAll spare + 1
  | .agg parts => uptoBulkAll parts + 1
  | .iface _ d => uptoBulk d + 1
  | .map entries => uptoBulkEntries entries + 1
  | .held _ => 1
def uptoBulkAll {H : Type} : List (DataW H) → Nat
  | [] => 0
  | d :: r => uptoBulk d + uptoBulkAll r
def uptoBulkEntries {H : Type} : List (Lit × DataW H) → Nat
  | [] => 0
  | x :: r => uptoBulkEntry x + uptoBulkEntries r
def uptoBulkEntry {H : Type} : Lit × DataW H → Nat
  | (.string bytes, d) => bytes.length + uptoBulk d + 1
  | (_, d) => uptoBulk d + 1
 end
def uptoSmall : (H : Type) → List (DataW H) → Bool := fun _ ds => decide (uptoBulkAll ds ≤ 1048576)
def OpenSpec.upto (s : _root_.Go.ChangeSpec) : _root_.Go.OpenSpec := { _root_.Go.OpenSpec.ofChange s with cond := some uptoSmall }

/-- 'ephemeriskeep2.StarStays', WHERE WHAT IT READS IS OF BULK AT MOST 1048576: true; the input reads as it did. -/
def starStaysUptoRow : OpenClaim := { program := "ytgmjgnojjbajdaadoor", sum := "cd87840cbd97de2f1ecf474fc3d0083254d623c0c33a8d9ba8d3a7da18e0989d", func := "ephemeris/ephemeriskeep2.StarStays", spec := "starStays", named := ["ephemeris/star.lights"], apart := false, laid := [("ephemeris/star.lights", laid_ephemeris_star_lights)], narrowed := true }
def StarStaysUptoSaid : Prop := starStaysUptoRow.holds Tryd.pinned (OpenSpec.upto starStaysSpec)

/-- 'ephemeriskeep2.PlanetNames', WHERE WHAT IT READS IS OF BULK AT MOST 1048576: true; the input reads as it did. -/
def planetNamesUptoRow : OpenClaim := { program := "ytgmjgnojjbajdaadoor", sum := "cd87840cbd97de2f1ecf474fc3d0083254d623c0c33a8d9ba8d3a7da18e0989d", func := "ephemeris/ephemeriskeep2.PlanetNames", spec := "planetNames", unfollowed := true, recurses := true, named := ["ephemeris/planet.orbits"], apart := false, laid := [("ephemeris/planet.orbits", laid_ephemeris_planet_orbits)], narrowed := true }
def PlanetNamesUptoSaid : Prop := planetNamesUptoRow.holds Tryd.pinned (OpenSpec.upto planetNamesSpec)

/-- 'ephemeriskeep2.PlanetNear', WHERE WHAT IT READS IS OF BULK AT MOST 1048576: true; the input reads as it did. -/
def planetNearUptoRow : OpenClaim := { program := "ytgmjgnojjbajdaadoor", sum := "cd87840cbd97de2f1ecf474fc3d0083254d623c0c33a8d9ba8d3a7da18e0989d", func := "ephemeris/ephemeriskeep2.PlanetNear", spec := "planetNear", unfollowed := true, recurses := true, named := ["ephemeris/planet.orbits"], apart := false, laid := [("ephemeris/planet.orbits", laid_ephemeris_planet_orbits)], narrowed := true }
def PlanetNearUptoSaid : Prop := planetNearUptoRow.holds Tryd.pinned (OpenSpec.upto planetNearSpec)

/-- 'ephemeriskeep2.StarmapRound', WHERE WHAT IT READS IS OF BULK AT MOST 1048576: true; the input reads as it did. -/
def starmapRoundUptoRow : OpenClaim := { program := "ytgmjgnojjbajdaadoor", sum := "cd87840cbd97de2f1ecf474fc3d0083254d623c0c33a8d9ba8d3a7da18e0989d", func := "ephemeris/ephemeriskeep2.StarmapRound", spec := "starmapRound", named := ["ephemeris/star.lights"], apart := false, laid := [("ephemeris/star.lights", laid_ephemeris_star_lights)], narrowed := true }
def StarmapRoundUptoSaid : Prop := starmapRoundUptoRow.holds Tryd.pinned (OpenSpec.upto starmapRoundSpec)

/-- 'ephemeriskeep2.StarmapAgrees', WHERE WHAT IT READS IS OF BULK AT MOST 1048576: true; the input reads as it did. -/
def starmapAgreesUptoRow : OpenClaim := { program := "ytgmjgnojjbajdaadoor", sum := "cd87840cbd97de2f1ecf474fc3d0083254d623c0c33a8d9ba8d3a7da18e0989d", func := "ephemeris/ephemeriskeep2.StarmapAgrees", spec := "starmapAgrees", named := ["ephemeris/star.lights"], apart := false, laid := [("ephemeris/star.lights", laid_ephemeris_star_lights)], narrowed := true }
def StarmapAgreesUptoSaid : Prop := starmapAgreesUptoRow.holds Tryd.pinned (OpenSpec.upto starmapAgreesSpec)

end Rows
end Go.Proofs.YtgmjgnojjbajdaaDoor
