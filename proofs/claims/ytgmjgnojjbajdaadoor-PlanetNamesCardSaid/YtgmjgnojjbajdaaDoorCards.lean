/-
  DERIVED. GIVEN WITH THE SEED: THE CARDS: each row of YtgmjgnojjbajdaaDoorRows.lean that lists a variable, with what it lists TIED to the program's text (the seventh form; the later family's looks); each row that meets fmt, with fmt's text TOLD by the authors' own Lean function (tested against real Go, not proved from fmt's source: count such statements apart). THE CARD IS WHAT COUNTS. Prove the row's statement (the work); the ties are given (YtgmjgnojjbajdaaDoorTie.lean); close each card by the builder's one call (the guide's Derived/Test/ToyasCard.lean, 'card_holds'). Laid BY PROGRAM, IN A SANDBOX (cutbox-door.mjs). By AI agents, Wed Nov 11 2026. No macro, syntax, notation, axiom, sorry.
-/
import Derived.Test.YtgmjgnojjbajdaaDoorRows
import GoSem.ClaimSeven
namespace Go.Proofs.YtgmjgnojjbajdaaDoor
namespace Rows

/-- THE TIED CARD OF 'ephemeriskeep2.StarStays'. -/
def starStaysCard : Claim7 := { stood := { row := starStaysRow, standIns := [], harness := (true, "eb5a02885aa1b4484924ee34ea3f26b435c971641dcf2311b4272ff74f28acc6"), looks := false }, kinds := [], alts := [], laidByText := true, laidKinds := [.data], laidTests := true, laidLooks := .later }
def StarStaysCardSaid : Prop := Claim7.holds Tryd.pinned (.plain (OpenSpec.ofChange starStaysSpec)) starStaysCard

/-- THE TIED CARD OF 'ephemeriskeep2.PlanetNames'. -/
def planetNamesCard : Claim7 := { stood := { row := planetNamesRow, standIns := [], harness := (true, "eb5a02885aa1b4484924ee34ea3f26b435c971641dcf2311b4272ff74f28acc6"), looks := false }, kinds := [], alts := [], laidByText := true, laidKinds := [.data], laidTests := true, laidLooks := .later }
def PlanetNamesCardSaid : Prop := Claim7.holds Tryd.pinned (.plain (OpenSpec.ofChange planetNamesSpec)) planetNamesCard

/-- THE TIED CARD OF 'ephemeriskeep2.PlanetNear'. -/
def planetNearCard : Claim7 := { stood := { row := planetNearRow, standIns := [], harness := (true, "eb5a02885aa1b4484924ee34ea3f26b435c971641dcf2311b4272ff74f28acc6"), looks := false }, kinds := [], alts := [], laidByText := true, laidKinds := [.data], laidTests := true, laidLooks := .later }
def PlanetNearCardSaid : Prop := Claim7.holds Tryd.pinned (.plain (OpenSpec.ofChange planetNearSpec)) planetNearCard

/-- THE TIED CARD OF 'ephemeriskeep2.StarmapRound'. -/
def starmapRoundCard : Claim7 := { stood := { row := starmapRoundRow, standIns := [], harness := (true, "eb5a02885aa1b4484924ee34ea3f26b435c971641dcf2311b4272ff74f28acc6"), looks := false }, kinds := [], alts := [], laidByText := true, laidKinds := [.data], laidTests := true, laidLooks := .later }
def StarmapRoundCardSaid : Prop := Claim7.holds Tryd.pinned (.plain (OpenSpec.ofChange starmapRoundSpec)) starmapRoundCard

/-- THE TIED CARD OF 'ephemeriskeep2.StarmapAgrees'. -/
def starmapAgreesCard : Claim7 := { stood := { row := starmapAgreesRow, standIns := [], harness := (true, "eb5a02885aa1b4484924ee34ea3f26b435c971641dcf2311b4272ff74f28acc6"), looks := false }, kinds := [], alts := [], laidByText := true, laidKinds := [.data], laidTests := true, laidLooks := .later }
def StarmapAgreesCardSaid : Prop := Claim7.holds Tryd.pinned (.plain (OpenSpec.ofChange starmapAgreesSpec)) starmapAgreesCard

/-- THE SECOND FORM's CARD OF 'ephemeriskeep2.StarStays'. -/
def starStaysUptoCard : Claim7 := { stood := { row := starStaysUptoRow, standIns := [], harness := (true, "eb5a02885aa1b4484924ee34ea3f26b435c971641dcf2311b4272ff74f28acc6"), looks := false }, kinds := [], alts := [], laidByText := true, laidKinds := [.data], laidTests := true, laidLooks := .later }
def StarStaysUptoCardSaid : Prop := Claim7.holds Tryd.pinned (.plain (OpenSpec.upto starStaysSpec)) starStaysUptoCard

/-- THE SECOND FORM's CARD OF 'ephemeriskeep2.PlanetNames'. -/
def planetNamesUptoCard : Claim7 := { stood := { row := planetNamesUptoRow, standIns := [], harness := (true, "eb5a02885aa1b4484924ee34ea3f26b435c971641dcf2311b4272ff74f28acc6"), looks := false }, kinds := [], alts := [], laidByText := true, laidKinds := [.data], laidTests := true, laidLooks := .later }
def PlanetNamesUptoCardSaid : Prop := Claim7.holds Tryd.pinned (.plain (OpenSpec.upto planetNamesSpec)) planetNamesUptoCard

/-- THE SECOND FORM's CARD OF 'ephemeriskeep2.PlanetNear'. -/
def planetNearUptoCard : Claim7 := { stood := { row := planetNearUptoRow, standIns := [], harness := (true, "eb5a02885aa1b4484924ee34ea3f26b435c971641dcf2311b4272ff74f28acc6"), looks := false }, kinds := [], alts := [], laidByText := true, laidKinds := [.data], laidTests := true, laidLooks := .later }
def PlanetNearUptoCardSaid : Prop := Claim7.holds Tryd.pinned (.plain (OpenSpec.upto planetNearSpec)) planetNearUptoCard

/-- THE SECOND FORM's CARD OF 'ephemeriskeep2.StarmapRound'. -/
def starmapRoundUptoCard : Claim7 := { stood := { row := starmapRoundUptoRow, standIns := [], harness := (true, "eb5a02885aa1b4484924ee34ea3f26b435c971641dcf2311b4272ff74f28acc6"), looks := false }, kinds := [], alts := [], laidByText := true, laidKinds := [.data], laidTests := true, laidLooks := .later }
def StarmapRoundUptoCardSaid : Prop := Claim7.holds Tryd.pinned (.plain (OpenSpec.upto starmapRoundSpec)) starmapRoundUptoCard

/-- THE SECOND FORM's CARD OF 'ephemeriskeep2.StarmapAgrees'. -/
def starmapAgreesUptoCard : Claim7 := { stood := { row := starmapAgreesUptoRow, standIns := [], harness := (true, "eb5a02885aa1b4484924ee34ea3f26b435c971641dcf2311b4272ff74f28acc6"), looks := false }, kinds := [], alts := [], laidByText := true, laidKinds := [.data], laidTests := true, laidLooks := .later }
def StarmapAgreesUptoCardSaid : Prop := Claim7.holds Tryd.pinned (.plain (OpenSpec.upto starmapAgreesSpec)) starmapAgreesUptoCard
end Rows
end Go.Proofs.YtgmjgnojjbajdaaDoor
