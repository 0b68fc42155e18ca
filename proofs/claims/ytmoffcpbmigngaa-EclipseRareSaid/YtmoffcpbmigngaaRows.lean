/-
  No cell of these rows narrows 'for every input' (looked for: loops, veiled, ifaces, maps, wideKeys, modest, calm, conditions, laid).
  DERIVED. THE GIVEN ROWS OF THIS SEAT. 12 by the template 'for every input the law returns true; each argument reads behind the call as it read before'; 0 by the template 'total and deterministic' (their statements: YtmoffcpbmigngaaTotals.lean).
  GIVEN WITH THE SEED: the statements are not yours to turn. If you find one false, say at which input.
  Laid BY PROGRAM, IN A SANDBOX (cutbox-rows.mjs): the forced cells as the released guide's own fill.sh prints them over the translation af8333ae78106888… (all of the seat's roots in one cut). By AI agents, Wed Nov 11 2026. No macro, syntax, notation, axiom, sorry.
-/
import Derived.Test.YtmoffcpbmigngaaChecked
import GoSem.Claim
import GoSem.ClaimJoined
import GoSem.ClaimMapViews
import Derived.JoinedTies
import Derived.KernelRfl
namespace Go.Proofs.Ytmoffcpbmigngaa
/- THE CELL 'sum', in the pinned program and in every row, IS THE sha256 OF THE DUMP (.gsa) THAT YtmoffcpbmigngaaProg.lean LOADS. Nothing in Lean hashes anything: it is a label: what it is worth is what the hold of that sum in a sandbox is worth. -/
noncomputable def Try.pinned : Pinned := { name := "ytmoffcpbmigngaa", sum := "af8333ae7810688860f8d8a348b6b5da087a90ca96edfd08c0347a981b78efc1", checked := Try.checked }
namespace Rows
def none {H : Type} : Left H := { results := [], args := [] }

/-- 'ephemeriskeep2.TrigInverts': WHATEVER THE INPUT: true; the input reads as it did. -/
def trigInvertsSpec : ChangeSpec := { name := "trigInverts", fn := fun _ => fun
  | [d] => { results := [.lit (.bool true)], args := [d] }
  | _ => none }
def trigInvertsRow : OpenClaim := { program := "ytmoffcpbmigngaa", sum := "af8333ae7810688860f8d8a348b6b5da087a90ca96edfd08c0347a981b78efc1", func := "ephemeris/ephemeriskeep2.TrigInverts", spec := "trigInverts", apart := false }
def TrigInvertsSaid : Prop := trigInvertsRow.holds Try.pinned (OpenSpec.ofChange trigInvertsSpec)

/-- ITS FALSE NEIGHBOUR: 'it returns false'. Refute it at one input. -/
def trigInvertsWrong : ChangeSpec := { name := "trigInverts", fn := fun _ => fun
  | [d] => { results := [.lit (.bool false)], args := [d] }
  | _ => none }
def TrigInvertsWrongFalsely : Prop := trigInvertsRow.holds Try.pinned (OpenSpec.ofChange trigInvertsWrong)

/-- 'ephemeriskeep2.DialSides': WHATEVER THE INPUT: true; the input reads as it did. -/
def dialSidesSpec : ChangeSpec := { name := "dialSides", fn := fun _ => fun
  | [d1, d2] => { results := [.lit (.bool true)], args := [d1, d2] }
  | _ => none }
def dialSidesRow : OpenClaim := { program := "ytmoffcpbmigngaa", sum := "af8333ae7810688860f8d8a348b6b5da087a90ca96edfd08c0347a981b78efc1", func := "ephemeris/ephemeriskeep2.DialSides", spec := "dialSides", apart := false }
def DialSidesSaid : Prop := dialSidesRow.holds Try.pinned (OpenSpec.ofChange dialSidesSpec)

/-- ITS FALSE NEIGHBOUR: 'it returns false'. Refute it at one input. -/
def dialSidesWrong : ChangeSpec := { name := "dialSides", fn := fun _ => fun
  | [d1, d2] => { results := [.lit (.bool false)], args := [d1, d2] }
  | _ => none }
def DialSidesWrongFalsely : Prop := dialSidesRow.holds Try.pinned (OpenSpec.ofChange dialSidesWrong)

/-- 'ephemeriskeep2.DialNoon': WHATEVER THE INPUT: true; the input reads as it did. -/
def dialNoonSpec : ChangeSpec := { name := "dialNoon", fn := fun _ => fun
  | [d] => { results := [.lit (.bool true)], args := [d] }
  | _ => none }
def dialNoonRow : OpenClaim := { program := "ytmoffcpbmigngaa", sum := "af8333ae7810688860f8d8a348b6b5da087a90ca96edfd08c0347a981b78efc1", func := "ephemeris/ephemeriskeep2.DialNoon", spec := "dialNoon", apart := false }
def DialNoonSaid : Prop := dialNoonRow.holds Try.pinned (OpenSpec.ofChange dialNoonSpec)

/-- ITS FALSE NEIGHBOUR: 'it returns false'. Refute it at one input. -/
def dialNoonWrong : ChangeSpec := { name := "dialNoon", fn := fun _ => fun
  | [d] => { results := [.lit (.bool false)], args := [d] }
  | _ => none }
def DialNoonWrongFalsely : Prop := dialNoonRow.holds Try.pinned (OpenSpec.ofChange dialNoonWrong)

/-- 'ephemeriskeep2.SunYears': WHATEVER THE INPUT: true; the input reads as it did. -/
def sunYearsSpec : ChangeSpec := { name := "sunYears", fn := fun _ => fun
  | [d1, d2] => { results := [.lit (.bool true)], args := [d1, d2] }
  | _ => none }
def sunYearsRow : OpenClaim := { program := "ytmoffcpbmigngaa", sum := "af8333ae7810688860f8d8a348b6b5da087a90ca96edfd08c0347a981b78efc1", func := "ephemeris/ephemeriskeep2.SunYears", spec := "sunYears", apart := false }
def SunYearsSaid : Prop := sunYearsRow.holds Try.pinned (OpenSpec.ofChange sunYearsSpec)

/-- ITS FALSE NEIGHBOUR: 'it returns false'. Refute it at one input. -/
def sunYearsWrong : ChangeSpec := { name := "sunYears", fn := fun _ => fun
  | [d1, d2] => { results := [.lit (.bool false)], args := [d1, d2] }
  | _ => none }
def SunYearsWrongFalsely : Prop := sunYearsRow.holds Try.pinned (OpenSpec.ofChange sunYearsWrong)

/-- 'ephemeriskeep2.MoonTilts': WHATEVER THE INPUT: true; the input reads as it did. -/
def moonTiltsSpec : ChangeSpec := { name := "moonTilts", fn := fun _ => fun
  | [d] => { results := [.lit (.bool true)], args := [d] }
  | _ => none }
def moonTiltsRow : OpenClaim := { program := "ytmoffcpbmigngaa", sum := "af8333ae7810688860f8d8a348b6b5da087a90ca96edfd08c0347a981b78efc1", func := "ephemeris/ephemeriskeep2.MoonTilts", spec := "moonTilts", apart := false }
def MoonTiltsSaid : Prop := moonTiltsRow.holds Try.pinned (OpenSpec.ofChange moonTiltsSpec)

/-- ITS FALSE NEIGHBOUR: 'it returns false'. Refute it at one input. -/
def moonTiltsWrong : ChangeSpec := { name := "moonTilts", fn := fun _ => fun
  | [d] => { results := [.lit (.bool false)], args := [d] }
  | _ => none }
def MoonTiltsWrongFalsely : Prop := moonTiltsRow.holds Try.pinned (OpenSpec.ofChange moonTiltsWrong)

/-- 'ephemeriskeep2.PlaceParts': WHATEVER THE INPUT: true; the input reads as it did. -/
def placePartsSpec : ChangeSpec := { name := "placeParts", fn := fun _ => fun
  | [d1, d2, d3] => { results := [.lit (.bool true)], args := [d1, d2, d3] }
  | _ => none }
def placePartsRow : OpenClaim := { program := "ytmoffcpbmigngaa", sum := "af8333ae7810688860f8d8a348b6b5da087a90ca96edfd08c0347a981b78efc1", func := "ephemeris/ephemeriskeep2.PlaceParts", spec := "placeParts", apart := false }
def PlacePartsSaid : Prop := placePartsRow.holds Try.pinned (OpenSpec.ofChange placePartsSpec)

/-- ITS FALSE NEIGHBOUR: 'it returns false'. Refute it at one input. -/
def placePartsWrong : ChangeSpec := { name := "placeParts", fn := fun _ => fun
  | [d1, d2, d3] => { results := [.lit (.bool false)], args := [d1, d2, d3] }
  | _ => none }
def PlacePartsWrongFalsely : Prop := placePartsRow.holds Try.pinned (OpenSpec.ofChange placePartsWrong)

/-- 'ephemeriskeep2.EclipseRare': WHATEVER THE INPUT: true; the input reads as it did. -/
def eclipseRareSpec : ChangeSpec := { name := "eclipseRare", fn := fun _ => fun
  | [d] => { results := [.lit (.bool true)], args := [d] }
  | _ => none }
def eclipseRareRow : OpenClaim := { program := "ytmoffcpbmigngaa", sum := "af8333ae7810688860f8d8a348b6b5da087a90ca96edfd08c0347a981b78efc1", func := "ephemeris/ephemeriskeep2.EclipseRare", spec := "eclipseRare", unfollowed := true, recurses := true, apart := false }
def EclipseRareSaid : Prop := eclipseRareRow.holds Try.pinned (OpenSpec.ofChange eclipseRareSpec)

/-- ITS FALSE NEIGHBOUR: 'it returns false'. Refute it at one input. -/
def eclipseRareWrong : ChangeSpec := { name := "eclipseRare", fn := fun _ => fun
  | [d] => { results := [.lit (.bool false)], args := [d] }
  | _ => none }
def EclipseRareWrongFalsely : Prop := eclipseRareRow.holds Try.pinned (OpenSpec.ofChange eclipseRareWrong)

/-- 'ephemeriskeep2.PathDark': WHATEVER THE INPUT: true; the input reads as it did. -/
def pathDarkSpec : ChangeSpec := { name := "pathDark", fn := fun _ => fun
  | [d1, d2] => { results := [.lit (.bool true)], args := [d1, d2] }
  | _ => none }
def pathDarkRow : OpenClaim := { program := "ytmoffcpbmigngaa", sum := "af8333ae7810688860f8d8a348b6b5da087a90ca96edfd08c0347a981b78efc1", func := "ephemeris/ephemeriskeep2.PathDark", spec := "pathDark", unfollowed := true, recurses := true, apart := false }
def PathDarkSaid : Prop := pathDarkRow.holds Try.pinned (OpenSpec.ofChange pathDarkSpec)

/-- ITS FALSE NEIGHBOUR: 'it returns false'. Refute it at one input. -/
def pathDarkWrong : ChangeSpec := { name := "pathDark", fn := fun _ => fun
  | [d1, d2] => { results := [.lit (.bool false)], args := [d1, d2] }
  | _ => none }
def PathDarkWrongFalsely : Prop := pathDarkRow.holds Try.pinned (OpenSpec.ofChange pathDarkWrong)

/-- 'ephemeriskeep2.PathSun': WHATEVER THE INPUT: true; the input reads as it did. -/
def pathSunSpec : ChangeSpec := { name := "pathSun", fn := fun _ => fun
  | [d1, d2] => { results := [.lit (.bool true)], args := [d1, d2] }
  | _ => none }
def pathSunRow : OpenClaim := { program := "ytmoffcpbmigngaa", sum := "af8333ae7810688860f8d8a348b6b5da087a90ca96edfd08c0347a981b78efc1", func := "ephemeris/ephemeriskeep2.PathSun", spec := "pathSun", unfollowed := true, recurses := true, apart := false }
def PathSunSaid : Prop := pathSunRow.holds Try.pinned (OpenSpec.ofChange pathSunSpec)

/-- ITS FALSE NEIGHBOUR: 'it returns false'. Refute it at one input. -/
def pathSunWrong : ChangeSpec := { name := "pathSun", fn := fun _ => fun
  | [d1, d2] => { results := [.lit (.bool false)], args := [d1, d2] }
  | _ => none }
def PathSunWrongFalsely : Prop := pathSunRow.holds Try.pinned (OpenSpec.ofChange pathSunWrong)

/-- 'ephemeriskeep2.CrescentYoung': WHATEVER THE INPUT: true; the input reads as it did. -/
def crescentYoungSpec : ChangeSpec := { name := "crescentYoung", fn := fun _ => fun
  | [d1, d2] => { results := [.lit (.bool true)], args := [d1, d2] }
  | _ => none }
def crescentYoungRow : OpenClaim := { program := "ytmoffcpbmigngaa", sum := "af8333ae7810688860f8d8a348b6b5da087a90ca96edfd08c0347a981b78efc1", func := "ephemeris/ephemeriskeep2.CrescentYoung", spec := "crescentYoung", unfollowed := true, recurses := true, apart := false }
def CrescentYoungSaid : Prop := crescentYoungRow.holds Try.pinned (OpenSpec.ofChange crescentYoungSpec)

/-- ITS FALSE NEIGHBOUR: 'it returns false'. Refute it at one input. -/
def crescentYoungWrong : ChangeSpec := { name := "crescentYoung", fn := fun _ => fun
  | [d1, d2] => { results := [.lit (.bool false)], args := [d1, d2] }
  | _ => none }
def CrescentYoungWrongFalsely : Prop := crescentYoungRow.holds Try.pinned (OpenSpec.ofChange crescentYoungWrong)

/-- 'ephemeriskeep2.RisesetDays': WHATEVER THE INPUT: true; the input reads as it did. -/
def risesetDaysSpec : ChangeSpec := { name := "risesetDays", fn := fun _ => fun
  | [d1, d2] => { results := [.lit (.bool true)], args := [d1, d2] }
  | _ => none }
def risesetDaysRow : OpenClaim := { program := "ytmoffcpbmigngaa", sum := "af8333ae7810688860f8d8a348b6b5da087a90ca96edfd08c0347a981b78efc1", func := "ephemeris/ephemeriskeep2.RisesetDays", spec := "risesetDays", unfollowed := true, recurses := true, apart := false }
def RisesetDaysSaid : Prop := risesetDaysRow.holds Try.pinned (OpenSpec.ofChange risesetDaysSpec)

/-- ITS FALSE NEIGHBOUR: 'it returns false'. Refute it at one input. -/
def risesetDaysWrong : ChangeSpec := { name := "risesetDays", fn := fun _ => fun
  | [d1, d2] => { results := [.lit (.bool false)], args := [d1, d2] }
  | _ => none }
def RisesetDaysWrongFalsely : Prop := risesetDaysRow.holds Try.pinned (OpenSpec.ofChange risesetDaysWrong)

/-- 'ephemeriskeep2.RisesetMoons': WHATEVER THE INPUT: true; the input reads as it did. -/
def risesetMoonsSpec : ChangeSpec := { name := "risesetMoons", fn := fun _ => fun
  | [d1, d2] => { results := [.lit (.bool true)], args := [d1, d2] }
  | _ => none }
def risesetMoonsRow : OpenClaim := { program := "ytmoffcpbmigngaa", sum := "af8333ae7810688860f8d8a348b6b5da087a90ca96edfd08c0347a981b78efc1", func := "ephemeris/ephemeriskeep2.RisesetMoons", spec := "risesetMoons", unfollowed := true, recurses := true, apart := false }
def RisesetMoonsSaid : Prop := risesetMoonsRow.holds Try.pinned (OpenSpec.ofChange risesetMoonsSpec)

/-- ITS FALSE NEIGHBOUR: 'it returns false'. Refute it at one input. -/
def risesetMoonsWrong : ChangeSpec := { name := "risesetMoons", fn := fun _ => fun
  | [d1, d2] => { results := [.lit (.bool false)], args := [d1, d2] }
  | _ => none }
def RisesetMoonsWrongFalsely : Prop := risesetMoonsRow.holds Try.pinned (OpenSpec.ofChange risesetMoonsWrong)

/- THE SECOND FORM. 'bulk': how many values and letters a reading holds, each counted each time it is reached (what is shared counts as often as it is met; a slice's spare places count too). A statement '..UptoSaid' is the law's where the arguments, and the package variables that the reading takes, are together of bulk at most 1048576: NARROWER than '..Said'. Prove '..Said' where nothing that the law and all that it calls make is longer than what came in: it says more and counts as full. Else prove '..UptoSaid'. A law counts once. -/
mutual
def uptoBulk {H : Type} : DataW H → Nat
  | .lit (.string bytes) => bytes.length + 1
  | .lit _ => 1
  | .nil => 1
  | .ptr d => uptoBulk d + 1
  | .slice elems spare => uptoBulkAll elems + uptoBulkAll spare + 1
  | .agg parts => uptoBulkAll parts + 1
  | .iface _ d => uptoBulk d + 1
  | .map entries => uptoBulkEntries entries + 1
  | .held _ => 1
def uptoBulkAll {H : Type} : List (DataW H) → Nat
  | [] => 0
  | d :: r => uptoBulk d + uptoBulkAll r
def uptoBulkEntries {H : Type} : List (Lit × DataW H) → Nat
  | [] => 0
  | x :: r => uptoBulkEntry x + uptoBulkEntries r
def uptoBulkEntry {H : Type} : Lit × DataW H → Nat
  | (.string bytes, d) => bytes.length + uptoBulk d + 1
  | (_, d) => uptoBulk d + 1
 end
def uptoSmall : (H : Type) → List (DataW H) → Bool := fun _ ds => decide (uptoBulkAll ds ≤ 1048576)
def OpenSpec.upto (s : _root_.Go.ChangeSpec) : _root_.Go.OpenSpec := { _root_.Go.OpenSpec.ofChange s with cond := some uptoSmall }

/-- 'ephemeriskeep2.TrigInverts', WHERE WHAT IT READS IS OF BULK AT MOST 1048576: true; the input reads as it did. -/
def trigInvertsUptoRow : OpenClaim := { program := "ytmoffcpbmigngaa", sum := "af8333ae7810688860f8d8a348b6b5da087a90ca96edfd08c0347a981b78efc1", func := "ephemeris/ephemeriskeep2.TrigInverts", spec := "trigInverts", apart := false, narrowed := true }
def TrigInvertsUptoSaid : Prop := trigInvertsUptoRow.holds Try.pinned (OpenSpec.upto trigInvertsSpec)

/-- 'ephemeriskeep2.DialSides', WHERE WHAT IT READS IS OF BULK AT MOST 1048576: true; the input reads as it did. -/
def dialSidesUptoRow : OpenClaim := { program := "ytmoffcpbmigngaa", sum := "af8333ae7810688860f8d8a348b6b5da087a90ca96edfd08c0347a981b78efc1", func := "ephemeris/ephemeriskeep2.DialSides", spec := "dialSides", apart := false, narrowed := true }
def DialSidesUptoSaid : Prop := dialSidesUptoRow.holds Try.pinned (OpenSpec.upto dialSidesSpec)

/-- 'ephemeriskeep2.DialNoon', WHERE WHAT IT READS IS OF BULK AT MOST 1048576: true; the input reads as it did. -/
def dialNoonUptoRow : OpenClaim := { program := "ytmoffcpbmigngaa", sum := "af8333ae7810688860f8d8a348b6b5da087a90ca96edfd08c0347a981b78efc1", func := "ephemeris/ephemeriskeep2.DialNoon", spec := "dialNoon", apart := false, narrowed := true }
def DialNoonUptoSaid : Prop := dialNoonUptoRow.holds Try.pinned (OpenSpec.upto dialNoonSpec)

/-- 'ephemeriskeep2.SunYears', WHERE WHAT IT READS IS OF BULK AT MOST 1048576: true; the input reads as it did. -/
def sunYearsUptoRow : OpenClaim := { program := "ytmoffcpbmigngaa", sum := "af8333ae7810688860f8d8a348b6b5da087a90ca96edfd08c0347a981b78efc1", func := "ephemeris/ephemeriskeep2.SunYears", spec := "sunYears", apart := false, narrowed := true }
def SunYearsUptoSaid : Prop := sunYearsUptoRow.holds Try.pinned (OpenSpec.upto sunYearsSpec)

/-- 'ephemeriskeep2.MoonTilts', WHERE WHAT IT READS IS OF BULK AT MOST 1048576: true; the input reads as it did. -/
def moonTiltsUptoRow : OpenClaim := { program := "ytmoffcpbmigngaa", sum := "af8333ae7810688860f8d8a348b6b5da087a90ca96edfd08c0347a981b78efc1", func := "ephemeris/ephemeriskeep2.MoonTilts", spec := "moonTilts", apart := false, narrowed := true }
def MoonTiltsUptoSaid : Prop := moonTiltsUptoRow.holds Try.pinned (OpenSpec.upto moonTiltsSpec)

/-- 'ephemeriskeep2.PlaceParts', WHERE WHAT IT READS IS OF BULK AT MOST 1048576: true; the input reads as it did. -/
def placePartsUptoRow : OpenClaim := { program := "ytmoffcpbmigngaa", sum := "af8333ae7810688860f8d8a348b6b5da087a90ca96edfd08c0347a981b78efc1", func := "ephemeris/ephemeriskeep2.PlaceParts", spec := "placeParts", apart := false, narrowed := true }
def PlacePartsUptoSaid : Prop := placePartsUptoRow.holds Try.pinned (OpenSpec.upto placePartsSpec)

/-- 'ephemeriskeep2.EclipseRare', WHERE WHAT IT READS IS OF BULK AT MOST 1048576: true; the input reads as it did. -/
def eclipseRareUptoRow : OpenClaim := { program := "ytmoffcpbmigngaa", sum := "af8333ae7810688860f8d8a348b6b5da087a90ca96edfd08c0347a981b78efc1", func := "ephemeris/ephemeriskeep2.EclipseRare", spec := "eclipseRare", unfollowed := true, recurses := true, apart := false, narrowed := true }
def EclipseRareUptoSaid : Prop := eclipseRareUptoRow.holds Try.pinned (OpenSpec.upto eclipseRareSpec)

/-- 'ephemeriskeep2.PathDark', WHERE WHAT IT READS IS OF BULK AT MOST 1048576: true; the input reads as it did. -/
def pathDarkUptoRow : OpenClaim := { program := "ytmoffcpbmigngaa", sum := "af8333ae7810688860f8d8a348b6b5da087a90ca96edfd08c0347a981b78efc1", func := "ephemeris/ephemeriskeep2.PathDark", spec := "pathDark", unfollowed := true, recurses := true, apart := false, narrowed := true }
def PathDarkUptoSaid : Prop := pathDarkUptoRow.holds Try.pinned (OpenSpec.upto pathDarkSpec)

/-- 'ephemeriskeep2.PathSun', WHERE WHAT IT READS IS OF BULK AT MOST 1048576: true; the input reads as it did. -/
def pathSunUptoRow : OpenClaim := { program := "ytmoffcpbmigngaa", sum := "af8333ae7810688860f8d8a348b6b5da087a90ca96edfd08c0347a981b78efc1", func := "ephemeris/ephemeriskeep2.PathSun", spec := "pathSun", unfollowed := true, recurses := true, apart := false, narrowed := true }
def PathSunUptoSaid : Prop := pathSunUptoRow.holds Try.pinned (OpenSpec.upto pathSunSpec)

/-- 'ephemeriskeep2.CrescentYoung', WHERE WHAT IT READS IS OF BULK AT MOST 1048576: true; the input reads as it did. -/
def crescentYoungUptoRow : OpenClaim := { program := "ytmoffcpbmigngaa", sum := "af8333ae7810688860f8d8a348b6b5da087a90ca96edfd08c0347a981b78efc1", func := "ephemeris/ephemeriskeep2.CrescentYoung", spec := "crescentYoung", unfollowed := true, recurses := true, apart := false, narrowed := true }
def CrescentYoungUptoSaid : Prop := crescentYoungUptoRow.holds Try.pinned (OpenSpec.upto crescentYoungSpec)

/-- 'ephemeriskeep2.RisesetDays', WHERE WHAT IT READS IS OF BULK AT MOST 1048576: true; the input reads as it did. -/
def risesetDaysUptoRow : OpenClaim := { program := "ytmoffcpbmigngaa", sum := "af8333ae7810688860f8d8a348b6b5da087a90ca96edfd08c0347a981b78efc1", func := "ephemeris/ephemeriskeep2.RisesetDays", spec := "risesetDays", unfollowed := true, recurses := true, apart := false, narrowed := true }
def RisesetDaysUptoSaid : Prop := risesetDaysUptoRow.holds Try.pinned (OpenSpec.upto risesetDaysSpec)

/-- 'ephemeriskeep2.RisesetMoons', WHERE WHAT IT READS IS OF BULK AT MOST 1048576: true; the input reads as it did. -/
def risesetMoonsUptoRow : OpenClaim := { program := "ytmoffcpbmigngaa", sum := "af8333ae7810688860f8d8a348b6b5da087a90ca96edfd08c0347a981b78efc1", func := "ephemeris/ephemeriskeep2.RisesetMoons", spec := "risesetMoons", unfollowed := true, recurses := true, apart := false, narrowed := true }
def RisesetMoonsUptoSaid : Prop := risesetMoonsUptoRow.holds Try.pinned (OpenSpec.upto risesetMoonsSpec)

end Rows
end Go.Proofs.Ytmoffcpbmigngaa
