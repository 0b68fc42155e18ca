-- Made by a program of this session (wip/hp.py, over the kit's print) out of the translation. Not trusted: Lean checks it.
import Derived.Test.YtigolfomfpmodaaProg
import Derived.Below
import Derived.Deep.Draws
import Derived.Deep.AppendLies
import Derived.Maps.AppendAt
import Derived.OwnWalk
import Derived.Laws.BytesArg
import Derived.Laws.MakeOwn
import Derived.Laws.OwnMore
import Derived.Deep.OwnRows
import Derived.Tactics
import Derived.Lib.ConvBytes
import Derived.Laws.Slices
import Derived.WalkKit
import Derived.KernelRfl
import Derived.RowKit3
import Derived.Deep.LoopGhost
import Derived.Deep.QuietTactic
import Derived.BigQuiet
import Derived.WideLaws
import Derived.Deep.DeepCutAuto
import Derived.Deep.CutBlock
import Derived.Deep.RegionHeld3
import Derived.Laws.Rows
import Derived.Lib.AppendStr
import Derived.ArgAppend
import Derived.Laws.IdiomCopy
import Derived.OrdersHeld
import Derived.Laws.BitsLemmas
import Derived.RowKit
import Derived.RegionTactic
import Derived.IntWalk
import Derived.StillTailTactics
import Derived.Test.YtigolfomfpmodaaWWords
import Derived.Test.YtigolfomfpmodaaWLast
import Derived.Test.YtigolfomfpmodaaWTab
import Derived.Test.YtigolfomfpmodaaWFour
import Derived.Test.YtigolfomfpmodaaWQPut
import Derived.Test.YtigolfomfpmodaaWApart
import Derived.Test.YtigolfomfpmodaaWArr
import Derived.Test.YtigolfomfpmodaaWZeros
import Derived.Test.YtigolfomfpmodaaWFoot
import Derived.Test.YtigolfomfpmodaaWKept
import Derived.Test.YtigolfomfpmodaaWShare
import Derived.Test.YtigolfomfpmodaaWN
import Derived.Test.YtigolfomfpmodaaWFootNe
import Derived.Test.YtigolfomfpmodaaWAt
import Derived.Test.YtigolfomfpmodaaWEqStruct
import Derived.Test.YtigolfomfpmodaaWRepsOne
import Derived.Test.YtigolfomfpmodaaWInv
import Derived.Test.YtigolfomfpmodaaWInvWords
import Derived.Test.YtigolfomfpmodaaWGuard
import Derived.Test.YtigolfomfpmodaaWNEv
import Derived.Test.YtigolfomfpmodaaWMore
namespace Go.Proofs.Ytigolfomfpmodaa.JT
open Go.RowKit Go.Proofs.YtigolfomfpmodaaW.PrintWords Go.Proofs.YtigolfomfpmodaaW.PrintLast Go.Proofs.YtigolfomfpmodaaW.PrintMore
attribute [local go_sem] max2_int min2_int max_two min_two max_three min_three max_four min_four   -- for this text's walks alone
set_option linter.unusedVariables false
set_option linter.unusedSimpArgs false



def errW : Option Int → Value
  | none => .nilIface
  | some c => .iface 0 (.int .i64 c)
theorem errW_none : errW none = .nilIface := rfl
theorem errW_some (c : Int) : errW (some c) = .iface 0 (.int .i64 c) := rfl

-- the values' own types

end Go.Proofs.Ytigolfomfpmodaa.JT
