-- The walks of the law's functions, told by a program.
import Derived.Test.YteogcbhlilechaaProg
import Derived.Below
import Derived.Deep.Draws
import Derived.Deep.AppendLies
import Derived.Maps.AppendAt
import Derived.OwnWalk
import Derived.Laws.BytesArg
import Derived.Laws.MakeOwn
import Derived.Laws.OwnMore
import Derived.Deep.OwnRows
import Derived.Tactics
import Derived.Lib.ConvBytes
import Derived.Laws.Slices
import Derived.WalkKit
import Derived.KernelRfl
import Derived.RowKit3
import Derived.Deep.LoopGhost
import Derived.Deep.QuietTactic
import Derived.BigQuiet
import Derived.WideLaws
import Derived.Deep.DeepCutAuto
import Derived.Deep.CutBlock
import Derived.Deep.RegionHeld3
import Derived.Laws.Rows
import Derived.Lib.AppendStr
import Derived.ArgAppend
import Derived.Laws.IdiomCopy
import Derived.OrdersHeld
import Derived.Laws.BitsLemmas
import Derived.RowKit
import Derived.Test.YteogcbhlilechaaWWords
import Derived.Test.YteogcbhlilechaaWLast
import Derived.Test.YteogcbhlilechaaWTab
import Derived.Test.YteogcbhlilechaaWFour
import Derived.Test.YteogcbhlilechaaWQPut
import Derived.Test.YteogcbhlilechaaWApart
import Derived.Test.YteogcbhlilechaaWArr
import Derived.Test.YteogcbhlilechaaWZeros
import Derived.Test.YteogcbhlilechaaWFoot
import Derived.Test.YteogcbhlilechaaWKept
import Derived.Test.YteogcbhlilechaaWShare
import Derived.Test.YteogcbhlilechaaWN
import Derived.Test.YteogcbhlilechaaWFootNe
import Derived.Test.YteogcbhlilechaaWAt
import Derived.Test.YteogcbhlilechaaWEqStruct
import Derived.Test.YteogcbhlilechaaWRepsOne
import Derived.Test.YteogcbhlilechaaWInv
import Derived.Test.YteogcbhlilechaaWInvWords
import Derived.Test.YteogcbhlilechaaWGuard
import Derived.Test.YteogcbhlilechaaWNEv
import Derived.Test.YteogcbhlilechaaWMore
namespace Go.Proofs.Yteogcbhlilechaa.PFracNears
open Go.RowKit Go.Proofs.YteogcbhlilechaaW.PrintWords Go.Proofs.YteogcbhlilechaaW.PrintLast Go.Proofs.YteogcbhlilechaaW.PrintMore
attribute [local go_sem] max2_int min2_int max_two min_two max_three min_three max_four min_four   -- for this text's walks alone
set_option linter.unusedVariables false
set_option linter.unusedSimpArgs false



def errW : Option Int → Value
  | none => .nilIface
  | some c => .iface 0 (.int .i64 c)
theorem errW_none : errW none = .nilIface := rfl
theorem errW_some (c : Int) : errW (some c) = .iface 0 (.int .i64 c) := rfl

-- the values' own types

end Go.Proofs.Yteogcbhlilechaa.PFracNears
