-- The walks of the law's functions, told by a program.
import Derived.Test.YtmihkcgkdhmccaaProg
import Derived.Below
import Derived.Deep.Draws
import Derived.Deep.AppendLies
import Derived.Maps.AppendAt
import Derived.OwnWalk
import Derived.Laws.BytesArg
import Derived.Laws.MakeOwn
import Derived.Laws.OwnMore
import Derived.Deep.OwnRows
import Derived.Tactics
import Derived.Lib.ConvBytes
import Derived.Laws.Slices
import Derived.WalkKit
import Derived.KernelRfl
import Derived.RowKit3
import Derived.Deep.LoopGhost
import Derived.Deep.QuietTactic
import Derived.BigQuiet
import Derived.WideLaws
import Derived.Deep.DeepCutAuto
import Derived.Deep.CutBlock
import Derived.Deep.RegionHeld3
import Derived.Laws.Rows
import Derived.Lib.AppendStr
import Derived.ArgAppend
import Derived.Laws.IdiomCopy
import Derived.OrdersHeld
import Derived.Laws.BitsLemmas
import Derived.RowKit
import Derived.Test.YtmihkcgkdhmccaaWWords
import Derived.Test.YtmihkcgkdhmccaaWLast
import Derived.Test.YtmihkcgkdhmccaaWTab
import Derived.Test.YtmihkcgkdhmccaaWFour
import Derived.Test.YtmihkcgkdhmccaaWQPut
import Derived.Test.YtmihkcgkdhmccaaWApart
import Derived.Test.YtmihkcgkdhmccaaWArr
import Derived.Test.YtmihkcgkdhmccaaWZeros
import Derived.Test.YtmihkcgkdhmccaaWFoot
import Derived.Test.YtmihkcgkdhmccaaWKept
import Derived.Test.YtmihkcgkdhmccaaWShare
import Derived.Test.YtmihkcgkdhmccaaWN
import Derived.Test.YtmihkcgkdhmccaaWFootNe
import Derived.Test.YtmihkcgkdhmccaaWAt
import Derived.Test.YtmihkcgkdhmccaaWEqStruct
import Derived.Test.YtmihkcgkdhmccaaWRepsOne
import Derived.Test.YtmihkcgkdhmccaaWInv
import Derived.Test.YtmihkcgkdhmccaaWInvWords
import Derived.Test.YtmihkcgkdhmccaaWGuard
import Derived.Test.YtmihkcgkdhmccaaWNEv
import Derived.Test.YtmihkcgkdhmccaaWMore
namespace Go.Proofs.Ytmihkcgkdhmccaa.PFracReckons
open Go.RowKit Go.Proofs.YtmihkcgkdhmccaaW.PrintWords Go.Proofs.YtmihkcgkdhmccaaW.PrintLast Go.Proofs.YtmihkcgkdhmccaaW.PrintMore
attribute [local go_sem] max2_int min2_int max_two min_two max_three min_three max_four min_four   -- for this text's walks alone
set_option linter.unusedVariables false
set_option linter.unusedSimpArgs false



def errW : Option Int → Value
  | none => .nilIface
  | some c => .iface 0 (.int .i64 c)
theorem errW_none : errW none = .nilIface := rfl
theorem errW_some (c : Int) : errW (some c) = .iface 0 (.int .i64 c) := rfl

-- the values' own types

end Go.Proofs.Ytmihkcgkdhmccaa.PFracReckons
