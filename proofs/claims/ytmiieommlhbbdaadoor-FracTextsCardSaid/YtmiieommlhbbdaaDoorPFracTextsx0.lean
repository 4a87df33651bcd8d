-- The walks of the law's functions, told by a program.
import Derived.Test.YtmiieommlhbbdaaDoorProg
import Derived.Below
import Derived.Deep.Draws
import Derived.Deep.AppendLies
import Derived.Maps.AppendAt
import Derived.OwnWalk
import Derived.Laws.BytesArg
import Derived.Laws.MakeOwn
import Derived.Laws.OwnMore
import Derived.Deep.OwnRows
import Derived.Tactics
import Derived.Lib.ConvBytes
import Derived.Laws.Slices
import Derived.WalkKit
import Derived.KernelRfl
import Derived.RowKit3
import Derived.Deep.LoopGhost
import Derived.Deep.QuietTactic
import Derived.BigQuiet
import Derived.WideLaws
import Derived.Deep.DeepCutAuto
import Derived.Deep.CutBlock
import Derived.Deep.RegionHeld3
import Derived.Laws.Rows
import Derived.Lib.AppendStr
import Derived.ArgAppend
import Derived.Laws.IdiomCopy
import Derived.OrdersHeld
import Derived.Laws.BitsLemmas
import Derived.RowKit
import Derived.Test.YtmiieommlhbbdaaDoorWWords
import Derived.Test.YtmiieommlhbbdaaDoorWLast
import Derived.Test.YtmiieommlhbbdaaDoorWTab
import Derived.Test.YtmiieommlhbbdaaDoorWFour
import Derived.Test.YtmiieommlhbbdaaDoorWQPut
import Derived.Test.YtmiieommlhbbdaaDoorWApart
import Derived.Test.YtmiieommlhbbdaaDoorWArr
import Derived.Test.YtmiieommlhbbdaaDoorWZeros
import Derived.Test.YtmiieommlhbbdaaDoorWFoot
import Derived.Test.YtmiieommlhbbdaaDoorWKept
import Derived.Test.YtmiieommlhbbdaaDoorWShare
import Derived.Test.YtmiieommlhbbdaaDoorWN
import Derived.Test.YtmiieommlhbbdaaDoorWFootNe
import Derived.Test.YtmiieommlhbbdaaDoorWAt
import Derived.Test.YtmiieommlhbbdaaDoorWEqStruct
import Derived.Test.YtmiieommlhbbdaaDoorWRepsOne
import Derived.Test.YtmiieommlhbbdaaDoorWInv
import Derived.Test.YtmiieommlhbbdaaDoorWInvWords
import Derived.Test.YtmiieommlhbbdaaDoorWGuard
import Derived.Test.YtmiieommlhbbdaaDoorWNEv
import Derived.Test.YtmiieommlhbbdaaDoorWMore
namespace Go.Proofs.YtmiieommlhbbdaaDoor.PFracTexts
open Go.RowKit Go.Proofs.YtmiieommlhbbdaaDoorW.PrintWords Go.Proofs.YtmiieommlhbbdaaDoorW.PrintLast Go.Proofs.YtmiieommlhbbdaaDoorW.PrintMore
attribute [local go_sem] max2_int min2_int max_two min_two max_three min_three max_four min_four   -- for this text's walks alone
set_option linter.unusedVariables false
set_option linter.unusedSimpArgs false



def errW : Option Int → Value
  | none => .nilIface
  | some c => .iface 3 (.int .i64 c)
theorem errW_none : errW none = .nilIface := rfl
theorem errW_some (c : Int) : errW (some c) = .iface 3 (.int .i64 c) := rfl

theorem info5 : (Tryd.prog.info? 5).map (fun i => (i.zero, i.size, i.bytes)) = some (some (.int .u8 0), 1, 1) := by kernel_rfl
-- the values' own types

end Go.Proofs.YtmiieommlhbbdaaDoor.PFracTexts
