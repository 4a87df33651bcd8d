/- Words that the walks of this seat use: those of the kit's print that its texts do not name are left out. -/
import Derived.Test.YtgcmclnjnimolaaWInv
import Derived.Test.YtgcmclnjnimolaaWFootNe
namespace Go.Proofs.YtgcmclnjnimolaaW.PrintWords
open Go.RowKit
end Go.Proofs.YtgcmclnjnimolaaW.PrintWords
namespace Go.Proofs.YtgcmclnjnimolaaW.PrintLast
section
variable {ops : Array Oper} {a : Act} {o og : Oper} {g : Nat} {t : Tmp} {u : Bool}
end
end Go.Proofs.YtgcmclnjnimolaaW.PrintLast
