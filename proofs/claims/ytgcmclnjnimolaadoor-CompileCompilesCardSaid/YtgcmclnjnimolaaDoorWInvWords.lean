/- Words that the walks of this seat use: those of the kit's print that its texts do not name are left out. -/
import Derived.Test.YtgcmclnjnimolaaDoorWInv
import Derived.Test.YtgcmclnjnimolaaDoorWFootNe
namespace Go.Proofs.YtgcmclnjnimolaaDoorW.PrintWords
open Go.RowKit
end Go.Proofs.YtgcmclnjnimolaaDoorW.PrintWords
namespace Go.Proofs.YtgcmclnjnimolaaDoorW.PrintLast
section
variable {ops : Array Oper} {a : Act} {o og : Oper} {g : Nat} {t : Tmp} {u : Bool}
end
end Go.Proofs.YtgcmclnjnimolaaDoorW.PrintLast
