/- Words that the walks of this seat use: those of the kit's print that its texts do not name are left out. -/
import Derived.Test.YtolhlaadhfilnaaDoorWInv
import Derived.Test.YtolhlaadhfilnaaDoorWFootNe
namespace Go.Proofs.YtolhlaadhfilnaaDoorW.PrintWords
open Go.RowKit
end Go.Proofs.YtolhlaadhfilnaaDoorW.PrintWords
namespace Go.Proofs.YtolhlaadhfilnaaDoorW.PrintLast
section
variable {ops : Array Oper} {a : Act} {o og : Oper} {g : Nat} {t : Tmp} {u : Bool}
end
end Go.Proofs.YtolhlaadhfilnaaDoorW.PrintLast
