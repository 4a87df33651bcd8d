/- Words that the walks of this seat use: those of the kit's print that its texts do not name are left out. -/
import Derived.Test.YtlfammlboncmeaaWInv
import Derived.Test.YtlfammlboncmeaaWFootNe
namespace Go.Proofs.YtlfammlboncmeaaW.PrintWords
open Go.RowKit
end Go.Proofs.YtlfammlboncmeaaW.PrintWords
namespace Go.Proofs.YtlfammlboncmeaaW.PrintLast
section
variable {ops : Array Oper} {a : Act} {o og : Oper} {g : Nat} {t : Tmp} {u : Bool}
end
end Go.Proofs.YtlfammlboncmeaaW.PrintLast
