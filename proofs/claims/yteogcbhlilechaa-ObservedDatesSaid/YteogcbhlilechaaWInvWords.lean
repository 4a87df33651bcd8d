/- Words that the walks of this seat use: those of the kit's print that its texts do not name are left out. -/
import Derived.Test.YteogcbhlilechaaWInv
import Derived.Test.YteogcbhlilechaaWFootNe
namespace Go.Proofs.YteogcbhlilechaaW.PrintWords
open Go.RowKit
end Go.Proofs.YteogcbhlilechaaW.PrintWords
namespace Go.Proofs.YteogcbhlilechaaW.PrintLast
section
variable {ops : Array Oper} {a : Act} {o og : Oper} {g : Nat} {t : Tmp} {u : Bool}
end
end Go.Proofs.YteogcbhlilechaaW.PrintLast
