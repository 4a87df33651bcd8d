/- Words that the walks of this seat use: those of the kit's print that its texts do not name are left out. -/
import Derived.Test.YtlefdgllpdbkjaaWInv
import Derived.Test.YtlefdgllpdbkjaaWFootNe
namespace Go.Proofs.YtlefdgllpdbkjaaW.PrintWords
open Go.RowKit
end Go.Proofs.YtlefdgllpdbkjaaW.PrintWords
namespace Go.Proofs.YtlefdgllpdbkjaaW.PrintLast
section
variable {ops : Array Oper} {a : Act} {o og : Oper} {g : Nat} {t : Tmp} {u : Bool}
end
end Go.Proofs.YtlefdgllpdbkjaaW.PrintLast
