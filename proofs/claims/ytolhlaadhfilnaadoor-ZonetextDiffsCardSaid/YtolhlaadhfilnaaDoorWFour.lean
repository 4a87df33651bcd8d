/- Words that the walks of this seat use: those of the kit's print that its texts do not name are left out. -/
import Derived.Test.YtolhlaadhfilnaaDoorWTab
/-! ### 56. Four, five, six operations that may come up next, in any order -/
namespace Go.Proofs.YtolhlaadhfilnaaDoorW.PrintLast
section
variable {P : Program} {ops : Array Oper} {Q : Exit → Act → World → Prop} {md : Region.Mode} {S : World → Prop} {ds : List Nat} {T : Bool × List (List Nat × List Nat)}
end
end Go.Proofs.YtolhlaadhfilnaaDoorW.PrintLast
