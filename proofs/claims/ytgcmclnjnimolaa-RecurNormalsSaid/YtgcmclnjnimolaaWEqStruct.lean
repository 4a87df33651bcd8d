/- Words that the walks of this seat use: those of the kit's print that its texts do not name are left out. -/
import Derived.Test.YtgcmclnjnimolaaWWords
import Derived.Laws.StructEq
/-! ### 53. '==' of structs as_ one Bool -/
namespace Go.Proofs.YtgcmclnjnimolaaW.PrintWords
open Go.RowKit
section
variable {P : Program} {d : Nat} {xs ys : Array Value} {f : Field} {fs : List Field} {a b : Value} {r s : Bool} {w : World}
end
end Go.Proofs.YtgcmclnjnimolaaW.PrintWords
