/- Words that the walks of this seat use: those of the kit's print that its texts do not name are left out. -/
import Derived.SizedLaws
import Derived.ChangeSlices
namespace Go.Proofs.YtolhlaadhfilnaaDoorW.PrintWords
open Go.ChangeShapes Go.WideShapes
end Go.Proofs.YtolhlaadhfilnaaDoorW.PrintWords
