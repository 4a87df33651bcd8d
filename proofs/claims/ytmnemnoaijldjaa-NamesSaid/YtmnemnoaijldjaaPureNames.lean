/- The law Names over numbers and lists: what the law's functions tell, and that the law holds. -/
import Derived.Test.YtmnemnoaijldjaaPNamesx1
import Derived.Test.YtmnemnoaijldjaaM
namespace Go.Proofs.Ytmnemnoaijldjaa.Pure
open Go.RowKit Go.Proofs.Ytmnemnoaijldjaa.PNames Go.Proofs.YtmnemnoaijldjaaW.PrintWords Go.Proofs.YtmnemnoaijldjaaW.PrintLast Go.Proofs.Ytmnemnoaijldjaa.M
set_option linter.unusedVariables false
set_option linter.unusedSimpArgs false
theorem Names : ephemerislaw1_Names.Pure := rfl
end Go.Proofs.Ytmnemnoaijldjaa.Pure
