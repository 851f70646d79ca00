/- PROVED: the pure statement of FnExactConstants: the constants are the reference's. No condition. -/
import Derived.Test.YtkcedchhokichaaPx1
namespace Go.Proofs.Ytkcedchhokichaa.Pure
open Go.RowKit Go.Proofs.Ytkcedchhokichaa.P Go.Proofs.YtkcedchhokichaaW.PrintWords Go.Proofs.YtkcedchhokichaaW.PrintLast
set_option linter.unusedVariables false
set_option linter.unusedSimpArgs false
theorem FnExactConstants : laws_FnExactConstants.Pure := rfl
end Go.Proofs.Ytkcedchhokichaa.Pure
