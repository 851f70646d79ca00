/- PROVED: the pure theorem of FnExactCellOk: both functions tell the same. No condition. -/
import Derived.Test.YtkcedchhokichaaPx7
import Derived.Test.YtkcedchhokichaaQCell
import Derived.Test.YtkcedchhokichaaH0Open
namespace Go.Proofs.Ytkcedchhokichaa.Pure
open Go.RowKit Go.Proofs.Ytkcedchhokichaa.P Go.Proofs.YtkcedchhokichaaW.PrintWords Go.Proofs.YtkcedchhokichaaW.PrintLast
set_option linter.unusedVariables false
set_option linter.unusedSimpArgs false
theorem FnExactCellOk (a b : Int) (wa : W64 a) (wb : W64 b) : laws_FnExactCellOk.f a b = some true := by
  unfold laws_FnExactCellOk.f
  simp [laws_toCell.f, spec_CellOk_some, impl_CellOk.f]
end Go.Proofs.Ytkcedchhokichaa.Pure
