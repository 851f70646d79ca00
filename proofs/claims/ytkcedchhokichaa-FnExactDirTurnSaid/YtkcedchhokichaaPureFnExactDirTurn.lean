/- PROVED: the pure statement of FnExactDirTurn: both functions return the same number. No condition. -/
import Derived.Test.YtkcedchhokichaaPx5
import Derived.Test.YtkcedchhokichaaQDir
namespace Go.Proofs.Ytkcedchhokichaa.Pure
open Go.RowKit Go.Proofs.Ytkcedchhokichaa.P Go.Proofs.YtkcedchhokichaaW.PrintWords Go.Proofs.YtkcedchhokichaaW.PrintLast
set_option linter.unusedVariables false
set_option linter.unusedSimpArgs false
theorem FnExactDirTurn : laws_FnExactDirTurn.Pure := by
  intro a0 a1 _ _
  refine ⟨1, ?_⟩
  unfold laws_FnExactDirTurn.f
  rw [spec_DirTurn_some 0 a0 a1]
  simp [impl_DirTurn.f]
end Go.Proofs.Ytkcedchhokichaa.Pure
