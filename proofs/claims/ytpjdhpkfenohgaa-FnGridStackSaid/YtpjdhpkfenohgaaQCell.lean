/- PROVED: the reference's CellOk tells what the program's tells. No condition. -/
import Derived.Test.YtpjdhpkfenohgaaPx26
import Derived.Test.YtpjdhpkfenohgaaH1Cell
namespace Go.Proofs.Ytpjdhpkfenohgaa.P
open Go.RowKit Go.Proofs.YtpjdhpkfenohgaaW.PrintWords Go.Proofs.YtpjdhpkfenohgaaW.PrintLast Go.Proofs.YtpjdhpkfenohgaaW.PrintMore
set_option linter.unusedVariables false
set_option linter.unusedSimpArgs false
theorem spec_CellOk_some (a b : Int) : spec_CellOk.f a b = some (cellOkB a b) := by
  unfold spec_CellOk.f spec_l6In.f cellOkB
  by_cases h7 : a = 7
  · subst h7
    by_cases h1 : b ≥ 1
    · simp [h1]
    · simp [h1]
  · rw [if_neg h7, if_neg h7]
    by_cases h0 : a ≥ 0
    · by_cases h6 : a ≤ 6
      · simp [h0, h6]
        by_cases hb : b = 0 <;> simp [hb]
      · simp [h0, h6]
    · simp [h0]
end Go.Proofs.Ytpjdhpkfenohgaa.P
