/- PROVED: the pure theorem of FnExactGridText: both functions return the same text. No condition. -/
import Derived.Test.YtpjdhpkfenohgaaPx36
import Derived.Test.YtpjdhpkfenohgaaQText
import Derived.Test.YtpjdhpkfenohgaaQExact
import Derived.Test.YtpjdhpkfenohgaaH0Open
namespace Go.Proofs.Ytpjdhpkfenohgaa.Pure
open Go.RowKit Go.Proofs.Ytpjdhpkfenohgaa.P Go.Proofs.YtpjdhpkfenohgaaW.PrintWords Go.Proofs.YtpjdhpkfenohgaaW.PrintLast
set_option linter.unusedVariables false
set_option linter.unusedSimpArgs false
theorem FnExactGridText (n : Int) (l : List S77) (wn : W64 n) (hm : l.length ≤ maxLen) (hw : ∀ p ∈ l, W64 p.f0 ∧ W64 p.f1) : ∃ k, laws_FnExactGridText.f k n l = some true := by
  refine ⟨l.length + 100, ?_⟩
  unfold laws_FnExactGridText.f
  rw [szGrid_some n l (by unfold maxLen at hm; omega)]
  simp only [Option.bind_some]
  by_cases hl : l.length ≤ 1048576
  · rw [if_pos hl, if_neg (by omega)]
    have hc : (l.map cv).length = l.length := by simp
    simp only [toGrid_some n l (by omega) (l.length + 100) (by omega), Option.bind_some, spec_GridText_some n (l.map cv) (by omega) (l.length + 100) (by omega), impl_GridText_some n (l.map cv) (by omega) (l.length + 100) (by omega), eqGrid_same n (l.map cv) (by omega) (l.length + 100) (by omega), if_true]
  · rw [if_neg hl, if_pos (by omega)]
end Go.Proofs.Ytpjdhpkfenohgaa.Pure
