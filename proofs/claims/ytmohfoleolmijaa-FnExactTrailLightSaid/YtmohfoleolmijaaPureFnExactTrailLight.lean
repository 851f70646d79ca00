/- PROVED: the pure statement of FnExactTrailLight: both functions tell the same. Conditions: those of the law. -/
import Derived.Test.YtmohfoleolmijaaPx41
import Derived.Test.YtmohfoleolmijaaQTrailSum
import Derived.Test.YtmohfoleolmijaaQExact
import Derived.Test.YtmohfoleolmijaaH0Open
namespace Go.Proofs.Ytmohfoleolmijaa.Pure
open Go.RowKit Go.Proofs.Ytmohfoleolmijaa.P Go.Proofs.YtmohfoleolmijaaW.PrintWords Go.Proofs.YtmohfoleolmijaaW.PrintLast
set_option linter.unusedVariables false
set_option linter.unusedSimpArgs false
theorem FnExactTrailLight (n : Int) (l : List S86) (a : Int) (wn : W64 n) (hm : l.length ≤ maxLen) (hw : ∀ p ∈ l, W64 p.f0 ∧ W64 p.f1) (wa : W64 a) : ∃ k, laws_FnExactTrailLight.f k n l a = some true := by
  refine ⟨l.length + 50002, ?_⟩
  unfold laws_FnExactTrailLight.f
  rw [szGrid_some n l (by unfold maxLen at hm; omega)]
  simp only [Option.bind_some]
  by_cases hl : l.length ≤ 1048576
  · rw [if_pos hl, if_neg (by omega)]
    have hc : (l.map cv).length = l.length := by simp
    simp only [toGrid_some n l (by omega) (l.length + 50002) (by omega), Option.bind_some, spec_TrailLight_some n (l.map cv) a (by omega) (l.length + 50002) (by omega), impl_TrailLight_some n (l.map cv) a (by omega) (l.length + 50002) (by omega), eqGrid_same n (l.map cv) (by omega) (l.length + 50002) (by omega), if_true]
  · rw [if_neg hl, if_pos (by omega)]
end Go.Proofs.Ytmohfoleolmijaa.Pure
