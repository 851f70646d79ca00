/- PROVED: the pure theorem of FnExactSightTurn: both functions return the same number. No condition. -/
import Derived.Test.YtniaipoelaefnaaPx13
import Derived.Test.YtniaipoelaefnaaQSightFT
import Derived.Test.YtniaipoelaefnaaQExact
import Derived.Test.YtniaipoelaefnaaH0Open
namespace Go.Proofs.Ytniaipoelaefnaa.Pure
open Go.RowKit Go.Proofs.Ytniaipoelaefnaa.P Go.Proofs.YtniaipoelaefnaaW.PrintWords Go.Proofs.YtniaipoelaefnaaW.PrintLast
set_option linter.unusedVariables false
set_option linter.unusedSimpArgs false
theorem FnExactSightTurn (n : Int) (l : List S45) (a : Int) (wn : W64 n) (hm : l.length ≤ maxLen) (hw : ∀ p ∈ l, W64 p.f0 ∧ W64 p.f1) (wa : W64 a) : ∃ k, laws_FnExactSightTurn.f k n l a = some true := by
  refine ⟨l.length + 100, ?_⟩
  unfold laws_FnExactSightTurn.f
  rw [szGrid_some n l (by unfold maxLen at hm; omega)]
  simp only [Option.bind_some]
  by_cases hl : l.length ≤ 1048576
  · rw [if_pos hl, if_neg (by omega)]
    have hc : (l.map cv).length = l.length := by simp
    simp only [toGrid_some n l (by omega) (l.length + 100) (by omega), Option.bind_some, spec_SightTurn_some n (l.map cv) a (by omega) (l.length + 100) (by omega), impl_SightTurn_some n (l.map cv) a (by omega) (l.length + 100) (by omega), eqGrid_same n (l.map cv) (by omega) (l.length + 100) (by omega)]
    simp
  · rw [if_neg hl, if_pos (by omega)]
end Go.Proofs.Ytniaipoelaefnaa.Pure
