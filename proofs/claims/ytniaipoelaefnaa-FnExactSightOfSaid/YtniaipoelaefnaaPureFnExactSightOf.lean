/- PROVED: the pure theorem of FnExactSightOf: both functions return the same. No condition. -/
import Derived.Test.YtniaipoelaefnaaPx34
import Derived.Test.YtniaipoelaefnaaQSightOf
import Derived.Test.YtniaipoelaefnaaQExact
import Derived.Test.YtniaipoelaefnaaH0Open
namespace Go.Proofs.Ytniaipoelaefnaa.Pure
open Go.RowKit Go.Proofs.Ytniaipoelaefnaa.P Go.Proofs.YtniaipoelaefnaaW.PrintWords Go.Proofs.YtniaipoelaefnaaW.PrintLast
set_option linter.unusedVariables false
set_option linter.unusedSimpArgs false
theorem FnExactSightOf (n : Int) (l : List S45) (a : Int) (b : Int) (wn : W64 n) (hm : l.length ≤ maxLen) (hw : ∀ p ∈ l, W64 p.f0 ∧ W64 p.f1) (wa : W64 a) (wb : W64 b) : ∃ k, laws_FnExactSightOf.f k n l a b = some true := by
  refine ⟨l.length + 101, ?_⟩
  unfold laws_FnExactSightOf.f
  rw [szGrid_some n l (by unfold maxLen at hm; omega)]
  simp only [Option.bind_some]
  by_cases hl : l.length ≤ 1048576
  · rw [if_pos hl, if_neg (by omega)]
    have hc : (l.map cv).length = l.length := by simp
    simp only [toGrid_some n l (by omega) (l.length + 101) (by omega), Option.bind_some, spec_SightOf_some n (l.map cv) a b (by omega) (l.length + 101) (by omega), impl_SightOf_some n (l.map cv) a b (by omega), if_true, eqGrid_same n (l.map cv) (by omega) (l.length + 101) (by omega)]
  · rw [if_neg hl, if_pos (by omega)]
end Go.Proofs.Ytniaipoelaefnaa.Pure
