/- PROVED: the pure theorem of FnExactSightRay: both functions return the same. No condition. -/
import Derived.Test.YtniaipoelaefnaaPx32
import Derived.Test.YtniaipoelaefnaaQSightRay
import Derived.Test.YtniaipoelaefnaaQExact
import Derived.Test.YtniaipoelaefnaaH0Open
namespace Go.Proofs.Ytniaipoelaefnaa.Pure
open Go.RowKit Go.Proofs.Ytniaipoelaefnaa.P Go.Proofs.YtniaipoelaefnaaW.PrintWords Go.Proofs.YtniaipoelaefnaaW.PrintLast
set_option linter.unusedVariables false
set_option linter.unusedSimpArgs false
theorem FnExactSightRay (n : Int) (l : List S45) (a : Int) (wn : W64 n) (hm : l.length ≤ maxLen) (hw : ∀ p ∈ l, W64 p.f0 ∧ W64 p.f1) (wa : W64 a) : ∃ k, laws_FnExactSightRay.f k n l a = some true := by
  refine ⟨l.length + 101, ?_⟩
  unfold laws_FnExactSightRay.f
  rw [szGrid_some n l (by unfold maxLen at hm; omega)]
  simp only [Option.bind_some]
  by_cases hl : l.length ≤ 1048576
  · rw [if_pos hl, if_neg (by omega)]
    have hc : (l.map cv).length = l.length := by simp
    have e1 : ∀ a b, laws_eqRay.f a b a b = some true := fun a b => by simp [laws_eqRay.f]
    simp only [toGrid_some n l (by omega) (l.length + 101) (by omega), Option.bind_some, spec_SightRay_some n (l.map cv) a (by omega) (l.length + 101) (by omega), impl_SightRay_some n (l.map cv) a (by omega) (l.length + 101) (by omega), e1, if_true, bne_self_eq_false, laws_FnExactSightRay.j0, toGrid_some n l (by omega) (l.length + 100) (by omega), eqGrid_same n (l.map cv) (by omega) (l.length + 100) (by omega)]
    simp
  · rw [if_neg hl, if_pos (by omega)]
end Go.Proofs.Ytniaipoelaefnaa.Pure
