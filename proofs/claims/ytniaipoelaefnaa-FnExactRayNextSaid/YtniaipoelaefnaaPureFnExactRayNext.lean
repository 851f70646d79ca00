/- PROVED: the pure theorem of FnExactRayNext: both functions return the same. No condition. -/
import Derived.Test.YtniaipoelaefnaaPx31
import Derived.Test.YtniaipoelaefnaaQRay
import Derived.Test.YtniaipoelaefnaaQExact
import Derived.Test.YtniaipoelaefnaaH0Open
namespace Go.Proofs.Ytniaipoelaefnaa.Pure
open Go.RowKit Go.Proofs.Ytniaipoelaefnaa.P Go.Proofs.YtniaipoelaefnaaW.PrintWords Go.Proofs.YtniaipoelaefnaaW.PrintLast
set_option linter.unusedVariables false
set_option linter.unusedSimpArgs false
theorem FnExactRayNext (n : Int) (l : List S45) (a : Int) (b : Int) (wn : W64 n) (hm : l.length ≤ maxLen) (hw : ∀ p ∈ l, W64 p.f0 ∧ W64 p.f1) (wa : W64 a) (wb : W64 b) : ∃ k, laws_FnExactRayNext.f k n l a b = some true := by
  refine ⟨l.length + 101, ?_⟩
  unfold laws_FnExactRayNext.f
  rw [szGrid_some n l (by unfold maxLen at hm; omega)]
  simp only [Option.bind_some]
  by_cases hl : l.length ≤ 1048576
  · rw [if_pos hl, if_neg (by omega)]
    have hc : (l.map cv).length = l.length := by simp
    have e1 : ∀ a b, laws_eqRay.f a b a b = some true := fun a b => by simp [laws_eqRay.f]
    simp only [toGrid_some n l (by omega) (l.length + 101) (by omega), Option.bind_some, spec_RayNext_some n (l.map cv) a b (by omega) (l.length + 101) (by omega), impl_RayNext_some n (l.map cv) a b (by omega) (l.length + 101) (by omega), e1, if_true, bne_self_eq_false, laws_FnExactRayNext.j0, toGrid_some n l (by omega) (l.length + 100) (by omega), eqGrid_same n (l.map cv) (by omega) (l.length + 100) (by omega)]
    simp
  · rw [if_neg hl, if_pos (by omega)]
end Go.Proofs.Ytniaipoelaefnaa.Pure
