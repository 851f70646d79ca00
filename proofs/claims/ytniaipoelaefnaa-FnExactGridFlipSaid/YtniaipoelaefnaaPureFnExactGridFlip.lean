/- PROVED: the pure theorem of FnExactGridFlip: both functions return the same, in memory of its own. No condition. -/
import Derived.Test.YtniaipoelaefnaaPx36
import Derived.Test.YtniaipoelaefnaaQFlipTurn
import Derived.Test.YtniaipoelaefnaaQMark
import Derived.Test.YtniaipoelaefnaaH0Open
namespace Go.Proofs.Ytniaipoelaefnaa.Pure
open Go.RowKit Go.Proofs.Ytniaipoelaefnaa.P Go.Proofs.YtniaipoelaefnaaW.PrintWords Go.Proofs.YtniaipoelaefnaaW.PrintLast
set_option linter.unusedVariables false
set_option linter.unusedSimpArgs false
theorem FnExactGridFlip (n : Int) (l : List S45) (wn : W64 n) (hm : l.length ≤ maxLen) (hw : ∀ p ∈ l, W64 p.f0 ∧ W64 p.f1) : ∃ k, laws_FnExactGridFlip.f k n l = some true := by
  refine ⟨l.length + 203, ?_⟩
  unfold laws_FnExactGridFlip.f
  rw [szGrid_some n l (by unfold maxLen at hm; omega)]
  simp only [Option.bind_some]
  by_cases hl : l.length ≤ 1048576
  · rw [if_pos hl, if_neg (by omega)]
    have hc : (l.map cv).length = l.length := by simp
    have T : ∀ k, l.length + 150 < k → laws_toGrid.f k n l = some (n, l.map cv) := fun k hk => toGrid_some n l (by omega) k (by omega)
    have I := impl_GridFlip_some n (l.map cv) (by omega)
    have E : ∀ k, l.length + 150 < k → laws_eqGrid.f k n (l.map cv) n (l.map cv) = some true := fun k hk => eqGrid_same n (l.map cv) (by omega) k (by omega)
    have hg := gridFlip_length n (l.map cv)
    have M : ∀ k, l.length + 150 < k → laws_markGrid.f k n (l.map cv) 1 = some (1 + 2 * (l.length : Int), mk 1 l.length) := fun k hk => by
      rw [markGrid_some n (l.map cv) (by omega) k (by omega), hc]
    rw [T _ (by omega)]
    simp only [Option.bind_some, spec_GridFlip_some n (l.map cv) (by omega) (l.length + 203) (by omega), I]
    generalize hG : gridFlip n (l.map cv) = G at hg I
    obtain ⟨g0, g1⟩ := G
    simp only at hg
    have F : ∀ k, l.length + 150 < k → laws_eqGrid.f k g0 g1 g0 g1 = some true := fun k hk => eqGrid_same g0 g1 (by omega) k (by omega)
    have N : ∀ k, l.length + 150 < k → laws_markGrid.f k g0 g1 1 = some (1 + 2 * (g1.length : Int), mk 1 g1.length) := fun k hk => markGrid_some g0 g1 (by omega) k (by omega)
    have H : ∀ k, l.length + 150 < k → laws_heldGrid.f k g0 (mk 1 g1.length) 1 = some (1 + 2 * (g1.length : Int)) := fun k hk => heldGrid_some g0 g1.length (by omega) k (by omega)
    simp only [F _ (show l.length + 150 < l.length + 203 by omega), E _ (show l.length + 150 < l.length + 203 by omega), M _ (show l.length + 150 < l.length + 203 by omega), Option.bind_some, if_true]
    rw [if_neg (by omega)]
    simp only [laws_FnExactGridFlip.j0, Bool.not_true, Bool.false_eq_true, if_false, N _ (show l.length + 150 < l.length + 202 by omega), H _ (show l.length + 150 < l.length + 202 by omega), T _ (show l.length + 150 < l.length + 202 by omega), F _ (show l.length + 150 < l.length + 202 by omega), I, Option.bind_some, if_true]
    rw [if_neg (by omega), if_neg (by omega)]
  · rw [if_neg hl, if_pos (by omega)]
end Go.Proofs.Ytniaipoelaefnaa.Pure
