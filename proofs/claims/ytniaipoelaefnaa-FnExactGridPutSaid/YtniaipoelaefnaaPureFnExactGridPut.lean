/- PROVED: the pure theorem of FnExactGridPut: both functions return the same, in memory of its own. No condition. -/
import Derived.Test.YtniaipoelaefnaaPx34
import Derived.Test.YtniaipoelaefnaaQPut
import Derived.Test.YtniaipoelaefnaaQMark
import Derived.Test.YtniaipoelaefnaaH0Open
namespace Go.Proofs.Ytniaipoelaefnaa.Pure
open Go.RowKit Go.Proofs.Ytniaipoelaefnaa.P Go.Proofs.YtniaipoelaefnaaW.PrintWords Go.Proofs.YtniaipoelaefnaaW.PrintLast
set_option linter.unusedVariables false
set_option linter.unusedSimpArgs false
theorem FnExactGridPut (n : Int) (l : List S45) (a : Int) (c d : Int) (wn : W64 n) (hm : l.length ≤ maxLen) (hw : ∀ p ∈ l, W64 p.f0 ∧ W64 p.f1) (wa : W64 a) (wc : W64 c) (wd : W64 d) : ∃ k, laws_FnExactGridPut.f k n l a c d = some true := by
  refine ⟨l.length + 103, ?_⟩
  unfold laws_FnExactGridPut.f
  rw [szGrid_some n l (by unfold maxLen at hm; omega)]
  simp only [Option.bind_some]
  by_cases hl : l.length ≤ 1048576
  · rw [if_pos hl, if_neg (by omega)]
    have hc : (l.map cv).length = l.length := by simp
    have ec : ∀ a b, laws_toCell.f a b = some (a, b) := fun a b => rfl
    have T : ∀ k, l.length + 50 < k → laws_toGrid.f k n l = some (n, l.map cv) := fun k hk => toGrid_some n l (by omega) k (by omega)
    have I : ∀ k, l.length + 50 < k → impl_GridPut.f k n (l.map cv) a c d = some (gridPut n (l.map cv) a c d) := fun k hk => impl_GridPut_some n (l.map cv) a c d (by omega) k (by omega)
    have E : ∀ k, l.length + 50 < k → laws_eqGrid.f k n (l.map cv) n (l.map cv) = some true := fun k hk => eqGrid_same n (l.map cv) (by omega) k (by omega)
    have hg := gridPut_length n (l.map cv) a c d
    have M : ∀ k, l.length + 50 < k → laws_markGrid.f k n (l.map cv) 1 = some (1 + 2 * (l.length : Int), mk 1 l.length) := fun k hk => by
      rw [markGrid_some n (l.map cv) (by omega) k (by omega), hc]
    rw [T _ (by omega)]
    simp only [Option.bind_some, ec, spec_GridPut_some n (l.map cv) a c d (by omega) (l.length + 103) (by omega), I _ (show l.length + 50 < l.length + 103 by omega)]
    generalize hG : gridPut n (l.map cv) a c d = G at hg I
    obtain ⟨g0, g1, g2⟩ := G
    simp only at hg
    have F : ∀ k, l.length + 50 < k → laws_eqGrid.f k g0 g1 g0 g1 = some true := fun k hk => eqGrid_same g0 g1 (by omega) k (by omega)
    have N : ∀ k, l.length + 50 < k → laws_markGrid.f k g0 g1 1 = some (1 + 2 * (g1.length : Int), mk 1 g1.length) := fun k hk => markGrid_some g0 g1 (by omega) k (by omega)
    have H : ∀ k, l.length + 50 < k → laws_heldGrid.f k g0 (mk 1 g1.length) 1 = some (1 + 2 * (g1.length : Int)) := fun k hk => heldGrid_some g0 g1.length (by omega) k (by omega)
    simp only [F _ (show l.length + 50 < l.length + 103 by omega), Option.bind_some, if_true, bne_self_eq_false]
    simp only [laws_FnExactGridPut.j0, Bool.false_eq_true, if_false, T _ (show l.length + 50 < l.length + 102 by omega), Option.bind_some, E _ (show l.length + 50 < l.length + 102 by omega), if_true, M _ (show l.length + 50 < l.length + 102 by omega), F _ (show l.length + 50 < l.length + 102 by omega), bne_self_eq_false]
    rw [if_neg (by omega)]
    simp only [laws_FnExactGridPut.j1, Bool.false_eq_true, if_false, N _ (show l.length + 50 < l.length + 101 by omega), H _ (show l.length + 50 < l.length + 101 by omega), Option.bind_some]
    rw [if_neg (by omega)]
    simp only [if_true, T _ (show l.length + 50 < l.length + 101 by omega), ec, Option.bind_some, I _ (show l.length + 50 < l.length + 101 by omega), F _ (show l.length + 50 < l.length + 101 by omega), bne_self_eq_false]
    simp only [laws_FnExactGridPut.j2, Bool.false_eq_true, if_false, H _ (show l.length + 50 < l.length + 100 by omega), Option.bind_some]
    rw [if_neg (by omega)]
    simp
  · rw [if_neg hl, if_pos (by omega)]
end Go.Proofs.Ytniaipoelaefnaa.Pure
