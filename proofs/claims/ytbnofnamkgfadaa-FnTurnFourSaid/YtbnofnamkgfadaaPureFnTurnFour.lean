/- PROVED: the pure statement of FnTurnFour: turned four times a grid is as it was. No condition. -/
import Derived.Test.YtbnofnamkgfadaaPx32
import Derived.Test.YtbnofnamkgfadaaQDrawGridTurn
import Derived.Test.YtbnofnamkgfadaaQMovD
import Derived.Test.YtbnofnamkgfadaaQLl
namespace Go.Proofs.Ytbnofnamkgfadaa.Pure
open Go.RowKit Go.Proofs.Ytbnofnamkgfadaa.P Go.Proofs.YtbnofnamkgfadaaW.PrintWords Go.Proofs.YtbnofnamkgfadaaW.PrintLast
set_option linter.unusedVariables false
set_option linter.unusedSimpArgs false
theorem four_l0 (n : Int) (l x y : List S24) (hl : l.length ≤ 26) (hy : y.length = l.length) (hb : ∀ q, (hq : q < l.length) → (hr : l.length - 1 - q < y.length) → y[l.length - 1 - q] = l[q]) (xn : Int)
    (hend : ∀ k, 100 < k → laws_FnTurnFour.l0 k (l.length : Int) (l.length : Int) n l xn x n y = some true) : ∀ (r k q : Nat), q + r = l.length → r + 110 < k → laws_FnTurnFour.l0 k (l.length : Int) (q : Int) n l xn x n y = some true
  | 0, k, q, hq, hk => by
    rw [show (q : Int) = (l.length : Int) from by omega]
    exact hend k (by omega)
  | r + 1, k, q, hq, hk => by
    obtain ⟨k, rfl⟩ : ∃ m, k = m + 1 := ⟨k - 1, by omega⟩
    have hlt : q < l.length := by omega
    have ih := four_l0 n l x y hl hy hb xn hend r k (q + 1) (by omega) (by omega)
    rw [show ((q + 1 : Nat) : Int) = (q : Int) + 1 from by omega] at ih
    simp only [laws_FnTurnFour.l0]
    rw [if_pos (by omega), w64 ((l.length : Int) - 1) (by omega) (by omega), w64 ((l.length : Int) - 1 - (q : Int)) (by omega) (by omega), w64 ((q : Int) + 1) (by omega) (by omega), if_pos (by omega), if_pos (by omega), if_pos (by omega), if_pos (by omega),
      show (l.length : Int) - 1 - (q : Int) = ((l.length - 1 - q : Nat) : Int) from by omega, rd_at y _ (by omega), rd_at l q hlt, hb q hlt (by omega), if_neg (by simp), ih]
theorem FnTurnFour : laws_FnTurnFour.Pure := by
  intro l0 _ _ hw
  refine ⟨301, ?_⟩
  unfold laws_FnTurnFour.f
  by_cases hb : (l0.length : Int) > 1048576
  · rw [if_pos hb]
  rw [if_neg hb]
  obtain ⟨n, l, e, hl⟩ := drawGridTurn_some l0 (bytes_of hw) 301 (by omega)
  have hlen := gridTurn_length n l
  rw [e]
  simp only [Option.bind_some, impl_GridTurn_some n l (by omega), spec_GridTurn_some n l (by omega) 301 (by omega), llGrid_same _ _ (show (gridTurn n l).2.length ≤ 1099511627776 by omega) 301 (by omega), if_true, spec_GridOk_some n l (by omega) 301 (by omega)]
  by_cases hg : gridOkB n l = true
  · obtain ⟨i, j, hi, hj, rfl, ho⟩ := okG_of hg
    obtain ⟨t1, o1⟩ := turn_ij hi hj ho
    obtain ⟨t2, o2⟩ := turn_ij hj hi o1
    obtain ⟨t3, o3⟩ := turn_ij hi hj o2
    obtain ⟨t4, o4⟩ := turn_ij hj hi o3
    rw [mov_four hi hj ho] at t4
    have hm := ho.1
    have h25 := okG_25 hi hj ho
    have o1l := okG_25 hj hi o1
    have o2l := okG_25 hi hj o2
    have o3l := okG_25 hj hi o3
    have h2 := mov_two hi hj l ho
    have hx := okG_grid hj hi o1
    rw [hg, t1]
    generalize movC true l (TP i j) = x at *
    generalize movC true x (TP j i) = y at *
    generalize movC true y (TP i j) = z at *
    simp only [laws_FnTurnFour.j0, Bool.not_true, Bool.false_eq_true, if_false, impl_GridTurn_some _ _ (show x.length ≤ 1099511627776 by omega), Option.bind_some, t2]
    have hy : y.length = l.length := by rw [o2.1, hm]
    refine four_l0 ((i + 1 : Nat) : Int) l x y (by omega) hy h2 ((j + 1 : Nat) : Int) ?_ l.length 300 0 (by omega) (by omega)
    intro k hk
    obtain ⟨k, rfl⟩ : ∃ m, k = m + 1 := ⟨k - 1, by omega⟩
    simp only [laws_FnTurnFour.l0]
    rw [if_neg (by omega)]
    simp only [if_true, impl_GridTurn_some _ _ (show y.length ≤ 1099511627776 by omega), Option.bind_some, t3, impl_GridTurn_some _ _ (show z.length ≤ 1099511627776 by omega), t4, llGrid_same _ _ (show l.length ≤ 1099511627776 by omega) k (by omega), if_true, impl_GridOk_some _ x (by omega) k (by omega), hx]
  · have hg' : gridOkB n l = false := by simpa using hg
    rw [hg']
    simp only [Bool.not_false, laws_FnTurnFour.j0, if_true, spec_GridTurn_some n l (by omega) 300 (by omega), Option.bind_some, llGrid_same _ _ (show (gridTurn n l).2.length ≤ 1099511627776 by omega) 300 (by omega)]
end Go.Proofs.Ytbnofnamkgfadaa.Pure
