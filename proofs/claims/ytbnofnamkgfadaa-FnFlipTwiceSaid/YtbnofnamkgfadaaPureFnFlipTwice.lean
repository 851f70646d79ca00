/- PROVED: the pure statement of FnFlipTwice: in two mirrors a grid is as it was. No condition. -/
import Derived.Test.YtbnofnamkgfadaaPx33
import Derived.Test.YtbnofnamkgfadaaQDrawGridFlip
import Derived.Test.YtbnofnamkgfadaaQMovD
import Derived.Test.YtbnofnamkgfadaaQLl
namespace Go.Proofs.Ytbnofnamkgfadaa.Pure
open Go.RowKit Go.Proofs.Ytbnofnamkgfadaa.P Go.Proofs.YtbnofnamkgfadaaW.PrintWords Go.Proofs.YtbnofnamkgfadaaW.PrintLast
set_option linter.unusedVariables false
set_option linter.unusedSimpArgs false
theorem FnFlipTwice : laws_FnFlipTwice.Pure := by
  intro l0 _ _ hw
  refine ⟨301, ?_⟩
  unfold laws_FnFlipTwice.f
  by_cases hb : (l0.length : Int) > 1048576
  · rw [if_pos hb]
  rw [if_neg hb]
  obtain ⟨n, l, e, hl⟩ := drawGridFlip_some l0 (bytes_of hw) 301 (by omega)
  have hlen := gridFlip_length n l
  rw [e]
  simp only [Option.bind_some, impl_GridFlip_some n l (by omega), spec_GridFlip_some n l (by omega) 301 (by omega), llGrid_same _ _ (show (gridFlip n l).2.length ≤ 1099511627776 by omega) 301 (by omega), if_true, spec_GridOk_some n l (by omega) 301 (by omega)]
  by_cases hg : gridOkB n l = true
  · obtain ⟨i, j, hi, hj, rfl, ho⟩ := okG_of hg
    obtain ⟨x1, p1⟩ := flip_ij hi hj ho
    obtain ⟨x2, p2⟩ := flip_ij hi hj p1
    rw [mov_flip hi hj ho] at x2
    obtain ⟨t1, o1⟩ := turn_ij hi hj ho
    obtain ⟨f1, q1⟩ := flip_ij hj hi o1
    obtain ⟨s1, r1⟩ := turn_ij hi hj p1
    obtain ⟨s2, r2⟩ := turn_ij hj hi r1
    obtain ⟨s3, r3⟩ := turn_ij hi hj r2
    rw [mov_flipTurn hi hj l] at f1
    have h25 := okG_25 hi hj ho
    have o1l := okG_25 hj hi o1
    have p1l := okG_25 hi hj p1
    have r1l := okG_25 hj hi r1
    have r2l := okG_25 hi hj r2
    have r3l := okG_25 hj hi r3
    have hx := okG_grid hi hj p1
    rw [hg, x1]
    generalize movC true l (FP i j) = x at *
    generalize movC true l (TP i j) = y at *
    generalize movC true x (TP i j) = z1 at *
    generalize movC true z1 (TP j i) = z2 at *
    generalize movC true z2 (TP i j) = z3 at *
    simp only [laws_FnFlipTwice.j0, Bool.not_true, Bool.false_eq_true, if_false, impl_GridTurn_some _ _ (show l.length ≤ 1099511627776 by omega), Option.bind_some, t1, impl_GridFlip_some _ _ (show y.length ≤ 1099511627776 by omega), f1, impl_GridTurn_some _ _ (show x.length ≤ 1099511627776 by omega), s1, impl_GridTurn_some _ _ (show z1.length ≤ 1099511627776 by omega), s2, impl_GridTurn_some _ _ (show z2.length ≤ 1099511627776 by omega), s3, impl_GridFlip_some _ _ (show x.length ≤ 1099511627776 by omega), x2, llGrid_same _ _ (show l.length ≤ 1099511627776 by omega) 300 (by omega), if_true, llGrid_same _ _ (show z3.length ≤ 1099511627776 by omega) 300 (by omega), impl_GridOk_some _ x (by omega) 300 (by omega), hx]
  · have hg' : gridOkB n l = false := by simpa using hg
    rw [hg']
    simp only [Bool.not_false, laws_FnFlipTwice.j0, if_true, spec_GridFlip_some n l (by omega) 300 (by omega), Option.bind_some, llGrid_same _ _ (show (gridFlip n l).2.length ≤ 1099511627776 by omega) 300 (by omega)]
end Go.Proofs.Ytbnofnamkgfadaa.Pure
