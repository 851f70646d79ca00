/- PROVED: the pure statement of FnTurnKinds: turned, or in a mirror, a grid has what it had. No condition. -/
import Derived.Test.YtbnofnamkgfadaaPx36
import Derived.Test.YtbnofnamkgfadaaQDrawGridTurn
import Derived.Test.YtbnofnamkgfadaaQMovD
import Derived.Test.YtbnofnamkgfadaaQLl
import Derived.Test.YtbnofnamkgfadaaQKinds
namespace Go.Proofs.Ytbnofnamkgfadaa.Pure
open Go.RowKit Go.Proofs.Ytbnofnamkgfadaa.P Go.Proofs.YtbnofnamkgfadaaW.PrintWords Go.Proofs.YtbnofnamkgfadaaW.PrintLast
set_option linter.unusedVariables false
set_option linter.unusedSimpArgs false
theorem kinds_l0 (i j : Nat) (hi : i < 5) (hj : j < 5) (l x y : List S24) (ho : okG i j l) (hx : x.length ≤ 25) (hy : y.length ≤ 25) (e1 : ∀ kind, cntK kind x = cntK kind l) (e2 : ∀ kind, cntK kind y = cntK kind l) : ∀ (r k q : Nat), q + r = 8 → r + 110 < k → laws_FnTurnKinds.l0 k (q : Int) ((i + 1 : Nat) : Int) l ((j + 1 : Nat) : Int) x ((i + 1 : Nat) : Int) y = some true
  | 0, k, q, hq, hk => by
    obtain ⟨k, rfl⟩ : ∃ m, k = m + 1 := ⟨k - 1, by omega⟩
    simp only [laws_FnTurnKinds.l0]
    rw [if_neg (by omega), if_neg (by omega), div_j ho.1, w64 _ (by omega) (by omega), if_pos rfl]
    simp
  | r + 1, k, q, hq, hk => by
    obtain ⟨k, rfl⟩ : ∃ m, k = m + 1 := ⟨k - 1, by omega⟩
    have h25 := okG_25 hi hj ho
    have ih := kinds_l0 i j hi hj l x y ho hx hy e1 e2 r k (q + 1) (by omega) (by omega)
    rw [show ((q + 1 : Nat) : Int) = (q : Int) + 1 from by omega] at ih
    simp only [laws_FnTurnKinds.l0]
    rw [if_pos (by omega)]
    simp only [llKinds_some _ l _ (show l.length ≤ 25 by omega) k (by omega), llKinds_some _ x _ hx k (by omega), llKinds_some _ y _ hy k (by omega), Option.bind_some, e1, e2, if_true]
    rw [w64 ((q : Int) + 1) (by omega) (by omega), ih]
theorem FnTurnKinds : laws_FnTurnKinds.Pure := by
  intro l0 _ _ hw
  refine ⟨301, ?_⟩
  unfold laws_FnTurnKinds.f
  by_cases hb : (l0.length : Int) > 1048576
  · rw [if_pos hb]
  rw [if_neg hb]
  obtain ⟨n, l, e, hl⟩ := drawGridTurn_some l0 (bytes_of hw) 301 (by omega)
  have hlen := gridTurn_length n l
  have hlen2 := gridFlip_length n l
  rw [e]
  simp only [Option.bind_some, impl_GridTurn_some n l (by omega), spec_GridTurn_some n l (by omega) 301 (by omega), llGrid_same _ _ (show (gridTurn n l).2.length ≤ 1099511627776 by omega) 301 (by omega), impl_GridFlip_some n l (by omega), spec_GridFlip_some n l (by omega) 301 (by omega), llGrid_same _ _ (show (gridFlip n l).2.length ≤ 1099511627776 by omega) 301 (by omega), if_true, spec_GridOk_some n l (by omega) 301 (by omega)]
  by_cases hg : gridOkB n l = true
  · obtain ⟨i, j, hi, hj, rfl, ho⟩ := okG_of hg
    obtain ⟨t1, o1⟩ := turn_ij hi hj ho
    obtain ⟨f1, p1⟩ := flip_ij hi hj ho
    rw [hg, t1, f1]
    simp only [laws_FnTurnKinds.j0, Bool.not_true, Bool.false_eq_true, if_false]
    exact kinds_l0 i j hi hj l _ _ ho (okG_25 hj hi o1) (okG_25 hi hj p1) (fun q => cntK_turn q hi hj ho) (fun q => cntK_flip q hi hj ho) 8 300 0 (by omega) (by omega)
  · have hg' : gridOkB n l = false := by simpa using hg
    rw [hg']
    simp only [Bool.not_false, laws_FnTurnKinds.j0, if_true, spec_GridTurn_some n l (by omega) 300 (by omega), Option.bind_some, llGrid_same _ _ (show (gridTurn n l).2.length ≤ 1099511627776 by omega) 300 (by omega), spec_GridFlip_some n l (by omega) 300 (by omega), llGrid_same _ _ (show (gridFlip n l).2.length ≤ 1099511627776 by omega) 300 (by omega)]
end Go.Proofs.Ytbnofnamkgfadaa.Pure
