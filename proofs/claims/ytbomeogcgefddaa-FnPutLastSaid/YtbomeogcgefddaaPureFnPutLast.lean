/- PROVED: the pure statement of FnPutLast. No condition. -/
import Derived.Test.YtbomeogcgefddaaPx38
import Derived.Test.YtbomeogcgefddaaQDrawPut
import Derived.Test.YtbomeogcgefddaaQPutSet
import Derived.Test.YtbomeogcgefddaaQLl
namespace Go.Proofs.Ytbomeogcgefddaa.Pure
open Go.RowKit Go.Proofs.Ytbomeogcgefddaa.P Go.Proofs.YtbomeogcgefddaaW.PrintWords Go.Proofs.YtbomeogcgefddaaW.PrintLast
set_option linter.unusedVariables false
set_option linter.unusedSimpArgs false
theorem FnPutLast : laws_FnPutLast.Pure := by
  intro l0 l1 _ _ hw _ _ hv
  refine ⟨202, ?_⟩
  unfold laws_FnPutLast.f
  by_cases hb : (l0.length : Int) > 1048576
  · rw [if_pos hb]
    simp [laws_FnPutLast.j0]
  rw [if_neg hb]
  by_cases hb1 : (l1.length : Int) > 1048576
  · rw [decide_eq_true hb1]
    simp [laws_FnPutLast.j0]
  rw [decide_eq_false hb1]
  obtain ⟨n, l, a, c, d, e, hl⟩ := drawGridPut_some l0 (bytes_of hw) 201 (by omega)
  obtain ⟨n2, l2, a2, c2, d2, e2, hl2⟩ := drawGridPut_some l1 (bytes_of hv) 201 (by omega)
  simp only [laws_FnPutLast.j0, Bool.false_eq_true, if_false, e, e2]
  simp only [Option.bind_some, spec_GridPut_some n l _ _ _ (by omega) 201 (by omega), impl_GridPut_some n l _ _ _ (by omega) 201 (by omega), bne_self_eq_false, Bool.false_eq_true, if_false]
  have hlen := gridPut_length n l a c d
  rw [llGrid_same _ _ (by omega) 201 (by omega)]
  simp only [Option.bind_some, if_true]
  by_cases h : gridOkB n l = true ∧ cellOkB c d = true ∧ 0 ≤ a ∧ a < (l.length : Int)
  · obtain ⟨hg, hc, h0, h1⟩ := h
    rw [gridPut_ok hg hc h0 h1]
    simp only [if_true, laws_FnPutLast.j1]
    by_cases h2 : gridOkB n l = true ∧ cellOkB c2 d2 = true ∧ 0 ≤ a2 ∧ a2 < (l.length : Int)
    · obtain ⟨_, hc2, h20, h21⟩ := h2
      rw [gridPut_ok hg hc2 h20 h21]
      simp only [Bool.not_true, Bool.false_eq_true, if_false]
      have hx : okCell (⟨c, d⟩ : S42) = true := hc
      have hx2 : okCell (⟨c2, d2⟩ : S42) = true := hc2
      have s1 : (l.set a.toNat (⟨c, d⟩ : S42)).length = l.length := List.length_set ..
      have s2 : (l.set a2.toNat (⟨c2, d2⟩ : S42)).length = l.length := List.length_set ..
      rw [impl_GridPut_some n _ _ _ _ (by omega) 200 (by omega), impl_GridPut_some n _ _ _ _ (by omega) 200 (by omega), gridPut_ok (gridOkB_set hg _ _ hx) hc2 h20 (by omega), gridPut_ok (gridOkB_set hg _ _ hx2) hc h0 (by omega)]
      simp only [Option.bind_some, if_true]
      by_cases he : a = a2
      · subst he
        rw [if_pos rfl, List.set_set, llGrid_same _ _ (by omega) 200 (by omega)]
        rfl
      · rw [if_neg he, List.set_comm _ _ (by omega), llGrid_same _ _ (by simp; omega) 200 (by simp; omega)]
        rfl
    · rw [gridPut_no h2]
      simp only [Bool.not_false, if_true, beq_self_eq_true]
      rw [llGrid_same _ _ (by simp; omega) 200 (by simp; omega)]
      rfl
  · rw [gridPut_no h]
    simp only [Bool.false_eq_true, if_false, laws_FnPutLast.j1, if_true, beq_self_eq_true]
    rw [llGrid_same _ _ (by simp) 200 (by simp)]
    rfl
end Go.Proofs.Ytbomeogcgefddaa.Pure
