/- PROVED: the pure statement of FnPutThere. No condition. -/
import Derived.Test.YtbomeogcgefddaaPx37
import Derived.Test.YtbomeogcgefddaaQDrawPut
import Derived.Test.YtbomeogcgefddaaQPutSet
import Derived.Test.YtbomeogcgefddaaQLl
namespace Go.Proofs.Ytbomeogcgefddaa.Pure
open Go.RowKit Go.Proofs.Ytbomeogcgefddaa.P Go.Proofs.YtbomeogcgefddaaW.PrintWords Go.Proofs.YtbomeogcgefddaaW.PrintLast
set_option linter.unusedVariables false
set_option linter.unusedSimpArgs false
theorem put_l0 (n : Int) (l : List S42) (hl : l.length ≤ 26) (a : Nat) (ha : a < l.length) (c d : Int) (hg : gridOkB n l = true) (hc : cellOkB c d = true) :
    ∀ (r k i : Nat), i + r = l.length → r + 60 < k → laws_FnPutThere.l0 k (a : Int) (i : Int) n l c d n (l.set a ⟨c, d⟩) = some true
  | 0, k, i, hi, hk => by
    obtain ⟨k, rfl⟩ : ∃ m, k = m + 1 := ⟨k - 1, by omega⟩
    simp only [laws_FnPutThere.l0]
    have hx : okCell (⟨c, d⟩ : S42) = true := hc
    have hg2 := gridOkB_set hg a ⟨c, d⟩ hx
    have hs : (l.set a (⟨c, d⟩ : S42)).length = l.length := List.length_set ..
    have ho : cellOkB l[a].f0 l[a].f1 = true := okCell_at hg a ha
    rw [if_neg (by omega), if_pos (by omega), if_pos (by omega), rd_at l a ha, impl_GridPut_some n _ _ _ _ (by omega) k (by omega), gridPut_ok hg2 ho (by omega) (by omega)]
    simp only [Option.bind_some, if_true, Int.toNat_natCast, List.set_set]
    have es : l.set a (⟨l[a].f0, l[a].f1⟩ : S42) = l := List.set_getElem_self ha
    rw [es, llGrid_same n l (by omega) k (by omega)]
    simp only [Option.bind_some, if_true]
    rw [impl_GridOk_some n _ (by omega) k (by omega), hg2]
    rfl
  | r + 1, k, i, hi, hk => by
    obtain ⟨k, rfl⟩ : ∃ m, k = m + 1 := ⟨k - 1, by omega⟩
    have hlt : i < l.length := by omega
    have hs : (l.set a (⟨c, d⟩ : S42)).length = l.length := List.length_set ..
    simp only [laws_FnPutThere.l0]
    have ih := put_l0 n l hl a ha c d hg hc r k (i + 1) (by omega) (by omega)
    rw [show ((i + 1 : Nat) : Int) = (i : Int) + 1 from by omega] at ih
    rw [if_pos (by omega), w64 ((i : Int) + 1) (by omega) (by omega), ih, rd_at (l.set a ⟨c, d⟩) i (by omega), rd_at l i hlt]
    by_cases hia : i = a
    · subst hia
      rw [if_pos rfl, if_pos (by omega), if_pos (by omega), if_neg (by simp)]
    · rw [if_neg (by omega), if_pos (by omega), if_pos (by omega), if_neg]
      rw [List.getElem_set_ne (by omega)]
      simp
theorem FnPutThere : laws_FnPutThere.Pure := by
  intro l0 _ _ hw
  refine ⟨200, ?_⟩
  unfold laws_FnPutThere.f
  by_cases hb : (l0.length : Int) > 1048576
  · rw [if_pos hb]
  rw [if_neg hb]
  obtain ⟨n, l, a, c, d, e, hl⟩ := drawGridPut_some l0 (bytes_of hw) 200 (by omega)
  rw [e]
  simp only [Option.bind_some, spec_GridPut_some n l _ _ _ (by omega) 200 (by omega), impl_GridPut_some n l _ _ _ (by omega) 200 (by omega), bne_self_eq_false, Bool.false_eq_true, if_false]
  have hlen := gridPut_length n l a c d
  rw [llGrid_same _ _ (by omega) 200 (by omega)]
  simp only [Option.bind_some, if_true, laws_FnPutThere.j0]
  by_cases h : gridOkB n l = true ∧ cellOkB c d = true ∧ 0 ≤ a ∧ a < (l.length : Int)
  · obtain ⟨hg, hc, h0, h1⟩ := h
    rw [gridPut_ok hg hc h0 h1]
    obtain ⟨b, hb⟩ : ∃ b : Nat, a = (b : Int) := Int.eq_ofNat_of_zero_le h0
    subst hb
    have := put_l0 n l hl b (by omega) c d hg hc l.length 199 0 (by omega) (by omega)
    rw [show ((0 : Nat) : Int) = 0 from rfl] at this
    simp only [Int.toNat_natCast, Bool.not_true, Bool.false_eq_true, if_false]
    exact this
  · rw [gridPut_no h]
    simp only [Bool.not_false, if_true, beq_self_eq_true]
    rw [llGrid_same _ _ (by simp) 199 (by simp)]
    rfl
end Go.Proofs.Ytbomeogcgefddaa.Pure
