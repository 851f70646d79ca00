/- PROVED: the pure statement of FnGridOne: two grids are the same just if their texts are. No condition. -/
import Derived.Test.YtpjdhpkfenohgaaPx39
import Derived.Test.YtpjdhpkfenohgaaQDrawText
import Derived.Test.YtpjdhpkfenohgaaQRead
import Derived.Test.YtpjdhpkfenohgaaQLl
namespace Go.Proofs.Ytpjdhpkfenohgaa.Pure
open Go.RowKit Go.Proofs.Ytpjdhpkfenohgaa.P Go.Proofs.YtpjdhpkfenohgaaW.PrintWords Go.Proofs.YtpjdhpkfenohgaaW.PrintLast
set_option linter.unusedVariables false
set_option linter.unusedSimpArgs false
theorem text_inj {n n' : Int} {l l' : List S39} (h : gridOkB n l = true) (h' : gridOkB n' l' = true) (e : (textOf n l).toList = (textOf n' l').toList) : n = n' ∧ l = l' := by
  obtain ⟨N, rfl, hI⟩ := textOf_is h
  obtain ⟨M, rfl, hJ⟩ := textOf_is h'
  rw [tl_data, tl_data] at e
  have a := impl_GridRead_yes hI 1000 (by omega)
  have hK : IsText M l' (textOf (N : Int) l).data.toList := by rw [e]; exact hJ
  have b := impl_GridRead_yes hK 1000 (by omega)
  rw [a] at b
  obtain ⟨b1, b2⟩ := Prod.mk.inj (Option.some.inj b)
  exact ⟨b1, (Prod.mk.inj b2).1⟩
theorem one_j1 (n n' : Int) (l l' : List S39) (hl : l.length ≤ 26) (hl' : l'.length ≤ 26) (k : Nat) (hk : 300 < k) : laws_FnGridOne.j1 k (textOf n l) (textOf n' l') true n l n' l' = some true := by
  obtain ⟨k, rfl⟩ : ∃ m, k = m + 1 := ⟨k - 1, by omega⟩
  simp only [laws_FnGridOne.j1, if_true, spec_GridText_some n l (by omega) k (by omega), spec_GridText_some n' l' (by omega) k (by omega), Option.bind_some, beq_self_eq_true]
theorem one_j1' (n n' : Int) (l l' : List S39) (hl : l.length ≤ 26) (hl' : l'.length ≤ 26) (h : gridOkB n l = true) (h' : gridOkB n' l' = true) (k : Nat) (hk : 300 < k) : laws_FnGridOne.j1 k (textOf n l) (textOf n' l') false n l n' l' = some true := by
  obtain ⟨k, rfl⟩ : ∃ m, k = m + 1 := ⟨k - 1, by omega⟩
  obtain ⟨b, e, hb⟩ := llGrid_some n n' l l' (by omega) k (by omega)
  simp only [laws_FnGridOne.j1, Bool.false_eq_true, if_false, e, Option.bind_some]
  congr 1
  rw [beq_iff_eq]
  by_cases hx : n = n' ∧ l = l'
  · rw [hb.2 hx, hx.1, hx.2]
    simp
  · have e1 : b = false := by
      cases b with
      | false => rfl
      | true => exact absurd (hb.1 rfl) hx
    rw [e1, beq_eq_false_iff_ne]
    exact fun y => hx (text_inj h h' y)
theorem FnGridOne : laws_FnGridOne.Pure := by
  intro l0 l1 _ _ hw _ _ hw1
  refine ⟨1000, ?_⟩
  obtain ⟨n, l, e, hl⟩ := drawGridText_some l0 (bytes_of hw) 999 (by omega)
  obtain ⟨n', l', e', hl'⟩ := drawGridText_some l1 (bytes_of hw1) 999 (by omega)
  unfold laws_FnGridOne.f
  have J : laws_FnGridOne.j0 1000 l0 l1 false = some true := by
    simp only [laws_FnGridOne.j0, Bool.false_eq_true, if_false, e, e', Option.bind_some, impl_GridText_some n l (by omega) 999 (by omega), impl_GridText_some n' l' (by omega) 999 (by omega), spec_GridText_some n l (by omega) 999 (by omega), spec_GridText_some n' l' (by omega) 999 (by omega), if_true]
    by_cases h : (textOf n l).toList = []
    · rw [if_pos h]
      exact one_j1 n n' l l' hl hl' 999 (by omega)
    · rw [if_neg h]
      by_cases h' : (textOf n' l').toList = []
      · rw [h']
        exact one_j1 n n' l l' hl hl' 999 (by omega)
      · rw [show ((textOf n' l').toList == ([] : List UInt8)) = false from beq_eq_false_iff_ne.mpr h']
        refine one_j1' n n' l l' hl hl' ?_ ?_ 999 (by omega)
        · cases hg : gridOkB n l with
          | true => rfl
          | false => exact absurd (textOf_nil.2 hg) h
        · cases hg : gridOkB n' l' with
          | true => rfl
          | false => exact absurd (textOf_nil.2 hg) h'
  have T : laws_FnGridOne.j0 1000 l0 l1 true = some true := by
    simp only [laws_FnGridOne.j0, if_true]
  split
  · exact T
  · cases decide ((l1.length : Int) > 1048576)
    · exact J
    · exact T
end Go.Proofs.Ytpjdhpkfenohgaa.Pure
