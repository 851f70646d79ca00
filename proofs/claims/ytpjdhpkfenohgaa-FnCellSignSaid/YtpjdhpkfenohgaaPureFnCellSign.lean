/- PROVED: the pure statement of FnCellSign: each cell has a sign of its own. No condition. -/
import Derived.Test.YtpjdhpkfenohgaaPx38
import Derived.Test.YtpjdhpkfenohgaaPx20
import Derived.Test.YtpjdhpkfenohgaaQText
import Derived.Test.YtpjdhpkfenohgaaQDraw
import Derived.Test.YtpjdhpkfenohgaaQCell
namespace Go.Proofs.Ytpjdhpkfenohgaa.Pure
open Go.RowKit Go.Proofs.Ytpjdhpkfenohgaa.P Go.Proofs.YtpjdhpkfenohgaaW.PrintWords Go.Proofs.YtpjdhpkfenohgaaW.PrintLast
set_option linter.unusedVariables false
set_option linter.unusedSimpArgs false
theorem drawCellOk_some (s : List Int) (hs : Bytes s) (k : Nat) (hk : 60 < k) : ∃ c d, spec_DrawCellOk.f k s = some (c, d) := by
  unfold spec_DrawCellOk.f
  obtain ⟨s, e, hs⟩ := l6Open_some s hs
  rw [e]
  simp only [Option.bind_some]
  obtain ⟨v, e, _, _⟩ := pick_at s hs 0 2 (by omega) (by omega) k (by omega)
  rw [e]
  simp only [Option.bind_some]
  split
  · obtain ⟨c, d, e, _, _⟩ := off_some s hs (0 + 1) (by omega) (by omega) k (by omega)
    rw [e]
    exact ⟨_, _, rfl⟩
  · obtain ⟨c, d, r, e, _⟩ := cellDraw_some s hs (0 + 1) (by omega) (by omega) k (by omega)
    rw [e]
    exact ⟨_, _, rfl⟩
theorem one_ok (c d : Int) : gridOkB 1 [⟨c, d⟩] = cellOkB c d := by
  unfold gridOkB shapeB
  simp [okCell]
theorem one_text (c d : Int) : textOf 1 [⟨c, d⟩] = if cellOkB c d = true then ⟨[((signOf c d).toNat).toUInt8, (10 : Nat).toUInt8].toArray⟩ else ⟨#[]⟩ := by
  unfold textOf
  rw [one_ok]
  by_cases h : cellOkB c d = true
  · rw [if_pos h, if_pos h]
    show ByteArray.mk ((textL 1 [⟨c, d⟩] 1).toArray) = _
    rw [textL, textL, if_pos (show ((0 : Nat) : Int) % 1 = wrap64 (1 - 1) from by rw [w64 (1 - 1) (by decide) (by decide)]; decide)]
    rfl
  · rw [if_neg h, if_neg h]
theorem sign_inj {c d c' d' : Int} (h : cellOkB c d = true) (h' : cellOkB c' d' = true) (e : ((signOf c d).toNat).toUInt8 = ((signOf c' d').toNat).toUInt8) : c = c' ∧ d = d' := by
  have s := signOf_in h
  have s' := signOf_in h'
  have e2 := congrArg UInt8.toNat e
  rw [u8_nat (by omega), u8_nat (by omega)] at e2
  have a := rdC_sign h
  rw [e2, rdC_sign h'] at a
  obtain ⟨a1, a2⟩ := Prod.mk.inj a
  exact ⟨a1.symm, (Prod.mk.inj a2).1.symm⟩
theorem sign_j1 (c d c' d' : Int) (k : Nat) (hk : 100 < k) : laws_FnCellSign.j1 k (cellOkB c d) false c d c' d' = some true := by
  obtain ⟨k, rfl⟩ : ∃ m, k = m + 1 := ⟨k - 1, by omega⟩
  simp only [laws_FnCellSign.j1, Bool.false_eq_true, if_false, impl_GridText_some 1 [⟨c, d⟩] (by simp) k (by simp; omega), impl_GridText_some 1 [⟨c', d'⟩] (by simp) k (by simp; omega), Option.bind_some, one_text]
  by_cases h : cellOkB c d = true
  · rw [if_pos h, if_pos h]
    have hsz : (⟨[((signOf c d).toNat).toUInt8, (10 : Nat).toUInt8].toArray⟩ : ByteArray).size = 2 := rfl
    rw [hsz, if_pos (by omega), if_pos (by omega), if_pos (show bt _ 1 = 10 from rfl), tl_mk]
    congr 1
    by_cases h' : cellOkB c' d' = true
    · rw [if_pos h', tl_mk]
      by_cases e : c = c' ∧ d = d'
      · rw [e.1, e.2]
        simp
      · have hne : ¬ ((signOf c d).toNat).toUInt8 = ((signOf c' d').toNat).toUInt8 := fun x => e (sign_inj h h' x)
        have a : ([((signOf c d).toNat).toUInt8, (10 : Nat).toUInt8] == [((signOf c' d').toNat).toUInt8, (10 : Nat).toUInt8]) = false := by
          rw [beq_eq_false_iff_ne]
          intro x
          exact hne (List.cons.inj x).1
        have b : (c == c' && (d == d')) = false := by
          rw [Bool.and_eq_false_iff, beq_eq_false_iff_ne, beq_eq_false_iff_ne]
          refine Decidable.byContradiction (fun x => e ?_)
          exact ⟨Decidable.byContradiction (fun y => x (.inl y)), Decidable.byContradiction (fun y => x (.inr y))⟩
        rw [a, b]
        rfl
    · rw [if_neg h']
      have a : ([((signOf c d).toNat).toUInt8, (10 : Nat).toUInt8] == (⟨#[]⟩ : ByteArray).toList) = false := by
        rw [beq_eq_false_iff_ne]
        intro x
        have := congrArg List.length x
        rw [show (⟨#[]⟩ : ByteArray).toList = [] from tl_mk []] at this
        simp at this
      have b : (c == c' && (d == d')) = false := by
        rw [Bool.and_eq_false_iff, beq_eq_false_iff_ne, beq_eq_false_iff_ne]
        refine Decidable.byContradiction (fun x => ?_)
        have e1 : c = c' := Decidable.byContradiction (fun y => x (.inl y))
        have e2 : d = d' := Decidable.byContradiction (fun y => x (.inr y))
        rw [e1, e2] at h
        exact h' h
      rw [a, b]
      rfl
  · rw [if_neg h, if_neg h]
    rw [show (⟨#[]⟩ : ByteArray).toList = [] from tl_mk []]
    rfl
theorem FnCellSign : laws_FnCellSign.Pure := by
  intro l0 l1 _ _ hw _ _ hw1
  refine ⟨1000, ?_⟩
  obtain ⟨c, d, e⟩ := drawCellOk_some l0 (bytes_of hw) 999 (by omega)
  obtain ⟨c', d', e'⟩ := drawCellOk_some l1 (bytes_of hw1) 999 (by omega)
  unfold laws_FnCellSign.f
  have J : laws_FnCellSign.j0 1000 l0 l1 false = some true := by
    simp only [laws_FnCellSign.j0, Bool.false_eq_true, if_false, e, e', Option.bind_some, impl_CellOk.f, spec_CellOk_some, bne_self_eq_false]
    exact sign_j1 c d c' d' 999 (by omega)
  have T : laws_FnCellSign.j0 1000 l0 l1 true = some true := by
    simp only [laws_FnCellSign.j0, if_true]
  split
  · exact T
  · cases decide ((l1.length : Int) > 1048576)
    · exact J
    · exact T
end Go.Proofs.Ytpjdhpkfenohgaa.Pure
