/- PROVED: what is put is a valid grid; putting twice. No condition. -/
import Derived.Test.YtbomeogcgefddaaQPut
namespace Go.Proofs.Ytbomeogcgefddaa.P
open Go.RowKit Go.Proofs.YtbomeogcgefddaaW.PrintWords Go.Proofs.YtbomeogcgefddaaW.PrintLast Go.Proofs.YtbomeogcgefddaaW.PrintMore
set_option linter.unusedVariables false
set_option linter.unusedSimpArgs false
theorem gridOkB_set {n : Int} {l : List S42} (h : gridOkB n l = true) (i : Nat) (x : S42) (hx : okCell x = true) : gridOkB n (l.set i x) = true := by
  obtain ⟨h1, h2⟩ := shape_of h
  unfold gridOkB
  rw [List.length_set, h1, Bool.true_and, List.all_eq_true]
  intro y hy
  rcases List.mem_or_eq_of_mem_set hy with h | h
  · exact List.all_eq_true.1 h2 y h
  · rw [h]
    exact hx
theorem okCell_at {n : Int} {l : List S42} (h : gridOkB n l = true) (i : Nat) (hi : i < l.length) : okCell l[i] = true := List.all_eq_true.1 (shape_of h).2 _ (List.getElem_mem hi)
theorem gridPut_ok {n : Int} {l : List S42} {a c d : Int} (hg : gridOkB n l = true) (hc : cellOkB c d = true) (h0 : 0 ≤ a) (hl : a < (l.length : Int)) : gridPut n l a c d = (n, l.set a.toNat ⟨c, d⟩, true) := by
  unfold gridPut
  rw [if_pos ⟨hg, hc, h0, hl⟩]
theorem gridPut_no {n : Int} {l : List S42} {a c d : Int} (h : ¬ (gridOkB n l = true ∧ cellOkB c d = true ∧ 0 ≤ a ∧ a < (l.length : Int))) : gridPut n l a c d = (0, [], false) := by
  unfold gridPut
  rw [if_neg h]
end Go.Proofs.Ytbomeogcgefddaa.P
