/- PROVED: both GridPut functions tell gridPut. Condition: the grid has at most 2^40 cells. -/
import Derived.Test.YtbomeogcgefddaaPx28
import Derived.Test.YtbomeogcgefddaaPx18
import Derived.Test.YtbomeogcgefddaaQSight
namespace Go.Proofs.Ytbomeogcgefddaa.P
open Go.RowKit Go.Proofs.YtbomeogcgefddaaW.PrintWords Go.Proofs.YtbomeogcgefddaaW.PrintLast Go.Proofs.YtbomeogcgefddaaW.PrintMore
set_option linter.unusedVariables false
set_option linter.unusedSimpArgs false

/-- What GridPut tells. -/
def gridPut (n : Int) (l : List S42) (a c d : Int) : Int × List S42 × Bool :=
  if gridOkB n l = true ∧ cellOkB c d = true ∧ 0 ≤ a ∧ a < (l.length : Int) then (n, l.set a.toNat ⟨c, d⟩, true) else (0, [], false)
theorem gridPut_length (n : Int) (l : List S42) (a c d : Int) : (gridPut n l a c d).2.1.length ≤ l.length := by
  unfold gridPut
  split
  · simp
  · simp
theorem spec_GridPut_some (n : Int) (l : List S42) (a c d : Int) (hl : l.length ≤ 1099511627776) (k : Nat) (hk : l.length + 2 < k) : spec_GridPut.f k n l a c d = some (gridPut n l a c d) := by
  unfold spec_GridPut.f gridPut spec_l1Copy.f
  rw [spec_GridOk_some n l hl k hk]
  simp only [Option.bind_some, l6In_some, spec_CellOk_some]
  by_cases h : gridOkB n l = true
  · have h1 := shapeB_of (shape_of h).1
    rw [if_pos h, w64 _ (by omega) (by omega)]
    by_cases hc : cellOkB c d = true
    · rw [if_pos hc]
      by_cases ha : 0 ≤ a ∧ a < (l.length : Int)
      · have e1 : (decide (0 ≤ a) && decide (a ≤ (l.length : Int) - 1)) = true := by simp; omega
        rw [e1, if_pos rfl, if_pos (by simp; omega)]
        simp only [Option.bind_some, List.nil_append]
        rw [if_pos ha.1, if_pos ha.2, if_pos ⟨h, hc, ha.1, ha.2⟩]
      · have e1 : (decide (0 ≤ a) && decide (a ≤ (l.length : Int) - 1)) = false := by simp; omega
        rw [e1, if_neg (by decide), if_neg (fun h => ha ⟨h.2.2.1, h.2.2.2⟩)]
    · rw [if_neg hc, if_neg (fun h => hc h.2.1)]
  · rw [if_neg h, if_neg (fun h' => h h'.1)]
theorem impl_GridPut_some (n : Int) (l : List S42) (a c d : Int) (hl : l.length ≤ 1099511627776) (k : Nat) (hk : l.length + 3 < k) : impl_GridPut.f k n l a c d = some (gridPut n l a c d) := by
  unfold impl_GridPut.f gridPut impl_gridCopy.f slices_Clone.f
  rw [impl_GridOk_some n l hl k hk]
  simp only [Option.bind_some, impl_CellOk.f]
  by_cases h : gridOkB n l = true
  · have h1 := shapeB_of (shape_of h).1
    rw [if_pos h]
    by_cases hc : cellOkB c d = true
    · rw [if_pos hc]
      by_cases ha : a < 0
      · rw [if_pos ha, if_neg (fun h => by omega)]
      · rw [if_neg ha]
        by_cases hal : a ≥ (l.length : Int)
        · rw [if_pos hal, if_neg (fun h => by omega)]
        · rw [if_neg hal, if_pos (by omega)]
          simp only [Option.bind_some]
          rw [if_pos (by omega), if_pos (by omega), if_pos ⟨h, hc, by omega, by omega⟩]
    · rw [if_neg hc, if_neg (fun h => hc h.2.1)]
  · rw [if_neg h, if_neg (fun h' => h h'.1)]
end Go.Proofs.Ytbomeogcgefddaa.P
