/- PROVED: both SightMany functions tell sightMany. Condition: the grid has at most 2^40 cells. -/
import Derived.Test.YtmohfoleolmijaaPx27
import Derived.Test.YtmohfoleolmijaaPx29
import Derived.Test.YtmohfoleolmijaaPx14
import Derived.Test.YtmohfoleolmijaaQGrid
namespace Go.Proofs.Ytmohfoleolmijaa.P
open Go.RowKit Go.Proofs.YtmohfoleolmijaaW.PrintWords Go.Proofs.YtmohfoleolmijaaW.PrintLast Go.Proofs.YtmohfoleolmijaaW.PrintMore
set_option linter.unusedVariables false
set_option linter.unusedSimpArgs false

theorem l6In_some (x lo hi : Int) : spec_l6In.f x lo hi = some (decide (lo ≤ x) && decide (x ≤ hi)) := by
  unfold spec_l6In.f
  by_cases h : x ≥ lo
  · rw [if_pos h]
    simp [h]
  · rw [if_neg h]
    simp [h]
/-- What a valid grid's shape is. -/
theorem shape_of {n : Int} {l : List S57} (h : gridOkB n l = true) : shapeB n l.length = true ∧ l.all okCell = true := by
  unfold gridOkB at h
  simpa using h
theorem shapeB_of {n : Int} {m : Nat} (h : shapeB n m = true) : 1 ≤ n ∧ n ≤ 5 ∧ (m : Int) % n = 0 ∧ 0 < m ∧ (m : Int) ≤ n * 5 := by
  unfold shapeB at h
  simp at h
  exact ⟨h.1, h.2.1, h.2.2.1, h.2.2.2.1, h.2.2.2.2⟩
/-- Its rows: from one to five. -/
theorem shapeB_rows {n : Int} {m : Nat} (h : shapeB n m = true) : 1 ≤ (m : Int) / n ∧ (m : Int) / n ≤ 5 ∧ n * ((m : Int) / n) = m := by
  obtain ⟨h1, h5, hm, h0, hl⟩ := shapeB_of h
  have hmul : n * ((m : Int) / n) = m := by
    have := Int.mul_ediv_add_emod (m : Int) n
    omega
  have hq : 0 ≤ (m : Int) / n := Int.ediv_nonneg (by omega) (by omega)
  refine ⟨?_, ?_, hmul⟩
  · rcases Int.lt_or_le ((m : Int) / n) 1 with h' | h'
    · have : (m : Int) / n = 0 := by omega
      rw [this] at hmul
      omega
    · exact h'
  · rcases Int.lt_or_le 5 ((m : Int) / n) with h' | h'
    · have := Int.mul_le_mul_of_nonneg_left (show 6 ≤ (m : Int) / n by omega) (show 0 ≤ n by omega)
      omega
    · exact h'

/-- How many viewpoints a grid of this shape has. -/
def sights (n : Int) (m : Nat) : Int := 2 * (n + (m : Int) / n)
def sightMany (n : Int) (l : List S57) : Int := if gridOkB n l = true then sights n l.length else 0
theorem sights_in {n : Int} {m : Nat} (h : shapeB n m = true) : 4 ≤ sights n m ∧ sights n m ≤ 20 := by
  have := shapeB_rows h
  have := shapeB_of h
  unfold sights
  omega
theorem spec_l1High_some {n : Int} {l : List S57} (h : shapeB n l.length = true) : spec_l1High.f n l = some ((l.length : Int) / n) := by
  have := shapeB_of h
  have := shapeB_rows h
  unfold spec_l1High.f
  rw [if_neg (by omega), w64 _ (by omega) (by omega)]
theorem impl_gridRows_some {n : Int} {l : List S57} (h : shapeB n l.length = true) : impl_gridRows.f n l = some ((l.length : Int) / n) := by
  have := shapeB_of h
  have := shapeB_rows h
  unfold impl_gridRows.f
  rw [if_neg (by omega), w64 _ (by omega) (by omega)]
theorem spec_l3Many_some {n : Int} {l : List S57} (h : shapeB n l.length = true) : spec_l3Many.f n l = some (sights n l.length) := by
  have := shapeB_of h
  have := shapeB_rows h
  unfold spec_l3Many.f sights
  rw [spec_l1High_some h]
  simp only [Option.bind_some]
  rw [w64 (n + _) (by omega) (by omega), w64 _ (by omega) (by omega)]
theorem spec_SightMany_some (n : Int) (l : List S57) (hl : l.length ≤ 1099511627776) (k : Nat) (hk : l.length + 2 < k) : spec_SightMany.f k n l = some (sightMany n l) := by
  unfold spec_SightMany.f sightMany
  rw [spec_GridOk_some n l hl k hk]
  simp only [Option.bind_some]
  by_cases h : gridOkB n l = true
  · rw [if_pos h, if_pos h, spec_l3Many_some (shape_of h).1]
    rfl
  · rw [if_neg h, if_neg h]
theorem impl_SightMany_some (n : Int) (l : List S57) (hl : l.length ≤ 1099511627776) (k : Nat) (hk : l.length + 3 < k) : impl_SightMany.f k n l = some (sightMany n l) := by
  unfold impl_SightMany.f sightMany
  rw [impl_GridOk_some n l hl k hk]
  simp only [Option.bind_some]
  by_cases h : gridOkB n l = true
  · have := shapeB_of (shape_of h).1
    have := shapeB_rows (shape_of h).1
    rw [if_pos h, if_pos h, impl_gridRows_some (shape_of h).1]
    simp only [Option.bind_some]
    unfold sights
    rw [w64 (n + _) (by omega) (by omega), w64 _ (by omega) (by omega)]
  · rw [if_neg h, if_neg h]
end Go.Proofs.Ytmohfoleolmijaa.P
