/- PROVED: both SightTurn and SightFlip functions tell sightTurn and sightFlip. Condition: the grid has at most 2^40 cells. -/
import Derived.Test.YtbnofnamkgfadaaPx22
import Derived.Test.YtbnofnamkgfadaaPx27
import Derived.Test.YtbnofnamkgfadaaPx21
import Derived.Test.YtbnofnamkgfadaaPx27
import Derived.Test.YtbnofnamkgfadaaQSight
namespace Go.Proofs.Ytbnofnamkgfadaa.P
open Go.RowKit Go.Proofs.YtbnofnamkgfadaaW.PrintWords Go.Proofs.YtbnofnamkgfadaaW.PrintLast Go.Proofs.YtbnofnamkgfadaaW.PrintMore
set_option linter.unusedVariables false
set_option linter.unusedSimpArgs false
def sightTurn (n : Int) (l : List S24) (k : Int) : Int := if gridOkB n l = true ∧ 0 ≤ k ∧ k < sights n l.length then Int.tmod (k + (l.length : Int) / n) (sights n l.length) else -1
def sightFlip (n : Int) (l : List S24) (k : Int) : Int := if gridOkB n l = true ∧ 0 ≤ k ∧ k < sights n l.length then Int.tmod (n - 1 - k + sights n l.length) (sights n l.length) else -1

theorem spec_SightFlip_some (n : Int) (l : List S24) (a : Int) (hl : l.length ≤ 1099511627776) (k : Nat) (hk : l.length + 2 < k) : spec_SightFlip.f k n l a = some (sightFlip n l a) := by
  obtain ⟨k, rfl⟩ : ∃ m, k = m + 1 := ⟨k - 1, by omega⟩
  unfold spec_SightFlip.f sightFlip
  rw [spec_GridOk_some n l hl _ hk]
  simp only [Option.bind_some, spec_SightFlip.j0, if_true]
  by_cases h : gridOkB n l = true
  · have hs := sights_in (shape_of h).1
    have h1 := shapeB_of (shape_of h).1
    rw [if_pos h, spec_l3Many_some (shape_of h).1]
    simp only [Option.bind_some]
    rw [w64 (_ - 1) (by omega) (by omega)]
    unfold spec_l6In.f
    by_cases p : a ≥ 0
    · rw [if_pos p]
      simp only [Option.bind_some]
      by_cases q : a ≤ sights n l.length - 1
      · rw [if_pos (show gridOkB n l = true ∧ 0 ≤ a ∧ a < sights n l.length from ⟨h, p, by omega⟩), decide_eq_true q, if_neg (by decide), if_neg (by omega), w64 (n - 1) (by omega) (by omega), w64 (n - 1 - a) (by omega) (by omega), w64 (n - 1 - a + _) (by omega) (by omega)]
      · rw [if_neg (show ¬ (gridOkB n l = true ∧ 0 ≤ a ∧ a < sights n l.length) from fun h => q (by omega)), decide_eq_false q, if_pos (by decide)]
    · rw [if_neg p, if_neg (show ¬ (gridOkB n l = true ∧ 0 ≤ a ∧ a < sights n l.length) from fun h => p h.2.1)]
      simp
  · rw [if_neg h, if_neg (fun h' => h h'.1)]
theorem impl_SightFlip_some (n : Int) (l : List S24) (a : Int) (hl : l.length ≤ 1099511627776) (k : Nat) (hk : l.length + 3 < k) : impl_SightFlip.f k n l a = some (sightFlip n l a) := by
  unfold impl_SightFlip.f sightFlip
  rw [impl_SightMany_some n l hl _ hk]
  simp only [Option.bind_some]
  unfold sightMany
  by_cases h : gridOkB n l = true
  · have hs := sights_in (shape_of h).1
    have h1 := shapeB_of (shape_of h).1
    rw [if_pos h]
    by_cases p : a < 0
    · rw [if_pos p, if_neg (fun h => by omega)]
    · rw [if_neg p]
      by_cases q : a ≥ sights n l.length
      · rw [if_pos q, if_neg (fun h => by omega)]
      · rw [if_neg q, if_neg (by omega), if_pos ⟨h, by omega, by omega⟩, w64 (n - 1) (by omega) (by omega), w64 (n - 1 - a) (by omega) (by omega), w64 (n - 1 - a + _) (by omega) (by omega)]
  · rw [if_neg h, if_neg (show ¬ (gridOkB n l = true ∧ 0 ≤ a ∧ a < sights n l.length) from fun h' => h h'.1)]
    by_cases p : a < 0
    · rw [if_pos p]
    · rw [if_neg p, if_pos (by omega)]
theorem spec_SightTurn_some (n : Int) (l : List S24) (a : Int) (hl : l.length ≤ 1099511627776) (k : Nat) (hk : l.length + 2 < k) : spec_SightTurn.f k n l a = some (sightTurn n l a) := by
  obtain ⟨k, rfl⟩ : ∃ m, k = m + 1 := ⟨k - 1, by omega⟩
  unfold spec_SightTurn.f sightTurn
  rw [spec_GridOk_some n l hl _ hk]
  simp only [Option.bind_some, spec_SightTurn.j0, if_true]
  by_cases h : gridOkB n l = true
  · have hs := sights_in (shape_of h).1
    have h1 := shapeB_of (shape_of h).1
    have h2 := shapeB_rows (shape_of h).1
    rw [if_pos h, spec_l3Many_some (shape_of h).1, spec_l1High_some (shape_of h).1]
    simp only [Option.bind_some]
    rw [w64 (_ - 1) (by omega) (by omega)]
    unfold spec_l6In.f
    by_cases p : a ≥ 0
    · rw [if_pos p]
      simp only [Option.bind_some]
      by_cases q : a ≤ sights n l.length - 1
      · rw [if_pos (show gridOkB n l = true ∧ 0 ≤ a ∧ a < sights n l.length from ⟨h, p, by omega⟩), decide_eq_true q, if_neg (by decide), if_neg (by omega), w64 (a + _) (by omega) (by omega)]
      · rw [if_neg (show ¬ (gridOkB n l = true ∧ 0 ≤ a ∧ a < sights n l.length) from fun h => q (by omega)), decide_eq_false q, if_pos (by decide)]
    · rw [if_neg p, if_neg (show ¬ (gridOkB n l = true ∧ 0 ≤ a ∧ a < sights n l.length) from fun h => p h.2.1)]
      simp
  · rw [if_neg h, if_neg (fun h' => h h'.1)]
theorem impl_SightTurn_some (n : Int) (l : List S24) (a : Int) (hl : l.length ≤ 1099511627776) (k : Nat) (hk : l.length + 3 < k) : impl_SightTurn.f k n l a = some (sightTurn n l a) := by
  unfold impl_SightTurn.f sightTurn
  rw [impl_SightMany_some n l hl _ hk]
  simp only [Option.bind_some]
  unfold sightMany
  by_cases h : gridOkB n l = true
  · have hs := sights_in (shape_of h).1
    have h1 := shapeB_of (shape_of h).1
    have h2 := shapeB_rows (shape_of h).1
    rw [if_pos h]
    by_cases p : a < 0
    · rw [if_pos p, if_neg (fun h => by omega)]
    · rw [if_neg p]
      by_cases q : a ≥ sights n l.length
      · rw [if_pos q, if_neg (fun h => by omega)]
      · rw [if_neg q, impl_gridRows_some (shape_of h).1, if_pos ⟨h, by omega, by omega⟩]
        simp only [Option.bind_some]
        rw [if_neg (by omega), w64 (a + _) (by omega) (by omega)]
  · rw [if_neg h, if_neg (show ¬ (gridOkB n l = true ∧ 0 ≤ a ∧ a < sights n l.length) from fun h' => h h'.1)]
    by_cases p : a < 0
    · rw [if_pos p]
    · rw [if_neg p, if_pos (by omega)]
end Go.Proofs.Ytbnofnamkgfadaa.P
