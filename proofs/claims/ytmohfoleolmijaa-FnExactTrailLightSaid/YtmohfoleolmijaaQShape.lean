/- PROVED: what holds of all 25 shapes of a grid, and all their cells, is found by looking at each. No condition. -/
import Derived.Test.YtmohfoleolmijaaQSight
namespace Go.Proofs.Ytmohfoleolmijaa.P
open Go.RowKit Go.Proofs.YtmohfoleolmijaaW.PrintWords Go.Proofs.YtmohfoleolmijaaW.PrintLast Go.Proofs.YtmohfoleolmijaaW.PrintMore
set_option linter.unusedVariables false
set_option linter.unusedSimpArgs false
/-- A shape by two numbers below five. -/
theorem shape_ij {n : Int} {m : Nat} (h : shapeB n m = true) : ∃ i j : Nat, i < 5 ∧ j < 5 ∧ n = ((i + 1 : Nat) : Int) ∧ m = (i + 1) * (j + 1) := by
  have h1 := shapeB_of h
  obtain ⟨h2, h3, h4⟩ := shapeB_rows h
  obtain ⟨i, hi⟩ := Int.eq_ofNat_of_zero_le (show 0 ≤ n - 1 by omega)
  obtain ⟨j, hj⟩ := Int.eq_ofNat_of_zero_le (show 0 ≤ (m : Int) / n - 1 by omega)
  have e1 : n = ((i + 1 : Nat) : Int) := by omega
  have e2 : (m : Int) / n = ((j + 1 : Nat) : Int) := by omega
  refine ⟨i, j, by omega, by omega, e1, ?_⟩
  rw [e2, e1] at h4
  have h5 : (((i + 1) * (j + 1) : Nat) : Int) = (m : Int) := by rw [← h4]; exact Int.natCast_mul _ _
  exact (Int.ofNat.inj h5).symm
theorem shape_all {E : Nat → Nat → Option Bool} (h : ((List.range 5).all fun i => (List.range 5).all fun j => E i j == some true) = true) (i j : Nat) (hi : i < 5) (hj : j < 5) : E i j = some true := by
  simp only [List.all_eq_true, List.mem_range, beq_iff_eq] at h
  exact h i hi j hj
theorem shape_all1 {E : Nat → Nat → Nat → Option Bool} (b : Nat → Nat → Nat) (h : ((List.range 5).all fun i => (List.range 5).all fun j => (List.range (b i j)).all fun a => E i j a == some true) = true) (i j a : Nat) (hi : i < 5) (hj : j < 5) (ha : a < b i j) : E i j a = some true := by
  simp only [List.all_eq_true, List.mem_range, beq_iff_eq] at h
  exact h i hi j hj a ha
theorem shape_all2 {E : Nat → Nat → Nat → Nat → Option Bool} (h : ((List.range 5).all fun i => (List.range 5).all fun j => (List.range ((i + 1) * (j + 1))).all fun a => (List.range 4).all fun d => E i j a d == some true) = true) (i j a d : Nat) (hi : i < 5) (hj : j < 5) (ha : a < (i + 1) * (j + 1)) (hd : d < 4) : E i j a d = some true := by
  simp only [List.all_eq_true, List.mem_range, beq_iff_eq] at h
  exact h i hi j hj a ha d hd
theorem nat_of {x : Int} (h : 0 ≤ x) : ∃ a : Nat, x = (a : Int) := Int.eq_ofNat_of_zero_le h
end Go.Proofs.Ytmohfoleolmijaa.P
