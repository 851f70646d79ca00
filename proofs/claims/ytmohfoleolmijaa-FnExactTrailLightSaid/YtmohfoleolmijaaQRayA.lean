/- PROVED: the reference's l2Next and the program's rayStep tell stepOf. Condition: the grid is valid. -/
import Derived.Test.YtmohfoleolmijaaPx25
import Derived.Test.YtmohfoleolmijaaQSight
import Derived.Test.YtmohfoleolmijaaH1Ray
namespace Go.Proofs.Ytmohfoleolmijaa.P
open Go.RowKit Go.Proofs.YtmohfoleolmijaaW.PrintWords Go.Proofs.YtmohfoleolmijaaW.PrintLast Go.Proofs.YtmohfoleolmijaaW.PrintMore
set_option linter.unusedVariables false
set_option linter.unusedSimpArgs false

/-- A cell of a valid grid, by its row and its column. -/
theorem rowcol {n : Int} {m : Nat} (h : shapeB n m = true) (a : Int) (ha : 0 ≤ a) (hal : a < (m : Int)) :
    ∃ q p r : Int, a / n = q ∧ a % n = p ∧ (m : Int) / n = r ∧ a = n * q + p ∧ (m : Int) = n * r ∧ 0 ≤ p ∧ p < n ∧ 0 ≤ q ∧ q < r ∧ r ≤ 5 := by
  have h1 := shapeB_of h
  have h2 := shapeB_rows h
  refine ⟨a / n, a % n, (m : Int) / n, rfl, rfl, rfl, ?_, h2.2.2.symm, Int.emod_nonneg a (by omega), Int.emod_lt_of_pos a (by omega), Int.ediv_nonneg ha (by omega), ?_, h2.2.1⟩
  · have := Int.mul_ediv_add_emod a n
    omega
  · exact Int.ediv_lt_of_lt_mul (by omega) (by rw [Int.mul_comm]; omega)
set_option maxHeartbeats 1000000 in
theorem spec_l2Next_some {n : Int} {l : List S57} (h : shapeB n l.length = true) (a d : Int) (ha : 0 ≤ a) (hal : a < (l.length : Int)) (hd : 0 ≤ d) (hd3 : d ≤ 3) :
    spec_l2Next.f n l a d = some (stepOf n l.length a d) := by
  have h1 := shapeB_of h
  obtain ⟨q, p, r, eq, ep, er, ea, em, hp0, hpn, hq0, hqr, hr5⟩ := rowcol h a ha hal
  have hn : n = 1 ∨ n = 2 ∨ n = 3 ∨ n = 4 ∨ n = 5 := by omega
  have hd4 : d = 0 ∨ d = 1 ∨ d = 2 ∨ d = 3 := by omega
  unfold spec_l2Next.f
  rw [if_neg (show ¬ n = 0 by omega), spec_l1High_some h, Int.tdiv_eq_ediv_of_nonneg ha, Int.tmod_eq_emod_of_nonneg ha]
  unfold stepOf
  rw [eq, ep, er]
  simp only [Option.bind_some, l6In_some]
  clear h h1 eq ep er
  rcases hd4 with rfl | rfl | rfl | rfl
  · have e1 : rd [-1, 0, 1, 0] 0 = -1 := by decide
    have e2 : rd [0, 1, 0, -1] 0 = 0 := by decide
    simp only [e1, e2, List.length_cons, List.length_nil]
    have c1 : (decide (0 ≤ wrap64 (wrap64 q + -1)) && decide (wrap64 (wrap64 q + -1) ≤ wrap64 (r - 1))) = decide (n ≤ a) := by
      rw [Bool.eq_iff_iff]
      simp (disch := omega) only [w64]
      rcases hn with rfl | rfl | rfl | rfl | rfl <;> simp <;> omega
    have c2 : (decide (0 ≤ wrap64 (p + 0)) && decide (wrap64 (p + 0) ≤ wrap64 (n - 1))) = true := by
      simp (disch := omega) only [w64]
      simp
      omega
    rw [c1, c2]
    by_cases hc : n ≤ a
    · have e3 : wrap64 (wrap64 (wrap64 (wrap64 q + -1) * n) + wrap64 (p + 0)) = a - n := by
        rcases hn with rfl | rfl | rfl | rfl | rfl <;> simp (disch := omega) only [w64] <;> omega
      rw [e3]
      simp [hc]
    · simp [hc]
  · have e1 : rd [-1, 0, 1, 0] 1 = 0 := by decide
    have e2 : rd [0, 1, 0, -1] 1 = 1 := by decide
    simp only [e1, e2, List.length_cons, List.length_nil]
    have c1 : (decide (0 ≤ wrap64 (wrap64 q + 0)) && decide (wrap64 (wrap64 q + 0) ≤ wrap64 (r - 1))) = true := by
      simp (disch := omega) only [w64]
      simp
      omega
    have c2 : (decide (0 ≤ wrap64 (p + 1)) && decide (wrap64 (p + 1) ≤ wrap64 (n - 1))) = decide (p ≠ n - 1) := by
      rw [Bool.eq_iff_iff]
      simp (disch := omega) only [w64]
      simp
      omega
    rw [c1, c2]
    by_cases hc : p ≠ n - 1
    · have e3 : wrap64 (wrap64 (wrap64 (wrap64 q + 0) * n) + wrap64 (p + 1)) = a + 1 := by
        rcases hn with rfl | rfl | rfl | rfl | rfl <;> simp (disch := omega) only [w64] <;> omega
      rw [e3]
      simp [hc]
    · simp [hc]
  · have e1 : rd [-1, 0, 1, 0] 2 = 1 := by decide
    have e2 : rd [0, 1, 0, -1] 2 = 0 := by decide
    simp only [e1, e2, List.length_cons, List.length_nil]
    have c1 : (decide (0 ≤ wrap64 (wrap64 q + 1)) && decide (wrap64 (wrap64 q + 1) ≤ wrap64 (r - 1))) = decide (a + n < (l.length : Int)) := by
      rw [Bool.eq_iff_iff]
      simp (disch := omega) only [w64]
      rcases hn with rfl | rfl | rfl | rfl | rfl <;> simp <;> omega
    have c2 : (decide (0 ≤ wrap64 (p + 0)) && decide (wrap64 (p + 0) ≤ wrap64 (n - 1))) = true := by
      simp (disch := omega) only [w64]
      simp
      omega
    rw [c1, c2]
    by_cases hc : a + n < (l.length : Int)
    · have e3 : wrap64 (wrap64 (wrap64 (wrap64 q + 1) * n) + wrap64 (p + 0)) = a + n := by
        rcases hn with rfl | rfl | rfl | rfl | rfl <;> simp (disch := omega) only [w64] <;> omega
      rw [e3]
      simp [hc]
    · simp [hc]
  · have e1 : rd [-1, 0, 1, 0] 3 = 0 := by decide
    have e2 : rd [0, 1, 0, -1] 3 = -1 := by decide
    simp only [e1, e2, List.length_cons, List.length_nil]
    have c1 : (decide (0 ≤ wrap64 (wrap64 q + 0)) && decide (wrap64 (wrap64 q + 0) ≤ wrap64 (r - 1))) = true := by
      simp (disch := omega) only [w64]
      simp
      omega
    have c2 : (decide (0 ≤ wrap64 (p + -1)) && decide (wrap64 (p + -1) ≤ wrap64 (n - 1))) = decide (p ≠ 0) := by
      rw [Bool.eq_iff_iff]
      simp (disch := omega) only [w64]
      simp
      omega
    rw [c1, c2]
    by_cases hc : p ≠ 0
    · have e3 : wrap64 (wrap64 (wrap64 (wrap64 q + 0) * n) + wrap64 (p + -1)) = a - 1 := by
        rcases hn with rfl | rfl | rfl | rfl | rfl <;> simp (disch := omega) only [w64] <;> omega
      rw [e3]
      simp [hc]
    · simp [hc]

theorem shapeB_25 {n : Int} {m : Nat} (h : shapeB n m = true) : m ≤ 25 := by
  have := shapeB_of h
  omega
theorem impl_rayStep_some {n : Int} {l : List S57} (h : shapeB n l.length = true) (a d : Int) (ha : 0 ≤ a) (hal : a < (l.length : Int)) (hd : 0 ≤ d) (hd3 : d ≤ 3) : impl_rayStep.f n l a d = some (stepOf n l.length a d) := by
  have := shapeB_of h
  have := shapeB_25 h
  unfold impl_rayStep.f stepIn
  rw [if_pos (by simp; omega)]
end Go.Proofs.Ytmohfoleolmijaa.P
