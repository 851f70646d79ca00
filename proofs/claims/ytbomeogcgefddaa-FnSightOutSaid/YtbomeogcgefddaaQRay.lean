/- PROVED: both RayNext functions tell stepOf where the grid, the cell and the direction exist, and nothing else. Condition: the grid has at most 2^40 cells. -/
import Derived.Test.YtbomeogcgefddaaPx26
import Derived.Test.YtbomeogcgefddaaPx17
import Derived.Test.YtbomeogcgefddaaQSight
import Derived.Test.YtbomeogcgefddaaH1Ray
namespace Go.Proofs.Ytbomeogcgefddaa.P
open Go.RowKit Go.Proofs.YtbomeogcgefddaaW.PrintWords Go.Proofs.YtbomeogcgefddaaW.PrintLast Go.Proofs.YtbomeogcgefddaaW.PrintMore
set_option linter.unusedVariables false
set_option linter.unusedSimpArgs false

theorem l6In_some (x lo hi : Int) : spec_l6In.f x lo hi = some (decide (lo ≤ x) && decide (x ≤ hi)) := by
  unfold spec_l6In.f
  by_cases h : x ≥ lo
  · rw [if_pos h]
    simp [h]
  · rw [if_neg h]
    simp [h]
/-- A cell of a valid grid, by its row and its column. -/
theorem rowcol {n : Int} {m : Nat} (h : shapeB n m = true) (a : Int) (ha : 0 ≤ a) (hal : a < (m : Int)) :
    ∃ q p r : Int, a / n = q ∧ a % n = p ∧ (m : Int) / n = r ∧ a = n * q + p ∧ (m : Int) = n * r ∧ 0 ≤ p ∧ p < n ∧ 0 ≤ q ∧ q < r ∧ r ≤ 5 := by
  have h1 := shapeB_of h
  have h2 := shapeB_rows h
  refine ⟨a / n, a % n, (m : Int) / n, rfl, rfl, rfl, ?_, h2.2.2.symm, Int.emod_nonneg a (by omega), Int.emod_lt_of_pos a (by omega), Int.ediv_nonneg ha (by omega), ?_, h2.2.1⟩
  · have := Int.mul_ediv_add_emod a n
    omega
  · exact Int.ediv_lt_of_lt_mul (by omega) (by rw [Int.mul_comm]; omega)
set_option maxHeartbeats 1000000 in
theorem spec_l2Next_some {n : Int} {l : List S42} (h : shapeB n l.length = true) (a d : Int) (ha : 0 ≤ a) (hal : a < (l.length : Int)) (hd : 0 ≤ d) (hd3 : d ≤ 3) :
    spec_l2Next.f n l a d = some (stepOf n l.length a d) := by
  have h1 := shapeB_of h
  obtain ⟨q, p, r, eq, ep, er, ea, em, hp0, hpn, hq0, hqr, hr5⟩ := rowcol h a ha hal
  have hn : n = 1 ∨ n = 2 ∨ n = 3 ∨ n = 4 ∨ n = 5 := by omega
  have hd4 : d = 0 ∨ d = 1 ∨ d = 2 ∨ d = 3 := by omega
  unfold spec_l2Next.f
  rw [if_neg (show ¬ n = 0 by omega), spec_l1High_some h, Int.tdiv_eq_ediv_of_nonneg ha, Int.tmod_eq_emod_of_nonneg ha]
  unfold stepOf
  rw [eq, ep, er]
  simp only [Option.bind_some, l6In_some]
  clear h h1 eq ep er
  rcases hd4 with rfl | rfl | rfl | rfl
  · have e1 : rd [-1, 0, 1, 0] 0 = -1 := by decide
    have e2 : rd [0, 1, 0, -1] 0 = 0 := by decide
    simp only [e1, e2, List.length_cons, List.length_nil]
    have c1 : (decide (0 ≤ wrap64 (wrap64 q + -1)) && decide (wrap64 (wrap64 q + -1) ≤ wrap64 (r - 1))) = decide (n ≤ a) := by
      rw [Bool.eq_iff_iff]
      simp (disch := omega) only [w64]
      rcases hn with rfl | rfl | rfl | rfl | rfl <;> simp <;> omega
    have c2 : (decide (0 ≤ wrap64 (p + 0)) && decide (wrap64 (p + 0) ≤ wrap64 (n - 1))) = true := by
      simp (disch := omega) only [w64]
      simp
      omega
    rw [c1, c2]
    by_cases hc : n ≤ a
    · have e3 : wrap64 (wrap64 (wrap64 (wrap64 q + -1) * n) + wrap64 (p + 0)) = a - n := by
        rcases hn with rfl | rfl | rfl | rfl | rfl <;> simp (disch := omega) only [w64] <;> omega
      rw [e3]
      simp [hc]
    · simp [hc]
  · have e1 : rd [-1, 0, 1, 0] 1 = 0 := by decide
    have e2 : rd [0, 1, 0, -1] 1 = 1 := by decide
    simp only [e1, e2, List.length_cons, List.length_nil]
    have c1 : (decide (0 ≤ wrap64 (wrap64 q + 0)) && decide (wrap64 (wrap64 q + 0) ≤ wrap64 (r - 1))) = true := by
      simp (disch := omega) only [w64]
      simp
      omega
    have c2 : (decide (0 ≤ wrap64 (p + 1)) && decide (wrap64 (p + 1) ≤ wrap64 (n - 1))) = decide (p ≠ n - 1) := by
      rw [Bool.eq_iff_iff]
      simp (disch := omega) only [w64]
      simp
      omega
    rw [c1, c2]
    by_cases hc : p ≠ n - 1
    · have e3 : wrap64 (wrap64 (wrap64 (wrap64 q + 0) * n) + wrap64 (p + 1)) = a + 1 := by
        rcases hn with rfl | rfl | rfl | rfl | rfl <;> simp (disch := omega) only [w64] <;> omega
      rw [e3]
      simp [hc]
    · simp [hc]
  · have e1 : rd [-1, 0, 1, 0] 2 = 1 := by decide
    have e2 : rd [0, 1, 0, -1] 2 = 0 := by decide
    simp only [e1, e2, List.length_cons, List.length_nil]
    have c1 : (decide (0 ≤ wrap64 (wrap64 q + 1)) && decide (wrap64 (wrap64 q + 1) ≤ wrap64 (r - 1))) = decide (a + n < (l.length : Int)) := by
      rw [Bool.eq_iff_iff]
      simp (disch := omega) only [w64]
      rcases hn with rfl | rfl | rfl | rfl | rfl <;> simp <;> omega
    have c2 : (decide (0 ≤ wrap64 (p + 0)) && decide (wrap64 (p + 0) ≤ wrap64 (n - 1))) = true := by
      simp (disch := omega) only [w64]
      simp
      omega
    rw [c1, c2]
    by_cases hc : a + n < (l.length : Int)
    · have e3 : wrap64 (wrap64 (wrap64 (wrap64 q + 1) * n) + wrap64 (p + 0)) = a + n := by
        rcases hn with rfl | rfl | rfl | rfl | rfl <;> simp (disch := omega) only [w64] <;> omega
      rw [e3]
      simp [hc]
    · simp [hc]
  · have e1 : rd [-1, 0, 1, 0] 3 = 0 := by decide
    have e2 : rd [0, 1, 0, -1] 3 = -1 := by decide
    simp only [e1, e2, List.length_cons, List.length_nil]
    have c1 : (decide (0 ≤ wrap64 (wrap64 q + 0)) && decide (wrap64 (wrap64 q + 0) ≤ wrap64 (r - 1))) = true := by
      simp (disch := omega) only [w64]
      simp
      omega
    have c2 : (decide (0 ≤ wrap64 (p + -1)) && decide (wrap64 (p + -1) ≤ wrap64 (n - 1))) = decide (p ≠ 0) := by
      rw [Bool.eq_iff_iff]
      simp (disch := omega) only [w64]
      simp
      omega
    rw [c1, c2]
    by_cases hc : p ≠ 0
    · have e3 : wrap64 (wrap64 (wrap64 (wrap64 q + 0) * n) + wrap64 (p + -1)) = a - 1 := by
        rcases hn with rfl | rfl | rfl | rfl | rfl <;> simp (disch := omega) only [w64] <;> omega
      rw [e3]
      simp [hc]
    · simp [hc]

/-- What RayNext tells. -/
def rayNext (n : Int) (l : List S42) (a d : Int) : Int × Int × Bool :=
  if gridOkB n l = true ∧ 0 ≤ a ∧ a < (l.length : Int) ∧ 0 ≤ d ∧ d ≤ 3 then stepOf n l.length a d else (0, 0, false)
theorem spec_RayNext_some (n : Int) (l : List S42) (a d : Int) (hl : l.length ≤ 1099511627776) (k : Nat) (hk : l.length + 2 < k) : spec_RayNext.f k n l a d = some (rayNext n l a d) := by
  unfold spec_RayNext.f rayNext
  rw [spec_GridOk_some n l hl k hk]
  simp only [Option.bind_some, l6In_some]
  by_cases h : gridOkB n l = true
  · rw [if_pos h, w64 _ (by omega) (by omega)]
    by_cases ha : 0 ≤ a ∧ a < (l.length : Int)
    · have e1 : (decide (0 ≤ a) && decide (a ≤ (l.length : Int) - 1)) = true := by simp; omega
      rw [e1, if_pos rfl]
      by_cases hd : 0 ≤ d ∧ d ≤ 3
      · have e2 : (decide (0 ≤ d) && decide (d ≤ 3)) = true := by simp; omega
        rw [e2, if_pos rfl, spec_l2Next_some (shape_of h).1 a d ha.1 ha.2 hd.1 hd.2, if_pos ⟨h, ha.1, ha.2, hd.1, hd.2⟩]
        rfl
      · have e2 : (decide (0 ≤ d) && decide (d ≤ 3)) = false := by simp; omega
        rw [e2, if_neg (by decide), if_neg (fun h => hd h.2.2.2)]
    · have e1 : (decide (0 ≤ a) && decide (a ≤ (l.length : Int) - 1)) = false := by simp; omega
      rw [e1, if_neg (by decide), if_neg (fun h => ha ⟨h.2.1, h.2.2.1⟩)]
  · rw [if_neg h, if_neg (show ¬ (gridOkB n l = true ∧ 0 ≤ a ∧ a < (l.length : Int) ∧ 0 ≤ d ∧ d ≤ 3) from fun h' => h h'.1)]
theorem shapeB_25 {n : Int} {m : Nat} (h : shapeB n m = true) : m ≤ 25 := by
  have := shapeB_of h
  omega
theorem impl_rayStep_some {n : Int} {l : List S42} (h : shapeB n l.length = true) (a d : Int) (ha : 0 ≤ a) (hal : a < (l.length : Int)) (hd : 0 ≤ d) (hd3 : d ≤ 3) : impl_rayStep.f n l a d = some (stepOf n l.length a d) := by
  have := shapeB_of h
  have := shapeB_25 h
  unfold impl_rayStep.f stepIn
  rw [if_pos (by simp; omega)]
theorem impl_RayNext_some (n : Int) (l : List S42) (a d : Int) (hl : l.length ≤ 1099511627776) (k : Nat) (hk : l.length + 3 < k) : impl_RayNext.f k n l a d = some (rayNext n l a d) := by
  unfold impl_RayNext.f rayNext
  rw [impl_GridOk_some n l hl k hk]
  simp only [Option.bind_some]
  have ed : impl_dirOk.f d = some (decide (0 ≤ d) && decide (d ≤ 3)) := by
    unfold impl_dirOk.f
    by_cases h : d ≥ 0
    · rw [if_pos h]
      simp [h]
    · rw [if_neg h]
      simp [h]
  rw [ed]
  by_cases h : gridOkB n l = true
  · rw [if_pos h]
    by_cases ha : a < 0
    · rw [if_pos ha, if_neg (fun h => by omega)]
    · rw [if_neg ha]
      by_cases hal : a ≥ (l.length : Int)
      · rw [if_pos hal, if_neg (fun h => by omega)]
      · rw [if_neg hal]
        simp only [Option.bind_some]
        by_cases hd : 0 ≤ d ∧ d ≤ 3
        · have e2 : (decide (0 ≤ d) && decide (d ≤ 3)) = true := by simp; omega
          rw [e2, if_pos rfl, impl_rayStep_some (shape_of h).1 a d (by omega) (by omega) hd.1 hd.2, if_pos ⟨h, by omega, by omega, hd.1, hd.2⟩]
          rfl
        · have e2 : (decide (0 ≤ d) && decide (d ≤ 3)) = false := by simp; omega
          rw [e2, if_neg (by decide), if_neg (fun h => hd h.2.2.2)]
  · rw [if_neg h, if_neg (show ¬ (gridOkB n l = true ∧ 0 ≤ a ∧ a < (l.length : Int) ∧ 0 ≤ d ∧ d ≤ 3) from fun h' => h h'.1)]
end Go.Proofs.Ytbomeogcgefddaa.P
