/- PROVED: both GridOk functions tell whether a grid is valid (gridOkB). Condition: the grid has at most 2^40 cells. -/
import Derived.Test.YtpjdhpkfenohgaaPx27
import Derived.Test.YtpjdhpkfenohgaaPx33
import Derived.Test.YtpjdhpkfenohgaaQCell
import Derived.Test.YtpjdhpkfenohgaaQBase
namespace Go.Proofs.Ytpjdhpkfenohgaa.P
open Go.RowKit Go.Proofs.YtpjdhpkfenohgaaW.PrintWords Go.Proofs.YtpjdhpkfenohgaaW.PrintLast Go.Proofs.YtpjdhpkfenohgaaW.PrintMore
set_option linter.unusedVariables false
set_option linter.unusedSimpArgs false

theorem rd_at (l : List S39) (i : Nat) (h : i < l.length) : rd_T39 l (i : Int) = l[i] := by
  unfold rd_T39
  simp [List.getD_eq_getElem?_getD, List.getElem?_eq_getElem h]
/-- Is a grid valid? -/
def okCell (c : S39) : Bool := cellOkB c.f0 c.f1
def shapeB (n : Int) (m : Nat) : Bool := decide (1 ≤ n) && (decide (n ≤ 5) && (decide ((m : Int) % n = 0) && (decide (0 < m) && decide ((m : Int) ≤ n * 5))))
def gridOkB (n : Int) (l : List S39) : Bool := shapeB n l.length && l.all okCell

theorem spec_GridOk_l0 (l : List S39) (hl : l.length ≤ 1099511627776) (n : Int) : ∀ (d k i : Nat), i + d = l.length → d < k → spec_GridOk.l0 k (i : Int) n l = some ((l.drop i).all okCell)
  | 0, k, i, hi, hk => by
    obtain ⟨k, rfl⟩ : ∃ m, k = m + 1 := ⟨k - 1, by omega⟩
    simp only [spec_GridOk.l0]
    rw [if_neg (by omega), List.drop_eq_nil_of_le (by omega)]
    rfl
  | d + 1, k, i, hi, hk => by
    obtain ⟨k, rfl⟩ : ∃ m, k = m + 1 := ⟨k - 1, by omega⟩
    have hlt : i < l.length := by omega
    simp only [spec_GridOk.l0]
    rw [if_pos (by omega), if_pos (by omega), rd_at l i hlt, spec_CellOk_some]
    simp only [Option.bind_some]
    rw [List.drop_eq_getElem_cons hlt, List.all_cons, w64 _ (by omega) (by omega)]
    have ih := spec_GridOk_l0 l hl n d k (i + 1) (by omega) (by omega)
    rw [show ((i + 1 : Nat) : Int) = (i : Int) + 1 from by omega] at ih
    rw [ih]
    show (if okCell l[i] = true then _ else _) = _
    cases okCell l[i] <;> simp

theorem impl_GridOk_l0 (l : List S39) (hl : l.length ≤ 1099511627776) : ∀ (d k i : Nat), i + d = l.length → d < k → impl_GridOk.l0 k l (l.length : Int) (i : Int) = some ((l.drop i).all okCell)
  | 0, k, i, hi, hk => by
    obtain ⟨k, rfl⟩ : ∃ m, k = m + 1 := ⟨k - 1, by omega⟩
    simp only [impl_GridOk.l0]
    rw [if_neg (by omega), List.drop_eq_nil_of_le (by omega)]
    rfl
  | d + 1, k, i, hi, hk => by
    obtain ⟨k, rfl⟩ : ∃ m, k = m + 1 := ⟨k - 1, by omega⟩
    have hlt : i < l.length := by omega
    simp only [impl_GridOk.l0]
    rw [if_pos (by omega), if_pos (by omega), if_pos (by omega), rd_at l i hlt]
    simp only [impl_CellOk.f, Option.bind_some]
    rw [List.drop_eq_getElem_cons hlt, List.all_cons, w64 _ (by omega) (by omega)]
    have ih := impl_GridOk_l0 l hl d k (i + 1) (by omega) (by omega)
    rw [show ((i + 1 : Nat) : Int) = (i : Int) + 1 from by omega] at ih
    rw [ih]
    show (if okCell l[i] = true then _ else _) = _
    cases okCell l[i] <;> simp

theorem spec_GridOk_some (n : Int) (l : List S39) (hl : l.length ≤ 1099511627776) (k : Nat) (hk : l.length + 2 < k) : spec_GridOk.f k n l = some (gridOkB n l) := by
  obtain ⟨k, rfl⟩ : ∃ m, k = m + 1 := ⟨k - 1, by omega⟩
  unfold spec_GridOk.f gridOkB shapeB
  have hloop := spec_GridOk_l0 l hl n l.length k 0 (by omega) (by omega)
  simp only [List.drop_zero] at hloop
  rw [show ((0 : Nat) : Int) = 0 from rfl] at hloop
  have jt : ∀ b, spec_GridOk.j0 (k + 1) b n l = some (!b && l.all okCell) := by
    intro b
    simp only [spec_GridOk.j0]
    cases b
    · rw [if_neg (by decide), hloop]
      simp
    · simp
  by_cases h1 : 1 ≤ n
  · by_cases h5 : n ≤ 5
    · have e : spec_l6In.f n 1 5 = some true := by
        unfold spec_l6In.f
        rw [if_pos h1]
        simp [h5]
      rw [e]
      simp only [Option.bind_some, if_true, jt]
      rw [if_neg (by omega)]
      by_cases hm : (l.length : Int) % n = 0
      · rw [if_pos hm]
        have hq : 0 ≤ (l.length : Int) / n := Int.ediv_nonneg (by omega) (by omega)
        have hq2 : (l.length : Int) / n ≤ l.length := Int.ediv_le_self _ (by omega)
        rw [w64 _ (by omega) (by omega)]
        have hmul : n * ((l.length : Int) / n) = l.length := by
          have := Int.mul_ediv_add_emod (l.length : Int) n
          omega
        have ep : (1 ≤ (l.length : Int) / n) ↔ 0 < l.length := by
          constructor
          · intro h
            have : 0 < n * ((l.length : Int) / n) := Int.mul_pos (by omega) (by omega)
            omega
          · intro h
            rcases Int.lt_or_le ((l.length : Int) / n) 1 with h' | h'
            · have : (l.length : Int) / n = 0 := by omega
              rw [this] at hmul
              omega
            · exact h'
        have eq : ((l.length : Int) / n ≤ 5) ↔ (l.length : Int) ≤ n * 5 := by
          constructor
          · intro h
            have := Int.mul_le_mul_of_nonneg_left h (show 0 ≤ n by omega)
            omega
          · intro h
            rcases Int.lt_or_le 5 ((l.length : Int) / n) with h' | h'
            · have := Int.mul_le_mul_of_nonneg_left (show 6 ≤ (l.length : Int) / n by omega) (show 0 ≤ n by omega)
              omega
            · exact h'
        unfold spec_l6In.f
        by_cases p : 0 < l.length
        · rw [if_pos (ep.2 p)]
          by_cases q : (l.length : Int) ≤ n * 5
          · simp [h1, h5, hm, p, q, eq.2 q]
          · simp [h1, h5, hm, p, q, show ¬ ((l.length : Int) / n ≤ 5) from fun h => q (eq.1 h)]
        · rw [if_neg (fun h => p (ep.1 h))]
          simp [p]
      · rw [if_neg hm]
        simp [hm]
    · have e : spec_l6In.f n 1 5 = some false := by
        unfold spec_l6In.f
        rw [if_pos h1]
        simp [h5]
      rw [e]
      simp [jt, h5]
  · have e : spec_l6In.f n 1 5 = some false := by
      unfold spec_l6In.f
      rw [if_neg h1]
    rw [e]
    simp [jt, h1]

theorem impl_GridOk_some (n : Int) (l : List S39) (hl : l.length ≤ 1099511627776) (k : Nat) (hk : l.length + 3 < k) : impl_GridOk.f k n l = some (gridOkB n l) := by
  obtain ⟨k, rfl⟩ : ∃ m, k = m + 2 := ⟨k - 2, by omega⟩
  unfold impl_GridOk.f gridOkB shapeB
  have hloop := impl_GridOk_l0 l hl l.length k 0 (by omega) (by omega)
  simp only [List.drop_zero] at hloop
  rw [show ((0 : Nat) : Int) = 0 from rfl] at hloop
  have j1 : ∀ b, impl_GridOk.j1 (k + 1) b n l = some (!b && l.all okCell) := by
    intro b
    simp only [impl_GridOk.j1]
    cases b
    · rw [if_neg (by decide), hloop]
      simp
    · simp
  have jt : impl_GridOk.j0 (k + 2) true n l = some false := by simp [impl_GridOk.j0]
  by_cases h1 : n < 1
  · rw [if_pos h1, jt]
    simp [show ¬ (1 ≤ n) by omega]
  · rw [if_neg h1]
    by_cases h5 : n > 5
    · rw [decide_eq_true h5, jt]
      simp [show ¬ (n ≤ 5) by omega]
    · rw [decide_eq_false h5]
      simp only [impl_GridOk.j0]
      rw [if_neg (by decide), w64 (n * 5) (by omega) (by omega)]
      have g1 : 1 ≤ n := by omega
      have g5 : n ≤ 5 := by omega
      by_cases p : 0 < l.length
      · rw [if_neg (by omega)]
        by_cases q : (l.length : Int) ≤ n * 5
        · rw [if_neg (by omega), if_neg (by omega), j1]
          by_cases hm : (l.length : Int) % n = 0
          · simp [g1, g5, hm, p, q]
          · simp [hm]
        · rw [if_pos (by omega), j1]
          simp [q]
      · rw [if_pos (by omega), j1]
        simp [p]
end Go.Proofs.Ytpjdhpkfenohgaa.P
