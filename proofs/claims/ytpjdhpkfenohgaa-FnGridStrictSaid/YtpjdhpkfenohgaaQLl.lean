/- PROVED: the statements' llGrid tells whether two grids are the same. Condition: a grid has at most 2^40 cells. -/
import Derived.Test.YtpjdhpkfenohgaaPx14
import Derived.Test.YtpjdhpkfenohgaaQGrid
namespace Go.Proofs.Ytpjdhpkfenohgaa.P
open Go.RowKit Go.Proofs.YtpjdhpkfenohgaaW.PrintWords Go.Proofs.YtpjdhpkfenohgaaW.PrintLast Go.Proofs.YtpjdhpkfenohgaaW.PrintMore
set_option linter.unusedVariables false
set_option linter.unusedSimpArgs false
theorem cell_ext {a b : S39} (h0 : a.f0 = b.f0) (h1 : a.f1 = b.f1) : a = b := by
  cases a; cases b; simp_all
theorem llGrid_l0 (n n' : Int) (l l' : List S39) (hl : l.length ≤ 1099511627776) (he : l.length = l'.length) : ∀ (r k i : Nat), i + r = l.length → r < k →
    ∃ b, laws_llGrid.l0 k (i : Int) n l n' l' = some b ∧ (b = true ↔ l.drop i = l'.drop i)
  | 0, k, i, hi, hk => by
    obtain ⟨k, rfl⟩ : ∃ m, k = m + 1 := ⟨k - 1, by omega⟩
    simp only [laws_llGrid.l0]
    rw [if_neg (by omega)]
    exact ⟨true, rfl, by simp [List.drop_eq_nil_of_le (show l.length ≤ i by omega), List.drop_eq_nil_of_le (show l'.length ≤ i by omega)]⟩
  | r + 1, k, i, hi, hk => by
    obtain ⟨k, rfl⟩ : ∃ m, k = m + 1 := ⟨k - 1, by omega⟩
    have h1 : i < l.length := by omega
    have h2 : i < l'.length := by omega
    simp only [laws_llGrid.l0]
    rw [if_pos (by omega), if_pos (by omega), if_pos (by omega), rd_at l i h1, rd_at l' i h2, w64 _ (by omega) (by omega)]
    obtain ⟨b, e, hb⟩ := llGrid_l0 n n' l l' hl he r k (i + 1) (by omega) (by omega)
    rw [show ((i + 1 : Nat) : Int) = (i : Int) + 1 from by omega] at e
    by_cases h : l[i] = l'[i]
    · rw [h, if_neg (by simp), e]
      refine ⟨b, rfl, ?_⟩
      rw [List.drop_eq_getElem_cons h1, List.drop_eq_getElem_cons h2, List.cons.injEq, hb]
      exact ⟨fun x => ⟨h, x⟩, fun x => x.2⟩
    · rw [if_pos]
      · refine ⟨false, rfl, ?_⟩
        rw [List.drop_eq_getElem_cons h1, List.drop_eq_getElem_cons h2, List.cons.injEq]
        exact ⟨fun x => (by cases x), fun x => absurd x.1 h⟩
      · by_cases h0 : l[i].f0 = l'[i].f0
        · have h1 : ¬ l[i].f1 = l'[i].f1 := fun h1 => h (cell_ext h0 h1)
          simp [h1]
        · simp [h0]
theorem llGrid_some (n n' : Int) (l l' : List S39) (hl : l.length ≤ 1099511627776) (k : Nat) (hk : l.length + 1 < k) : ∃ b, laws_llGrid.f k n l n' l' = some b ∧ (b = true ↔ n = n' ∧ l = l') := by
  obtain ⟨k, rfl⟩ : ∃ m, k = m + 1 := ⟨k - 1, by omega⟩
  unfold laws_llGrid.f
  by_cases h : n = n'
  · rw [if_pos h]
    simp only [laws_llGrid.j0]
    by_cases he : l.length = l'.length
    · rw [if_neg (by simp [he])]
      obtain ⟨b, e, hb⟩ := llGrid_l0 n n' l l' hl he l.length k 0 (by omega) (by omega)
      rw [show ((0 : Nat) : Int) = 0 from rfl] at e
      exact ⟨b, e, by simpa [h] using hb⟩
    · rw [if_pos (by simp; omega)]
      exact ⟨false, rfl, by simp; exact fun _ hh => he (by rw [hh])⟩
  · rw [if_neg h]
    simp only [laws_llGrid.j0]
    exact ⟨false, by simp, by simp [h]⟩
theorem llGrid_same (n : Int) (l : List S39) (hl : l.length ≤ 1099511627776) (k : Nat) (hk : l.length + 1 < k) : laws_llGrid.f k n l n l = some true := by
  obtain ⟨b, e, hb⟩ := llGrid_some n n l l hl k hk
  rw [e, hb.2 ⟨rfl, rfl⟩]
end Go.Proofs.Ytpjdhpkfenohgaa.P
