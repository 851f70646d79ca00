/- PROVED: the exact statements' helpers: toGrid copies, eqGrid compares, szGrid counts. Condition: the grid has at most 2^40 cells. -/
import Derived.Test.YtpjdhpkfenohgaaPx3
import Derived.Test.YtpjdhpkfenohgaaPx6
import Derived.Test.YtpjdhpkfenohgaaPx9
import Derived.Test.YtpjdhpkfenohgaaQBase
namespace Go.Proofs.Ytpjdhpkfenohgaa.P
open Go.RowKit Go.Proofs.YtpjdhpkfenohgaaW.PrintWords Go.Proofs.YtpjdhpkfenohgaaW.PrintLast Go.Proofs.YtpjdhpkfenohgaaW.PrintMore
set_option linter.unusedVariables false
set_option linter.unusedSimpArgs false

/-- A cell of the statements as one of the program. -/
def cv (x : S77) : S39 := ⟨x.f0, x.f1⟩
theorem rdL_at (l : List S77) (i : Nat) (h : i < l.length) : rd_T77 l (i : Int) = l[i] := by
  unfold rd_T77
  simp [List.getD_eq_getElem?_getD, List.getElem?_eq_getElem h]
theorem rdI_at (l : List S39) (i : Nat) (h : i < l.length) : rd_T39 l (i : Int) = l[i] := by
  unfold rd_T39
  simp [List.getD_eq_getElem?_getD, List.getElem?_eq_getElem h]

theorem szGrid_some (n : Int) (l : List S77) (hl : l.length ≤ 9223372036854775807) : laws_szGrid.f n l 1048576 = some (if l.length ≤ 1048576 then 1048576 - (l.length : Int) else -1) := by
  unfold laws_szGrid.f laws_szCellS.f
  rw [w64 _ (by omega) (by omega)]
  by_cases h : l.length ≤ 1048576
  · rw [if_neg (by omega), if_pos h]
    simp only [Option.bind_some]
    rw [if_neg (by omega)]
  · rw [if_pos (by omega), if_neg h]
    simp

theorem toCellS_l0 (l : List S77) (hl : l.length ≤ 1099511627776) : ∀ (d k i : Nat) (acc : List S39), i + d = l.length → d < k → acc.length = l.length →
    laws_toCellS.l0 k l acc (i : Int) = some (acc.take i ++ (l.drop i).map cv)
  | 0, k, i, acc, hi, hk, ha => by
    obtain ⟨k, rfl⟩ : ∃ m, k = m + 1 := ⟨k - 1, by omega⟩
    simp only [laws_toCellS.l0]
    rw [if_neg (by omega), List.drop_eq_nil_of_le (by omega), List.take_of_length_le (by omega)]
    simp
  | d + 1, k, i, acc, hi, hk, ha => by
    obtain ⟨k, rfl⟩ : ∃ m, k = m + 1 := ⟨k - 1, by omega⟩
    have hlt : i < l.length := by omega
    simp only [laws_toCellS.l0, laws_toCell.f, Option.bind_some]
    rw [if_pos (by omega), if_pos (by omega), if_pos (by omega), rdL_at l i hlt, w64 _ (by omega) (by omega)]
    have ih := toCellS_l0 l hl d k (i + 1) (acc.set i (cv l[i])) (by omega) (by omega) (by simpa using ha)
    rw [show ((i + 1 : Nat) : Int) = (i : Int) + 1 from by omega] at ih
    simp only [Int.toNat_natCast]
    refine Eq.trans ih ?_
    rw [List.drop_eq_getElem_cons hlt, List.map_cons]
    have hia : i < acc.length := by omega
    rw [List.take_succ_eq_append_getElem (by simpa using hia)]
    simp [List.take_set_of_le]
theorem toGrid_some (n : Int) (l : List S77) (hl : l.length ≤ 1099511627776) (k : Nat) (hk : l.length < k) : laws_toGrid.f k n l = some (n, l.map cv) := by
  unfold laws_toGrid.f laws_toCellS.f
  have h := toCellS_l0 l hl l.length k 0 (List.replicate l.length z39) (by omega) hk (by simp)
  rw [show ((0 : Nat) : Int) = 0 from rfl] at h
  simp only [List.take_zero, List.drop_zero, List.nil_append] at h
  rw [if_pos (by omega), Int.toNat_natCast, if_pos (by omega), h]
  rfl

theorem eqCellS_l0 (l : List S39) (hl : l.length ≤ 1099511627776) : ∀ (d k i : Nat), i + d = l.length → d < k → laws_eqCellS.l0 k l l (i : Int) = some true
  | 0, k, i, hi, hk => by
    obtain ⟨k, rfl⟩ : ∃ m, k = m + 1 := ⟨k - 1, by omega⟩
    simp only [laws_eqCellS.l0]
    rw [if_neg (by omega)]
  | d + 1, k, i, hi, hk => by
    obtain ⟨k, rfl⟩ : ∃ m, k = m + 1 := ⟨k - 1, by omega⟩
    simp only [laws_eqCellS.l0, laws_eqCell.f]
    rw [if_pos (by omega), if_pos (by omega), if_pos (by omega), w64 _ (by omega) (by omega)]
    simp only [if_true, Option.bind_some]
    have ih := eqCellS_l0 l hl d k (i + 1) (by omega) (by omega)
    rw [show ((i + 1 : Nat) : Int) = (i : Int) + 1 from by omega] at ih
    exact ih
theorem eqGrid_same (n : Int) (l : List S39) (hl : l.length ≤ 1099511627776) (k : Nat) (hk : l.length < k) : laws_eqGrid.f k n l n l = some true := by
  unfold laws_eqGrid.f laws_eqCellS.f
  rw [if_pos rfl, if_pos rfl]
  have h := eqCellS_l0 l hl l.length k 0 (by omega) hk
  rw [show ((0 : Nat) : Int) = 0 from rfl] at h
  rw [h]
  rfl
end Go.Proofs.Ytpjdhpkfenohgaa.P
