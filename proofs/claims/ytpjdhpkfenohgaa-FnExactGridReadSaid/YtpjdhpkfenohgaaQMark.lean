/- PROVED: the exact statements' marks: markGrid writes marks, heldGrid finds them. Condition: the grid has at most 2^40 cells. -/
import Derived.Test.YtpjdhpkfenohgaaPx11
import Derived.Test.YtpjdhpkfenohgaaPx13
import Derived.Test.YtpjdhpkfenohgaaQExact
namespace Go.Proofs.Ytpjdhpkfenohgaa.P
open Go.RowKit Go.Proofs.YtpjdhpkfenohgaaW.PrintWords Go.Proofs.YtpjdhpkfenohgaaW.PrintLast Go.Proofs.YtpjdhpkfenohgaaW.PrintMore
set_option linter.unusedVariables false
set_option linter.unusedSimpArgs false

/-- The marks from a number on. -/
def mk (c : Int) : Nat → List S39
  | 0 => []
  | m + 1 => ⟨c, c + 1⟩ :: mk (c + 2) m
theorem mk_length : ∀ (m : Nat) (c : Int), (mk c m).length = m
  | 0, _ => rfl
  | m + 1, c => by simp [mk, mk_length m]
theorem rd_set (l : List S39) (i : Nat) (h : i < l.length) (v : S39) : rd_T39 (l.set i v) (i : Int) = v := by
  rw [rdI_at _ i (by simpa using h)]
  simp
theorem markCellS_l0 : ∀ (d k i : Nat) (acc : List S39) (c : Int), i + d = acc.length → d < k → acc.length ≤ 1099511627776 → 0 ≤ c → c ≤ 1 + 2 * (i : Int) →
    laws_markCellS.l0 k acc c (i : Int) = some (c + 2 * (d : Int), acc.take i ++ mk c d)
  | 0, k, i, acc, c, hi, hk, ha, h0, hc => by
    obtain ⟨k, rfl⟩ : ∃ m, k = m + 1 := ⟨k - 1, by omega⟩
    simp only [laws_markCellS.l0]
    rw [if_neg (by omega), List.take_of_length_le (by omega)]
    simp [mk]
  | d + 1, k, i, acc, c, hi, hk, ha, h0, hc => by
    obtain ⟨k, rfl⟩ : ∃ m, k = m + 1 := ⟨k - 1, by omega⟩
    have hlt : i < acc.length := by omega
    simp only [laws_markCellS.l0, Option.bind_some]
    rw [if_pos (by omega), if_pos (by omega), w64 (c + 1) (by omega) (by omega), w64 (c + 1 + 1) (by omega) (by omega), w64 ((i : Int) + 1) (by omega) (by omega)]
    simp only [Int.toNat_natCast, rd_set acc i hlt, List.set_set]
    have ih := markCellS_l0 d k (i + 1) (acc.set i ⟨c, c + 1⟩) (c + 2) (by simp; omega) (by omega) (by simpa using ha) (by omega) (by omega)
    rw [show ((i + 1 : Nat) : Int) = (i : Int) + 1 from by omega] at ih
    rw [show c + 1 + 1 = c + 2 from by omega]
    refine Eq.trans ih ?_
    rw [List.take_succ_eq_append_getElem (by simpa using hlt)]
    simp [List.take_set_of_le, mk]
    omega
theorem markGrid_some (n : Int) (l : List S39) (hl : l.length ≤ 1099511627776) (k : Nat) (hk : l.length < k) : laws_markGrid.f k n l 1 = some (1 + 2 * (l.length : Int), mk 1 l.length) := by
  unfold laws_markGrid.f laws_markCellS.f
  have h := markCellS_l0 l.length k 0 l 1 (by omega) hk hl (by omega) (by omega)
  rw [show ((0 : Nat) : Int) = 0 from rfl] at h
  rw [h]
  simp
theorem heldCellS_l0 (l : List S39) (ha : l.length ≤ 1099511627776) : ∀ (d k i : Nat) (c : Int), i + d = l.length → d < k → 0 ≤ c → c ≤ 1 + 2 * (i : Int) → l.drop i = mk c d →
    laws_heldCellS.l0 k l c (i : Int) = some (c + 2 * (d : Int))
  | 0, k, i, c, hi, hk, h0, hc, hd => by
    obtain ⟨k, rfl⟩ : ∃ m, k = m + 1 := ⟨k - 1, by omega⟩
    simp only [laws_heldCellS.l0]
    rw [if_neg (by omega)]
    simp
  | d + 1, k, i, c, hi, hk, h0, hc, hd => by
    obtain ⟨k, rfl⟩ : ∃ m, k = m + 1 := ⟨k - 1, by omega⟩
    have hlt : i < l.length := by omega
    rw [List.drop_eq_getElem_cons hlt] at hd
    simp only [mk, List.cons.injEq] at hd
    simp only [laws_heldCellS.l0]
    rw [if_pos (by omega), if_pos (by omega), rdI_at l i hlt, hd.1, w64 (c + 1) (by omega) (by omega), if_pos rfl, if_pos rfl, w64 (c + 1 + 1) (by omega) (by omega), w64 ((i : Int) + 1) (by omega) (by omega)]
    have ih := heldCellS_l0 l ha d k (i + 1) (c + 2) (by omega) (by omega) (by omega) (by omega) hd.2
    rw [show ((i + 1 : Nat) : Int) = (i : Int) + 1 from by omega] at ih
    rw [show c + 1 + 1 = c + 2 from by omega]
    refine Eq.trans ih ?_
    congr 1
    omega
theorem heldGrid_some (n : Int) (m : Nat) (hm : m ≤ 1099511627776) (k : Nat) (hk : m < k) : laws_heldGrid.f k n (mk 1 m) 1 = some (1 + 2 * (m : Int)) := by
  unfold laws_heldGrid.f laws_heldCellS.f
  have h := heldCellS_l0 (mk 1 m) (by rw [mk_length]; exact hm) m k 0 1 (by rw [mk_length]; omega) hk (by omega) (by omega) (by simp)
  rw [show ((0 : Nat) : Int) = 0 from rfl] at h
  rw [h]
  simp only [Option.bind_some]
  rw [if_neg (by omega)]
end Go.Proofs.Ytpjdhpkfenohgaa.P
