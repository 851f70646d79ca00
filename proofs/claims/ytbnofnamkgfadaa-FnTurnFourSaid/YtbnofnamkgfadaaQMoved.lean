/- PROVED: the program's gridMoved gives, cell by cell, the exchanged cell that F tells. Condition: the grid is valid. -/
import Derived.Test.YtbnofnamkgfadaaPx16
import Derived.Test.YtbnofnamkgfadaaH2Moved
import Derived.Test.YtbnofnamkgfadaaQShape
namespace Go.Proofs.Ytbnofnamkgfadaa.P
open Go.RowKit Go.Proofs.YtbnofnamkgfadaaW.PrintWords Go.Proofs.YtbnofnamkgfadaaW.PrintLast Go.Proofs.YtbnofnamkgfadaaW.PrintMore
set_option linter.unusedVariables false
set_option linter.unusedSimpArgs false
/-- A cell with its mirror leaning the other way. -/
def swapC (c : S24) : S24 := ⟨swapK c.f0, c.f1⟩
theorem spec_l1Other_some (a b : Int) : spec_l1Other.f a b = some (swapK a, b) := by
  unfold spec_l1Other.f swapK
  split
  · rfl
  · split
    · rfl
    · split
      · rfl
      · split <;> rfl
/-- The cells at some places, exchanged. -/
def pickC (l : List S24) (P : List Nat) : List S24 := P.map fun (p : Nat) => swapC (rd_T24 l (p : Int))
theorem pickC_append (l : List S24) (P Q : List Nat) : pickC l (P ++ Q) = pickC l P ++ pickC l Q := List.map_append
theorem pickC_length (l : List S24) (P : List Nat) : (pickC l P).length = P.length := List.length_map ..
/-- Where the cell at i of the moved grid comes from. -/
def fromAt (F : Int → Int → Option Int) (wide : Int) (i : Nat) : Nat := ((F (wrap64 (Int.tdiv (i : Int) wide)) (Int.tmod (i : Int) wide)).getD 0).toNat
def fromOk (F : Int → Int → Option Int) (wide : Int) (m : Nat) (i : Nat) : Bool := match F (wrap64 (Int.tdiv (i : Int) wide)) (Int.tmod (i : Int) wide) with
  | some x => decide (0 ≤ x) && decide (x < (m : Int))
  | none => false
theorem from_of {F : Int → Int → Option Int} {wide : Int} {m i : Nat} (h : fromOk F wide m i = true) : F (wrap64 (Int.tdiv (i : Int) wide)) (Int.tmod (i : Int) wide) = some (fromAt F wide i : Int) ∧ fromAt F wide i < m := by
  unfold fromOk at h
  unfold fromAt
  cases e : F (wrap64 (Int.tdiv (i : Int) wide)) (Int.tmod (i : Int) wide) with
  | none => rw [e] at h; cases h
  | some x =>
    rw [e] at h
    simp at h
    simp only [Option.getD_some]
    constructor
    · congr 1
      omega
    · omega
theorem moved_l0 (F : Int → Int → Option Int) (wide : Int) (hw : wide ≠ 0) (n : Int) (l : List S24) (hl : l.length ≤ 1000000) (hok : l.all okCell = true) (hF : ∀ i, i < l.length → fromOk F wide l.length i = true) :
    ∀ (d k i : Nat) (acc : List S24), i + d = l.length → d < k → acc.length = l.length →
      gridMovedF.l0 F k wide (l.length : Int) (i : Int) n l wide acc = some (wide, acc.take i ++ pickC l ((List.range' i d).map (fromAt F wide)))
  | 0, k, i, acc, hi, hk, ha => by
    obtain ⟨k, rfl⟩ : ∃ m, k = m + 1 := ⟨k - 1, by omega⟩
    simp only [gridMovedF.l0]
    rw [if_neg (by omega), List.take_of_length_le (by omega)]
    simp [pickC]
  | d + 1, k, i, acc, hi, hk, ha => by
    obtain ⟨k, rfl⟩ : ∃ m, k = m + 1 := ⟨k - 1, by omega⟩
    have hlt : i < l.length := by omega
    obtain ⟨e, hb⟩ := from_of (hF i hlt)
    have hcell : okCell l[fromAt F wide i] = true := List.all_eq_true.1 hok _ (List.getElem_mem hb)
    have hc2 : cellOkB l[fromAt F wide i].f0 l[fromAt F wide i].f1 = true := hcell
    simp only [gridMovedF.l0]
    rw [if_pos (by omega), if_neg hw, e]
    simp only [Option.bind_some]
    rw [if_pos (by omega), if_pos (by omega), rd_at l _ hb]
    simp only [cellTypedP.f, Option.bind_some, hc2, if_true, cellSwappedP.f]
    rw [if_pos (by omega), if_pos (by omega), w64 _ (by omega) (by omega)]
    have ih := moved_l0 F wide hw n l hl hok hF d k (i + 1) (acc.set i (swapC l[fromAt F wide i])) (by omega) (by omega) (by simpa using ha)
    rw [show ((i + 1 : Nat) : Int) = (i : Int) + 1 from by omega] at ih
    simp only [Int.toNat_natCast]
    refine Eq.trans ih ?_
    rw [List.take_succ_eq_append_getElem (by simpa using (show i < acc.length by omega))]
    simp [List.take_set_of_le, List.range'_succ, pickC, rd_at l _ hb]
theorem moved_some (F : Int → Int → Option Int) (wide : Int) (hw : wide ≠ 0) (n : Int) (l : List S24) (hl : l.length ≤ 1000000) (hok : l.all okCell = true) (hF : ∀ i, i < l.length → fromOk F wide l.length i = true) (k : Nat) (hk : l.length < k) :
    gridMovedF.f F k n l wide = some (wide, pickC l ((List.range l.length).map (fromAt F wide))) := by
  unfold gridMovedF.f
  rw [if_pos (by omega), if_pos (by omega)]
  simp only [Option.bind_some, Int.toNat_natCast, List.length_replicate]
  have h := moved_l0 F wide hw n l hl hok hF l.length k 0 (List.replicate l.length z24) (by omega) hk (by simp)
  rw [show ((0 : Nat) : Int) = 0 from rfl] at h
  rw [h, List.range_eq_range']
  simp
end Go.Proofs.Ytbnofnamkgfadaa.P
