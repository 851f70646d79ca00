/- PROVED: both GridFlip functions give the cells of flipP, both GridTurn functions those of turnP, exchanged. Condition: the grid has at most 2^40 cells. -/
import Derived.Test.YtbnofnamkgfadaaPx19
import Derived.Test.YtbnofnamkgfadaaPx17
import Derived.Test.YtbnofnamkgfadaaQMoved
import Derived.Test.YtbnofnamkgfadaaH3Flip
import Derived.Test.YtbnofnamkgfadaaH3Turn
namespace Go.Proofs.Ytbnofnamkgfadaa.P
open Go.RowKit Go.Proofs.YtbnofnamkgfadaaW.PrintWords Go.Proofs.YtbnofnamkgfadaaW.PrintLast Go.Proofs.YtbnofnamkgfadaaW.PrintMore
set_option linter.unusedVariables false
set_option linter.unusedSimpArgs false
/-- The places of a row, from its end. -/
def rowP (w row : Nat) : Nat → List Nat
  | 0 => []
  | c + 1 => (row * w + c) :: rowP w row c
/-- The places of the grid in the mirror, from a row on. -/
def flipP (w : Nat) : Nat → Nat → List Nat
  | _, 0 => []
  | row, r + 1 => rowP w row w ++ flipP w (row + 1) r
/-- The places of a column, from its end. -/
def colP (w col : Nat) : Nat → List Nat
  | 0 => []
  | r + 1 => (r * w + col) :: colP w col r
/-- The places of the turned grid, from a column on. -/
def turnP (w h : Nat) : Nat → Nat → List Nat
  | _, 0 => []
  | col, c + 1 => colP w col h ++ turnP w h (col + 1) c
theorem mul_lt_25 {i j row c : Nat} (hi : i < 5) (hj : j < 5) (hr : row < j + 1) (hc : c < i + 1) : row * (i + 1) + c < (i + 1) * (j + 1) := by
  have : row * (i + 1) ≤ j * (i + 1) := Nat.mul_le_mul_right _ (by omega)
  have e : (i + 1) * (j + 1) = j * (i + 1) + (i + 1) := by rw [Nat.mul_comm, Nat.succ_mul]
  rw [e]
  omega
theorem flip_l1 {i j : Nat} (hi : i < 5) (hj : j < 5) (l : List S24) (hm : l.length = (i + 1) * (j + 1)) (row : Nat) (hr : row < j + 1) : ∀ (c k : Nat) (acc : List S24), c ≤ i + 1 → c < k → acc.length + c ≤ 100000 →
    spec_GridFlip.l1 k (row : Int) ((c : Int) - 1) ((i + 1 : Nat) : Int) l ((i + 1 : Nat) : Int) acc = spec_GridFlip.l0 (k - c - 1) ((row : Int) + 1) ((i + 1 : Nat) : Int) l ((i + 1 : Nat) : Int) (acc ++ pickC l (rowP (i + 1) row c))
  | 0, k, acc, hc, hk, ha => by
    obtain ⟨k, rfl⟩ : ∃ m, k = m + 1 := ⟨k - 1, by omega⟩
    simp only [spec_GridFlip.l1]
    rw [if_neg (by omega), w64 _ (by omega) (by omega)]
    simp [rowP, pickC]
  | c + 1, k, acc, hc, hk, ha => by
    obtain ⟨k, rfl⟩ : ∃ m, k = m + 1 := ⟨k - 1, by omega⟩
    have hp := mul_lt_25 hi hj hr (show c < i + 1 by omega)
    have hp2 : (i + 1) * (j + 1) ≤ 25 := by
      have := Nat.mul_le_mul (show i + 1 ≤ 5 by omega) (show j + 1 ≤ 5 by omega)
      omega
    have e1 : (row : Int) * ((i + 1 : Nat) : Int) = ((row * (i + 1) : Nat) : Int) := by rw [Int.natCast_mul]
    have e2 : ((c + 1 : Nat) : Int) - 1 = (c : Int) := by omega
    simp only [spec_GridFlip.l1]
    rw [e2, e1, w64 ((row * (i + 1) : Nat) : Int) (by omega) (by omega), w64 (((row * (i + 1) : Nat) : Int) + (c : Int)) (by omega) (by omega), w64 ((c : Int) - 1) (by omega) (by omega), if_pos (by omega), if_pos (by omega), if_pos (by omega),
      show ((row * (i + 1) : Nat) : Int) + (c : Int) = ((row * (i + 1) + c : Nat) : Int) from by omega, spec_l1Other_some]
    simp only [Option.bind_some]
    rw [if_pos (by omega), flip_l1 hi hj l hm row hr c k _ (by omega) (by omega) (by simp; omega), show k + 1 - (c + 1) - 1 = k - c - 1 from by omega]
    simp [rowP, pickC, swapC]
theorem flip_l0 {i j : Nat} (hi : i < 5) (hj : j < 5) (l : List S24) (hm : l.length = (i + 1) * (j + 1)) (hs : shapeB ((i + 1 : Nat) : Int) l.length = true) : ∀ (r k row : Nat) (acc : List S24), row + r = j + 1 → 10 * r + 10 < k → acc.length + 10 * r ≤ 1000 →
    spec_GridFlip.l0 k (row : Int) ((i + 1 : Nat) : Int) l ((i + 1 : Nat) : Int) acc = some (((i + 1 : Nat) : Int), acc ++ pickC l (flipP (i + 1) row r))
  | 0, k, row, acc, hr, hk, ha => by
    obtain ⟨k, rfl⟩ : ∃ m, k = m + 1 := ⟨k - 1, by omega⟩
    have h2 := shapeB_rows hs
    have e : (l.length : Int) / ((i + 1 : Nat) : Int) = ((j + 1 : Nat) : Int) := by
      rw [hm, Int.natCast_mul]
      exact Int.mul_ediv_cancel_left _ (by omega)
    simp only [spec_GridFlip.l0]
    rw [spec_l1High_some hs, e]
    simp only [Option.bind_some]
    rw [if_neg (by omega)]
    simp [flipP, pickC]
  | r + 1, k, row, acc, hr, hk, ha => by
    obtain ⟨k, rfl⟩ : ∃ m, k = m + 1 := ⟨k - 1, by omega⟩
    have e : (l.length : Int) / ((i + 1 : Nat) : Int) = ((j + 1 : Nat) : Int) := by
      rw [hm, Int.natCast_mul]
      exact Int.mul_ediv_cancel_left _ (by omega)
    simp only [spec_GridFlip.l0]
    rw [spec_l1High_some hs, e]
    simp only [Option.bind_some]
    rw [if_pos (by omega), w64 _ (by omega) (by omega)]
    have h := flip_l1 hi hj l hm row (by omega) (i + 1) k acc (by omega) (by omega) (by omega)
    rw [h]
    have hl : (rowP (i + 1) row (i + 1)).length = i + 1 := by
      have : ∀ c, (rowP (i + 1) row c).length = c := by
        intro c
        induction c with
        | zero => rfl
        | succ c ih => simp [rowP, ih]
      exact this _
    have ih := flip_l0 hi hj l hm hs r (k - (i + 1) - 1) (row + 1) (acc ++ pickC l (rowP (i + 1) row (i + 1))) (by omega) (by omega) (by simp [pickC_length, hl]; omega)
    rw [show ((row + 1 : Nat) : Int) = (row : Int) + 1 from by omega] at ih
    rw [ih]
    simp [flipP, pickC_append]
/-- What GridFlip tells. -/
def gridFlip (n : Int) (l : List S24) : Int × List S24 :=
  if gridOkB n l = true then (n, pickC l (flipP n.toNat 0 ((l.length : Int) / n).toNat)) else (0, [])
theorem spec_GridFlip_some (n : Int) (l : List S24) (hl : l.length ≤ 1099511627776) (k : Nat) (hk : l.length + 100 < k) : spec_GridFlip.f k n l = some (gridFlip n l) := by
  unfold spec_GridFlip.f gridFlip
  rw [spec_GridOk_some n l hl k (by omega)]
  simp only [Option.bind_some]
  by_cases h : gridOkB n l = true
  · rw [if_pos h, if_pos h]
    obtain ⟨i, j, hi, hj, hn, hm⟩ := shape_ij (shape_of h).1
    have hs := (shape_of h).1
    rw [hn] at hs
    have e : (l.length : Int) / n = ((j + 1 : Nat) : Int) := by
      rw [hm, hn, Int.natCast_mul]
      exact Int.mul_ediv_cancel_left _ (by omega)
    have := flip_l0 hi hj l hm hs (j + 1) k 0 [] (by omega) (by omega) (by simp; omega)
    rw [show ((0 : Nat) : Int) = 0 from rfl] at this
    rw [e, hn, this, Int.toNat_natCast, Int.toNat_natCast]
    rfl
  · rw [if_neg h, if_neg h]
theorem flip_from (i j : Nat) (hi : i < 5) (hj : j < 5) : (List.range ((i + 1) * (j + 1))).map (fromAt (flipF ((i + 1 : Nat) : Int)) ((i + 1 : Nat) : Int)) = flipP (i + 1) 0 (j + 1) := by
  revert hj; revert j; revert hi; revert i
  decide +kernel
theorem flip_ok (i j : Nat) (hi : i < 5) (hj : j < 5) : ∀ x, x < (i + 1) * (j + 1) → fromOk (flipF ((i + 1 : Nat) : Int)) ((i + 1 : Nat) : Int) ((i + 1) * (j + 1)) x = true := by
  revert hj; revert j; revert hi; revert i
  decide +kernel
theorem impl_GridFlip_some (n : Int) (l : List S24) (hl : l.length ≤ 1099511627776) : impl_GridFlip.f n l = some (gridFlip n l) := by
  unfold impl_GridFlip.f gridFlip
  rw [impl_GridOk_some n l hl _ (by omega)]
  simp only [Option.bind_some]
  by_cases h : gridOkB n l = true
  · rw [if_pos h, if_pos h]
    obtain ⟨i, j, hi, hj, hn, hm⟩ := shape_ij (shape_of h).1
    have hp2 : (i + 1) * (j + 1) ≤ 25 := by
      have := Nat.mul_le_mul (show i + 1 ≤ 5 by omega) (show j + 1 ≤ 5 by omega)
      omega
    have e : (l.length : Int) / n = ((j + 1 : Nat) : Int) := by
      rw [hm, hn, Int.natCast_mul]
      exact Int.mul_ediv_cancel_left _ (by omega)
    have ho := flip_ok i j hi hj
    rw [← hm, ← hn] at ho
    rw [moved_some (flipF n) n (by omega) n l (by omega) (shape_of h).2 ho _ (by omega), e, Int.toNat_natCast]
    have hf := flip_from i j hi hj
    rw [← hm, ← hn] at hf
    rw [hf, hn, Int.toNat_natCast]
  · rw [if_neg h, if_neg h]
theorem turn_l1 {i j : Nat} (hi : i < 5) (hj : j < 5) (l : List S24) (hm : l.length = (i + 1) * (j + 1)) (col : Nat) (hc : col < i + 1) (wd : Int) : ∀ (r k : Nat) (acc : List S24), r ≤ j + 1 → r < k → acc.length + r ≤ 100000 →
    spec_GridTurn.l1 k (col : Int) ((r : Int) - 1) ((i + 1 : Nat) : Int) l wd acc = spec_GridTurn.l0 (k - r - 1) ((col : Int) + 1) ((i + 1 : Nat) : Int) l wd (acc ++ pickC l (colP (i + 1) col r))
  | 0, k, acc, hr, hk, ha => by
    obtain ⟨k, rfl⟩ : ∃ m, k = m + 1 := ⟨k - 1, by omega⟩
    simp only [spec_GridTurn.l1]
    rw [if_neg (by omega), w64 _ (by omega) (by omega)]
    simp [colP, pickC]
  | r + 1, k, acc, hr, hk, ha => by
    obtain ⟨k, rfl⟩ : ∃ m, k = m + 1 := ⟨k - 1, by omega⟩
    have hp := mul_lt_25 hi hj (show r < j + 1 by omega) hc
    have hp2 : (i + 1) * (j + 1) ≤ 25 := by
      have := Nat.mul_le_mul (show i + 1 ≤ 5 by omega) (show j + 1 ≤ 5 by omega)
      omega
    have e1 : (r : Int) * ((i + 1 : Nat) : Int) = ((r * (i + 1) : Nat) : Int) := by rw [Int.natCast_mul]
    have e2 : ((r + 1 : Nat) : Int) - 1 = (r : Int) := by omega
    simp only [spec_GridTurn.l1]
    rw [e2, e1, w64 ((r * (i + 1) : Nat) : Int) (by omega) (by omega), w64 (((r * (i + 1) : Nat) : Int) + (col : Int)) (by omega) (by omega), w64 ((r : Int) - 1) (by omega) (by omega), if_pos (by omega), if_pos (by omega), if_pos (by omega),
      show ((r * (i + 1) : Nat) : Int) + (col : Int) = ((r * (i + 1) + col : Nat) : Int) from by omega, spec_l1Other_some]
    simp only [Option.bind_some]
    rw [if_pos (by omega), turn_l1 hi hj l hm col hc wd r k _ (by omega) (by omega) (by simp; omega), show k + 1 - (r + 1) - 1 = k - r - 1 from by omega]
    simp [colP, pickC, swapC]
theorem turn_l0 {i j : Nat} (hi : i < 5) (hj : j < 5) (l : List S24) (hm : l.length = (i + 1) * (j + 1)) (hs : shapeB ((i + 1 : Nat) : Int) l.length = true) (wd : Int) : ∀ (c k col : Nat) (acc : List S24), col + c = i + 1 → 10 * c + 10 < k → acc.length + 10 * c ≤ 1000 →
    spec_GridTurn.l0 k (col : Int) ((i + 1 : Nat) : Int) l wd acc = some (wd, acc ++ pickC l (turnP (i + 1) (j + 1) col c))
  | 0, k, col, acc, hc, hk, ha => by
    obtain ⟨k, rfl⟩ : ∃ m, k = m + 1 := ⟨k - 1, by omega⟩
    simp only [spec_GridTurn.l0]
    rw [if_neg (by omega)]
    simp [turnP, pickC]
  | c + 1, k, col, acc, hc, hk, ha => by
    obtain ⟨k, rfl⟩ : ∃ m, k = m + 1 := ⟨k - 1, by omega⟩
    have e : (l.length : Int) / ((i + 1 : Nat) : Int) = ((j + 1 : Nat) : Int) := by
      rw [hm, Int.natCast_mul]
      exact Int.mul_ediv_cancel_left _ (by omega)
    simp only [spec_GridTurn.l0]
    rw [if_pos (by omega), spec_l1High_some hs, e]
    simp only [Option.bind_some]
    rw [w64 _ (by omega) (by omega)]
    have h := turn_l1 hi hj l hm col (by omega) wd (j + 1) k acc (by omega) (by omega) (by omega)
    rw [h]
    have hl : (colP (i + 1) col (j + 1)).length = j + 1 := by
      have : ∀ r, (colP (i + 1) col r).length = r := by
        intro r
        induction r with
        | zero => rfl
        | succ r ih => simp [colP, ih]
      exact this _
    have ih := turn_l0 hi hj l hm hs wd c (k - (j + 1) - 1) (col + 1) (acc ++ pickC l (colP (i + 1) col (j + 1))) (by omega) (by omega) (by simp [pickC_length, hl]; omega)
    rw [show ((col + 1 : Nat) : Int) = (col : Int) + 1 from by omega] at ih
    rw [ih]
    simp [turnP, pickC_append]
/-- What GridTurn tells. -/
def gridTurn (n : Int) (l : List S24) : Int × List S24 :=
  if gridOkB n l = true then ((l.length : Int) / n, pickC l (turnP n.toNat ((l.length : Int) / n).toNat 0 n.toNat)) else (0, [])
theorem spec_GridTurn_some (n : Int) (l : List S24) (hl : l.length ≤ 1099511627776) (k : Nat) (hk : l.length + 100 < k) : spec_GridTurn.f k n l = some (gridTurn n l) := by
  unfold spec_GridTurn.f gridTurn
  rw [spec_GridOk_some n l hl k (by omega)]
  simp only [Option.bind_some]
  by_cases h : gridOkB n l = true
  · rw [if_pos h, if_pos h, spec_l1High_some (shape_of h).1]
    simp only [Option.bind_some]
    obtain ⟨i, j, hi, hj, hn, hm⟩ := shape_ij (shape_of h).1
    have hs := (shape_of h).1
    rw [hn] at hs
    have e : (l.length : Int) / n = ((j + 1 : Nat) : Int) := by
      rw [hm, hn, Int.natCast_mul]
      exact Int.mul_ediv_cancel_left _ (by omega)
    have := turn_l0 hi hj l hm hs ((j + 1 : Nat) : Int) (i + 1) k 0 [] (by omega) (by omega) (by simp; omega)
    rw [show ((0 : Nat) : Int) = 0 from rfl] at this
    rw [e, hn, this, Int.toNat_natCast, Int.toNat_natCast]
    rfl
  · rw [if_neg h, if_neg h]
theorem turn_from (i j : Nat) (hi : i < 5) (hj : j < 5) : (List.range ((i + 1) * (j + 1))).map (fromAt (turnF ((i + 1 : Nat) : Int) ((j + 1 : Nat) : Int)) ((j + 1 : Nat) : Int)) = turnP (i + 1) (j + 1) 0 (i + 1) := by
  revert hj; revert j; revert hi; revert i
  decide +kernel
theorem turn_ok (i j : Nat) (hi : i < 5) (hj : j < 5) : ∀ x, x < (i + 1) * (j + 1) → fromOk (turnF ((i + 1 : Nat) : Int) ((j + 1 : Nat) : Int)) ((j + 1 : Nat) : Int) ((i + 1) * (j + 1)) x = true := by
  revert hj; revert j; revert hi; revert i
  decide +kernel
theorem impl_GridTurn_some (n : Int) (l : List S24) (hl : l.length ≤ 1099511627776) : impl_GridTurn.f n l = some (gridTurn n l) := by
  unfold impl_GridTurn.f gridTurn
  rw [impl_GridOk_some n l hl _ (by omega)]
  simp only [Option.bind_some]
  by_cases h : gridOkB n l = true
  · rw [if_pos h, if_pos h, impl_gridRows_some (shape_of h).1]
    simp only [Option.bind_some]
    obtain ⟨i, j, hi, hj, hn, hm⟩ := shape_ij (shape_of h).1
    have hp2 : (i + 1) * (j + 1) ≤ 25 := by
      have := Nat.mul_le_mul (show i + 1 ≤ 5 by omega) (show j + 1 ≤ 5 by omega)
      omega
    have e : (l.length : Int) / n = ((j + 1 : Nat) : Int) := by
      rw [hm, hn, Int.natCast_mul]
      exact Int.mul_ediv_cancel_left _ (by omega)
    have ho := turn_ok i j hi hj
    rw [← hm, ← hn] at ho
    rw [e, moved_some (turnF n ((j + 1 : Nat) : Int)) ((j + 1 : Nat) : Int) (by omega) n l (by omega) (shape_of h).2 ho _ (by omega), Int.toNat_natCast]
    have hf := turn_from i j hi hj
    rw [← hm, ← hn] at hf
    rw [hf, hn, Int.toNat_natCast]
  · rw [if_neg h, if_neg h]
theorem gridFlip_length (n : Int) (l : List S24) : (gridFlip n l).2.length ≤ l.length := by
  unfold gridFlip
  by_cases h : gridOkB n l = true
  · rw [if_pos h]
    obtain ⟨i, j, hi, hj, hn, hm⟩ := shape_ij (shape_of h).1
    have hf := flip_from i j hi hj
    have e : (l.length : Int) / n = ((j + 1 : Nat) : Int) := by
      rw [hm, hn, Int.natCast_mul]
      exact Int.mul_ediv_cancel_left _ (by omega)
    simp only [pickC_length]
    rw [e, hn, Int.toNat_natCast, Int.toNat_natCast, ← hf, List.length_map, List.length_range, hm]
    exact Nat.le_refl _
  · rw [if_neg h]
    exact Nat.zero_le _
theorem gridTurn_length (n : Int) (l : List S24) : (gridTurn n l).2.length ≤ l.length := by
  unfold gridTurn
  by_cases h : gridOkB n l = true
  · rw [if_pos h]
    obtain ⟨i, j, hi, hj, hn, hm⟩ := shape_ij (shape_of h).1
    have hf := turn_from i j hi hj
    have e : (l.length : Int) / n = ((j + 1 : Nat) : Int) := by
      rw [hm, hn, Int.natCast_mul]
      exact Int.mul_ediv_cancel_left _ (by omega)
    simp only [pickC_length]
    rw [e, hn, Int.toNat_natCast, Int.toNat_natCast, ← hf, List.length_map, List.length_range, hm]
    exact Nat.le_refl _
  · rw [if_neg h]
    exact Nat.zero_le _
end Go.Proofs.Ytbnofnamkgfadaa.P
