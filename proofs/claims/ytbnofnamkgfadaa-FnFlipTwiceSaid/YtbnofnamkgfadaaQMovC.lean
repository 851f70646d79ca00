/- PROVED: moves of grids, one after another, are moves by places. No condition. -/
import Derived.Test.YtbnofnamkgfadaaQFlipTurn
namespace Go.Proofs.Ytbnofnamkgfadaa.P
open Go.RowKit Go.Proofs.YtbnofnamkgfadaaW.PrintWords Go.Proofs.YtbnofnamkgfadaaW.PrintLast Go.Proofs.YtbnofnamkgfadaaW.PrintMore
set_option linter.unusedVariables false
set_option linter.unusedSimpArgs false
theorem swapK_swapK (k : Int) : swapK (swapK k) = k := by
  unfold swapK
  by_cases h2 : k = 2
  · simp [h2]
  · by_cases h3 : k = 3
    · simp [h3]
    · by_cases h4 : k = 4
      · simp [h4]
      · by_cases h5 : k = 5
        · simp [h5]
        · simp [h2, h3, h4, h5]
theorem swapC_swapC (c : S24) : swapC (swapC c) = c := by
  cases c
  simp [swapC, swapK_swapK]
theorem swapC_ok (c : S24) (h : okCell c = true) : okCell (swapC c) = true := by
  have h' : cellOkB c.f0 c.f1 = true := h
  show cellOkB (swapK c.f0) c.f1 = true
  rcases cellOkB_cases h' with ⟨h7, h1, h9⟩ | ⟨h0, hk⟩
  · rw [h7] at h' ⊢
    exact h'
  · rw [h0]
    rcases hk with e | e | e | e | e | e | e <;> (rw [e]; decide)
/-- The cells at some places, exchanged or not. -/
def movC (b : Bool) (l : List S24) (P : List Nat) : List S24 := P.map fun (p : Nat) => bif b then swapC (rd_T24 l (p : Int)) else rd_T24 l (p : Int)
theorem pickC_mov (l : List S24) (P : List Nat) : pickC l P = movC true l P := rfl
theorem movC_length (b : Bool) (l : List S24) (P : List Nat) : (movC b l P).length = P.length := List.length_map ..
/-- Places of places. -/
def compP (P Q : List Nat) : List Nat := Q.map fun q => P.getD q 0
theorem rd_movC (b : Bool) (l : List S24) (P : List Nat) (q : Nat) (hq : q < P.length) : rd_T24 (movC b l P) (q : Int) = bif b then swapC (rd_T24 l (P.getD q 0 : Nat)) else rd_T24 l (P.getD q 0 : Nat) := by
  rw [rd_at _ q (by rw [movC_length]; exact hq)]
  unfold movC
  rw [List.getElem_map, List.getD_eq_getElem?_getD, List.getElem?_eq_getElem hq]
  rfl
theorem movC_movC (a b : Bool) (l : List S24) (P Q : List Nat) (hQ : ∀ q ∈ Q, q < P.length) : movC b (movC a l P) Q = movC (a ^^ b) l (compP P Q) := by
  unfold compP
  show Q.map _ = (Q.map _).map _
  rw [List.map_map]
  refine List.map_congr_left fun q hq => ?_
  rw [rd_movC a l P q (hQ q hq)]
  cases a <;> cases b <;> simp [swapC_swapC]
theorem movC_id (l : List S24) : movC false l (List.range l.length) = l := by
  refine List.ext_getElem (by simp [movC]) ?_
  intro k h1 h2
  simp [movC, rd_at l k h2]
theorem movC_ok {b : Bool} {l : List S24} {P : List Nat} (h : l.all okCell = true) (hP : ∀ p ∈ P, p < l.length) : (movC b l P).all okCell = true := by
  rw [List.all_eq_true]
  intro x hx
  obtain ⟨p, hp, rfl⟩ := List.mem_map.1 hx
  have h1 : okCell (rd_T24 l (p : Int)) = true := by
    rw [rd_at l p (hP p hp)]
    exact List.all_eq_true.1 h _ (List.getElem_mem _)
  cases b
  · exact h1
  · exact swapC_ok _ h1
/-- A valid grid, its shape told. -/
def okG (i j : Nat) (l : List S24) : Prop := l.length = (i + 1) * (j + 1) ∧ l.all okCell = true
theorem okG_of {n : Int} {l : List S24} (h : gridOkB n l = true) : ∃ i j : Nat, i < 5 ∧ j < 5 ∧ n = ((i + 1 : Nat) : Int) ∧ okG i j l := by
  obtain ⟨i, j, hi, hj, hn, hm⟩ := shape_ij (shape_of h).1
  exact ⟨i, j, hi, hj, hn, hm, (shape_of h).2⟩
theorem shapeB_all (i j : Nat) (hi : i < 5) (hj : j < 5) : shapeB ((i + 1 : Nat) : Int) ((i + 1) * (j + 1)) = true := by
  revert hj; revert j; revert hi; revert i
  decide +kernel
theorem okG_grid {i j : Nat} (hi : i < 5) (hj : j < 5) {l : List S24} (h : okG i j l) : gridOkB ((i + 1 : Nat) : Int) l = true := by
  unfold gridOkB
  rw [h.1, shapeB_all i j hi hj, h.2]
  rfl
def TP (i j : Nat) : List Nat := turnP (i + 1) (j + 1) 0 (i + 1)
def FP (i j : Nat) : List Nat := flipP (i + 1) 0 (j + 1)
def below (P : List Nat) (m : Nat) : Bool := P.all fun p => decide (p < m)
theorem below_of {P : List Nat} {m : Nat} (h : below P m = true) : ∀ p ∈ P, p < m := by
  unfold below at h
  simpa using h
theorem TP_len (i j : Nat) (hi : i < 5) (hj : j < 5) : (TP i j).length = (j + 1) * (i + 1) := by
  revert hj; revert j; revert hi; revert i
  decide +kernel
theorem FP_len (i j : Nat) (hi : i < 5) (hj : j < 5) : (FP i j).length = (i + 1) * (j + 1) := by
  revert hj; revert j; revert hi; revert i
  decide +kernel
theorem TP_below (i j : Nat) (hi : i < 5) (hj : j < 5) : below (TP i j) ((i + 1) * (j + 1)) = true := by
  revert hj; revert j; revert hi; revert i
  decide +kernel
theorem FP_below (i j : Nat) (hi : i < 5) (hj : j < 5) : below (FP i j) ((i + 1) * (j + 1)) = true := by
  revert hj; revert j; revert hi; revert i
  decide +kernel
theorem div_j {i j : Nat} {l : List S24} (hm : l.length = (i + 1) * (j + 1)) : (l.length : Int) / ((i + 1 : Nat) : Int) = ((j + 1 : Nat) : Int) := by
  rw [hm, Int.natCast_mul]
  exact Int.mul_ediv_cancel_left _ (by omega)
theorem turn_ij {i j : Nat} (hi : i < 5) (hj : j < 5) {l : List S24} (h : okG i j l) : gridTurn ((i + 1 : Nat) : Int) l = (((j + 1 : Nat) : Int), movC true l (TP i j)) ∧ okG j i (movC true l (TP i j)) := by
  constructor
  · unfold gridTurn
    rw [if_pos (okG_grid hi hj h), div_j h.1, Int.toNat_natCast, Int.toNat_natCast]
    rfl
  · exact ⟨by rw [movC_length, TP_len i j hi hj], movC_ok h.2 (by rw [h.1]; exact below_of (TP_below i j hi hj))⟩
theorem flip_ij {i j : Nat} (hi : i < 5) (hj : j < 5) {l : List S24} (h : okG i j l) : gridFlip ((i + 1 : Nat) : Int) l = (((i + 1 : Nat) : Int), movC true l (FP i j)) ∧ okG i j (movC true l (FP i j)) := by
  constructor
  · unfold gridFlip
    rw [if_pos (okG_grid hi hj h), div_j h.1, Int.toNat_natCast, Int.toNat_natCast]
    rfl
  · exact ⟨by rw [movC_length, FP_len i j hi hj], movC_ok h.2 (by rw [h.1]; exact below_of (FP_below i j hi hj))⟩
theorem okG_25 {i j : Nat} (hi : i < 5) (hj : j < 5) {l : List S24} (h : okG i j l) : l.length ≤ 25 := by
  have := Nat.mul_le_mul (show i + 1 ≤ 5 by omega) (show j + 1 ≤ 5 by omega)
  rw [h.1]
  omega
end Go.Proofs.Ytbnofnamkgfadaa.P
