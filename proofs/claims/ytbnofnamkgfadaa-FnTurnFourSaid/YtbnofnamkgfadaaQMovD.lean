/- PROVED: four turns, and two mirrors, leave a grid as it was; what is put moves with its cell. Condition: the grid is valid. -/
import Derived.Test.YtbnofnamkgfadaaQMovC
namespace Go.Proofs.Ytbnofnamkgfadaa.P
open Go.RowKit Go.Proofs.YtbnofnamkgfadaaW.PrintWords Go.Proofs.YtbnofnamkgfadaaW.PrintLast Go.Proofs.YtbnofnamkgfadaaW.PrintMore
set_option linter.unusedVariables false
set_option linter.unusedSimpArgs false
theorem four_P (i j : Nat) (hi : i < 5) (hj : j < 5) : compP (compP (compP (TP i j) (TP j i)) (TP i j)) (TP j i) = List.range ((i + 1) * (j + 1)) ∧ below (TP j i) (TP i j).length = true ∧ below (TP i j) (compP (TP i j) (TP j i)).length = true ∧ below (TP j i) (compP (compP (TP i j) (TP j i)) (TP i j)).length = true := by
  revert hj; revert j; revert hi; revert i
  decide +kernel
theorem flip_P (i j : Nat) (hi : i < 5) (hj : j < 5) : compP (FP i j) (FP i j) = List.range ((i + 1) * (j + 1)) ∧ below (FP i j) (FP i j).length = true := by
  revert hj; revert j; revert hi; revert i
  decide +kernel
theorem flipTurn_P (i j : Nat) (hi : i < 5) (hj : j < 5) : compP (TP i j) (FP j i) = compP (compP (compP (FP i j) (TP i j)) (TP j i)) (TP i j) ∧ below (FP j i) (TP i j).length = true ∧ below (TP i j) (FP i j).length = true ∧ below (TP j i) (compP (FP i j) (TP i j)).length = true ∧ below (TP i j) (compP (compP (FP i j) (TP i j)) (TP j i)).length = true := by
  revert hj; revert j; revert hi; revert i
  decide +kernel
theorem mov_four {i j : Nat} (hi : i < 5) (hj : j < 5) {l : List S24} (h : okG i j l) : movC true (movC true (movC true (movC true l (TP i j)) (TP j i)) (TP i j)) (TP j i) = l := by
  obtain ⟨c0, c1, c2, c3⟩ := four_P i j hi hj
  rw [movC_movC true true l _ _ (below_of c1), movC_movC _ true l _ _ (below_of c2), movC_movC _ true l _ _ (below_of c3), c0, ← h.1]
  exact movC_id l
theorem mov_flip {i j : Nat} (hi : i < 5) (hj : j < 5) {l : List S24} (h : okG i j l) : movC true (movC true l (FP i j)) (FP i j) = l := by
  obtain ⟨c0, c1⟩ := flip_P i j hi hj
  rw [movC_movC true true l _ _ (below_of c1), c0, ← h.1]
  exact movC_id l
theorem mov_flipTurn {i j : Nat} (hi : i < 5) (hj : j < 5) (l : List S24) : movC true (movC true l (TP i j)) (FP j i) = movC true (movC true (movC true (movC true l (FP i j)) (TP i j)) (TP j i)) (TP i j) := by
  obtain ⟨c0, c1, c2, c3, c4⟩ := flipTurn_P i j hi hj
  rw [movC_movC true true l _ _ (below_of c1), movC_movC true true l _ _ (below_of c2), movC_movC _ true l _ _ (below_of c3), movC_movC _ true l _ _ (below_of c4), c0]
  rfl
/-- The places backwards. -/
def backP (m : Nat) : List Nat := (List.range m).map fun q => m - 1 - q
theorem two_P (i j : Nat) (hi : i < 5) (hj : j < 5) : compP (TP i j) (TP j i) = backP ((i + 1) * (j + 1)) ∧ below (TP j i) (TP i j).length = true := by
  revert hj; revert j; revert hi; revert i
  decide +kernel
theorem mov_two {i j : Nat} (hi : i < 5) (hj : j < 5) (l : List S24) (h : okG i j l) (q : Nat) (hq : q < l.length) (hr : l.length - 1 - q < (movC true (movC true l (TP i j)) (TP j i)).length) : (movC true (movC true l (TP i j)) (TP j i))[l.length - 1 - q] = l[q] := by
  obtain ⟨c0, c1⟩ := two_P i j hi hj
  have e : movC true (movC true l (TP i j)) (TP j i) = movC false l (backP l.length) := by
    rw [movC_movC true true l _ _ (below_of c1), c0, ← h.1]
    rfl
  have hx : ∀ h', (movC false l (backP l.length))[l.length - 1 - q]'h' = l[q] := by
    intro h'
    simp only [movC, backP, List.getElem_map, List.getElem_range, cond_false]
    rw [show l.length - 1 - (l.length - 1 - q) = q from by omega, rd_at l q hq]
  exact (List.getElem_of_eq e hr).trans (hx _)
theorem TP_at (i j : Nat) (hi : i < 5) (hj : j < 5) : ∀ at_, at_ < (i + 1) * (j + 1) → ∀ r, r < (j + 1) * (i + 1) → (decide ((TP i j).getD r 0 = at_) = decide (r = (at_ % (i + 1)) * (j + 1) + j - at_ / (i + 1))) := by
  revert hj; revert j; revert hi; revert i
  decide +kernel
theorem FP_at (i j : Nat) (hi : i < 5) (hj : j < 5) : ∀ at_, at_ < (i + 1) * (j + 1) → ∀ r, r < (i + 1) * (j + 1) → (decide ((FP i j).getD r 0 = at_) = decide (r = (at_ / (i + 1)) * (i + 1) + i - at_ % (i + 1))) := by
  revert hj; revert j; revert hi; revert i
  decide +kernel
theorem mov_set (l : List S24) (P : List Nat) (c : S24) (a b : Nat) (ha : a < l.length) (hP : ∀ p ∈ P, p < l.length) (h : ∀ r, r < P.length → decide (P.getD r 0 = a) = decide (r = b)) : movC true (l.set a c) P = (movC true l P).set b (swapC c) := by
  refine List.ext_getElem (by simp [movC]) ?_
  intro r h1 h2
  have hr : r < P.length := by simpa [movC] using h1
  have h3 := h r hr
  have h4 : P.getD r 0 = P[r] := by rw [List.getD_eq_getElem?_getD, List.getElem?_eq_getElem hr]; rfl
  have h5 : P[r] < l.length := hP _ (List.getElem_mem hr)
  rw [h4] at h3
  rw [List.getElem_set]
  simp only [movC, List.getElem_map, cond_true]
  rw [rd_at _ P[r] (by rw [List.length_set]; exact h5), rd_at l P[r] h5, List.getElem_set]
  by_cases e : P[r] = a
  · have : r = b := by simpa [e] using h3.symm
    rw [if_pos e.symm, if_pos this.symm]
  · have : ¬ r = b := by
      intro hb
      rw [decide_eq_false e, decide_eq_true hb] at h3
      cases h3
    rw [if_neg (fun x => e x.symm), if_neg (fun x => this x.symm)]
theorem mov_set_turn {i j : Nat} (hi : i < 5) (hj : j < 5) {l : List S24} (h : okG i j l) (c : S24) (a : Nat) (ha : a < l.length) : movC true (l.set a c) (TP i j) = (movC true l (TP i j)).set ((a % (i + 1)) * (j + 1) + j - a / (i + 1)) (swapC c) := by
  have hm := h.1
  refine mov_set l _ c a _ ha (by rw [hm]; exact below_of (TP_below i j hi hj)) ?_
  rw [TP_len i j hi hj]
  exact TP_at i j hi hj a (by omega)
theorem mov_set_flip {i j : Nat} (hi : i < 5) (hj : j < 5) {l : List S24} (h : okG i j l) (c : S24) (a : Nat) (ha : a < l.length) : movC true (l.set a c) (FP i j) = (movC true l (FP i j)).set ((a / (i + 1)) * (i + 1) + i - a % (i + 1)) (swapC c) := by
  have hm := h.1
  refine mov_set l _ c a _ ha (by rw [hm]; exact below_of (FP_below i j hi hj)) ?_
  rw [FP_len i j hi hj]
  exact FP_at i j hi hj a (by omega)
/-- A kind, mirrors and glass of both sorts alike. -/
def canK (k : Int) : Int := if k = 3 then 2 else if k = 5 then 4 else k
theorem canK_swap (k : Int) : canK (swapK k) = canK k := by
  unfold swapK canK
  by_cases h2 : k = 2
  · simp [h2]
  · by_cases h3 : k = 3
    · simp [h3]
    · by_cases h4 : k = 4
      · simp [h4]
      · by_cases h5 : k = 5
        · simp [h5]
        · simp [h2, h3, h4, h5]
/-- How many cells of a kind. -/
def cntK (kind : Int) (l : List S24) : Nat := l.countP fun c => decide (canK c.f0 = kind)
theorem cntK_mov (kind : Int) (l : List S24) (P : List Nat) (hP : P.Perm (List.range l.length)) : cntK kind (movC true l P) = cntK kind l := by
  have h1 : cntK kind (movC true l P) = P.countP fun (p : Nat) => decide (canK (rd_T24 l (p : Int)).f0 = kind) := by
    unfold cntK movC
    rw [List.countP_map]
    congr 1
    funext p
    show decide (canK (swapK _) = kind) = _
    rw [canK_swap]
  have h2 : cntK kind l = (List.range l.length).countP fun (p : Nat) => decide (canK (rd_T24 l (p : Int)).f0 = kind) := by
    have e : l = (List.range l.length).map fun (p : Nat) => rd_T24 l (p : Int) := by
      refine List.ext_getElem (by simp) ?_
      intro r h1 h2
      simp [rd_at l r h1]
    conv => lhs; rw [e]
    unfold cntK
    rw [List.countP_map]
    rfl
  rw [h1, h2]
  exact hP.countP_eq _
theorem TP_perm (i j : Nat) (hi : i < 5) (hj : j < 5) : (TP i j).isPerm (List.range ((i + 1) * (j + 1))) = true := by
  revert hj; revert j; revert hi; revert i
  decide +kernel
theorem FP_perm (i j : Nat) (hi : i < 5) (hj : j < 5) : (FP i j).isPerm (List.range ((i + 1) * (j + 1))) = true := by
  revert hj; revert j; revert hi; revert i
  decide +kernel
theorem cntK_turn (kind : Int) {i j : Nat} (hi : i < 5) (hj : j < 5) {l : List S24} (h : okG i j l) : cntK kind (movC true l (TP i j)) = cntK kind l :=
  cntK_mov kind l _ (by rw [h.1]; exact List.isPerm_iff.1 (TP_perm i j hi hj))
theorem cntK_flip (kind : Int) {i j : Nat} (hi : i < 5) (hj : j < 5) {l : List S24} (h : okG i j l) : cntK kind (movC true l (FP i j)) = cntK kind l :=
  cntK_mov kind l _ (by rw [h.1]; exact List.isPerm_iff.1 (FP_perm i j hi hj))
end Go.Proofs.Ytbnofnamkgfadaa.P
