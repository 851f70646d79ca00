/- PROVED: a valid grid is a way for light: what comes in from a sight has no cell behind it, and goes back as it came. Condition: the grid is valid. -/
import Derived.Test.YtmohfoleolmijaaQTrail
import Derived.Test.YtmohfoleolmijaaQSightOfA
import Derived.Test.YtmohfoleolmijaaQDir
namespace Go.Proofs.Ytmohfoleolmijaa.P
open Go.RowKit Go.Proofs.YtmohfoleolmijaaW.PrintWords Go.Proofs.YtmohfoleolmijaaW.PrintLast Go.Proofs.YtmohfoleolmijaaW.PrintMore
set_option linter.unusedVariables false
set_option linter.unusedSimpArgs false
/-- A valid grid, its shape told. -/
def okG (i j : Nat) (l : List S57) : Prop := l.length = (i + 1) * (j + 1) ∧ l.all okCell = true
theorem okG_of {n : Int} {l : List S57} (h : gridOkB n l = true) : ∃ i j : Nat, i < 5 ∧ j < 5 ∧ n = ((i + 1 : Nat) : Int) ∧ okG i j l := by
  obtain ⟨i, j, hi, hj, hn, hm⟩ := shape_ij (shape_of h).1
  exact ⟨i, j, hi, hj, hn, hm, (shape_of h).2⟩
theorem shapeB_all (i j : Nat) (hi : i < 5) (hj : j < 5) : shapeB ((i + 1 : Nat) : Int) ((i + 1) * (j + 1)) = true := by
  revert hj; revert j; revert hi; revert i
  decide +kernel
theorem okG_shape {i j : Nat} (hi : i < 5) (hj : j < 5) {l : List S57} (h : okG i j l) : shapeB ((i + 1 : Nat) : Int) l.length = true := by
  rw [h.1]
  exact shapeB_all i j hi hj
theorem okG_grid {i j : Nat} (hi : i < 5) (hj : j < 5) {l : List S57} (h : okG i j l) : gridOkB ((i + 1 : Nat) : Int) l = true := by
  unfold gridOkB
  rw [okG_shape hi hj h, h.2]
  rfl
theorem okG_25 {i j : Nat} (hi : i < 5) (hj : j < 5) {l : List S57} (h : okG i j l) : l.length ≤ 25 := by
  have := Nat.mul_le_mul (show i + 1 ≤ 5 by omega) (show j + 1 ≤ 5 by omega)
  rw [h.1]
  omega
/-- The next cell, by the shape alone. -/
def nxB (n : Int) (m : Nat) (a d : Int) : Option Int := if (stepOf n m a d).2.2 = true then some (stepOf n m a d).1 else none
def wayOf (n : Int) (l : List S57) : Way where
  nx := nxB n l.length
  so := sightOfB n l.length
  kd := fun a => (rd_T57 l a).f0
  tn := dirTurn
def optB (x : Option Int) (p : Int → Bool) : Bool := match x with | none => true | some b => p b
theorem nx_all (i j : Nat) (hi : i < 5) (hj : j < 5) : ∀ a, a < (i + 1) * (j + 1) → ∀ d : Nat, d < 4 → optB (nxB ((i + 1 : Nat) : Int) ((i + 1) * (j + 1)) (a : Int) (d : Int)) (fun b => decide (0 ≤ b) && (decide (b < (((i + 1) * (j + 1) : Nat) : Int)) && (decide (b ≠ (a : Int)) && decide (nxB ((i + 1 : Nat) : Int) ((i + 1) * (j + 1)) b (((d : Int) + 2) % 4) = some (a : Int))))) = true := by
  revert hj; revert j; revert hi; revert i
  decide +kernel
theorem nx_of {i j : Nat} (hi : i < 5) (hj : j < 5) {l : List S57} (h : okG i j l) {a d b : Int} (ha : 0 ≤ a) (hal : a < (l.length : Int)) (hd : 0 ≤ d) (hd3 : d < 4) (hb : nxB ((i + 1 : Nat) : Int) l.length a d = some b) : 0 ≤ b ∧ b < (l.length : Int) ∧ b ≠ a ∧ nxB ((i + 1 : Nat) : Int) l.length b ((d + 2) % 4) = some a := by
  obtain ⟨a, rfl⟩ := nat_of ha
  obtain ⟨d, rfl⟩ := nat_of hd
  rw [h.1] at hal hb ⊢
  have := nx_all i j hi hj a (by omega) d (by omega)
  rw [hb] at this
  simpa [optB] using this
theorem dir_cases {d : Int} (h : 0 ≤ d) (h3 : d < 4) : d = 0 ∨ d = 1 ∨ d = 2 ∨ d = 3 := by omega
theorem turn_in (k d : Int) (h : 0 ≤ d) (h3 : d < 4) : 0 ≤ dirTurn k d ∧ dirTurn k d < 4 := by
  unfold dirTurn
  rcases dir_cases h h3 with rfl | rfl | rfl | rfl <;> (repeat' split) <;> omega
theorem turn_inj (k d d' : Int) (h : 0 ≤ d) (h3 : d < 4) (h' : 0 ≤ d') (h3' : d' < 4) (e : dirTurn k d = dirTurn k d') : d = d' := by
  unfold dirTurn at e
  by_cases c1 : k = 2 ∨ k = 4
  · simp only [if_pos c1] at e
    rcases dir_cases h h3 with rfl | rfl | rfl | rfl <;> rcases dir_cases h' h3' with rfl | rfl | rfl | rfl <;> first | rfl | (exact absurd e (by decide))
  · simp only [if_neg c1] at e
    by_cases c2 : k = 3 ∨ k = 5
    · simp only [if_pos c2] at e
      omega
    · simp only [if_neg c2] at e
      exact e
/-- Going back, a mirror turns as it did. -/
theorem turn_back (k d : Int) (h : 0 ≤ d) (h3 : d < 4) : dirTurn k ((dirTurn k d + 2) % 4) = (d + 2) % 4 := by
  by_cases c1 : k = 2 ∨ k = 4
  · unfold dirTurn
    simp only [if_pos c1]
    rcases dir_cases h h3 with rfl | rfl | rfl | rfl <;> decide
  · unfold dirTurn
    simp only [if_neg c1]
    by_cases c2 : k = 3 ∨ k = 5
    · simp only [if_pos c2]
      rcases dir_cases h h3 with rfl | rfl | rfl | rfl <;> decide
    · simp only [if_neg c2]
theorem turn_no (k d : Int) (h : 0 ≤ d) (h3 : d < 4) : dirTurn k d ≠ (d + 2) % 4 := by
  unfold dirTurn
  rcases dir_cases h h3 with rfl | rfl | rfl | rfl <;> (repeat' split) <;> omega
theorem kind_at {i j : Nat} {l : List S57} (h : okG i j l) {a : Int} (ha : 0 ≤ a) (hal : a < (l.length : Int)) : cellOkB (rd_T57 l a).f0 (rd_T57 l a).f1 = true := by
  obtain ⟨a, rfl⟩ := nat_of ha
  rw [rd_at l a (by omega)]
  exact List.all_eq_true.1 h.2 _ (List.getElem_mem _)
theorem okB_kind {k l : Int} (h : cellOkB k l = true) : 0 ≤ k ∧ k ≤ 7 := by
  unfold cellOkB at h
  by_cases e : k = 7
  · omega
  · rw [if_neg e] at h
    simp only [Bool.and_eq_true, decide_eq_true_eq] at h
    omega
theorem way_ok {i j : Nat} (hi : i < 5) (hj : j < 5) {l : List S57} (h : okG i j l) : (wayOf ((i + 1 : Nat) : Int) l).Ok l.length where
  kin := fun a ha hal => by
    have hk := kind_at h ha hal
    show 0 ≤ (rd_T57 l a).f0 ∧ (rd_T57 l a).f0 ≤ 7
    exact okB_kind hk
  tin := turn_in
  tt := turn_inj
  t0 := fun k d _ _ hk => by
    show dirTurn k d = d
    unfold dirTurn
    rw [if_neg (by omega), if_neg (by omega)]
  nin := fun a d b ha hal hd hd3 hb => by
    have := nx_of hi hj h ha hal hd hd3 hb
    exact ⟨this.1, this.2.1⟩
  back := fun a d b ha hal hd hd3 hb => (nx_of hi hj h ha hal hd hd3 hb).2.2.2
def sN (i j : Nat) : Nat := 2 * ((i + 1) + (j + 1))
theorem sights_ij (i j : Nat) (hi : i < 5) (hj : j < 5) : sights ((i + 1 : Nat) : Int) ((i + 1) * (j + 1)) = (sN i j : Int) := by
  unfold sights sN
  rw [Int.natCast_mul, Int.mul_ediv_cancel_left _ (by omega)]
  omega
/-- Light that comes in at a sight: it is in the grid, and there is no cell behind it; going back it leaves at that sight. -/
theorem sight_all (i j : Nat) (hi : i < 5) (hj : j < 5) : ∀ k, k < sN i j → (fun s : Int × Int => decide (0 ≤ s.1) && (decide (s.1 < (((i + 1) * (j + 1) : Nat) : Int)) && (decide (0 ≤ s.2) && (decide (s.2 < 4) && (decide (nxB ((i + 1 : Nat) : Int) ((i + 1) * (j + 1)) s.1 ((s.2 + 2) % 4) = none) && decide (sightOfB ((i + 1 : Nat) : Int) ((i + 1) * (j + 1)) s.1 ((s.2 + 2) % 4) = (k : Int))))))) (sightAt ((i + 1 : Nat) : Int) (((i + 1) * (j + 1) : Nat) : Int) (k : Int)) = true := by
  revert hj; revert j; revert hi; revert i
  decide +kernel
/-- Where light leaves is a sight, and what comes in there goes back. -/
theorem out_all (i j : Nat) (hi : i < 5) (hj : j < 5) : ∀ a, a < (i + 1) * (j + 1) → ∀ d : Nat, d < 4 → ((nxB ((i + 1 : Nat) : Int) ((i + 1) * (j + 1)) (a : Int) (d : Int)).isSome || (fun s : Int => decide (0 ≤ s) && (decide (s < (sN i j : Int)) && decide (sightAt ((i + 1 : Nat) : Int) (((i + 1) * (j + 1) : Nat) : Int) s = ((a : Int), ((d : Int) + 2) % 4)))) (sightOfB ((i + 1 : Nat) : Int) ((i + 1) * (j + 1)) (a : Int) (d : Int))) = true := by
  revert hj; revert j; revert hi; revert i
  decide +kernel
theorem sight_in {i j : Nat} (hi : i < 5) (hj : j < 5) {l : List S57} (h : okG i j l) {k : Int} (hk : 0 ≤ k) (hks : k < (sN i j : Int)) : inW l.length (sightAt ((i + 1 : Nat) : Int) l.length k) ∧ (wayOf ((i + 1 : Nat) : Int) l).nx (sightAt ((i + 1 : Nat) : Int) l.length k).1 (((sightAt ((i + 1 : Nat) : Int) l.length k).2 + 2) % 4) = none ∧ (wayOf ((i + 1 : Nat) : Int) l).so (sightAt ((i + 1 : Nat) : Int) l.length k).1 (((sightAt ((i + 1 : Nat) : Int) l.length k).2 + 2) % 4) = k := by
  obtain ⟨k, rfl⟩ := nat_of hk
  have := sight_all i j hi hj k (by omega)
  rw [← h.1] at this
  simp only [Bool.and_eq_true, decide_eq_true_eq] at this
  obtain ⟨h1, h2, h3, h4, h5, h6⟩ := this
  exact ⟨⟨h1, h2, h3, h4⟩, h5, h6⟩
theorem sight_fresh {i j : Nat} (hi : i < 5) (hj : j < 5) {l : List S57} (h : okG i j l) {k : Int} (hk : 0 ≤ k) (hks : k < (sN i j : Int)) : fresh (wayOf ((i + 1 : Nat) : Int) l) (sightAt ((i + 1 : Nat) : Int) l.length k) := by
  intro x hx
  rw [(sight_in hi hj h hk hks).2.1] at hx
  cases hx
theorem out_of {i j : Nat} (hi : i < 5) (hj : j < 5) {l : List S57} (h : okG i j l) {a d : Int} (ha : 0 ≤ a) (hal : a < (l.length : Int)) (hd : 0 ≤ d) (hd3 : d < 4) (hb : (wayOf ((i + 1 : Nat) : Int) l).nx a d = none) : 0 ≤ (wayOf ((i + 1 : Nat) : Int) l).so a d ∧ (wayOf ((i + 1 : Nat) : Int) l).so a d < (sN i j : Int) ∧ sightAt ((i + 1 : Nat) : Int) l.length ((wayOf ((i + 1 : Nat) : Int) l).so a d) = (a, (d + 2) % 4) := by
  obtain ⟨a, rfl⟩ := nat_of ha
  obtain ⟨d, rfl⟩ := nat_of hd
  have hal' := hal
  rw [h.1] at hal'
  have := out_all i j hi hj a (by omega) d (by omega)
  rw [← h.1, show nxB ((i + 1 : Nat) : Int) l.length (a : Int) (d : Int) = none from hb] at this
  simp only [Option.isSome_none, Bool.false_or, Bool.and_eq_true, decide_eq_true_eq] at this
  exact this
/-- The trail of light from a sight. -/
def trailP (n : Int) (l : List S57) (k : Int) : List TV × List TE :=
  if gridOkB n l = true ∧ 0 ≤ k ∧ k < sights n l.length then ((come (wayOf n l) 1000 (sightAt n l.length k).1 (sightAt n l.length k).2 64).getD ([], [])) else ([], [])
theorem trail_some {i j : Nat} (hi : i < 5) (hj : j < 5) {l : List S57} (h : okG i j l) {k : Int} (hk : 0 ≤ k) (hks : k < (sN i j : Int)) (q : Nat) (hq : 707 < q) : ∃ vs es, come (wayOf ((i + 1 : Nat) : Int) l) q (sightAt ((i + 1 : Nat) : Int) l.length k).1 (sightAt ((i + 1 : Nat) : Int) l.length k).2 64 = some (vs, es) ∧ vs.length ≤ 12700 ∧ es.length ≤ 64 := by
  have hm := okG_25 hi hj h
  obtain ⟨vs, es, e, hl⟩ := come_some (way_ok hi hj h) 7 64 (by decide) (by decide) _ (sight_in hi hj h hk hks).1 (sight_fresh hi hj h hk hks) q (by
    have : (4 * l.length + 1) * 7 ≤ 707 := by omega
    omega)
  refine ⟨vs, es, e, ?_, ?_⟩
  · have : costT l.length 7 ≤ 12700 := by
      simp only [costT]
      omega
    omega
  · obtain ⟨h1, h2⟩ := come_sum q _ _ 64 vs es (by decide) e
    have := sumW_len es h2
    omega
end Go.Proofs.Ytmohfoleolmijaa.P
