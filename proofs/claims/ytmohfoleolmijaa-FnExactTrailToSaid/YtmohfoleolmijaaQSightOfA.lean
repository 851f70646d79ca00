/- PROVED: the reference's l3Of and the program's SightOf tell the viewpoint at which light would come in, going back. Condition: the grid is valid. -/
import Derived.Test.YtmohfoleolmijaaPx26
import Derived.Test.YtmohfoleolmijaaQSightRayA
import Derived.Test.YtmohfoleolmijaaQShape
import Derived.Test.YtmohfoleolmijaaH3SightOf
namespace Go.Proofs.Ytmohfoleolmijaa.P
open Go.RowKit Go.Proofs.YtmohfoleolmijaaW.PrintWords Go.Proofs.YtmohfoleolmijaaW.PrintLast Go.Proofs.YtmohfoleolmijaaW.PrintMore
set_option linter.unusedVariables false
set_option linter.unusedSimpArgs false

def gIn (A D : Int) (x : S51) : Bool := isIn A D x.f0 x.f1
theorem told_map (A D : Int) : ∀ k, (∀ (x5 x6 : Int) (x7 : List S51) (lim i : Int) (L : List S51), impl_Ray.l0 k x5 x6 x7 lim i = some L → toldB.l0 A D k x5 x6 (x7.map (gIn A D)) lim i = some (L.map (gIn A D))) ∧
    (∀ (x5 x6 : Int) (x7 : List S51) (lim i : Int) (L : List S51), impl_Ray.l1 k x5 x6 x7 lim i = some L → toldB.l1 A D k x5 x6 (x7.map (gIn A D)) lim i = some (L.map (gIn A D))) ∧
    (∀ (x5 x6 : Int) (x7 : List S51) (lim i : Int) (L : List S51), impl_Ray.l2 k x5 x6 x7 lim i = some L → toldB.l2 A D k x5 x6 (x7.map (gIn A D)) lim i = some (L.map (gIn A D))) ∧
    (∀ (x5 x6 : Int) (x7 : List S51) (lim i : Int) (L : List S51), impl_Ray.l3 k x5 x6 x7 lim i = some L → toldB.l3 A D k x5 x6 (x7.map (gIn A D)) lim i = some (L.map (gIn A D)))
  | 0 => ⟨fun _ _ _ _ _ _ h => by simp [impl_Ray.l0] at h, fun _ _ _ _ _ _ h => by simp [impl_Ray.l1] at h, fun _ _ _ _ _ _ h => by simp [impl_Ray.l2] at h, fun _ _ _ _ _ _ h => by simp [impl_Ray.l3] at h⟩
  | k + 1 => by
    obtain ⟨i0, i1, i2, i3⟩ := told_map A D k
    refine ⟨fun x5 x6 x7 lim i L h => ?_, fun x5 x6 x7 lim i L h => ?_, fun x5 x6 x7 lim i L h => ?_, fun x5 x6 x7 lim i L h => ?_⟩
    · simp only [impl_Ray.l0, toldB.l0, impl_SightRay_1.f, tellB, Option.bind_some, List.length_map] at h ⊢
      split at h
      · rename_i hi
        rw [if_pos hi]
        split at h
        · rw [if_pos (by omega)]
          have := i0 _ _ _ _ _ _ h
          simpa [gIn] using this
        · cases h
      · rename_i hi
        rw [if_neg hi]
        exact i1 _ _ _ _ _ _ h
    · simp only [impl_Ray.l1, toldB.l1, impl_SightRay_1.f, tellB, Option.bind_some, List.length_map] at h ⊢
      split at h
      · rename_i hi
        rw [if_pos hi]
        split at h
        · rw [if_pos (by omega)]
          have := i1 _ _ _ _ _ _ h
          simpa [gIn] using this
        · cases h
      · rename_i hi
        rw [if_neg hi]
        exact i2 _ _ _ _ _ _ h
    · simp only [impl_Ray.l2, toldB.l2, impl_SightRay_1.f, tellB, Option.bind_some, List.length_map] at h ⊢
      split at h
      · rename_i hi
        rw [if_pos hi]
        split at h
        · rw [if_pos (by omega)]
          have := i2 _ _ _ _ _ _ h
          simpa [gIn] using this
        · cases h
      · rename_i hi
        rw [if_neg hi]
        exact i3 _ _ _ _ _ _ h
    · simp only [impl_Ray.l3, toldB.l3, impl_SightRay_1.f, tellB, Option.bind_some, List.length_map] at h ⊢
      split at h
      · rename_i hi
        rw [if_pos hi]
        split at h
        · rw [if_pos (by omega)]
          have := i3 _ _ _ _ _ _ h
          simpa [gIn] using this
        · cases h
      · rename_i hi
        rw [if_neg hi]
        obtain rfl := Option.some.inj h
        rfl
theorem told_of {n : Int} {l : List S57} (h : shapeB n l.length = true) (A D : Int) (k : Nat) (L : List S51) (hL : impl_Ray.f k n l = some L) : toldB.f A D k n l = some (L.map (gIn A D)) := by
  have h1 := shapeB_of h
  have h2 := shapeB_rows h
  unfold impl_Ray.f at hL
  unfold toldB.f
  rw [impl_gridRows_some h] at hL ⊢
  simp only [Option.bind_some] at hL ⊢
  rw [w64 (n + _) (by omega) (by omega), w64 (2 * _) (by omega) (by omega), if_pos (by omega), if_pos (by omega)] at hL ⊢
  exact (told_map A D k).1 _ _ _ _ _ _ hL

/-- The viewpoint at which light comes in that goes the other way, for a valid grid: the last of them, and -1 if there is none. -/
def lastOf (n m a b : Int) (s : Nat) : Int := lastT ((List.range s).map fun (k : Nat) => isIn a b (sightAt n m (k : Int)).1 (sightAt n m (k : Int)).2)
def sightOfB (n : Int) (m : Nat) (a d : Int) : Int := lastOf n (m : Int) a (Int.tmod (wrap64 (d + 2)) 4) (sights n m).toNat
/-- The first of them. -/
def firstOf (n m a d : Int) : Nat → Nat → Int
  | _, 0 => -1
  | k, r + 1 => if (sightAt n m (k : Int)).1 = a then (if Int.tmod (wrap64 ((sightAt n m (k : Int)).2 + 2)) 4 = d then (k : Int) else firstOf n m a d (k + 1) r) else firstOf n m a d (k + 1) r
theorem first_last (i j a d : Nat) (hi : i < 5) (hj : j < 5) (ha : a < (i + 1) * (j + 1)) (hd : d < 4) :
    firstOf ((i + 1 : Nat) : Int) (((i + 1) * (j + 1) : Nat) : Int) (a : Int) (d : Int) 0 (sights ((i + 1 : Nat) : Int) ((i + 1) * (j + 1))).toNat = sightOfB ((i + 1 : Nat) : Int) ((i + 1) * (j + 1)) (a : Int) (d : Int) := by
  revert hd; revert d; revert ha; revert a; revert hj; revert j; revert hi; revert i
  decide +kernel
theorem sightAt_in (i j : Nat) (hi : i < 5) (hj : j < 5) : ∀ k, k < (sights ((i + 1 : Nat) : Int) ((i + 1) * (j + 1))).toNat → 0 ≤ (sightAt ((i + 1 : Nat) : Int) (((i + 1) * (j + 1) : Nat) : Int) (k : Int)).1 ∧ (sightAt ((i + 1 : Nat) : Int) (((i + 1) * (j + 1) : Nat) : Int) (k : Int)).1 < (((i + 1) * (j + 1) : Nat) : Int) := by
  revert hj; revert j; revert hi; revert i
  decide +kernel
theorem lastFrom_false : ∀ (l : List Bool) (c f : Int), (∀ b ∈ l, b = false) → lastFrom c f l = f
  | [], _, _, _ => rfl
  | b :: l, c, f, h => by
    have hb := h b List.mem_cons_self
    subst hb
    simp only [lastFrom, cond_false]
    exact lastFrom_false l _ f (fun b hb => h b (List.mem_cons_of_mem _ hb))
theorem sightOfB_off {n : Int} {m : Nat} (h : shapeB n m = true) (a d : Int) (ha : ¬ (0 ≤ a ∧ a < (m : Int))) : sightOfB n m a d = -1 := by
  obtain ⟨i, j, hi, hj, rfl, rfl⟩ := shape_ij h
  unfold sightOfB lastOf lastT
  refine lastFrom_false _ _ _ ?_
  intro b hb
  obtain ⟨k, hk, rfl⟩ := List.mem_map.1 hb
  have := sightAt_in i j hi hj k (List.mem_range.1 hk)
  unfold isIn
  have hne : ¬ (sightAt ((i + 1 : Nat) : Int) (((i + 1) * (j + 1) : Nat) : Int) (k : Int)).1 = a := fun e => ha (by rw [← e]; exact this)
  rw [beq_eq_false_iff_ne.2 hne, Bool.false_and]
/-- What SightOf tells. -/
def sightOf (n : Int) (l : List S57) (a d : Int) : Int := if gridOkB n l = true ∧ 0 ≤ d ∧ d ≤ 3 then sightOfB n l.length a d else -1
theorem spec_l3Of_l0 {n : Int} {l : List S57} (h : shapeB n l.length = true) (a d : Int) : ∀ (r k i : Nat), i + r = (sights n l.length).toNat → r < k → spec_l3Of.l0 k a d (i : Int) n l = some (firstOf n l.length a d i r)
  | 0, k, i, hi, hk => by
    obtain ⟨k, rfl⟩ : ∃ m, k = m + 1 := ⟨k - 1, by omega⟩
    have hs := sights_in h
    simp only [spec_l3Of.l0]
    rw [spec_l3Many_some h]
    simp only [Option.bind_some]
    rw [if_neg (by omega)]
    rfl
  | r + 1, k, i, hi, hk => by
    obtain ⟨k, rfl⟩ : ∃ m, k = m + 1 := ⟨k - 1, by omega⟩
    have hs := sights_in h
    simp only [spec_l3Of.l0]
    rw [spec_l3Many_some h]
    simp only [Option.bind_some]
    rw [if_pos (by omega), spec_l3Ray_some h (i : Int) (by omega) (by omega), w64 ((i : Int) + 1) (by omega) (by omega)]
    simp only [Option.bind_some, spec_l2Back.f, firstOf]
    have ih := spec_l3Of_l0 h a d r k (i + 1) (by omega) (by omega)
    rw [show ((i + 1 : Nat) : Int) = (i : Int) + 1 from by omega] at ih
    rw [ih]
    split
    · split <;> rfl
    · rfl
theorem impl_SightOf_some (n : Int) (l : List S57) (a d : Int) (hl : l.length ≤ 1099511627776) : impl_SightOf.f n l a d = some (sightOf n l a d) := by
  unfold impl_SightOf.f sightOf
  rw [impl_GridOk_some n l hl _ (by omega)]
  simp only [Option.bind_some, impl_dirOpposite.f]
  have ed : impl_dirOk.f d = some (decide (0 ≤ d) && decide (d ≤ 3)) := by
    unfold impl_dirOk.f
    by_cases h : d ≥ 0
    · rw [if_pos h]
      simp [h]
    · rw [if_neg h]
      simp [h]
  rw [ed]
  by_cases h : gridOkB n l = true
  · rw [if_pos h]
    simp only [Option.bind_some]
    by_cases hd : 0 ≤ d ∧ d ≤ 3
    · have e2 : (decide (0 ≤ d) && decide (d ≤ 3)) = true := by simp; omega
      rw [e2, if_pos rfl, if_pos ⟨h, hd.1, hd.2⟩]
      obtain ⟨L, e, hL, hr⟩ := impl_Ray_some (shape_of h).1 (l.length + 100) (by omega)
      rw [told_of (shape_of h).1 _ _ _ _ e]
      simp only [Option.bind_some]
      congr 1
      unfold sightOfB lastOf
      congr 1
      refine List.ext_getElem (by simp; omega) ?_
      intro k h1 h2
      have hk : k < L.length := by simpa using h1
      have := hr k hk
      have e5 : rd_T51 L (k : Int) = L[k] := by
        unfold rd_T51
        simp [List.getD_eq_getElem?_getD, List.getElem?_eq_getElem hk]
      rw [e5] at this
      simp [gIn, this.1, this.2]
    · have e2 : (decide (0 ≤ d) && decide (d ≤ 3)) = false := by simp; omega
      rw [e2, if_neg (by decide), if_neg (fun h => hd h.2)]
  · rw [if_neg h, if_neg (fun h' => h h'.1)]
end Go.Proofs.Ytmohfoleolmijaa.P
