/- PROVED: the reference's l3Ray and the program's SightRay tell sightAt. Condition: the grid is valid. -/
import Derived.Test.YtmohfoleolmijaaPx24
import Derived.Test.YtmohfoleolmijaaPx29
import Derived.Test.YtmohfoleolmijaaQRayA
namespace Go.Proofs.Ytmohfoleolmijaa.P
open Go.RowKit Go.Proofs.YtmohfoleolmijaaW.PrintWords Go.Proofs.YtmohfoleolmijaaW.PrintLast Go.Proofs.YtmohfoleolmijaaW.PrintMore
set_option linter.unusedVariables false
set_option linter.unusedSimpArgs false

/-- The cell and the direction in which light enters at viewpoint k of a grid n wide of m cells. -/
def sightAt (n m k : Int) : Int × Int :=
  if k < n then (k, 2) else if k - n < m / n then ((k - n) * n + n - 1, 3) else if k - n - m / n < n then (m - 1 - (k - n - m / n), 0) else (m - n - (k - n - m / n - n) * n, 1)
set_option maxHeartbeats 1000000 in
theorem spec_l3Ray_some {n : Int} {l : List S57} (h : shapeB n l.length = true) (k : Int) (hk : 0 ≤ k) (hk2 : k < sights n l.length) : spec_l3Ray.f n l k = some (sightAt n l.length k) := by
  have h1 := shapeB_of h
  have h2 := shapeB_rows h
  have hn : n = 1 ∨ n = 2 ∨ n = 3 ∨ n = 4 ∨ n = 5 := by omega
  unfold spec_l3Ray.f sightAt
  unfold sights at hk2
  rw [spec_l1High_some h]
  simp only [Option.bind_some]
  generalize (l.length : Int) / n = r at *
  have em : (l.length : Int) = n * r := h2.2.2.symm
  rw [em]
  clear h em
  by_cases c1 : k < n
  · rw [if_pos c1, if_pos c1]
  rw [if_neg c1, if_neg c1, w64 (k - n) (by omega) (by omega)]
  by_cases c2 : k - n < r
  · rw [if_pos c2, if_pos c2]
    congr 2
    rcases hn with rfl | rfl | rfl | rfl | rfl <;> simp (disch := omega) only [w64]
  rw [if_neg c2, if_neg c2, w64 (k - n - r) (by omega) (by omega)]
  by_cases c3 : k - n - r < n
  · rw [if_pos c3, if_pos c3]
    congr 2
    rcases hn with rfl | rfl | rfl | rfl | rfl <;> simp (disch := omega) only [w64]
  rw [if_neg c3, if_neg c3]
  congr 2
  rcases hn with rfl | rfl | rfl | rfl | rfl <;> simp (disch := omega) only [w64] <;> omega
/-- The program's list of rays holds, place by place, what sightAt tells: looked at for each of the 25 shapes. -/
def raysOk (n r : Int) : Bool := match impl_Ray.l0 60 n r [] n 0 with
  | some L => decide ((L.length : Int) = 2 * (n + r)) && (List.range L.length).all fun k => decide ((rd_T51 L (k : Int)).f0 = (sightAt n (n * r) k).1) && decide ((rd_T51 L (k : Int)).f1 = (sightAt n (n * r) k).2)
  | none => false
set_option maxRecDepth 100000 in
theorem raysOk_all : ([1, 2, 3, 4, 5] : List Int).all (fun n => ([1, 2, 3, 4, 5] : List Int).all fun r => raysOk n r) = true := by decide +kernel
theorem rays_of {n r : Int} (hn : 1 ≤ n) (hn5 : n ≤ 5) (hr : 1 ≤ r) (hr5 : r ≤ 5) :
    ∃ L, impl_Ray.l0 60 n r [] n 0 = some L ∧ (L.length : Int) = 2 * (n + r) ∧ ∀ k : Nat, k < L.length → (rd_T51 L (k : Int)).f0 = (sightAt n (n * r) k).1 ∧ (rd_T51 L (k : Int)).f1 = (sightAt n (n * r) k).2 := by
  have h := raysOk_all
  rw [List.all_eq_true] at h
  have h1 := h n (by
    have : n = 1 ∨ n = 2 ∨ n = 3 ∨ n = 4 ∨ n = 5 := by omega
    simpa using this)
  rw [List.all_eq_true] at h1
  have h2 := h1 r (by
    have : r = 1 ∨ r = 2 ∨ r = 3 ∨ r = 4 ∨ r = 5 := by omega
    simpa using this)
  unfold raysOk at h2
  cases e : impl_Ray.l0 60 n r [] n 0 with
  | none =>
    rw [e] at h2
    simp at h2
  | some L =>
    rw [e] at h2
    simp only [Bool.and_eq_true, decide_eq_true_eq, List.all_eq_true, List.mem_range] at h2
    exact ⟨L, rfl, h2.1, h2.2⟩
theorem impl_Ray_some {n : Int} {l : List S57} (h : shapeB n l.length = true) (k : Nat) (hk : 60 ≤ k) :
    ∃ L, impl_Ray.f k n l = some L ∧ (L.length : Int) = sights n l.length ∧ ∀ k : Nat, k < L.length → (rd_T51 L (k : Int)).f0 = (sightAt n l.length k).1 ∧ (rd_T51 L (k : Int)).f1 = (sightAt n l.length k).2 := by
  have h1 := shapeB_of h
  have h2 := shapeB_rows h
  obtain ⟨L, e, hL, hr⟩ := rays_of h1.1 h1.2.1 h2.1 h2.2.1
  rw [h2.2.2] at hr
  refine ⟨L, ?_, hL, hr⟩
  unfold impl_Ray.f
  rw [impl_gridRows_some h]
  simp only [Option.bind_some]
  rw [w64 (n + _) (by omega) (by omega), w64 (2 * _) (by omega) (by omega), if_pos (by omega), if_pos (by omega)]
  exact at_rounds (fun k => (impl_Ray.mono_l k).1 _ _ _ _ _) hk e
/-- What SightRay tells. -/
def sightRay (n : Int) (l : List S57) (k : Int) : Int × Int × Bool :=
  if gridOkB n l = true ∧ 0 ≤ k ∧ k < sights n l.length then ((sightAt n l.length k).1, (sightAt n l.length k).2, true) else (0, 0, false)
theorem impl_SightRay_some (n : Int) (l : List S57) (a : Int) (hl : l.length ≤ 1099511627776) (k : Nat) (hk : l.length + 60 < k) : impl_SightRay.f k n l a = some (sightRay n l a) := by
  unfold impl_SightRay.f sightRay
  by_cases h0 : a < 0
  · rw [if_pos h0, if_neg (fun h => by omega)]
  · rw [if_neg h0, impl_SightMany_some n l hl k (by omega)]
    simp only [Option.bind_some]
    unfold sightMany
    by_cases h : gridOkB n l = true
    · rw [if_pos h]
      by_cases ha : a ≥ sights n l.length
      · rw [if_pos ha, if_neg (fun h => by omega)]
      · obtain ⟨L, e, hL, hr⟩ := impl_Ray_some (shape_of h).1 k (by omega)
        obtain ⟨b, rfl⟩ := Int.eq_ofNat_of_zero_le (show 0 ≤ a by omega)
        rw [if_neg ha, e]
        simp only [Option.bind_some]
        rw [if_pos (by omega), if_pos (by omega), if_pos ⟨h, by omega, by omega⟩, (hr b (by omega)).1, (hr b (by omega)).2]
    · rw [if_neg h, if_pos (by omega), if_neg (fun h' => h h'.1)]
end Go.Proofs.Ytmohfoleolmijaa.P
