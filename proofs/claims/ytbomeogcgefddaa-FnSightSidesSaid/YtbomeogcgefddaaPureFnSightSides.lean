/- PROVED: the pure statement of FnSightSides: each row and column is seen from both sides. No condition. -/
import Derived.Test.YtbomeogcgefddaaPx29
import Derived.Test.YtbomeogcgefddaaQDrawSight
import Derived.Test.YtbomeogcgefddaaQSightRay
import Derived.Test.YtbomeogcgefddaaQShape
namespace Go.Proofs.Ytbomeogcgefddaa.Pure
open Go.RowKit Go.Proofs.Ytbomeogcgefddaa.P Go.Proofs.YtbomeogcgefddaaW.PrintWords Go.Proofs.YtbomeogcgefddaaW.PrintLast
set_option linter.unusedVariables false
set_option linter.unusedSimpArgs false
def sideD (n : Int) (m : Nat) (i j : Nat) : Bool := !((sightAt n m (i : Int)).1 == (sightAt n m (j : Int)).1 && (sightAt n m (i : Int)).2 == (sightAt n m (j : Int)).2)
theorem sides_l1 (n : Int) (l : List S42) (hg : gridOkB n l = true) (hl : l.length ≤ 26) (c : Nat) (hc : (c : Int) = sights n l.length) (hc1 : c ≤ 20) (i : Nat) (hi : i < c) (hD : ∀ j, j < i → sideD n l.length i j = true) :
    ∀ (r k j : Nat), j + r = i → r + 200 < k → laws_FnSightSides.l1 k (c : Int) (i : Int) (j : Int) n l (sightAt n l.length (i : Int)).1 (sightAt n l.length (i : Int)).2 = laws_FnSightSides.l0 (k - r - 1) (c : Int) ((i : Int) + 1) n l
  | 0, k, j, hj, hk => by
    obtain ⟨k, rfl⟩ : ∃ m, k = m + 1 := ⟨k - 1, by omega⟩
    simp only [laws_FnSightSides.l1]
    rw [if_neg (by omega), w64 _ (by omega) (by omega)]
    rfl
  | r + 1, k, j, hj, hk => by
    obtain ⟨k, rfl⟩ : ∃ m, k = m + 1 := ⟨k - 1, by omega⟩
    simp only [laws_FnSightSides.l1]
    rw [if_pos (by omega), impl_SightRay_some n l _ (by omega) k (by omega)]
    have e : sightRay n l (j : Int) = ((sightAt n l.length (j : Int)).1, (sightAt n l.length (j : Int)).2, true) := by
      unfold sightRay
      rw [if_pos ⟨hg, by omega, by omega⟩]
    have hd := hD j (by omega)
    unfold sideD at hd
    rw [e]
    simp only [Option.bind_some]
    rw [if_neg (fun hx => by rw [hx] at hd; exact absurd hd (by decide)), w64 _ (by omega) (by omega)]
    have ih := sides_l1 n l hg hl c hc hc1 i hi hD r k (j + 1) (by omega) (by omega)
    rw [show ((j + 1 : Nat) : Int) = (j : Int) + 1 from by omega] at ih
    rw [ih, show k + 1 - (r + 1) - 1 = k - r - 1 from by omega]
theorem sides_l0 (n : Int) (l : List S42) (hg : gridOkB n l = true) (hl : l.length ≤ 26) (c : Nat) (hc : (c : Int) = sights n l.length) (hc1 : c ≤ 20) (hD : ∀ i, i < c → ∀ j, j < i → sideD n l.length i j = true) :
    ∀ (q k i : Nat), i + q = c → 30 * q + 300 < k → laws_FnSightSides.l0 k (c : Int) (i : Int) n l = some true
  | 0, k, i, hi, hk => by
    obtain ⟨k, rfl⟩ : ∃ m, k = m + 1 := ⟨k - 1, by omega⟩
    have h1 := shapeB_of (shape_of hg).1
    have h2 := shapeB_rows (shape_of hg).1
    simp only [laws_FnSightSides.l0]
    rw [if_neg (by omega), impl_SightRay_some n l _ (by omega) k (by omega)]
    have e : sightRay n l (c : Int) = (0, 0, false) := by
      unfold sightRay
      rw [if_neg (by omega)]
    rw [e]
    simp only [Option.bind_some]
    rw [if_neg (by omega), w64 ((l.length : Int) / n) (by omega) (by omega), w64 (n + (l.length : Int) / n) (by omega) (by omega), w64 (2 * (n + (l.length : Int) / n)) (by omega) (by omega), if_pos (by rw [hc]; rfl)]
    rfl
  | q + 1, k, i, hi, hk => by
    obtain ⟨k, rfl⟩ : ∃ m, k = m + 1 := ⟨k - 1, by omega⟩
    simp only [laws_FnSightSides.l0]
    rw [if_pos (by omega), impl_SightRay_some n l _ (by omega) k (by omega)]
    have e : sightRay n l (i : Int) = ((sightAt n l.length (i : Int)).1, (sightAt n l.length (i : Int)).2, true) := by
      unfold sightRay
      rw [if_pos ⟨hg, by omega, by omega⟩]
    rw [e]
    simp only [Option.bind_some, if_true]
    have h := sides_l1 n l hg hl c hc hc1 i (by omega) (hD i (by omega)) i k 0 (by omega) (by omega)
    rw [show ((0 : Nat) : Int) = 0 from rfl] at h
    rw [h]
    have ih := sides_l0 n l hg hl c hc hc1 hD q (k - i - 1) (i + 1) (by omega) (by omega)
    rw [show ((i + 1 : Nat) : Int) = (i : Int) + 1 from by omega] at ih
    exact ih
theorem sides_all (i j : Nat) (hi : i < 5) (hj : j < 5) : ∀ x, x < (sights ((i + 1 : Nat) : Int) ((i + 1) * (j + 1))).toNat → ∀ y, y < x → sideD ((i + 1 : Nat) : Int) ((i + 1) * (j + 1)) x y = true := by
  revert hj; revert j; revert hi; revert i
  decide +kernel
theorem FnSightSides : laws_FnSightSides.Pure := by
  intro l0 _ _ hw
  refine ⟨1001, ?_⟩
  unfold laws_FnSightSides.f
  by_cases hb : (l0.length : Int) > 1048576
  · rw [if_pos hb]
  rw [if_neg hb]
  obtain ⟨n, l, e, hl⟩ := drawSightMany_some l0 (bytes_of hw) 1001 (by omega)
  rw [e]
  simp only [Option.bind_some, spec_SightMany_some n l (by omega) 1001 (by omega), impl_SightMany_some n l (by omega) 1001 (by omega), if_true]
  simp only [laws_FnSightSides.j0, spec_SightMany_some n l (by omega) 1000 (by omega), Option.bind_some]
  by_cases h0 : sightMany n l = 0
  · rw [h0]
    simp
  · rw [if_neg (by simpa using h0)]
    have hg : gridOkB n l = true := by
      unfold sightMany at h0
      split at h0
      · assumption
      · exact absurd rfl h0
    have hs : sightMany n l = sights n l.length := by
      unfold sightMany
      rw [if_pos hg]
    have h2 := shapeB_rows (shape_of hg).1
    have h1 := shapeB_of (shape_of hg).1
    have hle : 0 ≤ sights n l.length ∧ sights n l.length ≤ 20 := by unfold sights; omega
    obtain ⟨c, hc⟩ := nat_of hle.1
    rw [hs, hc]
    obtain ⟨i, j, hi, hj, hn, hm⟩ := shape_ij (shape_of hg).1
    have h3 := sides_all i j hi hj
    rw [← hm, ← hn, hc, Int.toNat_natCast] at h3
    exact sides_l0 n l hg (by omega) c hc.symm (by omega) h3 c 1000 0 (by omega) (by omega)
end Go.Proofs.Ytbomeogcgefddaa.Pure
