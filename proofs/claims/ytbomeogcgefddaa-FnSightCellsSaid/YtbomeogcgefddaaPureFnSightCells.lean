/- PROVED: the pure statement of FnSightCells: each cell at the edge is seen from there. No condition. -/
import Derived.Test.YtbomeogcgefddaaPx33
import Derived.Test.YtbomeogcgefddaaQDrawSight
import Derived.Test.YtbomeogcgefddaaQSightB
namespace Go.Proofs.Ytbomeogcgefddaa.Pure
open Go.RowKit Go.Proofs.Ytbomeogcgefddaa.P Go.Proofs.YtbomeogcgefddaaW.PrintWords Go.Proofs.YtbomeogcgefddaaW.PrintLast
set_option linter.unusedVariables false
set_option linter.unusedSimpArgs false
/-- One more sight is seen. -/
def seenStep (seen : List Int) (k : Int) : List Int := if k ≥ 0 then seen.set k.toNat (wrap64 (rd seen k + 1)) else seen
theorem seenStep_length (seen : List Int) (k : Int) : (seenStep seen k).length = seen.length := by
  unfold seenStep
  split <;> simp
def seenDirs (n : Int) (m : Nat) (at_ : Int) : Nat → Nat → List Int → List Int
  | _, 0, seen => seen
  | d, r + 1, seen => seenDirs n m at_ (d + 1) r (seenStep seen (sightOfB n m at_ (d : Int)))
theorem seenDirs_length (n : Int) (m : Nat) (at_ : Int) : ∀ (r d : Nat) (seen : List Int), (seenDirs n m at_ d r seen).length = seen.length
  | 0, _, _ => rfl
  | r + 1, d, seen => by
    simp only [seenDirs]
    rw [seenDirs_length n m at_ r, seenStep_length]
def seenCells (n : Int) (m : Nat) : Nat → Nat → List Int → List Int
  | _, 0, seen => seen
  | a, r + 1, seen => seenCells n m (a + 1) r (seenDirs n m (a : Int) 0 4 seen)
theorem seenCells_length (n : Int) (m : Nat) : ∀ (r a : Nat) (seen : List Int), (seenCells n m a r seen).length = seen.length
  | 0, _, _ => rfl
  | r + 1, a, seen => by
    simp only [seenCells]
    rw [seenCells_length n m r, seenDirs_length]
theorem cells_l1 (n : Int) (l : List S42) (hg : gridOkB n l = true) (hl : l.length ≤ 26) (c : Int) (a : Nat) (ha : a < l.length) (hO : ∀ d : Nat, d < 4 → sightOfB n l.length (a : Int) (d : Int) < c) :
    ∀ (r k d : Nat) (seen : List Int), d + r = 4 → r < k → (seen.length : Int) = c → laws_FnSightCells.l1 k c seen (a : Int) (d : Int) n l = laws_FnSightCells.l0 (k - r - 1) c (seenDirs n l.length (a : Int) d r seen) ((a : Int) + 1) n l
  | 0, k, d, seen, hd, hk, hs => by
    obtain ⟨k, rfl⟩ : ∃ m, k = m + 1 := ⟨k - 1, by omega⟩
    simp only [laws_FnSightCells.l1]
    rw [if_neg (by omega), w64 _ (by omega) (by omega)]
    rfl
  | r + 1, k, d, seen, hd, hk, hs => by
    obtain ⟨k, rfl⟩ : ∃ m, k = m + 1 := ⟨k - 1, by omega⟩
    have hO' := hO d (by omega)
    simp only [laws_FnSightCells.l1]
    have e : sightOf n l (a : Int) (d : Int) = sightOfB n l.length (a : Int) (d : Int) := by
      unfold sightOf
      rw [if_pos ⟨hg, by omega, by omega⟩]
    rw [if_pos (by omega), impl_SightOf_some n l _ _ (by omega), e, w64 ((d : Int) + 1) (by omega) (by omega)]
    simp only [Option.bind_some, seenDirs]
    rw [if_neg (by omega)]
    have ih := fun sn => cells_l1 n l hg hl c a ha hO r k (d + 1) sn (by omega) (by omega)
    rw [show ((d + 1 : Nat) : Int) = (d : Int) + 1 from by omega] at ih
    rw [show k + 1 - (r + 1) - 1 = k - r - 1 from by omega]
    unfold seenStep
    by_cases h0 : sightOfB n l.length (a : Int) (d : Int) ≥ 0
    · rw [if_pos h0, if_pos h0, if_pos (by omega), ih _ (by simpa using hs), if_pos h0]
    · rw [if_neg h0, ih _ hs, if_neg h0]
theorem cells_l2 (c : Nat) (hc : c ≤ 100) : ∀ (r k i : Nat), i + r = c → r < k → laws_FnSightCells.l2 k (c : Int) (List.replicate c 1) (i : Int) = some true
  | 0, k, i, hi, hk => by
    obtain ⟨k, rfl⟩ : ∃ m, k = m + 1 := ⟨k - 1, by omega⟩
    simp only [laws_FnSightCells.l2]
    rw [if_neg (by omega)]
  | r + 1, k, i, hi, hk => by
    obtain ⟨k, rfl⟩ : ∃ m, k = m + 1 := ⟨k - 1, by omega⟩
    simp only [laws_FnSightCells.l2]
    have e : rd (List.replicate c 1) (i : Int) = 1 := by
      unfold rd
      simp [List.getD_eq_getElem?_getD, List.getElem?_replicate, show i < c by omega]
    have ih := cells_l2 c hc r k (i + 1) (by omega) (by omega)
    rw [show ((i + 1 : Nat) : Int) = (i : Int) + 1 from by omega] at ih
    rw [if_pos (by omega), if_pos (by omega), if_pos (by simp; omega), e, if_pos rfl, w64 _ (by omega) (by omega), ih]
theorem cells_l0 (n : Int) (l : List S42) (hg : gridOkB n l = true) (hl : l.length ≤ 26) (c : Nat) (hc : c ≤ 20) (hO : ∀ a : Nat, a < l.length → ∀ d : Nat, d < 4 → sightOfB n l.length (a : Int) (d : Int) < (c : Int)) :
    ∀ (r k a : Nat) (seen : List Int), a + r = l.length → 10 * r + 40 < k → seen.length = c → seenCells n l.length a r seen = List.replicate c 1 → laws_FnSightCells.l0 k (c : Int) seen (a : Int) n l = some true
  | 0, k, a, seen, ha, hk, hs, he => by
    obtain ⟨k, rfl⟩ : ∃ m, k = m + 1 := ⟨k - 1, by omega⟩
    simp only [laws_FnSightCells.l0]
    simp only [seenCells] at he
    rw [if_neg (by omega), he]
    have := cells_l2 c (by omega) c k 0 (by omega) (by omega)
    rw [show ((0 : Nat) : Int) = 0 from rfl] at this
    exact this
  | r + 1, k, a, seen, ha, hk, hs, he => by
    obtain ⟨k, rfl⟩ : ∃ m, k = m + 1 := ⟨k - 1, by omega⟩
    simp only [laws_FnSightCells.l0]
    rw [if_pos (by omega)]
    have h := cells_l1 n l hg hl (c : Int) a (by omega) (hO a (by omega)) 4 k 0 seen (by omega) (by omega) (by omega)
    rw [show ((0 : Nat) : Int) = 0 from rfl] at h
    rw [h]
    have ih := cells_l0 n l hg hl c hc hO r (k - 4 - 1) (a + 1) (seenDirs n l.length (a : Int) 0 4 seen) (by omega) (by omega) (by rw [seenDirs_length]; exact hs) he
    rw [show ((a + 1 : Nat) : Int) = (a : Int) + 1 from by omega] at ih
    exact ih
theorem cells_all (i j : Nat) (hi : i < 5) (hj : j < 5) : seenCells ((i + 1 : Nat) : Int) ((i + 1) * (j + 1)) 0 ((i + 1) * (j + 1)) (List.replicate (sights ((i + 1 : Nat) : Int) ((i + 1) * (j + 1))).toNat 0) = List.replicate (sights ((i + 1 : Nat) : Int) ((i + 1) * (j + 1))).toNat 1 := by
  revert hj; revert j; revert hi; revert i
  decide +kernel
theorem cells_lt (i j : Nat) (hi : i < 5) (hj : j < 5) : ∀ a : Nat, a < (i + 1) * (j + 1) → ∀ d : Nat, d < 4 → sightOfB ((i + 1 : Nat) : Int) ((i + 1) * (j + 1)) (a : Int) (d : Int) < ((sights ((i + 1 : Nat) : Int) ((i + 1) * (j + 1))).toNat : Int) := by
  revert hj; revert j; revert hi; revert i
  decide +kernel
theorem FnSightCells : laws_FnSightCells.Pure := by
  intro l0 _ _ hw
  refine ⟨1001, ?_⟩
  unfold laws_FnSightCells.f
  by_cases hb : (l0.length : Int) > 1048576
  · rw [if_pos hb]
  rw [if_neg hb]
  obtain ⟨n, l, e, hl⟩ := drawSightMany_some l0 (bytes_of hw) 1001 (by omega)
  rw [e]
  simp only [Option.bind_some, spec_SightMany_some n l (by omega) 1001 (by omega), impl_SightMany_some n l (by omega) 1001 (by omega), if_true]
  simp only [laws_FnSightCells.j0, spec_SightMany_some n l (by omega) 1000 (by omega), Option.bind_some]
  by_cases hg : gridOkB n l = true
  · have hs := sights_in (shape_of hg).1
    rw [sightMany_B hg, if_neg (by simp; omega), if_pos (by omega), if_pos (by omega)]
    obtain ⟨i, j, hi, hj, hn, hm⟩ := shape_ij (shape_of hg).1
    have h1 := cells_all i j hi hj
    have h2 := cells_lt i j hi hj
    rw [← hm, ← hn] at h1 h2
    have := cells_l0 n l hg (by omega) (sights n l.length).toNat (by omega) h2 l.length 1000 0 (List.replicate (sights n l.length).toNat 0) (by omega) (by omega) (by simp) h1
    rw [show ((0 : Nat) : Int) = 0 from rfl, show ((sights n l.length).toNat : Int) = sights n l.length from by omega] at this
    exact this
  · rw [sightMany_no hg]
    simp
end Go.Proofs.Ytbomeogcgefddaa.Pure
