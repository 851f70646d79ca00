/- PROVED: the pure statement of FnRayEdge: at each edge there are as many cells as in a row, or column. No condition. -/
import Derived.Test.YtbomeogcgefddaaPx31
import Derived.Test.YtbomeogcgefddaaQDrawRay
import Derived.Test.YtbomeogcgefddaaQRayB
namespace Go.Proofs.Ytbomeogcgefddaa.Pure
open Go.RowKit Go.Proofs.Ytbomeogcgefddaa.P Go.Proofs.YtbomeogcgefddaaW.PrintWords Go.Proofs.YtbomeogcgefddaaW.PrintLast
set_option linter.unusedVariables false
set_option linter.unusedSimpArgs false
/-- How many of the cells from i on have no next one in a direction. -/
def edges (n : Int) (m : Nat) (d : Int) : Nat → Nat → Nat
  | _, 0 => 0
  | i, r + 1 => (if (rayB n m (i : Int) d).2.2 = true then 0 else 1) + edges n m d (i + 1) r
theorem edges_le (n : Int) (m : Nat) (d : Int) : ∀ r i, edges n m d i r ≤ r
  | 0, _ => Nat.le_refl _
  | r + 1, i => by
    have := edges_le n m d r (i + 1)
    simp only [edges]
    split <;> omega
/-- What the inner loop looks at last. -/
def edgeOk (n : Int) (m : Nat) (d : Int) (c : Int) : Bool := (if Int.tmod d 2 = 0 then decide (c = n) else true) && (if Int.tmod d 2 = 1 then decide (c = wrap64 ((m : Int) / n)) else true)
theorem edge_l1 (n : Int) (l : List S42) (hg : gridOkB n l = true) (hl : l.length ≤ 26) (d : Int) (hd : 0 ≤ d) (hd3 : d ≤ 3) : ∀ (r k i : Nat) (c : Int), i + r = l.length → r + 40 < k → 0 ≤ c → c + r ≤ 100 →
    laws_FnRayEdge.l1 k d c (i : Int) n l = bif edgeOk n l.length d (c + (edges n l.length d i r : Nat)) then laws_FnRayEdge.l0 (k - r - 1) (d + 1) n l else some false
  | 0, k, i, c, hi, hk, hc, hc1 => by
    obtain ⟨k, rfl⟩ : ∃ m, k = m + 1 := ⟨k - 1, by omega⟩
    have h1 := shapeB_of (shape_of hg).1
    simp only [laws_FnRayEdge.l1]
    rw [if_neg (by omega), w64 (d + 1) (by omega) (by omega)]
    have e0 : c + ((edges n l.length d i 0 : Nat) : Int) = c := by simp [edges]
    rw [e0, if_neg (show ¬ n = 0 by omega)]
    simp only [Nat.sub_zero, Nat.add_sub_cancel]
    have hd4 : d = 0 ∨ d = 1 ∨ d = 2 ∨ d = 3 := by omega
    have t0 : Int.tmod 0 2 = 0 := by decide
    have t1 : Int.tmod 1 2 = 1 := by decide
    have t2 : Int.tmod 2 2 = 0 := by decide
    have t3 : Int.tmod 3 2 = 1 := by decide
    unfold edgeOk
    rcases hd4 with rfl | rfl | rfl | rfl
    · by_cases hcn : c = n <;> simp [t0, hcn]
    · by_cases hcn : c = wrap64 ((l.length : Int) / n) <;> simp [t1, hcn]
    · by_cases hcn : c = n <;> simp [t2, hcn]
    · by_cases hcn : c = wrap64 ((l.length : Int) / n) <;> simp [t3, hcn]
  | r + 1, k, i, c, hi, hk, hc, hc1 => by
    obtain ⟨k, rfl⟩ : ∃ m, k = m + 1 := ⟨k - 1, by omega⟩
    simp only [laws_FnRayEdge.l1]
    rw [if_pos (by omega), impl_RayNext_some n l _ _ (by omega) k (by omega), rayNext_B hg, w64 ((i : Int) + 1) (by omega) (by omega), w64 (c + 1) (by omega) (by omega)]
    simp only [Option.bind_some]
    have ih := edge_l1 n l hg hl d hd hd3 r k (i + 1)
    rw [show ((i + 1 : Nat) : Int) = (i : Int) + 1 from by omega] at ih
    rw [show k + 1 - (r + 1) - 1 = k - r - 1 from by omega]
    by_cases hb : (rayB n l.length (i : Int) d).2.2 = true
    · have e : edges n l.length d i (r + 1) = edges n l.length d (i + 1) r := by simp [edges, hb]
      rw [if_pos hb, ih c (by omega) (by omega) hc (by omega), e]
    · have e : edges n l.length d i (r + 1) = 1 + edges n l.length d (i + 1) r := by simp [edges, hb]
      rw [if_neg hb, ih (c + 1) (by omega) (by omega) (by omega) (by omega), e, Int.natCast_add, Int.add_assoc]
      rfl
theorem edge_l0 (n : Int) (l : List S42) (hg : gridOkB n l = true) (hl : l.length ≤ 26) (hE : ∀ d : Nat, d < 4 → edgeOk n l.length (d : Int) (edges n l.length (d : Int) 0 l.length : Nat) = true) : ∀ (q k d : Nat), d + q = 4 → 100 * q + 100 < k → laws_FnRayEdge.l0 k (d : Int) n l = some true
  | 0, k, d, hd, hk => by
    obtain ⟨k, rfl⟩ : ∃ m, k = m + 1 := ⟨k - 1, by omega⟩
    simp only [laws_FnRayEdge.l0]
    rw [if_neg (by omega)]
  | q + 1, k, d, hd, hk => by
    obtain ⟨k, rfl⟩ : ∃ m, k = m + 1 := ⟨k - 1, by omega⟩
    simp only [laws_FnRayEdge.l0]
    rw [if_pos (by omega)]
    have h := edge_l1 n l hg hl (d : Int) (by omega) (by omega) l.length k 0 0 (by omega) (by omega) (by omega) (by omega)
    rw [show ((0 : Nat) : Int) = 0 from rfl, Int.zero_add, hE d (by omega), cond_true] at h
    rw [h]
    have ih := edge_l0 n l hg hl hE q (k - l.length - 1) (d + 1) (by omega) (by omega)
    rw [show ((d + 1 : Nat) : Int) = (d : Int) + 1 from by omega] at ih
    exact ih
theorem FnRayEdge : laws_FnRayEdge.Pure := by
  intro l0 _ _ hw
  refine ⟨1001, ?_⟩
  unfold laws_FnRayEdge.f
  by_cases hb : (l0.length : Int) > 1048576
  · rw [if_pos hb]
  rw [if_neg hb]
  obtain ⟨n, l, a, d, e, hl⟩ := drawRayNext_some l0 (bytes_of hw) 1001 (by omega)
  have I : ∀ k x y, 30 < k → impl_RayNext.f k n l x y = some (rayNext n l x y) := fun k x y hk => impl_RayNext_some n l x y (by omega) k (by omega)
  rw [e]
  simp only [Option.bind_some, spec_RayNext_some n l _ _ (by omega) 1001 (by omega), I 1001 _ _ (by omega), spec_GridOk_some n l (by omega) 1001 (by omega)]
  by_cases hg : gridOkB n l = true
  · have key : laws_FnRayEdge.l0 1000 0 n l = some true := by
      refine edge_l0 n l hg (by omega) ?_ 4 1000 0 (by omega) (by omega)
      obtain ⟨i, j, hi, hj, hn, hm⟩ := shape_ij (shape_of hg).1
      rw [hm]
      clear I hg e hl hm
      subst hn
      revert hj; revert j; revert hi; revert i
      decide +kernel
    rw [hg]
    simp [laws_FnRayEdge.j0, key]
  · have : gridOkB n l = false := by simpa using hg
    rw [this]
    simp [laws_FnRayEdge.j0]
end Go.Proofs.Ytbomeogcgefddaa.Pure
