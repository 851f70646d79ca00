/- PROVED: the pure statement of FnSightTurn: sights turn with the grid. No condition. -/
import Derived.Test.YtbnofnamkgfadaaPx34
import Derived.Test.YtbnofnamkgfadaaQDrawSightRay
import Derived.Test.YtbnofnamkgfadaaQMovD
import Derived.Test.YtbnofnamkgfadaaQSightFT
import Derived.Test.YtbnofnamkgfadaaPx9
import Derived.Test.YtbnofnamkgfadaaPx27
namespace Go.Proofs.Ytbnofnamkgfadaa.Pure
open Go.RowKit Go.Proofs.Ytbnofnamkgfadaa.P Go.Proofs.YtbnofnamkgfadaaW.PrintWords Go.Proofs.YtbnofnamkgfadaaW.PrintLast
set_option linter.unusedVariables false
set_option linter.unusedSimpArgs false
def sN (i j : Nat) : Nat := 2 * ((i + 1) + (j + 1))
def tN (i j k : Nat) : Nat := (k + (j + 1)) % sN i j
def fN (i j k : Nat) : Nat := (i + sN i j - k) % sN i j
theorem sights_ij (i j : Nat) (hi : i < 5) (hj : j < 5) : sights ((i + 1 : Nat) : Int) ((i + 1) * (j + 1)) = (sN i j : Int) := by
  unfold sights sN
  rw [Int.natCast_mul, Int.mul_ediv_cancel_left _ (by omega)]
  omega
theorem sT_ij {i j : Nat} (hi : i < 5) (hj : j < 5) {l : List S24} (h : okG i j l) (k : Nat) (hk : k < sN i j) : sightTurn ((i + 1 : Nat) : Int) l (k : Int) = (tN i j k : Int) := by
  unfold sightTurn
  have e := sights_ij i j hi hj
  rw [← h.1] at e
  rw [e, if_pos ⟨okG_grid hi hj h, by omega, by omega⟩, div_j h.1, Int.tmod_eq_emod_of_nonneg (by omega)]
  unfold tN
  rw [Int.natCast_emod, ← Int.natCast_add]
theorem sF_ij {i j : Nat} (hi : i < 5) (hj : j < 5) {l : List S24} (h : okG i j l) (k : Nat) (hk : k < sN i j) : sightFlip ((i + 1 : Nat) : Int) l (k : Int) = (fN i j k : Int) := by
  unfold sightFlip
  have e := sights_ij i j hi hj
  rw [← h.1] at e
  rw [e, if_pos ⟨okG_grid hi hj h, by omega, by omega⟩, Int.tmod_eq_emod_of_nonneg (by omega)]
  unfold fN
  rw [Int.natCast_emod, show ((i + sN i j - k : Nat) : Int) = ((i + 1 : Nat) : Int) - 1 - (k : Int) + (sN i j : Int) from by omega]
theorem all_sights (i j : Nat) (hi : i < 5) (hj : j < 5) : ∀ k, k < sN i j → tN i j k < sN i j ∧ tN i j k < sN j i ∧ tN j i (tN i j k) < sN i j ∧ tN i j (tN j i (tN i j k)) < sN j i ∧ tN j i (tN i j (tN j i (tN i j k))) = k ∧ fN i j k < sN i j ∧ fN i j (fN i j k) = k := by
  revert hj; revert j; revert hi; revert i
  decide +kernel
theorem all_one (i j : Nat) (hi : i < 5) (hj : j < 5) : ∀ k, k < sN i j → ∀ q, q < sN i j → (q == k || (tN i j q != tN i j k && fN i j q != fN i j k)) = true := by
  revert hj; revert j; revert hi; revert i
  decide +kernel
theorem turn_l0 {i j : Nat} (hi : i < 5) (hj : j < 5) {l : List S24} (h : okG i j l) (a : Nat) (ha : a < sN i j) : ∀ (r k q : Nat), q + r = sN i j → r + 110 < k → laws_FnSightTurn.l0 k (a : Int) (tN i j a : Int) (fN i j a : Int) (a : Int) (q : Int) ((i + 1 : Nat) : Int) l = some true
  | 0, k, q, hq, hk => by
    obtain ⟨k, rfl⟩ : ∃ m, k = m + 1 := ⟨k - 1, by omega⟩
    have h25 := okG_25 hi hj h
    have e := sights_ij i j hi hj
    rw [← h.1] at e
    obtain ⟨_, _, _, _, _, f1, f2⟩ := all_sights i j hi hj a ha
    simp only [laws_FnSightTurn.l0]
    rw [impl_SightMany_some _ l (by omega) k (by omega)]
    simp only [Option.bind_some]
    unfold sightMany
    rw [if_pos (okG_grid hi hj h), e, if_neg (by omega)]
    simp only [if_true]
    rw [impl_SightFlip_some _ l _ (by omega) k (by omega), sF_ij hi hj h _ f1, f2]
    simp
  | r + 1, k, q, hq, hk => by
    obtain ⟨k, rfl⟩ : ∃ m, k = m + 1 := ⟨k - 1, by omega⟩
    have h25 := okG_25 hi hj h
    have e := sights_ij i j hi hj
    rw [← h.1] at e
    have ih := turn_l0 hi hj h a ha r k (q + 1) (by omega) (by omega)
    rw [show ((q + 1 : Nat) : Int) = (q : Int) + 1 from by omega] at ih
    have hs : sN i j ≤ 20 := by unfold sN; omega
    simp only [laws_FnSightTurn.l0]
    rw [impl_SightMany_some _ l (by omega) k (by omega)]
    simp only [Option.bind_some]
    have hm : sightMany ((i + 1 : Nat) : Int) l = (sN i j : Int) := by
      unfold sightMany
      rw [if_pos (okG_grid hi hj h), e]
    rw [hm, if_pos (by omega), w64 ((q : Int) + 1) (by omega) (by omega), ih]
    by_cases hqa : q = a
    · rw [if_pos (by omega)]
    · have n0 := all_one i j hi hj a ha q (by omega)
      simp [hqa] at n0
      obtain ⟨n1, n2⟩ := n0
      rw [if_neg (by omega), impl_SightTurn_some _ l _ (by omega) k (by omega), sT_ij hi hj h q (by omega)]
      simp only [Option.bind_some]
      rw [if_neg (by omega), impl_SightFlip_some _ l _ (by omega) k (by omega), sF_ij hi hj h q (by omega)]
      simp only [Option.bind_some]
      rw [if_neg (by omega)]
theorem sT_no {n : Int} {l : List S24} {a : Int} (h : ¬ (gridOkB n l = true ∧ 0 ≤ a ∧ a < sights n l.length)) : sightTurn n l a = -1 := by
  unfold sightTurn
  rw [if_neg h]
theorem FnSightTurn : laws_FnSightTurn.Pure := by
  intro l0 _ _ hw
  refine ⟨301, ?_⟩
  unfold laws_FnSightTurn.f
  by_cases hb : (l0.length : Int) > 1048576
  · rw [if_pos hb]
  rw [if_neg hb]
  obtain ⟨n, l, a, e, hl⟩ := drawSightRay_some l0 (bytes_of hw) 301 (by omega)
  have e' : spec_DrawSightTurn.f 301 l0 = some (n, l, a) := by
    unfold spec_DrawSightTurn.f
    rw [e]
    rfl
  rw [e']
  simp only [Option.bind_some, impl_SightTurn_some n l a (by omega) 301 (by omega), impl_SightFlip_some n l a (by omega) 301 (by omega), spec_SightTurn_some n l a (by omega) 301 (by omega), spec_SightFlip_some n l a (by omega) 301 (by omega), if_true]
  by_cases hg : gridOkB n l = true ∧ 0 ≤ a ∧ a < sights n l.length
  · obtain ⟨hg, h0, h1⟩ := hg
    obtain ⟨i, j, hi, hj, rfl, ho⟩ := okG_of hg
    obtain ⟨a, rfl⟩ := Int.eq_ofNat_of_zero_le h0
    rw [ho.1, sights_ij i j hi hj] at h1
    have ha : a < sN i j := by omega
    obtain ⟨c1, c2, c3, c4, c5, c6, c7⟩ := all_sights i j hi hj a ha
    obtain ⟨t1, o1⟩ := turn_ij hi hj ho
    obtain ⟨t2, o2⟩ := turn_ij hj hi o1
    obtain ⟨t3, o3⟩ := turn_ij hi hj o2
    have h25 := okG_25 hi hj ho
    have o1l := okG_25 hj hi o1
    have o2l := okG_25 hi hj o2
    have o3l := okG_25 hj hi o3
    have hlp := turn_l0 hi hj ho a ha (sN i j) 300 0 (by omega) (by unfold sN; omega)
    rw [show ((0 : Nat) : Int) = 0 from rfl] at hlp
    rw [sT_ij hi hj ho a ha, sF_ij hi hj ho a ha, decide_eq_false (by omega)]
    have s1 := sT_ij hj hi o1 (tN i j a) c2
    have s2 := sT_ij hi hj o2 (tN j i (tN i j a)) c3
    have s3 := sT_ij hj hi o3 (tN i j (tN j i (tN i j a))) c4
    rw [c5] at s3
    generalize movC true l (TP i j) = x at *
    generalize movC true x (TP j i) = y at *
    generalize movC true y (TP i j) = z at *
    simp only [laws_FnSightTurn.j0, Bool.false_eq_true, if_false, impl_GridTurn_some _ _ (show l.length ≤ 1099511627776 by omega), Option.bind_some, t1, impl_GridTurn_some _ _ (show x.length ≤ 1099511627776 by omega), t2, impl_GridTurn_some _ _ (show y.length ≤ 1099511627776 by omega), t3, impl_SightTurn_some _ x _ (by omega) 300 (by omega), s1, impl_SightTurn_some _ y _ (by omega) 300 (by omega), s2, impl_SightTurn_some _ z _ (by omega) 300 (by omega), s3, hlp]
  · rw [sT_no hg, decide_eq_true (by omega)]
    simp only [laws_FnSightTurn.j0, if_true, spec_SightTurn_some n l a (by omega) 300 (by omega), sT_no hg, Option.bind_some, spec_SightFlip_some n l a (by omega) 300 (by omega)]
    simp
end Go.Proofs.Ytbnofnamkgfadaa.Pure
