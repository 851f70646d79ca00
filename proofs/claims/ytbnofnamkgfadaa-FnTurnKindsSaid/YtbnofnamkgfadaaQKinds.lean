/- PROVED: llKinds counts the cells of a kind. Condition: at most 25 cells. -/
import Derived.Test.YtbnofnamkgfadaaPx31
import Derived.Test.YtbnofnamkgfadaaQMovD
namespace Go.Proofs.Ytbnofnamkgfadaa.P
open Go.RowKit Go.Proofs.YtbnofnamkgfadaaW.PrintWords Go.Proofs.YtbnofnamkgfadaaW.PrintLast Go.Proofs.YtbnofnamkgfadaaW.PrintMore
set_option linter.unusedVariables false
set_option linter.unusedSimpArgs false
theorem llKinds_l0 (n kind : Int) (l : List S24) (hl : l.length ≤ 25) : ∀ (r k i : Nat) (c : Int), i + r = l.length → 2 * r < k → 0 ≤ c → c + (r : Int) ≤ 1000 → laws_llKinds.l0 k kind c (i : Int) n l = some (c + (cntK kind (l.drop i) : Int))
  | 0, k, i, c, hi, hk, h0, h1 => by
    obtain ⟨k, rfl⟩ : ∃ m, k = m + 1 := ⟨k - 1, by omega⟩
    simp only [laws_llKinds.l0]
    rw [if_neg (by omega), List.drop_eq_nil_of_le (by omega)]
    simp [cntK]
  | r + 1, k, i, c, hi, hk, h0, h1 => by
    obtain ⟨k, rfl⟩ : ∃ m, k = m + 2 := ⟨k - 2, by omega⟩
    have hil : i < l.length := by omega
    have ih0 := llKinds_l0 n kind l hl r k (i + 1) c (by omega) (by omega) (by omega) (by omega)
    have ih1 := llKinds_l0 n kind l hl r k (i + 1) (c + 1) (by omega) (by omega) (by omega) (by omega)
    rw [show ((i + 1 : Nat) : Int) = (i : Int) + 1 from by omega] at ih0 ih1
    have hd : cntK kind (l.drop i) = cntK kind (l.drop (i + 1)) + (if canK l[i].f0 = kind then 1 else 0) := by
      unfold cntK
      rw [List.drop_eq_getElem_cons hil, List.countP_cons]
      simp
    simp only [laws_llKinds.l0]
    rw [if_pos (by omega), if_pos (by omega), rd_at l i hil, hd]
    have w1 : wrap64 ((i : Int) + 1) = (i : Int) + 1 := w64 _ (by omega) (by omega)
    have w2 : wrap64 (c + 1) = c + 1 := w64 _ (by omega) (by omega)
    have fin : ∀ X : Int, (if X = kind then laws_llKinds.l0 k kind (wrap64 (c + 1)) (wrap64 ((i : Int) + 1)) n l else laws_llKinds.l0 k kind c (wrap64 ((i : Int) + 1)) n l) = some (c + ((cntK kind (l.drop (i + 1)) + (if X = kind then 1 else 0) : Nat) : Int)) := by
      intro X
      rw [w1, w2]
      by_cases h : X = kind
      · rw [if_pos h, if_pos h, ih1]
        congr 1
        omega
      · rw [if_neg h, if_neg h, ih0]
        rfl
    generalize l[i].f0 = f at *
    by_cases h3 : f = 3
    · rw [if_pos h3]
      simp only [laws_llKinds.j1]
      rw [if_neg (by decide), fin 2, show canK f = 2 from by rw [h3]; rfl]
    · rw [if_neg h3]
      simp only [laws_llKinds.j1]
      by_cases h5 : f = 5
      · rw [if_pos h5, fin 4, show canK f = 4 from by rw [h5]; rfl]
      · rw [if_neg h5, fin f, show canK f = f from by unfold canK; rw [if_neg h3, if_neg h5]]
theorem llKinds_some (n : Int) (l : List S24) (kind : Int) (hl : l.length ≤ 25) (k : Nat) (hk : 60 < k) : laws_llKinds.f k n l kind = some (cntK kind l : Int) := by
  unfold laws_llKinds.f
  have := llKinds_l0 n kind l hl l.length k 0 0 (by omega) (by omega) (by omega) (by omega)
  rw [show ((0 : Nat) : Int) = 0 from rfl] at this
  rw [this]
  simp
end Go.Proofs.Ytbnofnamkgfadaa.P
