/- PROVED: the pure statement of FnGridStrict: a grid is written in one way. No condition. -/
import Derived.Test.YtpjdhpkfenohgaaPx42
import Derived.Test.YtpjdhpkfenohgaaPx25
import Derived.Test.YtpjdhpkfenohgaaPx24
import Derived.Test.YtpjdhpkfenohgaaQDraw
import Derived.Test.YtpjdhpkfenohgaaQRead
import Derived.Test.YtpjdhpkfenohgaaQLl
namespace Go.Proofs.Ytpjdhpkfenohgaa.Pure
open Go.RowKit Go.Proofs.Ytpjdhpkfenohgaa.P Go.Proofs.YtpjdhpkfenohgaaW.PrintWords Go.Proofs.YtpjdhpkfenohgaaW.PrintLast
set_option linter.unusedVariables false
set_option linter.unusedSimpArgs false
theorem of_some (s : List Int) (hs : Bytes s) (p : Int) (l : List ByteArray) (hl : 1 ≤ l.length) (hl2 : ∀ x ∈ l, x.size ≤ 10) (hp : 0 ≤ p) (hp1 : p ≤ 600000000) (k : Nat) (hk : 0 < k) : ∃ x q, spec_l6Rd_of.f k s p l = some (x, q) ∧ x.size ≤ 10 := by
  unfold spec_l6Rd_of.f
  obtain ⟨v, e, h0, h1⟩ := pick_at s hs p (l.length : Int) hp (by omega) k hk
  have h1 := h1 (by omega)
  rw [e]
  simp only [Option.bind_some]
  rw [if_pos h0, if_pos h1]
  refine ⟨_, _, rfl, ?_⟩
  obtain ⟨v, rfl⟩ := Int.eq_ofNat_of_zero_le h0
  have hv : v < l.length := by omega
  refine hl2 _ ?_
  unfold rdOf
  rw [Int.toNat_natCast, List.getD_eq_getElem?_getD, List.getElem?_eq_getElem hv]
  exact List.getElem_mem hv
theorem drawGridRead_some (s : List Int) (hs : Bytes s) (k : Nat) (hk : 100 < k) : ∃ t, spec_DrawGridRead.f k s = some t ∧ t.size ≤ 1048576 := by
  unfold spec_DrawGridRead.f
  obtain ⟨s, e, hs⟩ := l6Open_some s hs
  rw [e, Option.bind_some]
  obtain ⟨n, l, p', e, a1, a2, a3, a4, a5, a6⟩ := gridDraw_some s hs 0 (by omega) (by omega) k (by omega)
  rw [e, Option.bind_some]
  have hsz : (textOf n l).size ≤ 60 := by
    unfold textOf
    split
    · rw [ba_size]
      have := textL_le n l l.length
      omega
    · simp [ByteArray.size]
  have hT := spec_GridText_some n l (by omega) k (by omega)
  generalize textOf n l = t at hsz hT
  rw [hT, Option.bind_some]
  rw [w64 ((t.size : Int) + 1) (by omega) (by omega)]
  obtain ⟨v, e, h0, h1⟩ := pick_at s hs p' ((t.size : Int) + 1) (by omega) (by omega) k (by omega)
  have h1 := h1 (by omega)
  rw [e, Option.bind_some]
  obtain ⟨u, e, g0, g1⟩ := pick_at s hs (p' + 1) 8 (by omega) (by omega) k (by omega)
  rw [e, Option.bind_some]
  have ex : ∀ a b : Nat, (t.extract a b).size ≤ 60 := by
    intro a b
    rw [ByteArray.size_extract]
    omega
  split
  · first | rw [if_pos h0, if_pos (by omega)] | rw [if_pos (by omega)]
    exact ⟨_, rfl, Nat.le_trans (ex _ _) (by decide)⟩
  · split
    · first | rw [if_pos h0, if_pos (by omega)] | rw [if_pos (by omega)]
      obtain ⟨x, q, e, hx⟩ := of_some s hs (p' + 1 + 1) [(⟨#[48]⟩ : ByteArray), (⟨#[32]⟩ : ByteArray), (⟨#[10]⟩ : ByteArray), (⟨#[46]⟩ : ByteArray), (⟨#[35]⟩ : ByteArray), (⟨#[113]⟩ : ByteArray)] (by simp) (by decide) (by omega) (by omega) k (by omega)
      rw [e, Option.bind_some]
      have b1 := ex 0 v.toNat
      have b2 := ex v.toNat t.size
      have b3 : (t.extract 0 v.toNat).size + x.size ≤ 70 := Nat.add_le_add b1 hx
      have b4 : ((t.extract 0 v.toNat) ++ x).size + (t.extract v.toNat t.size).size ≤ 130 := by rw [ByteArray.size_append]; exact Nat.add_le_add b3 b2
      rw [if_pos (Nat.le_trans b3 (by decide)), if_pos (Nat.le_trans b4 (by decide))]
      exact ⟨_, rfl, by rw [ByteArray.size_append]; exact Nat.le_trans b4 (by decide)⟩
    · split
      · obtain ⟨x, q, e, hx⟩ := of_some s hs (p' + 1 + 1) [(⟨#[10]⟩ : ByteArray), (⟨#[46, 10]⟩ : ByteArray), (⟨#[46, 46, 46, 46, 46, 10]⟩ : ByteArray), (⟨#[46]⟩ : ByteArray)] (by simp) (by decide) (by omega) (by omega) k (by omega)
        rw [e, Option.bind_some]
        have b3 : t.size + x.size ≤ 70 := Nat.add_le_add hsz hx
        rw [if_pos (Nat.le_trans b3 (by decide))]
        exact ⟨_, rfl, by rw [ByteArray.size_append]; exact Nat.le_trans b3 (by decide)⟩
      · exact ⟨_, rfl, Nat.le_trans hsz (by decide)⟩
theorem FnGridStrict : laws_FnGridStrict.Pure := by
  intro l0 _ _ hw
  refine ⟨1000, ?_⟩
  unfold laws_FnGridStrict.f
  by_cases hb : (l0.length : Int) > 1048576
  · rw [if_pos hb]
  rw [if_neg hb]
  obtain ⟨t, e, ht⟩ := drawGridRead_some l0 (bytes_of hw) 1000 (by omega)
  rw [e]
  simp only [Option.bind_some]
  rcases read_cases t ht with h | ⟨N, l, hI, h⟩
  · obtain ⟨a, b⟩ := h 1000 (by omega)
    unfold noGrid at a b
    simp only [a, b, Option.bind_some, bne_self_eq_false, Bool.false_eq_true, if_false, llGrid_same 0 [] (by simp) 1000 (by simp), if_true]
    simp only [laws_FnGridStrict.j0, Bool.not_false, if_true, beq_self_eq_true, llGrid_same 0 [] (by simp) 999 (by simp), Option.bind_some]
  · obtain ⟨a, b⟩ := h 1000 (by omega)
    obtain ⟨R, h1, h5, r1, r5, hlr, hs, hall, hat⟩ := hI.shape
    have hl : l.length ≤ 25 := by
      have hN : N = 1 ∨ N = 2 ∨ N = 3 ∨ N = 4 ∨ N = 5 := by omega
      rcases hN with rfl | rfl | rfl | rfl | rfl <;> omega
    simp only [a, b, Option.bind_some, bne_self_eq_false, Bool.false_eq_true, if_false, llGrid_same (N : Int) l (by omega) 1000 (by omega), if_true]
    simp only [laws_FnGridStrict.j0, Bool.not_true, Bool.false_eq_true, if_false, impl_GridOk_some (N : Int) l (by omega) 999 (by omega), hI.1, Option.bind_some, if_true, impl_GridText_some (N : Int) l (by omega) 999 (by omega)]
    congr 1
    rw [beq_iff_eq, textOf_toList, if_pos hI.1, tl_data, hI.2]
end Go.Proofs.Ytpjdhpkfenohgaa.Pure
