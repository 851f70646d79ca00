/- PROVED: the pure theorem of FnExactGridRead: both functions read the same, into memory of its own. No condition. -/
import Derived.Test.YtpjdhpkfenohgaaPx37
import Derived.Test.YtpjdhpkfenohgaaQRead
import Derived.Test.YtpjdhpkfenohgaaQMark
namespace Go.Proofs.Ytpjdhpkfenohgaa.Pure
open Go.RowKit Go.Proofs.Ytpjdhpkfenohgaa.P Go.Proofs.YtpjdhpkfenohgaaW.PrintWords Go.Proofs.YtpjdhpkfenohgaaW.PrintLast
set_option linter.unusedVariables false
set_option linter.unusedSimpArgs false
theorem exact_read (s : ByteArray) (n : Int) (l : List S39) (b : Bool) (hl : l.length ≤ 25) (k : Nat) (hk : 1000 < k) (hs : ¬ (s.size : Int) > 1048576) (h : ∀ k, 300 < k → impl_GridRead.f k s = some (n, l, b) ∧ spec_GridRead.f k s = some (n, l, b)) : laws_FnExactGridRead.f k s = some true := by
  obtain ⟨k, rfl⟩ : ∃ m, k = m + 2 := ⟨k - 2, by omega⟩
  have hlen := mk_length l.length 1
  unfold laws_FnExactGridRead.f
  rw [if_neg hs]
  have I := fun k hk => (h k hk).1
  simp only [(h (k + 2) (by omega)).2, I (k + 2) (by omega), Option.bind_some, eqGrid_same n l (by omega) (k + 2) (by omega), if_true, bne_self_eq_false]
  simp only [laws_FnExactGridRead.j0, Bool.false_eq_true, if_false, markGrid_some n l (by omega) (k + 1) (by omega), Option.bind_some, heldGrid_some n l.length (by omega) (k + 1) (by omega), I (k + 1) (by omega), eqGrid_same n l (by omega) (k + 1) (by omega), if_true, bne_self_eq_false]
  rw [if_neg (by omega)]
  simp only [laws_FnExactGridRead.j1, Bool.false_eq_true, if_false, heldGrid_some n l.length (by omega) k (by omega), Option.bind_some, if_true]
  rw [if_neg (by omega)]
theorem FnExactGridRead : laws_FnExactGridRead.Pure := by
  intro s _
  refine ⟨2000, ?_⟩
  by_cases hs : (s.size : Int) > 1048576
  · unfold laws_FnExactGridRead.f
    rw [if_pos hs]
  · rcases read_cases s (by omega) with h | ⟨N, l, hI, h⟩
    · exact exact_read s 0 [] false (by simp) 2000 (by omega) hs h
    · obtain ⟨R, h1, h5, r1, r5, hl, _⟩ := hI.shape
      refine exact_read s N l true ?_ 2000 (by omega) hs h
      have hN : N = 1 ∨ N = 2 ∨ N = 3 ∨ N = 4 ∨ N = 5 := by omega
      rcases hN with rfl | rfl | rfl | rfl | rfl <;> omega
end Go.Proofs.Ytpjdhpkfenohgaa.Pure
