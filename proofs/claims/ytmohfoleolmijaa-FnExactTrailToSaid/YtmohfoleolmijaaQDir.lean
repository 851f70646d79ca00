/- PROVED: the reference's DirTurn returns, for every kind and direction, what dirTurn tells, or -1 for what is no direction. No condition. -/
import Derived.Test.YtmohfoleolmijaaPx26
import Derived.Test.YtmohfoleolmijaaH1Dir
import Derived.Test.YtmohfoleolmijaaQBase
namespace Go.Proofs.Ytmohfoleolmijaa.P
open Go.RowKit Go.Proofs.YtmohfoleolmijaaW.PrintWords Go.Proofs.YtmohfoleolmijaaW.PrintLast Go.Proofs.YtmohfoleolmijaaW.PrintMore
set_option linter.unusedVariables false
set_option linter.unusedSimpArgs false

theorem spec_DirTurn_some (k : Nat) (a0 a1 : Int) : spec_DirTurn.f (k + 1) a0 a1 = some (if 0 ≤ a1 ∧ a1 ≤ 3 then dirTurn a0 a1 else -1) := by
  unfold spec_DirTurn.f spec_l6In.f
  by_cases h0 : a1 ≥ 0
  · rw [if_pos h0]
    by_cases h3 : a1 ≤ 3
    · rw [if_pos (show 0 ≤ a1 ∧ a1 ≤ 3 from ⟨h0, h3⟩)]
      simp only [Option.bind_some, h3, decide_true, if_true]
      have hd : a1 = 0 ∨ a1 = 1 ∨ a1 = 2 ∨ a1 = 3 := by omega
      have x0 : Go.bits .xor .i64 0 1 = 1 := by decide
      have x1 : Go.bits .xor .i64 1 1 = 0 := by decide
      have x2 : Go.bits .xor .i64 2 1 = 3 := by decide
      have x3 : Go.bits .xor .i64 3 1 = 2 := by decide
      clear h0 h3
      by_cases k2 : a0 = 2
      · subst k2
        rcases hd with rfl | rfl | rfl | rfl <;> simp [spec_DirTurn.j0, dirTurn, x0, x1, x2, x3]
      rw [if_neg k2]
      by_cases k4 : a0 = 4
      · subst k4
        rcases hd with rfl | rfl | rfl | rfl <;> simp [spec_DirTurn.j0, dirTurn, x0, x1, x2, x3]
      by_cases k3 : a0 = 3
      · subst k3
        rcases hd with rfl | rfl | rfl | rfl <;> simp [spec_DirTurn.j0, dirTurn, w64]
      by_cases k5 : a0 = 5
      · subst k5
        rcases hd with rfl | rfl | rfl | rfl <;> simp [spec_DirTurn.j0, dirTurn, w64]
      have e4 : (a0 == 4) = false := by simpa using k4
      simp [spec_DirTurn.j0, dirTurn, k2, k3, k4, k5, e4]
    · simp [h3]
  · simp [h0]
end Go.Proofs.Ytmohfoleolmijaa.P
