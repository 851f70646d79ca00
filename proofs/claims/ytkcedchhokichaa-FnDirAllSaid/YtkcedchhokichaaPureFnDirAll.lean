/- PROVED: the pure statement of FnDirAll: a mirror turns all light, other kinds none. No condition. -/
import Derived.Test.YtkcedchhokichaaPx8
import Derived.Test.YtkcedchhokichaaQDir
import Derived.Test.YtkcedchhokichaaQDrawDir
namespace Go.Proofs.Ytkcedchhokichaa.Pure
open Go.RowKit Go.Proofs.Ytkcedchhokichaa.P Go.Proofs.YtkcedchhokichaaW.PrintWords Go.Proofs.YtkcedchhokichaaW.PrintLast
set_option linter.unusedVariables false
set_option linter.unusedSimpArgs false
theorem FnDirAll : laws_FnDirAll.Pure := by
  intro l0 _ _ hw
  refine ⟨1, ?_⟩
  unfold laws_FnDirAll.f
  by_cases hb : (l0.length : Int) > 1048576
  · rw [if_pos hb]
  rw [if_neg hb]
  obtain ⟨a, b, e⟩ := drawDirTurn_some 0 l0 (bytes_of hw)
  rw [e]
  simp only [Option.bind_some, spec_DirTurn_some 0 a b, impl_DirTurn.f, if_true]
  by_cases h : 0 ≤ b ∧ b ≤ 3
  · rw [if_pos h]
    have hd : b = 0 ∨ b = 1 ∨ b = 2 ∨ b = 3 := by omega
    clear h
    by_cases k2 : a = 2
    · subst k2
      rcases hd with rfl | rfl | rfl | rfl <;> simp [dirTurn] <;> decide
    by_cases k4 : a = 4
    · subst k4
      rcases hd with rfl | rfl | rfl | rfl <;> simp [dirTurn] <;> decide
    by_cases k3 : a = 3
    · subst k3
      rcases hd with rfl | rfl | rfl | rfl <;> simp [dirTurn] <;> decide
    by_cases k5 : a = 5
    · subst k5
      rcases hd with rfl | rfl | rfl | rfl <;> simp [dirTurn] <;> decide
    have e : dirTurn a b = b := by simp [dirTurn, k2, k3, k4, k5]
    rw [e]
    simp [k2, k3, k4, k5]
  · rw [if_neg h]
    simp
end Go.Proofs.Ytkcedchhokichaa.Pure
