/- PROVED: the pure statement of FnDirBack: behind a mirror light goes back as it came. No condition. -/
import Derived.Test.YtkcedchhokichaaPx9
import Derived.Test.YtkcedchhokichaaQDir
import Derived.Test.YtkcedchhokichaaQDrawDir
namespace Go.Proofs.Ytkcedchhokichaa.Pure
open Go.RowKit Go.Proofs.Ytkcedchhokichaa.P Go.Proofs.YtkcedchhokichaaW.PrintWords Go.Proofs.YtkcedchhokichaaW.PrintLast
set_option linter.unusedVariables false
set_option linter.unusedSimpArgs false
theorem FnDirBack : laws_FnDirBack.Pure := by
  intro l0 _ _ hw
  refine ⟨2, ?_⟩
  unfold laws_FnDirBack.f
  by_cases hb : (l0.length : Int) > 1048576
  · rw [if_pos hb]
  rw [if_neg hb]
  obtain ⟨a, b, e⟩ := drawDirTurn_some 1 l0 (bytes_of hw)
  rw [e]
  simp only [Option.bind_some, spec_DirTurn_some 1 a b, spec_DirTurn_some 0 a b, impl_DirTurn.f, if_true, laws_FnDirBack.j0]
  by_cases h : 0 ≤ b ∧ b ≤ 3
  · rw [if_pos h]
    have hd : b = 0 ∨ b = 1 ∨ b = 2 ∨ b = 3 := by omega
    have t2 : Int.tmod 2 4 = 2 := by decide
    have t3 : Int.tmod 3 4 = 3 := by decide
    have t4 : Int.tmod 4 4 = 0 := by decide
    have t5 : Int.tmod 5 4 = 1 := by decide
    clear h
    by_cases k2 : a = 2
    · subst k2
      rcases hd with rfl | rfl | rfl | rfl <;> simp [dirTurn, w64, t2, t3, t4, t5]
    by_cases k4 : a = 4
    · subst k4
      rcases hd with rfl | rfl | rfl | rfl <;> simp [dirTurn, w64, t2, t3, t4, t5]
    by_cases k3 : a = 3
    · subst k3
      rcases hd with rfl | rfl | rfl | rfl <;> simp [dirTurn, w64, t2, t3, t4, t5]
    by_cases k5 : a = 5
    · subst k5
      rcases hd with rfl | rfl | rfl | rfl <;> simp [dirTurn, w64, t2, t3, t4, t5]
    have he : ∀ x, dirTurn a x = x := fun x => by simp [dirTurn, k2, k3, k4, k5]
    rw [he]
    rcases hd with rfl | rfl | rfl | rfl <;> simp [he, w64, t2, t3, t4, t5]
  · rw [if_neg h]
    simp
end Go.Proofs.Ytkcedchhokichaa.Pure
