/- PROVED: a drawn kind and direction are numbers. Condition: the code is bytes. -/
import Derived.Test.YtkcedchhokichaaPx2
import Derived.Test.YtkcedchhokichaaQPick
namespace Go.Proofs.Ytkcedchhokichaa.P
open Go.RowKit Go.Proofs.YtkcedchhokichaaW.PrintWords Go.Proofs.YtkcedchhokichaaW.PrintLast Go.Proofs.YtkcedchhokichaaW.PrintMore
set_option linter.unusedVariables false
set_option linter.unusedSimpArgs false
theorem drawDirTurn_some (k : Nat) (l : List Int) (hl : Bytes l) : ∃ a b, spec_DrawDirTurn.f (k + 1) l = some (a, b) := by
  unfold spec_DrawDirTurn.f
  obtain ⟨s, e, hs⟩ := l6Open_some l hl
  rw [e]
  simp only [Option.bind_some]
  obtain ⟨v, e, _, _⟩ := pick_some s hs 0 10 (by omega) (by omega) k
  rw [e]
  simp only [Option.bind_some]
  obtain ⟨v, e, _, _⟩ := pick_some s hs (0 + 1) 5 (by omega) (by omega) k
  rw [e]
  simp only [Option.bind_some]
  obtain ⟨v, e, _, _⟩ := pick_some s hs (0 + 1 + 1) 12 (by omega) (by omega) k
  rw [e]
  exact ⟨_, _, rfl⟩
end Go.Proofs.Ytkcedchhokichaa.P
