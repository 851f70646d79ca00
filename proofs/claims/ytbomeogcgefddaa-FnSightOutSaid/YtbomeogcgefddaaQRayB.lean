/- PROVED: what RayNext tells of a valid grid depends on its shape alone. No condition. -/
import Derived.Test.YtbomeogcgefddaaQShape
import Derived.Test.YtbomeogcgefddaaQRay
namespace Go.Proofs.Ytbomeogcgefddaa.P
open Go.RowKit Go.Proofs.YtbomeogcgefddaaW.PrintWords Go.Proofs.YtbomeogcgefddaaW.PrintLast Go.Proofs.YtbomeogcgefddaaW.PrintMore
set_option linter.unusedVariables false
set_option linter.unusedSimpArgs false
/-- What RayNext tells of a valid grid. -/
def rayB (n : Int) (m : Nat) (a d : Int) : Int × Int × Bool :=
  if decide (0 ≤ a) && (decide (a < (m : Int)) && (decide (0 ≤ d) && decide (d ≤ 3))) then stepOf n m a d else (0, 0, false)
theorem rayNext_B {n : Int} {l : List S42} (h : gridOkB n l = true) (a d : Int) : rayNext n l a d = rayB n l.length a d := by
  unfold rayNext rayB
  simp [h]
theorem rayNext_no {n : Int} {l : List S42} (h : ¬ gridOkB n l = true) (a d : Int) : rayNext n l a d = (0, 0, false) := by
  unfold rayNext
  simp [h]
theorem rayB_no {n : Int} {m : Nat} {a d : Int} (h : ¬ (0 ≤ a ∧ a < (m : Int) ∧ 0 ≤ d ∧ d ≤ 3)) : rayB n m a d = (0, 0, false) := by
  unfold rayB
  simp
  intro h1 h2 h3 h4
  exact absurd ⟨h1, h2, h3, h4⟩ h
end Go.Proofs.Ytbomeogcgefddaa.P
