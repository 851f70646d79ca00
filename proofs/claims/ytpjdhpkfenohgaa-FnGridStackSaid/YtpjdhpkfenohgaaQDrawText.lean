/- PROVED: a drawn grid is a grid of at most 26 cells. Condition: the code is bytes. -/
import Derived.Test.YtpjdhpkfenohgaaPx23
import Derived.Test.YtpjdhpkfenohgaaQDraw
namespace Go.Proofs.Ytpjdhpkfenohgaa.P
open Go.RowKit Go.Proofs.YtpjdhpkfenohgaaW.PrintWords Go.Proofs.YtpjdhpkfenohgaaW.PrintLast Go.Proofs.YtpjdhpkfenohgaaW.PrintMore
set_option linter.unusedVariables false
set_option linter.unusedSimpArgs false
theorem drawGridText_some (s : List Int) (hs : Bytes s) (k : Nat) (hk : 60 < k) : ∃ n l, spec_DrawGridText.f k s = some (n, l) ∧ l.length ≤ 26 := by
  unfold spec_DrawGridText.f
  obtain ⟨s, e, hs⟩ := l6Open_some s hs
  rw [e]
  simp only [Option.bind_some]
  obtain ⟨n, l, q, e, h1, h2, h3, h4, h5⟩ := someDraw_some s hs 0 (by omega) (by omega) k (by omega)
  rw [e]
  exact ⟨_, _, rfl, h3⟩
end Go.Proofs.Ytpjdhpkfenohgaa.P
