/- PROVED: a drawn cell that is put is a grid of at most 26 cells, a number and a cell. Condition: the code is bytes. -/
import Derived.Test.YtbomeogcgefddaaPx14
import Derived.Test.YtbomeogcgefddaaQDrawPlace
namespace Go.Proofs.Ytbomeogcgefddaa.P
open Go.RowKit Go.Proofs.YtbomeogcgefddaaW.PrintWords Go.Proofs.YtbomeogcgefddaaW.PrintLast Go.Proofs.YtbomeogcgefddaaW.PrintMore
set_option linter.unusedVariables false
set_option linter.unusedSimpArgs false
theorem drawGridPut_some (s : List Int) (hs : Bytes s) (k : Nat) (hk : 60 < k) : ∃ n l a c d, spec_DrawGridPut.f k s = some (n, l, a, c, d) ∧ l.length ≤ 26 := by
  unfold spec_DrawGridPut.f
  obtain ⟨s, e, hs⟩ := l6Open_some s hs
  rw [e]
  simp only [Option.bind_some]
  obtain ⟨n, l, q, e, h1, h2, h3, h4, h5⟩ := someDraw_some s hs 0 (by omega) (by omega) k (by omega)
  rw [e]
  simp only [Option.bind_some]
  obtain ⟨c, d, r, e, h6, h7, _, _⟩ := cellDraw_some s hs q (by omega) (by omega) k (by omega)
  rw [e]
  simp only [Option.bind_some]
  obtain ⟨v, e, _, _⟩ := pick_at s hs r 16 (by omega) (by omega) k (by omega)
  rw [e]
  simp only [Option.bind_some]
  split
  · obtain ⟨c, d, e, _, _⟩ := off_some s hs (r + 1) (by omega) (by omega) k (by omega)
    rw [e]
    simp only [Option.bind_some]
    obtain ⟨a, r, e, h6, h7⟩ := placeDraw_some s hs (r + 1 + 1) (by omega) (by omega) n l k (by omega)
    rw [e]
    exact ⟨_, _, _, _, _, rfl, h3⟩
  · obtain ⟨a, r, e, h6, h7⟩ := placeDraw_some s hs (r + 1) (by omega) (by omega) n l k (by omega)
    rw [e]
    exact ⟨_, _, _, _, _, rfl, h3⟩
end Go.Proofs.Ytbomeogcgefddaa.P
