/- PROVED: a drawn ray that leaves is a grid of at most 26 cells and two numbers. Condition: the code is bytes. -/
import Derived.Test.YtbomeogcgefddaaPx13
import Derived.Test.YtbomeogcgefddaaQDrawPlace
import Derived.Test.YtbomeogcgefddaaQSightRay
namespace Go.Proofs.Ytbomeogcgefddaa.P
open Go.RowKit Go.Proofs.YtbomeogcgefddaaW.PrintWords Go.Proofs.YtbomeogcgefddaaW.PrintLast Go.Proofs.YtbomeogcgefddaaW.PrintMore
set_option linter.unusedVariables false
set_option linter.unusedSimpArgs false
theorem drawSightOf_some (s : List Int) (hs : Bytes s) (k : Nat) (hk : 60 < k) : ∃ n l a d, spec_DrawSightOf.f k s = some (n, l, a, d) ∧ l.length ≤ 26 := by
  obtain ⟨k, rfl⟩ : ∃ m, k = m + 1 := ⟨k - 1, by omega⟩
  unfold spec_DrawSightOf.f
  obtain ⟨s, e, hs⟩ := l6Open_some s hs
  rw [e]
  simp only [Option.bind_some]
  obtain ⟨n, l, q, e, h1, h2, h3, h4, h5⟩ := someDraw_some s hs 0 (by omega) (by omega) (k + 1) (by omega)
  rw [e]
  simp only [Option.bind_some]
  obtain ⟨v, e, _, _⟩ := pick_at s hs q 2 (by omega) (by omega) (k + 1) (by omega)
  rw [e]
  simp only [Option.bind_some, spec_GridOk_some n l (by omega) (k + 1) (by omega)]
  have J : ∀ b : Bool, (b = true → gridOkB n l = true) → ∃ n' l' a d, spec_DrawSightOf.j0 (k + 1) b s (q + 1) n l = some (n', l', a, d) ∧ l'.length ≤ 26 := by
    intro b hb
    simp only [spec_DrawSightOf.j0]
    cases b
    · rw [if_neg (by decide)]
      obtain ⟨a, r, e, h6, h7⟩ := placeDraw_some s hs (q + 1) (by omega) (by omega) n l k (by omega)
      rw [e]
      simp only [Option.bind_some]
      obtain ⟨v, e, _, _⟩ := pick_at s hs r 4 (by omega) (by omega) k (by omega)
      rw [e]
      simp only [Option.bind_some]
      obtain ⟨u, e, _, _⟩ := pick_at s hs (r + 1) 24 (by omega) (by omega) k (by omega)
      rw [e]
      exact ⟨_, _, _, _, rfl, h3⟩
    · have hg := (shape_of (hb rfl)).1
      have hs2 := sights_in hg
      rw [if_pos rfl, spec_l3Many_some hg]
      simp only [Option.bind_some]
      obtain ⟨v, e, v0, v1⟩ := pick_at s hs (q + 1) (sights n l.length) (by omega) (by omega) k (by omega)
      have v1 := v1 (by omega)
      rw [e]
      simp only [Option.bind_some]
      rw [spec_l3Ray_some hg v v0 v1]
      exact ⟨_, _, _, _, rfl, h3⟩
  split
  · exact J _ (fun h => h)
  · exact J false (fun h => by cases h)
end Go.Proofs.Ytbomeogcgefddaa.P
