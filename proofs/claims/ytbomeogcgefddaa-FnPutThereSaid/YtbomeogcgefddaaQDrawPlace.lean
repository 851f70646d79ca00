/- PROVED: a drawn place is a number. Condition: the code is bytes. -/
import Derived.Test.YtbomeogcgefddaaPx9
import Derived.Test.YtbomeogcgefddaaQDraw
namespace Go.Proofs.Ytbomeogcgefddaa.P
open Go.RowKit Go.Proofs.YtbomeogcgefddaaW.PrintWords Go.Proofs.YtbomeogcgefddaaW.PrintLast Go.Proofs.YtbomeogcgefddaaW.PrintMore
set_option linter.unusedVariables false
set_option linter.unusedSimpArgs false
theorem placeDraw_some (s : List Int) (hs : Bytes s) (p : Int) (hp : 0 ≤ p) (hp1 : p ≤ 700000000) (n : Int) (l : List S42) (k : Nat) (hk : 3 < k) :
    ∃ a p', spec_l71Place.f k s p n l = some (a, p') ∧ p ≤ p' ∧ p' ≤ p + 2 := by
  obtain ⟨k, rfl⟩ : ∃ m, k = m + 1 := ⟨k - 1, by omega⟩
  unfold spec_l71Place.f
  have J : ∀ (b : Bool) (q : Int), 0 ≤ q → q ≤ 800000000 → ∃ a, spec_l71Place.j0 (k + 1) b s q n l = some (a, q + 1) := by
    intro b q hq hq1
    simp only [spec_l71Place.j0, Option.bind_some]
    obtain ⟨x, e, b0, b1⟩ := pick_at s hs q 3 (by omega) (by omega) k (by omega)
    have b1 := b1 (by omega)
    obtain ⟨y, e2, c0, c1⟩ := pick_at s hs q (l.length : Int) (by omega) (by omega) k (by omega)
    rw [e, e2]
    simp only [Option.bind_some]
    cases b
    · rw [if_neg (by decide)]
      exact ⟨_, rfl⟩
    · rw [if_pos rfl, if_pos b0, if_pos (by simp; omega)]
      exact ⟨_, rfl⟩
  split
  · obtain ⟨a, e⟩ := J true p hp (by omega)
    exact ⟨_, _, e, by omega, by omega⟩
  · obtain ⟨x, e, b0, b1⟩ := pick_at s hs p 24 (by omega) (by omega) (k + 1) (by omega)
    rw [e]
    simp only [Option.bind_some]
    obtain ⟨a, e⟩ := J (x == 0) (p + 1) (by omega) (by omega)
    exact ⟨_, _, e, by omega, by omega⟩
end Go.Proofs.Ytbomeogcgefddaa.P
