/- PROVED: a drawn viewpoint is a grid of at most 26 cells and a number. Condition: the code is bytes. -/
import Derived.Test.YtbnofnamkgfadaaPx9
import Derived.Test.YtbnofnamkgfadaaPx8
import Derived.Test.YtbnofnamkgfadaaQDraw
import Derived.Test.YtbnofnamkgfadaaQSight
namespace Go.Proofs.Ytbnofnamkgfadaa.P
open Go.RowKit Go.Proofs.YtbnofnamkgfadaaW.PrintWords Go.Proofs.YtbnofnamkgfadaaW.PrintLast Go.Proofs.YtbnofnamkgfadaaW.PrintMore
set_option linter.unusedVariables false
set_option linter.unusedSimpArgs false
theorem sightDraw_some (s : List Int) (hs : Bytes s) (p : Int) (hp : 0 ≤ p) (hp1 : p ≤ 700000000) (n : Int) (l : List S24) (hl : l.length ≤ 26) (k : Nat) (hk : 40 < k) :
    ∃ a p', spec_l71Sight.f k s p n l = some (a, p') ∧ p ≤ p' ∧ p' ≤ p + 2 := by
  obtain ⟨k, rfl⟩ : ∃ m, k = m + 1 := ⟨k - 1, by omega⟩
  unfold spec_l71Sight.f
  have J : ∀ (c : Int) (b : Bool) (q : Int), 0 ≤ q → q ≤ 800000000 → ∃ a, spec_l71Sight.j0 (k + 1) c b s q = some (a, q + 1) := by
    intro c b q hq hq1
    simp only [spec_l71Sight.j0, Option.bind_some]
    obtain ⟨x, e, b0, b1⟩ := pick_at s hs q 3 (by omega) (by omega) k (by omega)
    have b1 := b1 (by omega)
    obtain ⟨y, e2, c0, c1⟩ := pick_at s hs q c (by omega) (by omega) k (by omega)
    rw [e, e2]
    simp only [Option.bind_some]
    cases b
    · rw [if_neg (by decide)]
      exact ⟨_, rfl⟩
    · rw [if_pos rfl, if_pos b0, if_pos (by simp; omega)]
      exact ⟨_, rfl⟩
  rw [spec_SightMany_some n l (by omega) (k + 1) (by omega)]
  simp only [Option.bind_some]
  split
  · obtain ⟨a, e⟩ := J (sightMany n l) true p hp (by omega)
    exact ⟨_, _, e, by omega, by omega⟩
  · obtain ⟨x, e, b0, b1⟩ := pick_at s hs p 24 (by omega) (by omega) (k + 1) (by omega)
    rw [e]
    simp only [Option.bind_some]
    obtain ⟨a, e⟩ := J (sightMany n l) (x == 0) (p + 1) (by omega) (by omega)
    exact ⟨_, _, e, by omega, by omega⟩
theorem drawSightRay_some (s : List Int) (hs : Bytes s) (k : Nat) (hk : 60 < k) : ∃ n l a, spec_DrawSightRay.f k s = some (n, l, a) ∧ l.length ≤ 26 := by
  unfold spec_DrawSightRay.f
  obtain ⟨s, e, hs⟩ := l6Open_some s hs
  rw [e]
  simp only [Option.bind_some]
  obtain ⟨n, l, q, e, h1, h2, h3, h4, h5⟩ := someDraw_some s hs 0 (by omega) (by omega) k (by omega)
  rw [e]
  simp only [Option.bind_some]
  obtain ⟨a, r, e, h6, h7⟩ := sightDraw_some s hs q (by omega) (by omega) n l h3 k (by omega)
  rw [e]
  exact ⟨_, _, _, rfl, h3⟩
end Go.Proofs.Ytbnofnamkgfadaa.P
