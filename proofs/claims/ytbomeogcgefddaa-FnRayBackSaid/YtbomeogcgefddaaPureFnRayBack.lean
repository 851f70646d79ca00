/- PROVED: the pure statement of FnRayBack. No condition. -/
import Derived.Test.YtbomeogcgefddaaPx30
import Derived.Test.YtbomeogcgefddaaQDrawRay
import Derived.Test.YtbomeogcgefddaaQRayB
namespace Go.Proofs.Ytbomeogcgefddaa.Pure
open Go.RowKit Go.Proofs.Ytbomeogcgefddaa.P Go.Proofs.YtbomeogcgefddaaW.PrintWords Go.Proofs.YtbomeogcgefddaaW.PrintLast
set_option linter.unusedVariables false
set_option linter.unusedSimpArgs false
theorem FnRayBack : laws_FnRayBack.Pure := by
  intro l0 _ _ hw
  refine ⟨100, ?_⟩
  unfold laws_FnRayBack.f
  by_cases hb : (l0.length : Int) > 1048576
  · rw [if_pos hb]
  rw [if_neg hb]
  obtain ⟨n, l, a, d, e, hl⟩ := drawRayNext_some l0 (bytes_of hw) 100 (by omega)
  have I : ∀ k x y, 30 < k → impl_RayNext.f k n l x y = some (rayNext n l x y) := fun k x y hk => impl_RayNext_some n l x y (by omega) k (by omega)
  rw [e]
  simp only [Option.bind_some, spec_RayNext_some n l _ _ (by omega) 100 (by omega), I 100 _ _ (by omega), I 99 _ _ (by omega)]
  by_cases hg : gridOkB n l = true
  · simp only [rayNext_B hg]
    by_cases h : 0 ≤ a ∧ a < (l.length : Int) ∧ 0 ≤ d ∧ d ≤ 3
    · obtain ⟨ha, hal, hd, hd3⟩ := h
      obtain ⟨i, j, hi, hj, hn, hm⟩ := shape_ij (shape_of hg).1
      rw [hm] at hal ⊢
      clear I hg e hl hm
      subst hn
      obtain ⟨a, rfl⟩ := nat_of ha
      obtain ⟨d, rfl⟩ := nat_of hd
      have h1 : a < (i + 1) * (j + 1) := by omega
      have h2 : d < 4 := by omega
      clear ha hal hd hd3
      revert h2; revert d; revert h1; revert a; revert hj; revert j; revert hi; revert i
      decide +kernel
    · rw [rayB_no h]
      simp
  · simp only [rayNext_no hg]
    simp
end Go.Proofs.Ytbomeogcgefddaa.Pure
