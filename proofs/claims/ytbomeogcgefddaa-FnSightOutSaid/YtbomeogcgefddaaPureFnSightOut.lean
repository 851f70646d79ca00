/- PROVED: the pure statement of FnSightOut. No condition. -/
import Derived.Test.YtbomeogcgefddaaPx35
import Derived.Test.YtbomeogcgefddaaQDrawSightOf
import Derived.Test.YtbomeogcgefddaaQRayB
import Derived.Test.YtbomeogcgefddaaQSightB
namespace Go.Proofs.Ytbomeogcgefddaa.Pure
open Go.RowKit Go.Proofs.Ytbomeogcgefddaa.P Go.Proofs.YtbomeogcgefddaaW.PrintWords Go.Proofs.YtbomeogcgefddaaW.PrintLast
set_option linter.unusedVariables false
set_option linter.unusedSimpArgs false
theorem FnSightOut : laws_FnSightOut.Pure := by
  intro l0 _ _ hw
  refine ⟨200, ?_⟩
  unfold laws_FnSightOut.f
  by_cases hb : (l0.length : Int) > 1048576
  · rw [if_pos hb]
  rw [if_neg hb]
  obtain ⟨n, l, a, d, e, hl⟩ := drawSightOf_some l0 (bytes_of hw) 200 (by omega)
  have I : ∀ x y, impl_RayNext.f 199 n l x y = some (rayNext n l x y) := fun x y => impl_RayNext_some n l x y (by omega) 199 (by omega)
  have R : ∀ x, impl_SightRay.f 199 n l x = some (sightRay n l x) := fun x => impl_SightRay_some n l x (by omega) 199 (by omega)
  rw [e]
  simp only [Option.bind_some, spec_SightOf_some n l _ _ (by omega) 200 (by omega), spec_SightOf_some n l _ _ (by omega) 199 (by omega), impl_SightOf_some n l _ _ (by omega), spec_GridOk_some n l (by omega) 200 (by omega), I, R, laws_FnSightOut.j0, if_true]
  by_cases hg : gridOkB n l = true
  · rw [if_pos hg]
    by_cases h : 0 ≤ a ∧ a < (l.length : Int) ∧ 0 ≤ d ∧ d ≤ 3
    · obtain ⟨ha, hal, hd, hd3⟩ := h
      rw [if_neg (show ¬ a < 0 by omega), if_neg (show ¬ a ≥ (l.length : Int) by omega), if_neg (show ¬ d < 0 by omega), decide_eq_false (show ¬ d > 3 by omega)]
      simp only [Bool.false_eq_true, if_false]
      simp only [rayNext_B hg, sightRay_B hg, sightOf_B hg]
      obtain ⟨i, j, hi, hj, hn, hm⟩ := shape_ij (shape_of hg).1
      rw [hm] at hal ⊢
      clear I R hg e hl hm
      subst hn
      obtain ⟨a, rfl⟩ := nat_of ha
      obtain ⟨d, rfl⟩ := nat_of hd
      have h1 : a < (i + 1) * (j + 1) := by omega
      have h2 : d < 4 := by omega
      clear ha hal hd hd3
      revert h2; revert d; revert h1; revert a; revert hj; revert j; revert hi; revert i
      decide +kernel
    · by_cases h1 : a < 0
      · simp [h1]
      · by_cases h2 : a ≥ (l.length : Int)
        · simp [h1, h2]
        · by_cases h3 : d < 0
          · simp [h1, h2, h3]
          · have h4 : d > 3 := by omega
            simp [h1, h2, h3, h4]
  · rw [if_neg hg]
    simp
end Go.Proofs.Ytbomeogcgefddaa.Pure
