/- PROVED: the pure statement of FnSightBack. No condition. -/
import Derived.Test.YtbomeogcgefddaaPx34
import Derived.Test.YtbomeogcgefddaaQDrawSightRay
import Derived.Test.YtbomeogcgefddaaQRayB
import Derived.Test.YtbomeogcgefddaaQSightB
namespace Go.Proofs.Ytbomeogcgefddaa.Pure
open Go.RowKit Go.Proofs.Ytbomeogcgefddaa.P Go.Proofs.YtbomeogcgefddaaW.PrintWords Go.Proofs.YtbomeogcgefddaaW.PrintLast
set_option linter.unusedVariables false
set_option linter.unusedSimpArgs false
theorem FnSightBack : laws_FnSightBack.Pure := by
  intro l0 _ _ hw
  refine ⟨200, ?_⟩
  unfold laws_FnSightBack.f
  by_cases hb : (l0.length : Int) > 1048576
  · rw [if_pos hb]
  rw [if_neg hb]
  obtain ⟨n, l, x, e, hl⟩ := drawSightRay_some l0 (bytes_of hw) 200 (by omega)
  have I : ∀ x y, impl_RayNext.f 199 n l x y = some (rayNext n l x y) := fun x y => impl_RayNext_some n l x y (by omega) 199 (by omega)
  have O : ∀ x y, impl_SightOf.f n l x y = some (sightOf n l x y) := fun x y => impl_SightOf_some n l x y (by omega)
  rw [e]
  simp only [Option.bind_some, spec_SightRay_some n l _ (by omega) 200 (by omega), impl_SightRay_some n l _ (by omega) 200 (by omega), impl_SightMany_some n l (by omega) 199 (by omega), I, O, laws_FnSightBack.j0]
  by_cases hg : gridOkB n l = true
  · simp only [rayNext_B hg, sightRay_B hg, sightOf_B hg, sightMany_B hg]
    by_cases h : 0 ≤ x ∧ x < sights n l.length
    · obtain ⟨hx, hxl⟩ := h
      obtain ⟨i, j, hi, hj, hn, hm⟩ := shape_ij (shape_of hg).1
      rw [hm] at hxl ⊢
      clear I O hg e hl hm
      subst hn
      obtain ⟨x, rfl⟩ := nat_of hx
      have h1 : x < (sights ((i + 1 : Nat) : Int) ((i + 1) * (j + 1))).toNat := by omega
      clear hx hxl
      revert h1; revert x; revert hj; revert j; revert hi; revert i
      decide +kernel
    · rw [sightRayB_no h]
      simp
  · simp only [sightRay_no hg]
    simp
end Go.Proofs.Ytbomeogcgefddaa.Pure
