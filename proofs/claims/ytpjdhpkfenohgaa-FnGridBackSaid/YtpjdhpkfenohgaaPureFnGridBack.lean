/- PROVED: the pure statement of FnGridBack: a grid is read back from its text. No condition. -/
import Derived.Test.YtpjdhpkfenohgaaPx40
import Derived.Test.YtpjdhpkfenohgaaQDrawText
import Derived.Test.YtpjdhpkfenohgaaQRead
import Derived.Test.YtpjdhpkfenohgaaQLl
namespace Go.Proofs.Ytpjdhpkfenohgaa.Pure
open Go.RowKit Go.Proofs.Ytpjdhpkfenohgaa.P Go.Proofs.YtpjdhpkfenohgaaW.PrintWords Go.Proofs.YtpjdhpkfenohgaaW.PrintLast
set_option linter.unusedVariables false
set_option linter.unusedSimpArgs false
theorem FnGridBack : laws_FnGridBack.Pure := by
  intro l0 _ _ hw
  refine ⟨1000, ?_⟩
  unfold laws_FnGridBack.f
  by_cases hb : (l0.length : Int) > 1048576
  · rw [if_pos hb]
  rw [if_neg hb]
  obtain ⟨n, l, e, hl⟩ := drawGridText_some l0 (bytes_of hw) 1000 (by omega)
  rw [e]
  have I := impl_GridText_some n l (by omega) 1000 (by omega)
  have S1 := spec_GridText_some n l (by omega) 1000 (by omega)
  have S2 := spec_GridText_some n l (by omega) 999 (by omega)
  simp only [Option.bind_some, I, S1, if_true]
  by_cases hg : gridOkB n l = true
  · have hne : ((textOf n l).toList == ([] : List UInt8)) = false := by
      rw [beq_eq_false_iff_ne]
      intro x
      have := textOf_nil.1 x
      rw [hg] at this
      cases this
    obtain ⟨N, rfl, hI⟩ := textOf_is hg
    obtain ⟨R, h1, h5, r1, r5, hlr, hs, hall, hat⟩ := hI.shape
    have hd : (l.length : Int) / (N : Int) = (R : Int) := by
      rw [hlr, Int.natCast_mul]
      exact Int.mul_ediv_cancel_left _ (by omega)
    rw [hne]
    simp only [laws_FnGridBack.j0, Bool.false_eq_true, if_false, impl_GridRead_yes hI 999 (by omega), Option.bind_some, if_true, llGrid_same (N : Int) l (by omega) 999 (by omega), impl_GridOk_some (N : Int) l (by omega) 999 (by omega), hg, hd]
    rw [if_neg (by omega), w64 (R : Int) (by omega) (by omega), w64 _ (by omega) (by omega), hs]
    congr 1
    rw [beq_iff_eq]
    omega
  · have : (textOf n l).toList = [] := textOf_nil.2 (by simpa using hg)
    rw [this]
    simp only [laws_FnGridBack.j0, beq_self_eq_true, if_true, S2, Option.bind_some]
end Go.Proofs.Ytpjdhpkfenohgaa.Pure
