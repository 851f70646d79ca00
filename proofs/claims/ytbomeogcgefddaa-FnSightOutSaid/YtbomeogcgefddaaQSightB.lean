/- PROVED: what SightRay and SightOf tell of a valid grid depends on its shape alone. No condition. -/
import Derived.Test.YtbomeogcgefddaaQSightOf
namespace Go.Proofs.Ytbomeogcgefddaa.P
open Go.RowKit Go.Proofs.YtbomeogcgefddaaW.PrintWords Go.Proofs.YtbomeogcgefddaaW.PrintLast Go.Proofs.YtbomeogcgefddaaW.PrintMore
set_option linter.unusedVariables false
set_option linter.unusedSimpArgs false
def sightRayB (n : Int) (m : Nat) (k : Int) : Int × Int × Bool :=
  if (decide (0 ≤ k) && decide (k < sights n m)) = true then ((sightAt n (m : Int) k).1, (sightAt n (m : Int) k).2, true) else (0, 0, false)
theorem sightRay_B {n : Int} {l : List S42} (h : gridOkB n l = true) (k : Int) : sightRay n l k = sightRayB n l.length k := by
  unfold sightRay sightRayB
  simp [h]
theorem sightRay_no {n : Int} {l : List S42} (h : ¬ gridOkB n l = true) (k : Int) : sightRay n l k = (0, 0, false) := by
  unfold sightRay
  simp [h]
theorem sightRayB_no {n : Int} {m : Nat} {k : Int} (h : ¬ (0 ≤ k ∧ k < sights n m)) : sightRayB n m k = (0, 0, false) := by
  unfold sightRayB
  rw [if_neg]
  simp
  omega
def sightOfC (n : Int) (m : Nat) (a d : Int) : Int := if (decide (0 ≤ d) && decide (d ≤ 3)) = true then sightOfB n m a d else -1
theorem sightOf_B {n : Int} {l : List S42} (h : gridOkB n l = true) (a d : Int) : sightOf n l a d = sightOfC n l.length a d := by
  unfold sightOf sightOfC
  simp [h]
theorem sightOf_no {n : Int} {l : List S42} (h : ¬ gridOkB n l = true) (a d : Int) : sightOf n l a d = -1 := by
  unfold sightOf
  simp [h]
theorem sightMany_B {n : Int} {l : List S42} (h : gridOkB n l = true) : sightMany n l = sights n l.length := by
  unfold sightMany
  simp [h]
theorem sightMany_no {n : Int} {l : List S42} (h : ¬ gridOkB n l = true) : sightMany n l = 0 := by
  unfold sightMany
  simp [h]
end Go.Proofs.Ytbomeogcgefddaa.P
