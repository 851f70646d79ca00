/- PROVED: contracts of functions; No condition. -/
import Derived.Test.YteapnipnoadejaaPx0
namespace Go.Proofs.Yteapnipnoadejaa.P
open Go.RowKit Go.Proofs.YteapnipnoadejaaW
set_option linter.unusedVariables false
set_option linter.unusedSimpArgs false
def Yw.f (a0 : Int) : Option (Bool) := if a0 >= 0 then (some (decide (a0 <= 3))) else (some false)
set_option maxHeartbeats 8000000 in
set_option maxRecDepth 100000 in
theorem Yw.calls (a0 : Int) (r : Bool) (w : World) (h : Yw.f a0 = some r) :
    Calls Try.prog 37 #[.int .i64 a0] w fun e w' => e = .returned (.bool r) ∧ Zv w w' := by
  have H : (if a0 >= 0 then (some (decide (a0 <= 3))) else (some false)) = some r := h
  clear h
  by_cases c2 : a0 >= 0
  · rw [if_pos c2] at H
    have c2b0 : decide (0 <= a0) = true := decide_eq_true c2
    clear c2
    obtain rfl := Option.some.inj H
    go_enter Try.func37, Try.ntmps37
    go_wp2
    go_ret
    exact ⟨by first | rfl | (simp; done) | (simp [*]; done), by repeat (first | exact Zv.refl _ | apply Zv.step)⟩
  · rw [if_neg c2] at H
    have c2b0 : decide (0 <= a0) = false := decide_eq_false c2
    clear c2
    obtain rfl := Option.some.inj H
    go_enter Try.func37, Try.ntmps37
    go_wp2
    go_ret
    exact ⟨by first | rfl | (simp; done) | (simp [*]; done), by repeat (first | exact Zv.refl _ | apply Zv.step)⟩
end Go.Proofs.Yteapnipnoadejaa.P
