/- PROVED: contracts of functions; No condition. -/
import Derived.Test.YteapnipnoadejaaPx0
namespace Go.Proofs.Yteapnipnoadejaa.P
open Go.RowKit Go.Proofs.YteapnipnoadejaaW
set_option linter.unusedVariables false
set_option linter.unusedSimpArgs false
def Wy.f (a0 : Int) (a1 : Int) (a2 : Int) : Option (Bool) := if a0 >= a1 then (some (decide (a0 <= a2))) else (some false)
set_option maxHeartbeats 8000000 in
set_option maxRecDepth 100000 in
theorem Wy.calls (a0 : Int) (a1 : Int) (a2 : Int) (r : Bool) (w : World) (h : Wy.f a0 a1 a2 = some r) :
    Calls Try.prog 48 #[.int .i64 a0, .int .i64 a1, .int .i64 a2] w fun e w' => e = .returned (.bool r) ∧ Zv w w' := by
  have H : (if a0 >= a1 then (some (decide (a0 <= a2))) else (some false)) = some r := h
  clear h
  by_cases c4 : a0 >= a1
  · rw [if_pos c4] at H
    have c4b0 : decide (a1 <= a0) = true := decide_eq_true c4
    clear c4
    obtain rfl := Option.some.inj H
    go_enter Try.func48, Try.ntmps48
    go_wp2
    go_ret
    exact ⟨by first | rfl | (simp; done) | (simp [*]; done), by repeat (first | exact Zv.refl _ | apply Zv.step)⟩
  · rw [if_neg c4] at H
    have c4b0 : decide (a1 <= a0) = false := decide_eq_false c4
    clear c4
    obtain rfl := Option.some.inj H
    go_enter Try.func48, Try.ntmps48
    go_wp2
    go_ret
    exact ⟨by first | rfl | (simp; done) | (simp [*]; done), by repeat (first | exact Zv.refl _ | apply Zv.step)⟩
end Go.Proofs.Yteapnipnoadejaa.P
