/- PROVED: the program's DirTurn returns, for every kind and direction, what dirTurn tells, or -1 for what is no direction. No condition. -/
import Derived.Test.YteapnipnoadejaaPx0
namespace Go.Proofs.Yteapnipnoadejaa.P
open Go.RowKit Go.Proofs.YteapnipnoadejaaW
set_option linter.unusedVariables false
set_option linter.unusedSimpArgs false
def Ya (k d : Int) : Int :=
 if k = 2 ∨ k = 4 then (if d = 0 then 1 else if d = 1 then 0 else if d = 2 then 3 else 2)
 else if k = 3 ∨ k = 5 then 3 - d else d
def Yc.f (a0 a1 : Int) : Option Int := some (if 0 <= a1 ∧ a1 <= 3 then Ya a0 a1 else -1)
theorem dirIx_s0 (w : World) : (Instr.index 67 (.agg #[.int .i64 1, .int .i64 0, .int .i64 3, .int .i64 2]) (.int .i64 0)).run Try.prog w = .ok (.int .i64 1) w := by kernel_rfl
theorem dirIx_s1 (w : World) : (Instr.index 67 (.agg #[.int .i64 1, .int .i64 0, .int .i64 3, .int .i64 2]) (.int .i64 1)).run Try.prog w = .ok (.int .i64 0) w := by kernel_rfl
theorem dirIx_s2 (w : World) : (Instr.index 67 (.agg #[.int .i64 1, .int .i64 0, .int .i64 3, .int .i64 2]) (.int .i64 2)).run Try.prog w = .ok (.int .i64 3) w := by kernel_rfl
theorem dirIx_s3 (w : World) : (Instr.index 67 (.agg #[.int .i64 1, .int .i64 0, .int .i64 3, .int .i64 2]) (.int .i64 3)).run Try.prog w = .ok (.int .i64 2) w := by kernel_rfl
theorem dirIx_b0 (w : World) : (Instr.index 67 (.agg #[.int .i64 3, .int .i64 2, .int .i64 1, .int .i64 0]) (.int .i64 0)).run Try.prog w = .ok (.int .i64 3) w := by kernel_rfl
theorem dirIx_b1 (w : World) : (Instr.index 67 (.agg #[.int .i64 3, .int .i64 2, .int .i64 1, .int .i64 0]) (.int .i64 1)).run Try.prog w = .ok (.int .i64 2) w := by kernel_rfl
theorem dirIx_b2 (w : World) : (Instr.index 67 (.agg #[.int .i64 3, .int .i64 2, .int .i64 1, .int .i64 0]) (.int .i64 2)).run Try.prog w = .ok (.int .i64 1) w := by kernel_rfl
theorem dirIx_b3 (w : World) : (Instr.index 67 (.agg #[.int .i64 3, .int .i64 2, .int .i64 1, .int .i64 0]) (.int .i64 3)).run Try.prog w = .ok (.int .i64 0) w := by kernel_rfl
set_option maxHeartbeats 2000000 in
theorem dirTurn_in (a0 a1 : Int) (h : 0 <= a1 ∧ a1 <= 3) (w : World) :
  Calls Try.prog 22 #[.int .i64 a0, .int .i64 a1] w fun e w' => e = .returned (.int .i64 (Ya a0 a1)) ∧ Zv w w' := by
 have xs0 := dirIx_s0
 have xs1 := dirIx_s1
 have xs2 := dirIx_s2
 have xs3 := dirIx_s3
 have xb0 := dirIx_b0
 have xb1 := dirIx_b1
 have xb2 := dirIx_b2
 have xb3 := dirIx_b3
 have hd : a1 = 0 ∨ a1 = 1 ∨ a1 = 2 ∨ a1 = 3 := by omega
 clear h
 by_cases k2 : a0 = 2
 ·subst k2
  rcases hd with rfl | rfl | rfl | rfl
  all_goals
   go_enter Try.func22, Try.ntmps22
   go_wp2
   go_ret
   exact ⟨by first | rfl | simp [Ya], by repeat (first | exact Zv.refl _ | apply Zv.step)⟩
 by_cases k4 : a0 = 4
 ·subst k4
  clear k2
  rcases hd with rfl | rfl | rfl | rfl
  all_goals
   go_enter Try.func22, Try.ntmps22
   go_wp2
   go_ret
   exact ⟨by first | rfl | simp [Ya], by repeat (first | exact Zv.refl _ | apply Zv.step)⟩
 by_cases k3 : a0 = 3
 ·subst k3
  clear k2 k4
  rcases hd with rfl | rfl | rfl | rfl
  all_goals
   go_enter Try.func22, Try.ntmps22
   go_wp2
   go_ret
   exact ⟨by first | rfl | simp [Ya], by repeat (first | exact Zv.refl _ | apply Zv.step)⟩
 by_cases k5 : a0 = 5
 ·subst k5
  clear k2 k4 k3
  rcases hd with rfl | rfl | rfl | rfl
  all_goals
   go_enter Try.func22, Try.ntmps22
   go_wp2
   go_ret
   exact ⟨by first | rfl | simp [Ya], by repeat (first | exact Zv.refl _ | apply Zv.step)⟩
 have b2 : (a0 == 2) = false := by simpa using k2
 have b3 : (a0 == 3) = false := by simpa using k3
 have b4 : (a0 == 4) = false := by simpa using k4
 have b5 : (a0 == 5) = false := by simpa using k5
 have e : Ya a0 a1 = a1 := by simp [Ya, k2, k3, k4, k5]
 rw [e]
 clear e k2 k3 k4 k5
 rcases hd with rfl | rfl | rfl | rfl
 all_goals
  go_enter Try.func22, Try.ntmps22
  go_wp2
  go_ret
  exact ⟨rfl, by repeat (first | exact Zv.refl _ | apply Zv.step)⟩
set_option maxHeartbeats 2000000 in
theorem Yc.calls (a0 a1 r : Int) (w : World) (h : Yc.f a0 a1 = some r) :
  Calls Try.prog 22 #[.int .i64 a0, .int .i64 a1] w fun e w' => e = .returned (.int .i64 r) ∧ Zv w w' := by
 obtain rfl := Option.some.inj h
 clear h
 by_cases h0 : 0 <= a1 ∧ a1 <= 3
 ·rw [if_pos h0]
  exact dirTurn_in a0 a1 h0 w
 ·rw [if_neg h0]
  by_cases h1 : 0 <= a1
  ·have h2 : 3 < a1 := by omega
   have d1 : decide (0 <= a1) = true := decide_eq_true h1
   have d2 : decide (a1 <= 3) = false := decide_eq_false (by omega)
   clear h0
   go_enter Try.func22, Try.ntmps22
   go_wp2
   go_ret
   exact ⟨rfl, by repeat (first | exact Zv.refl _ | apply Zv.step)⟩
  ·have d1 : decide (0 <= a1) = false := decide_eq_false h1
   clear h0
   go_enter Try.func22, Try.ntmps22
   go_wp2
   go_ret
   exact ⟨rfl, by repeat (first | exact Zv.refl _ | apply Zv.step)⟩
end Go.Proofs.Yteapnipnoadejaa.P
