/- PROVED: the program's cellSign returns a valid cell's sign. Condition: the cell is valid. -/
import Derived.Test.YtpjdhpkfenohgaaH1Cell
namespace Go.Proofs.Ytpjdhpkfenohgaa.P
open Go.RowKit Go.Proofs.YtpjdhpkfenohgaaW.PrintWords Go.Proofs.YtpjdhpkfenohgaaW.PrintLast Go.Proofs.YtpjdhpkfenohgaaW.PrintMore
set_option linter.unusedVariables false
set_option linter.unusedSimpArgs false

/-- The sign of a valid cell. -/
def signOf (k l : Int) : Int :=
  if k = 7 then 48 + l else if k = 0 then 46 else if k = 1 then 35 else if k = 2 then 47 else if k = 3 then 92 else if k = 4 then 120 else if k = 5 then 122 else 58

set_option maxRecDepth 100000 in
set_option maxHeartbeats 2000000 in
theorem sign_lamp (l : Int) (h1 : 1 ≤ l) (h9 : l ≤ 9) (w : World) :
    Calls Try.prog 32 #[.iface 79 (.agg #[.int .i64 l])] w fun e w' => e = .returned (.int .u8 (48 + l)) ∧ Below w.heap.size w w' := by
  have ta : ∀ w : World, (Instr.typeAssert (.iface 79 (.agg #[.int .i64 l])) 54 79 true).run Try.prog w = .ok (.tuple #[.agg #[.int .i64 l], .bool true]) w := fun _ => by kernel_rfl
  go_enter Try.func32, Try.ntmps32
  go_wp2
  go_ret
  exact ⟨by first | rfl | simp, by repeat (first | exact Below.refl _ _ | apply pw_below_drewN | apply below_alloc)⟩
set_option maxRecDepth 100000 in
set_option maxHeartbeats 2000000 in
theorem sign_freeCell (w : World) :
    Calls Try.prog 32 #[.iface 81 (.agg #[])] w fun e w' => e = .returned (.int .u8 46) ∧ Below w.heap.size w w' := by
  have ta : ∀ w : World, (Instr.typeAssert (.iface 81 (.agg #[])) 54 79 true).run Try.prog w = .ok (.tuple #[.agg #[.int .i64 0], .bool false]) w := fun _ => by kernel_rfl
  have hm : ∀ w : World, (method 211 81 (.agg #[]) "loop.example/lucarne/impl.kind").run Try.prog w = .ok (72, .agg #[]) w := fun _ => by kernel_rfl
  go_enter Try.func32, Try.ntmps32
  go_wp2
  go_ret
  exact ⟨by first | rfl | simp, by repeat (first | exact Below.refl _ _ | apply pw_below_drewN | apply below_alloc)⟩
set_option maxRecDepth 100000 in
set_option maxHeartbeats 2000000 in
theorem sign_wallCell (w : World) :
    Calls Try.prog 32 #[.iface 82 (.agg #[])] w fun e w' => e = .returned (.int .u8 35) ∧ Below w.heap.size w w' := by
  have ta : ∀ w : World, (Instr.typeAssert (.iface 82 (.agg #[])) 54 79 true).run Try.prog w = .ok (.tuple #[.agg #[.int .i64 0], .bool false]) w := fun _ => by kernel_rfl
  have hm : ∀ w : World, (method 211 82 (.agg #[]) "loop.example/lucarne/impl.kind").run Try.prog w = .ok (73, .agg #[]) w := fun _ => by kernel_rfl
  go_enter Try.func32, Try.ntmps32
  go_wp2
  go_ret
  exact ⟨by first | rfl | simp, by repeat (first | exact Below.refl _ _ | apply pw_below_drewN | apply below_alloc)⟩
set_option maxRecDepth 100000 in
set_option maxHeartbeats 2000000 in
theorem sign_slashCell (w : World) :
    Calls Try.prog 32 #[.iface 83 (.agg #[])] w fun e w' => e = .returned (.int .u8 47) ∧ Below w.heap.size w w' := by
  have ta : ∀ w : World, (Instr.typeAssert (.iface 83 (.agg #[])) 54 79 true).run Try.prog w = .ok (.tuple #[.agg #[.int .i64 0], .bool false]) w := fun _ => by kernel_rfl
  have hm : ∀ w : World, (method 211 83 (.agg #[]) "loop.example/lucarne/impl.kind").run Try.prog w = .ok (74, .agg #[]) w := fun _ => by kernel_rfl
  go_enter Try.func32, Try.ntmps32
  go_wp2
  go_ret
  exact ⟨by first | rfl | simp, by repeat (first | exact Below.refl _ _ | apply pw_below_drewN | apply below_alloc)⟩
set_option maxRecDepth 100000 in
set_option maxHeartbeats 2000000 in
theorem sign_backCell (w : World) :
    Calls Try.prog 32 #[.iface 84 (.agg #[])] w fun e w' => e = .returned (.int .u8 92) ∧ Below w.heap.size w w' := by
  have ta : ∀ w : World, (Instr.typeAssert (.iface 84 (.agg #[])) 54 79 true).run Try.prog w = .ok (.tuple #[.agg #[.int .i64 0], .bool false]) w := fun _ => by kernel_rfl
  have hm : ∀ w : World, (method 211 84 (.agg #[]) "loop.example/lucarne/impl.kind").run Try.prog w = .ok (75, .agg #[]) w := fun _ => by kernel_rfl
  go_enter Try.func32, Try.ntmps32
  go_wp2
  go_ret
  exact ⟨by first | rfl | simp, by repeat (first | exact Below.refl _ _ | apply pw_below_drewN | apply below_alloc)⟩
set_option maxRecDepth 100000 in
set_option maxHeartbeats 2000000 in
theorem sign_glassCell (w : World) :
    Calls Try.prog 32 #[.iface 85 (.agg #[])] w fun e w' => e = .returned (.int .u8 120) ∧ Below w.heap.size w w' := by
  have ta : ∀ w : World, (Instr.typeAssert (.iface 85 (.agg #[])) 54 79 true).run Try.prog w = .ok (.tuple #[.agg #[.int .i64 0], .bool false]) w := fun _ => by kernel_rfl
  have hm : ∀ w : World, (method 211 85 (.agg #[]) "loop.example/lucarne/impl.kind").run Try.prog w = .ok (76, .agg #[]) w := fun _ => by kernel_rfl
  go_enter Try.func32, Try.ntmps32
  go_wp2
  go_ret
  exact ⟨by first | rfl | simp, by repeat (first | exact Below.refl _ _ | apply pw_below_drewN | apply below_alloc)⟩
set_option maxRecDepth 100000 in
set_option maxHeartbeats 2000000 in
theorem sign_paneCell (w : World) :
    Calls Try.prog 32 #[.iface 86 (.agg #[])] w fun e w' => e = .returned (.int .u8 122) ∧ Below w.heap.size w w' := by
  have ta : ∀ w : World, (Instr.typeAssert (.iface 86 (.agg #[])) 54 79 true).run Try.prog w = .ok (.tuple #[.agg #[.int .i64 0], .bool false]) w := fun _ => by kernel_rfl
  have hm : ∀ w : World, (method 211 86 (.agg #[]) "loop.example/lucarne/impl.kind").run Try.prog w = .ok (77, .agg #[]) w := fun _ => by kernel_rfl
  go_enter Try.func32, Try.ntmps32
  go_wp2
  go_ret
  exact ⟨by first | rfl | simp, by repeat (first | exact Below.refl _ _ | apply pw_below_drewN | apply below_alloc)⟩
set_option maxRecDepth 100000 in
set_option maxHeartbeats 2000000 in
theorem sign_dimCell (w : World) :
    Calls Try.prog 32 #[.iface 87 (.agg #[])] w fun e w' => e = .returned (.int .u8 58) ∧ Below w.heap.size w w' := by
  have ta : ∀ w : World, (Instr.typeAssert (.iface 87 (.agg #[])) 54 79 true).run Try.prog w = .ok (.tuple #[.agg #[.int .i64 0], .bool false]) w := fun _ => by kernel_rfl
  have hm : ∀ w : World, (method 211 87 (.agg #[]) "loop.example/lucarne/impl.kind").run Try.prog w = .ok (78, .agg #[]) w := fun _ => by kernel_rfl
  go_enter Try.func32, Try.ntmps32
  go_wp2
  go_ret
  exact ⟨by first | rfl | simp, by repeat (first | exact Below.refl _ _ | apply pw_below_drewN | apply below_alloc)⟩
theorem cellOkB_cases {k l : Int} (h : cellOkB k l = true) : (k = 7 ∧ 1 ≤ l ∧ l ≤ 9) ∨ (l = 0 ∧ (k = 0 ∨ k = 1 ∨ k = 2 ∨ k = 3 ∨ k = 4 ∨ k = 5 ∨ k = 6)) := by
  unfold cellOkB at h
  split at h
  · simp at h
    omega
  · simp at h
    omega
theorem impl_cellSign.calls (k l : Int) (hok : cellOkB k l = true) (w : World) :
    Calls Try.prog 32 #[typedV k l] w fun e w' => e = .returned (.int .u8 (signOf k l)) ∧ Below w.heap.size w w' := by
  rcases cellOkB_cases hok with ⟨rfl, h1, h9⟩ | ⟨rfl, hk⟩
  · exact sign_lamp l h1 h9 w
  · rcases hk with rfl | rfl | rfl | rfl | rfl | rfl | rfl
    · exact sign_freeCell w
    · exact sign_wallCell w
    · exact sign_slashCell w
    · exact sign_backCell w
    · exact sign_glassCell w
    · exact sign_paneCell w
    · exact sign_dimCell w
end Go.Proofs.Ytpjdhpkfenohgaa.P
