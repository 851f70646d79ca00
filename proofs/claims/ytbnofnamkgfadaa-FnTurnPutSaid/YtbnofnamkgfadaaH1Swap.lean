/- PROVED: the program's cellSwapped returns a valid cell with its mirror leaning the other way. Condition: the cell is valid. -/
import Derived.Test.YtbnofnamkgfadaaH1SignP
namespace Go.Proofs.Ytbnofnamkgfadaa.P
open Go.RowKit Go.Proofs.YtbnofnamkgfadaaW.PrintWords Go.Proofs.YtbnofnamkgfadaaW.PrintLast Go.Proofs.YtbnofnamkgfadaaW.PrintMore
set_option linter.unusedVariables false
set_option linter.unusedSimpArgs false
/-- The other kind. -/
def swapK (k : Int) : Int := if k = 2 then 3 else if k = 3 then 2 else if k = 4 then 5 else if k = 5 then 4 else k
set_option maxRecDepth 100000 in
set_option maxHeartbeats 2000000 in
theorem swap_lampCell (l : Int) (w : World) :
    Calls Try.prog 69 #[.iface 79 (.agg #[.int .i64 l])] w fun e w' => e = .returned (.agg #[.int .i64 7, .int .i64 l]) ∧ Below w.heap.size w w' := by
  have ta_slashCell : ∀ w : World, (Instr.typeAssert (.iface 79 (.agg #[.int .i64 l])) 52 83 true).run Try.prog w = .ok (.tuple #[.agg #[], .bool false]) w := fun _ => by kernel_rfl
  have ta_backCell : ∀ w : World, (Instr.typeAssert (.iface 79 (.agg #[.int .i64 l])) 52 84 true).run Try.prog w = .ok (.tuple #[.agg #[], .bool false]) w := fun _ => by kernel_rfl
  have ta_glassCell : ∀ w : World, (Instr.typeAssert (.iface 79 (.agg #[.int .i64 l])) 52 85 true).run Try.prog w = .ok (.tuple #[.agg #[], .bool false]) w := fun _ => by kernel_rfl
  have ta_paneCell : ∀ w : World, (Instr.typeAssert (.iface 79 (.agg #[.int .i64 l])) 52 86 true).run Try.prog w = .ok (.tuple #[.agg #[], .bool false]) w := fun _ => by kernel_rfl
  have ta_lampCell : ∀ w : World, (Instr.typeAssert (.iface 79 (.agg #[.int .i64 l])) 52 79 true).run Try.prog w = .ok (.tuple #[.agg #[.int .i64 l], .bool true]) w := fun _ => by kernel_rfl
  go_enter Try.func69, Try.ntmps69
  go_wp2
  exact bodyPost_ret (v := .agg #[.int .i64 7, .int .i64 l]) (by simp [results, Try.results69, go_sem]) rfl ⟨rfl, by repeat (first | exact Below.refl _ _ | assumption | apply pw_below_drewN | apply below_alloc | refine Below.setCell ?_ (Nat.le_refl _) _)⟩
set_option maxRecDepth 100000 in
set_option maxHeartbeats 2000000 in
theorem swap_freeCell (w : World) :
    Calls Try.prog 69 #[.iface 81 (.agg #[])] w fun e w' => e = .returned (.agg #[.int .i64 0, .int .i64 0]) ∧ Below w.heap.size w w' := by
  have ta_slashCell : ∀ w : World, (Instr.typeAssert (.iface 81 (.agg #[])) 52 83 true).run Try.prog w = .ok (.tuple #[.agg #[], .bool false]) w := fun _ => by kernel_rfl
  have ta_backCell : ∀ w : World, (Instr.typeAssert (.iface 81 (.agg #[])) 52 84 true).run Try.prog w = .ok (.tuple #[.agg #[], .bool false]) w := fun _ => by kernel_rfl
  have ta_glassCell : ∀ w : World, (Instr.typeAssert (.iface 81 (.agg #[])) 52 85 true).run Try.prog w = .ok (.tuple #[.agg #[], .bool false]) w := fun _ => by kernel_rfl
  have ta_paneCell : ∀ w : World, (Instr.typeAssert (.iface 81 (.agg #[])) 52 86 true).run Try.prog w = .ok (.tuple #[.agg #[], .bool false]) w := fun _ => by kernel_rfl
  have ta_lampCell : ∀ w : World, (Instr.typeAssert (.iface 81 (.agg #[])) 52 79 true).run Try.prog w = .ok (.tuple #[.agg #[.int .i64 0], .bool false]) w := fun _ => by kernel_rfl
  have hm : ∀ w : World, (method 210 81 (.agg #[]) "loop.example/lucarne/impl.kind").run Try.prog w = .ok (94, .agg #[]) w := fun _ => by kernel_rfl
  go_enter Try.func69, Try.ntmps69
  go_wp2
  exact bodyPost_ret (v := .agg #[.int .i64 0, .int .i64 0]) (by simp [results, Try.results69, go_sem]) rfl ⟨rfl, by repeat (first | exact Below.refl _ _ | assumption | apply pw_below_drewN | apply below_alloc | refine Below.setCell ?_ (Nat.le_refl _) _)⟩
set_option maxRecDepth 100000 in
set_option maxHeartbeats 2000000 in
theorem swap_wallCell (w : World) :
    Calls Try.prog 69 #[.iface 82 (.agg #[])] w fun e w' => e = .returned (.agg #[.int .i64 1, .int .i64 0]) ∧ Below w.heap.size w w' := by
  have ta_slashCell : ∀ w : World, (Instr.typeAssert (.iface 82 (.agg #[])) 52 83 true).run Try.prog w = .ok (.tuple #[.agg #[], .bool false]) w := fun _ => by kernel_rfl
  have ta_backCell : ∀ w : World, (Instr.typeAssert (.iface 82 (.agg #[])) 52 84 true).run Try.prog w = .ok (.tuple #[.agg #[], .bool false]) w := fun _ => by kernel_rfl
  have ta_glassCell : ∀ w : World, (Instr.typeAssert (.iface 82 (.agg #[])) 52 85 true).run Try.prog w = .ok (.tuple #[.agg #[], .bool false]) w := fun _ => by kernel_rfl
  have ta_paneCell : ∀ w : World, (Instr.typeAssert (.iface 82 (.agg #[])) 52 86 true).run Try.prog w = .ok (.tuple #[.agg #[], .bool false]) w := fun _ => by kernel_rfl
  have ta_lampCell : ∀ w : World, (Instr.typeAssert (.iface 82 (.agg #[])) 52 79 true).run Try.prog w = .ok (.tuple #[.agg #[.int .i64 0], .bool false]) w := fun _ => by kernel_rfl
  have hm : ∀ w : World, (method 210 82 (.agg #[]) "loop.example/lucarne/impl.kind").run Try.prog w = .ok (95, .agg #[]) w := fun _ => by kernel_rfl
  go_enter Try.func69, Try.ntmps69
  go_wp2
  exact bodyPost_ret (v := .agg #[.int .i64 1, .int .i64 0]) (by simp [results, Try.results69, go_sem]) rfl ⟨rfl, by repeat (first | exact Below.refl _ _ | assumption | apply pw_below_drewN | apply below_alloc | refine Below.setCell ?_ (Nat.le_refl _) _)⟩
set_option maxRecDepth 100000 in
set_option maxHeartbeats 2000000 in
theorem swap_slashCell (w : World) :
    Calls Try.prog 69 #[.iface 83 (.agg #[])] w fun e w' => e = .returned (.agg #[.int .i64 3, .int .i64 0]) ∧ Below w.heap.size w w' := by
  have ta_slashCell : ∀ w : World, (Instr.typeAssert (.iface 83 (.agg #[])) 52 83 true).run Try.prog w = .ok (.tuple #[.agg #[], .bool true]) w := fun _ => by kernel_rfl
  go_enter Try.func69, Try.ntmps69
  go_wp2
  exact bodyPost_ret (v := .agg #[.int .i64 3, .int .i64 0]) (by simp [results, Try.results69, go_sem]) rfl ⟨rfl, by repeat (first | exact Below.refl _ _ | assumption | apply pw_below_drewN | apply below_alloc | refine Below.setCell ?_ (Nat.le_refl _) _)⟩
set_option maxRecDepth 100000 in
set_option maxHeartbeats 2000000 in
theorem swap_backCell (w : World) :
    Calls Try.prog 69 #[.iface 84 (.agg #[])] w fun e w' => e = .returned (.agg #[.int .i64 2, .int .i64 0]) ∧ Below w.heap.size w w' := by
  have ta_slashCell : ∀ w : World, (Instr.typeAssert (.iface 84 (.agg #[])) 52 83 true).run Try.prog w = .ok (.tuple #[.agg #[], .bool false]) w := fun _ => by kernel_rfl
  have ta_backCell : ∀ w : World, (Instr.typeAssert (.iface 84 (.agg #[])) 52 84 true).run Try.prog w = .ok (.tuple #[.agg #[], .bool true]) w := fun _ => by kernel_rfl
  go_enter Try.func69, Try.ntmps69
  go_wp2
  exact bodyPost_ret (v := .agg #[.int .i64 2, .int .i64 0]) (by simp [results, Try.results69, go_sem]) rfl ⟨rfl, by repeat (first | exact Below.refl _ _ | assumption | apply pw_below_drewN | apply below_alloc | refine Below.setCell ?_ (Nat.le_refl _) _)⟩
set_option maxRecDepth 100000 in
set_option maxHeartbeats 2000000 in
theorem swap_glassCell (w : World) :
    Calls Try.prog 69 #[.iface 85 (.agg #[])] w fun e w' => e = .returned (.agg #[.int .i64 5, .int .i64 0]) ∧ Below w.heap.size w w' := by
  have ta_slashCell : ∀ w : World, (Instr.typeAssert (.iface 85 (.agg #[])) 52 83 true).run Try.prog w = .ok (.tuple #[.agg #[], .bool false]) w := fun _ => by kernel_rfl
  have ta_backCell : ∀ w : World, (Instr.typeAssert (.iface 85 (.agg #[])) 52 84 true).run Try.prog w = .ok (.tuple #[.agg #[], .bool false]) w := fun _ => by kernel_rfl
  have ta_glassCell : ∀ w : World, (Instr.typeAssert (.iface 85 (.agg #[])) 52 85 true).run Try.prog w = .ok (.tuple #[.agg #[], .bool true]) w := fun _ => by kernel_rfl
  go_enter Try.func69, Try.ntmps69
  go_wp2
  exact bodyPost_ret (v := .agg #[.int .i64 5, .int .i64 0]) (by simp [results, Try.results69, go_sem]) rfl ⟨rfl, by repeat (first | exact Below.refl _ _ | assumption | apply pw_below_drewN | apply below_alloc | refine Below.setCell ?_ (Nat.le_refl _) _)⟩
set_option maxRecDepth 100000 in
set_option maxHeartbeats 2000000 in
theorem swap_paneCell (w : World) :
    Calls Try.prog 69 #[.iface 86 (.agg #[])] w fun e w' => e = .returned (.agg #[.int .i64 4, .int .i64 0]) ∧ Below w.heap.size w w' := by
  have ta_slashCell : ∀ w : World, (Instr.typeAssert (.iface 86 (.agg #[])) 52 83 true).run Try.prog w = .ok (.tuple #[.agg #[], .bool false]) w := fun _ => by kernel_rfl
  have ta_backCell : ∀ w : World, (Instr.typeAssert (.iface 86 (.agg #[])) 52 84 true).run Try.prog w = .ok (.tuple #[.agg #[], .bool false]) w := fun _ => by kernel_rfl
  have ta_glassCell : ∀ w : World, (Instr.typeAssert (.iface 86 (.agg #[])) 52 85 true).run Try.prog w = .ok (.tuple #[.agg #[], .bool false]) w := fun _ => by kernel_rfl
  have ta_paneCell : ∀ w : World, (Instr.typeAssert (.iface 86 (.agg #[])) 52 86 true).run Try.prog w = .ok (.tuple #[.agg #[], .bool true]) w := fun _ => by kernel_rfl
  go_enter Try.func69, Try.ntmps69
  go_wp2
  exact bodyPost_ret (v := .agg #[.int .i64 4, .int .i64 0]) (by simp [results, Try.results69, go_sem]) rfl ⟨rfl, by repeat (first | exact Below.refl _ _ | assumption | apply pw_below_drewN | apply below_alloc | refine Below.setCell ?_ (Nat.le_refl _) _)⟩
set_option maxRecDepth 100000 in
set_option maxHeartbeats 2000000 in
theorem swap_dimCell (w : World) :
    Calls Try.prog 69 #[.iface 87 (.agg #[])] w fun e w' => e = .returned (.agg #[.int .i64 6, .int .i64 0]) ∧ Below w.heap.size w w' := by
  have ta_slashCell : ∀ w : World, (Instr.typeAssert (.iface 87 (.agg #[])) 52 83 true).run Try.prog w = .ok (.tuple #[.agg #[], .bool false]) w := fun _ => by kernel_rfl
  have ta_backCell : ∀ w : World, (Instr.typeAssert (.iface 87 (.agg #[])) 52 84 true).run Try.prog w = .ok (.tuple #[.agg #[], .bool false]) w := fun _ => by kernel_rfl
  have ta_glassCell : ∀ w : World, (Instr.typeAssert (.iface 87 (.agg #[])) 52 85 true).run Try.prog w = .ok (.tuple #[.agg #[], .bool false]) w := fun _ => by kernel_rfl
  have ta_paneCell : ∀ w : World, (Instr.typeAssert (.iface 87 (.agg #[])) 52 86 true).run Try.prog w = .ok (.tuple #[.agg #[], .bool false]) w := fun _ => by kernel_rfl
  have ta_lampCell : ∀ w : World, (Instr.typeAssert (.iface 87 (.agg #[])) 52 79 true).run Try.prog w = .ok (.tuple #[.agg #[.int .i64 0], .bool false]) w := fun _ => by kernel_rfl
  have hm : ∀ w : World, (method 210 87 (.agg #[]) "loop.example/lucarne/impl.kind").run Try.prog w = .ok (100, .agg #[]) w := fun _ => by kernel_rfl
  go_enter Try.func69, Try.ntmps69
  go_wp2
  exact bodyPost_ret (v := .agg #[.int .i64 6, .int .i64 0]) (by simp [results, Try.results69, go_sem]) rfl ⟨rfl, by repeat (first | exact Below.refl _ _ | assumption | apply pw_below_drewN | apply below_alloc | refine Below.setCell ?_ (Nat.le_refl _) _)⟩
def cellSwappedP.f (a0 : IV) : Option (Int × Int) := if cellOkB a0.1 a0.2 = true then some (swapK a0.1, a0.2) else none
theorem cellSwappedP.calls (a0 : IV) (r1 r2 : Int) (w : World) (h : cellSwappedP.f a0 = some (r1, r2)) :
    Calls Try.prog 69 #[typedP a0] w fun e w' => e = .returned (.agg #[.int .i64 r1, .int .i64 r2]) ∧ Below w.heap.size w w' := by
  unfold cellSwappedP.f at h
  split at h
  · rename_i hok
    obtain ⟨rfl, rfl⟩ := Prod.mk.inj (Option.some.inj h)
    clear h
    obtain ⟨k, l⟩ := a0
    simp only at hok ⊢
    rcases cellOkB_cases hok with ⟨rfl, h1, h9⟩ | ⟨rfl, hk⟩
    · exact swap_lampCell l w
    · rcases hk with rfl | rfl | rfl | rfl | rfl | rfl | rfl
      · exact swap_freeCell w
      · exact swap_wallCell w
      · exact swap_slashCell w
      · exact swap_backCell w
      · exact swap_glassCell w
      · exact swap_paneCell w
      · exact swap_dimCell w
  · cases h
end Go.Proofs.Ytbnofnamkgfadaa.P
