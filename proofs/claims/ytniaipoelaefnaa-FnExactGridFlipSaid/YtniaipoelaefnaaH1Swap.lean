/- PROVED: the program's cellSwapped returns a valid cell with its mirror leaning the other way. Condition: the cell is valid. -/
import Derived.Test.YtniaipoelaefnaaH1SignP
namespace Go.Proofs.Ytniaipoelaefnaa.P
open Go.RowKit Go.Proofs.YtniaipoelaefnaaW.PrintWords Go.Proofs.YtniaipoelaefnaaW.PrintLast Go.Proofs.YtniaipoelaefnaaW.PrintMore
set_option linter.unusedVariables false
set_option linter.unusedSimpArgs false
/-- The other kind. -/
def swapK (k : Int) : Int := if k = 2 then 3 else if k = 3 then 2 else if k = 4 then 5 else if k = 5 then 4 else k
set_option maxRecDepth 100000 in
set_option maxHeartbeats 2000000 in
theorem swap_lampCell (l : Int) (w : World) :
    Calls Try.prog 91 #[.iface 101 (.agg #[.int .i64 l])] w fun e w' => e = .returned (.agg #[.int .i64 7, .int .i64 l]) ∧ Below w.heap.size w w' := by
  have ta_slashCell : ∀ w : World, (Instr.typeAssert (.iface 101 (.agg #[.int .i64 l])) 76 105 true).run Try.prog w = .ok (.tuple #[.agg #[], .bool false]) w := fun _ => by kernel_rfl
  have ta_backCell : ∀ w : World, (Instr.typeAssert (.iface 101 (.agg #[.int .i64 l])) 76 106 true).run Try.prog w = .ok (.tuple #[.agg #[], .bool false]) w := fun _ => by kernel_rfl
  have ta_glassCell : ∀ w : World, (Instr.typeAssert (.iface 101 (.agg #[.int .i64 l])) 76 107 true).run Try.prog w = .ok (.tuple #[.agg #[], .bool false]) w := fun _ => by kernel_rfl
  have ta_paneCell : ∀ w : World, (Instr.typeAssert (.iface 101 (.agg #[.int .i64 l])) 76 108 true).run Try.prog w = .ok (.tuple #[.agg #[], .bool false]) w := fun _ => by kernel_rfl
  have ta_lampCell : ∀ w : World, (Instr.typeAssert (.iface 101 (.agg #[.int .i64 l])) 76 101 true).run Try.prog w = .ok (.tuple #[.agg #[.int .i64 l], .bool true]) w := fun _ => by kernel_rfl
  go_enter Try.func91, Try.ntmps91
  go_wp2
  exact bodyPost_ret (v := .agg #[.int .i64 7, .int .i64 l]) (by simp [results, Try.results91, go_sem]) rfl ⟨rfl, by repeat (first | exact Below.refl _ _ | assumption | apply pw_below_drewN | apply below_alloc | refine Below.setCell ?_ (Nat.le_refl _) _)⟩
set_option maxRecDepth 100000 in
set_option maxHeartbeats 2000000 in
theorem swap_freeCell (w : World) :
    Calls Try.prog 91 #[.iface 103 (.agg #[])] w fun e w' => e = .returned (.agg #[.int .i64 0, .int .i64 0]) ∧ Below w.heap.size w w' := by
  have ta_slashCell : ∀ w : World, (Instr.typeAssert (.iface 103 (.agg #[])) 76 105 true).run Try.prog w = .ok (.tuple #[.agg #[], .bool false]) w := fun _ => by kernel_rfl
  have ta_backCell : ∀ w : World, (Instr.typeAssert (.iface 103 (.agg #[])) 76 106 true).run Try.prog w = .ok (.tuple #[.agg #[], .bool false]) w := fun _ => by kernel_rfl
  have ta_glassCell : ∀ w : World, (Instr.typeAssert (.iface 103 (.agg #[])) 76 107 true).run Try.prog w = .ok (.tuple #[.agg #[], .bool false]) w := fun _ => by kernel_rfl
  have ta_paneCell : ∀ w : World, (Instr.typeAssert (.iface 103 (.agg #[])) 76 108 true).run Try.prog w = .ok (.tuple #[.agg #[], .bool false]) w := fun _ => by kernel_rfl
  have ta_lampCell : ∀ w : World, (Instr.typeAssert (.iface 103 (.agg #[])) 76 101 true).run Try.prog w = .ok (.tuple #[.agg #[.int .i64 0], .bool false]) w := fun _ => by kernel_rfl
  have hm : ∀ w : World, (method 230 103 (.agg #[]) "loop.example/lucarne/impl.kind").run Try.prog w = .ok (111, .agg #[]) w := fun _ => by kernel_rfl
  go_enter Try.func91, Try.ntmps91
  go_wp2
  exact bodyPost_ret (v := .agg #[.int .i64 0, .int .i64 0]) (by simp [results, Try.results91, go_sem]) rfl ⟨rfl, by repeat (first | exact Below.refl _ _ | assumption | apply pw_below_drewN | apply below_alloc | refine Below.setCell ?_ (Nat.le_refl _) _)⟩
set_option maxRecDepth 100000 in
set_option maxHeartbeats 2000000 in
theorem swap_wallCell (w : World) :
    Calls Try.prog 91 #[.iface 104 (.agg #[])] w fun e w' => e = .returned (.agg #[.int .i64 1, .int .i64 0]) ∧ Below w.heap.size w w' := by
  have ta_slashCell : ∀ w : World, (Instr.typeAssert (.iface 104 (.agg #[])) 76 105 true).run Try.prog w = .ok (.tuple #[.agg #[], .bool false]) w := fun _ => by kernel_rfl
  have ta_backCell : ∀ w : World, (Instr.typeAssert (.iface 104 (.agg #[])) 76 106 true).run Try.prog w = .ok (.tuple #[.agg #[], .bool false]) w := fun _ => by kernel_rfl
  have ta_glassCell : ∀ w : World, (Instr.typeAssert (.iface 104 (.agg #[])) 76 107 true).run Try.prog w = .ok (.tuple #[.agg #[], .bool false]) w := fun _ => by kernel_rfl
  have ta_paneCell : ∀ w : World, (Instr.typeAssert (.iface 104 (.agg #[])) 76 108 true).run Try.prog w = .ok (.tuple #[.agg #[], .bool false]) w := fun _ => by kernel_rfl
  have ta_lampCell : ∀ w : World, (Instr.typeAssert (.iface 104 (.agg #[])) 76 101 true).run Try.prog w = .ok (.tuple #[.agg #[.int .i64 0], .bool false]) w := fun _ => by kernel_rfl
  have hm : ∀ w : World, (method 230 104 (.agg #[]) "loop.example/lucarne/impl.kind").run Try.prog w = .ok (112, .agg #[]) w := fun _ => by kernel_rfl
  go_enter Try.func91, Try.ntmps91
  go_wp2
  exact bodyPost_ret (v := .agg #[.int .i64 1, .int .i64 0]) (by simp [results, Try.results91, go_sem]) rfl ⟨rfl, by repeat (first | exact Below.refl _ _ | assumption | apply pw_below_drewN | apply below_alloc | refine Below.setCell ?_ (Nat.le_refl _) _)⟩
set_option maxRecDepth 100000 in
set_option maxHeartbeats 2000000 in
theorem swap_slashCell (w : World) :
    Calls Try.prog 91 #[.iface 105 (.agg #[])] w fun e w' => e = .returned (.agg #[.int .i64 3, .int .i64 0]) ∧ Below w.heap.size w w' := by
  have ta_slashCell : ∀ w : World, (Instr.typeAssert (.iface 105 (.agg #[])) 76 105 true).run Try.prog w = .ok (.tuple #[.agg #[], .bool true]) w := fun _ => by kernel_rfl
  go_enter Try.func91, Try.ntmps91
  go_wp2
  exact bodyPost_ret (v := .agg #[.int .i64 3, .int .i64 0]) (by simp [results, Try.results91, go_sem]) rfl ⟨rfl, by repeat (first | exact Below.refl _ _ | assumption | apply pw_below_drewN | apply below_alloc | refine Below.setCell ?_ (Nat.le_refl _) _)⟩
set_option maxRecDepth 100000 in
set_option maxHeartbeats 2000000 in
theorem swap_backCell (w : World) :
    Calls Try.prog 91 #[.iface 106 (.agg #[])] w fun e w' => e = .returned (.agg #[.int .i64 2, .int .i64 0]) ∧ Below w.heap.size w w' := by
  have ta_slashCell : ∀ w : World, (Instr.typeAssert (.iface 106 (.agg #[])) 76 105 true).run Try.prog w = .ok (.tuple #[.agg #[], .bool false]) w := fun _ => by kernel_rfl
  have ta_backCell : ∀ w : World, (Instr.typeAssert (.iface 106 (.agg #[])) 76 106 true).run Try.prog w = .ok (.tuple #[.agg #[], .bool true]) w := fun _ => by kernel_rfl
  go_enter Try.func91, Try.ntmps91
  go_wp2
  exact bodyPost_ret (v := .agg #[.int .i64 2, .int .i64 0]) (by simp [results, Try.results91, go_sem]) rfl ⟨rfl, by repeat (first | exact Below.refl _ _ | assumption | apply pw_below_drewN | apply below_alloc | refine Below.setCell ?_ (Nat.le_refl _) _)⟩
set_option maxRecDepth 100000 in
set_option maxHeartbeats 2000000 in
theorem swap_glassCell (w : World) :
    Calls Try.prog 91 #[.iface 107 (.agg #[])] w fun e w' => e = .returned (.agg #[.int .i64 5, .int .i64 0]) ∧ Below w.heap.size w w' := by
  have ta_slashCell : ∀ w : World, (Instr.typeAssert (.iface 107 (.agg #[])) 76 105 true).run Try.prog w = .ok (.tuple #[.agg #[], .bool false]) w := fun _ => by kernel_rfl
  have ta_backCell : ∀ w : World, (Instr.typeAssert (.iface 107 (.agg #[])) 76 106 true).run Try.prog w = .ok (.tuple #[.agg #[], .bool false]) w := fun _ => by kernel_rfl
  have ta_glassCell : ∀ w : World, (Instr.typeAssert (.iface 107 (.agg #[])) 76 107 true).run Try.prog w = .ok (.tuple #[.agg #[], .bool true]) w := fun _ => by kernel_rfl
  go_enter Try.func91, Try.ntmps91
  go_wp2
  exact bodyPost_ret (v := .agg #[.int .i64 5, .int .i64 0]) (by simp [results, Try.results91, go_sem]) rfl ⟨rfl, by repeat (first | exact Below.refl _ _ | assumption | apply pw_below_drewN | apply below_alloc | refine Below.setCell ?_ (Nat.le_refl _) _)⟩
set_option maxRecDepth 100000 in
set_option maxHeartbeats 2000000 in
theorem swap_paneCell (w : World) :
    Calls Try.prog 91 #[.iface 108 (.agg #[])] w fun e w' => e = .returned (.agg #[.int .i64 4, .int .i64 0]) ∧ Below w.heap.size w w' := by
  have ta_slashCell : ∀ w : World, (Instr.typeAssert (.iface 108 (.agg #[])) 76 105 true).run Try.prog w = .ok (.tuple #[.agg #[], .bool false]) w := fun _ => by kernel_rfl
  have ta_backCell : ∀ w : World, (Instr.typeAssert (.iface 108 (.agg #[])) 76 106 true).run Try.prog w = .ok (.tuple #[.agg #[], .bool false]) w := fun _ => by kernel_rfl
  have ta_glassCell : ∀ w : World, (Instr.typeAssert (.iface 108 (.agg #[])) 76 107 true).run Try.prog w = .ok (.tuple #[.agg #[], .bool false]) w := fun _ => by kernel_rfl
  have ta_paneCell : ∀ w : World, (Instr.typeAssert (.iface 108 (.agg #[])) 76 108 true).run Try.prog w = .ok (.tuple #[.agg #[], .bool true]) w := fun _ => by kernel_rfl
  go_enter Try.func91, Try.ntmps91
  go_wp2
  exact bodyPost_ret (v := .agg #[.int .i64 4, .int .i64 0]) (by simp [results, Try.results91, go_sem]) rfl ⟨rfl, by repeat (first | exact Below.refl _ _ | assumption | apply pw_below_drewN | apply below_alloc | refine Below.setCell ?_ (Nat.le_refl _) _)⟩
set_option maxRecDepth 100000 in
set_option maxHeartbeats 2000000 in
theorem swap_dimCell (w : World) :
    Calls Try.prog 91 #[.iface 109 (.agg #[])] w fun e w' => e = .returned (.agg #[.int .i64 6, .int .i64 0]) ∧ Below w.heap.size w w' := by
  have ta_slashCell : ∀ w : World, (Instr.typeAssert (.iface 109 (.agg #[])) 76 105 true).run Try.prog w = .ok (.tuple #[.agg #[], .bool false]) w := fun _ => by kernel_rfl
  have ta_backCell : ∀ w : World, (Instr.typeAssert (.iface 109 (.agg #[])) 76 106 true).run Try.prog w = .ok (.tuple #[.agg #[], .bool false]) w := fun _ => by kernel_rfl
  have ta_glassCell : ∀ w : World, (Instr.typeAssert (.iface 109 (.agg #[])) 76 107 true).run Try.prog w = .ok (.tuple #[.agg #[], .bool false]) w := fun _ => by kernel_rfl
  have ta_paneCell : ∀ w : World, (Instr.typeAssert (.iface 109 (.agg #[])) 76 108 true).run Try.prog w = .ok (.tuple #[.agg #[], .bool false]) w := fun _ => by kernel_rfl
  have ta_lampCell : ∀ w : World, (Instr.typeAssert (.iface 109 (.agg #[])) 76 101 true).run Try.prog w = .ok (.tuple #[.agg #[.int .i64 0], .bool false]) w := fun _ => by kernel_rfl
  have hm : ∀ w : World, (method 230 109 (.agg #[]) "loop.example/lucarne/impl.kind").run Try.prog w = .ok (117, .agg #[]) w := fun _ => by kernel_rfl
  go_enter Try.func91, Try.ntmps91
  go_wp2
  exact bodyPost_ret (v := .agg #[.int .i64 6, .int .i64 0]) (by simp [results, Try.results91, go_sem]) rfl ⟨rfl, by repeat (first | exact Below.refl _ _ | assumption | apply pw_below_drewN | apply below_alloc | refine Below.setCell ?_ (Nat.le_refl _) _)⟩
def cellSwappedP.f (a0 : IV) : Option (Int × Int) := if cellOkB a0.1 a0.2 = true then some (swapK a0.1, a0.2) else none
theorem cellSwappedP.calls (a0 : IV) (r1 r2 : Int) (w : World) (h : cellSwappedP.f a0 = some (r1, r2)) :
    Calls Try.prog 91 #[typedP a0] w fun e w' => e = .returned (.agg #[.int .i64 r1, .int .i64 r2]) ∧ Below w.heap.size w w' := by
  unfold cellSwappedP.f at h
  split at h
  · rename_i hok
    obtain ⟨rfl, rfl⟩ := Prod.mk.inj (Option.some.inj h)
    clear h
    obtain ⟨k, l⟩ := a0
    simp only at hok ⊢
    rcases cellOkB_cases hok with ⟨rfl, h1, h9⟩ | ⟨rfl, hk⟩
    · exact swap_lampCell l w
    · rcases hk with rfl | rfl | rfl | rfl | rfl | rfl | rfl
      · exact swap_freeCell w
      · exact swap_wallCell w
      · exact swap_slashCell w
      · exact swap_backCell w
      · exact swap_glassCell w
      · exact swap_paneCell w
      · exact swap_dimCell w
  · cases h
end Go.Proofs.Ytniaipoelaefnaa.P
