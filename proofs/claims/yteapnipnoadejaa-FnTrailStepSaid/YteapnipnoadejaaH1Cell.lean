/- PROVED: the program's cellTyped returns the value of its kind's type, and whether the cell is valid; CellOk returns whether it is. No condition. -/
import Derived.Test.YteapnipnoadejaaPx0
namespace Go.Proofs.Yteapnipnoadejaa.P
open Go.RowKit Go.Proofs.YteapnipnoadejaaW
set_option linter.unusedVariables false
set_option linter.unusedSimpArgs false
def cellOkB (k l : Int) : Bool := if k = 7 then decide (1 <= l) && decide (l <= 9) else decide (0 <= k) && (decide (k <= 6) && decide (l = 0))
def typedV (k l : Int) : Value :=
 if k = 7 then .iface 104 (.agg #[.int .i64 l])
 else if l = 0 then
  if k = 0 then .iface 106 (.agg #[]) else if k = 1 then .iface 107 (.agg #[]) else if k = 2 then .iface 108 (.agg #[])
  else if k = 3 then .iface 109 (.agg #[]) else if k = 4 then .iface 110 (.agg #[]) else if k = 5 then .iface 111 (.agg #[])
  else if k = 6 then .iface 112 (.agg #[]) else .nilIface
 else .nilIface
theorem typedV_lamp (l : Int) : typedV 7 l = .iface 104 (.agg #[.int .i64 l]) := by simp [typedV]
theorem typedV_off (k l : Int) (h7 : k ≠ 7) (h : k < 0 ∨ 7 < k ∨ l ≠ 0) : typedV k l = .nilIface := by
 unfold typedV
 rw [if_neg h7]
 rcases h with h | h | h
 ·split
  ·rw [if_neg (by omega), if_neg (by omega), if_neg (by omega), if_neg (by omega), if_neg (by omega), if_neg (by omega), if_neg (by omega)]
  ·rfl
 ·split
  ·rw [if_neg (by omega), if_neg (by omega), if_neg (by omega), if_neg (by omega), if_neg (by omega), if_neg (by omega), if_neg (by omega)]
  ·rfl
 ·rw [if_neg h]
theorem cellOkB_off (k l : Int) (h7 : k ≠ 7) (h : k < 0 ∨ 7 < k ∨ l ≠ 0) : cellOkB k l = false := by
 unfold cellOkB
 rw [if_neg h7]
 rcases h with h | h | h
 ·simp; omega
 ·simp; omega
 ·simp [h]
set_option maxHeartbeats 2000000 in
theorem typed_lamp (l : Int) (w : World) :
  Calls Try.prog 72 #[.agg #[.int .i64 7, .int .i64 l]] w fun e w' => e = .returned (.tuple #[typedV 7 l, .bool (cellOkB 7 l)]) ∧ Below w.heap.size w w' := by
 rw [typedV_lamp]
 by_cases h1 : 1 <= l
 ·have d1 : decide (1 <= l) = true := decide_eq_true h1
  have e : cellOkB 7 l = decide (l <= 9) := by simp [cellOkB, h1]
  rw [e]
  clear e
  go_enter Try.func72, Try.ntmps72
  go_wp2
  go_quiet (fail)
  go_wp2
  go_ret2
  exact ⟨rfl, by repeat (first | exact Below.refl _ _ | apply Qb | apply Qc)⟩
 ·have d1 : decide (1 <= l) = false := decide_eq_false h1
  have e : cellOkB 7 l = false := by simp [cellOkB, h1]
  rw [e]
  clear e
  go_enter Try.func72, Try.ntmps72
  go_wp2
  go_quiet (fail)
  go_wp2
  go_ret2
  exact ⟨rfl, by repeat (first | exact Below.refl _ _ | apply Qb | apply Qc)⟩
set_option maxHeartbeats 2000000 in
theorem typed_off (k l : Int) (h7 : k ≠ 7) (h : k < 0 ∨ 7 < k ∨ l ≠ 0) (w : World) :
  Calls Try.prog 72 #[.agg #[.int .i64 k, .int .i64 l]] w fun e w' => e = .returned (.tuple #[typedV k l, .bool (cellOkB k l)]) ∧ Below w.heap.size w w' := by
 rw [typedV_off k l h7 h, cellOkB_off k l h7 h]
 have b7 : (k == 7) = false := by simpa using h7
 by_cases h0 : k < 0
 ·have d0 : decide (k < 0) = true := decide_eq_true h0
  clear h
  go_enter Try.func72, Try.ntmps72
  go_wp2
  go_ret2
  exact ⟨rfl, by repeat (first | exact Below.refl _ _ | apply Qb | apply Qc)⟩
 ·have d0 : decide (k < 0) = false := decide_eq_false h0
  by_cases h8 : 7 < k
  ·have d8 : decide (7 < k) = true := decide_eq_true h8
   clear h
   go_enter Try.func72, Try.ntmps72
   go_wp2
   go_ret2
   exact ⟨rfl, by repeat (first | exact Below.refl _ _ | apply Qb | apply Qc)⟩
  ·have d8 : decide (7 < k) = false := decide_eq_false h8
   have hl : l ≠ 0 := by
    rcases h with h | h | h
    ·exact absurd h h0
    ·exact absurd h h8
    ·exact h
   have dl : (l != 0) = true := bne_iff_ne.mpr hl
   clear h
   go_enter Try.func72, Try.ntmps72
   go_wp2
   go_ret2
   exact ⟨rfl, by repeat (first | exact Below.refl _ _ | apply Qb | apply Qc)⟩
set_option maxHeartbeats 2000000 in
theorem typed_plain (k : Int) (h : 0 <= k ∧ k <= 6) (w : World) :
  Calls Try.prog 72 #[.agg #[.int .i64 k, .int .i64 0]] w fun e w' => e = .returned (.tuple #[typedV k 0, .bool (cellOkB k 0)]) ∧ Below w.heap.size w w' := by
 have hk : k = 0 ∨ k = 1 ∨ k = 2 ∨ k = 3 ∨ k = 4 ∨ k = 5 ∨ k = 6 := by omega
 clear h
 rcases hk with rfl | rfl | rfl | rfl | rfl | rfl | rfl
 all_goals
  go_enter Try.func72, Try.ntmps72
  go_wp2
  go_ret2
  exact ⟨rfl, by repeat (first | exact Below.refl _ _ | apply Qb | apply Qc)⟩
theorem impl_cellTyped.calls (k l : Int) (w : World) :
  Calls Try.prog 72 #[.agg #[.int .i64 k, .int .i64 l]] w fun e w' => e = .returned (.tuple #[typedV k l, .bool (cellOkB k l)]) ∧ Below w.heap.size w w' := by
 by_cases h7 : k = 7
 ·subst h7
  exact typed_lamp l w
 ·by_cases h : k < 0 ∨ 7 < k ∨ l ≠ 0
  ·exact typed_off k l h7 h w
  ·obtain rfl : l = 0 := by omega
   exact typed_plain k (by omega) w
def impl_CellOk.f (a0_0 a0_1 : Int) : Option Bool := some (cellOkB a0_0 a0_1)
set_option maxHeartbeats 2000000 in
theorem impl_CellOk.calls (a0_0 a0_1 : Int) (r : Bool) (w : World) (h : impl_CellOk.f a0_0 a0_1 = some r) :
  Calls Try.prog 53 #[.agg #[.int .i64 a0_0, .int .i64 a0_1]] w fun e w' => e = .returned (.bool r) ∧ Below w.heap.size w w' := by
 obtain rfl := Option.some.inj h
 clear h
 go_enter Try.func53, Try.ntmps53
 go_wp2_with (go_at_call 72; refine (impl_cellTyped.calls _ _ _).mono ?_; rintro e w1 ⟨rfl, hb⟩)
 go_ret
 exact ⟨rfl, Ql (by repeat (first | exact Below.refl _ _ | apply Qb | apply Qc)) hb⟩
end Go.Proofs.Yteapnipnoadejaa.P
