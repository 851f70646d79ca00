/- PROVED: the program's rayStep returns the ray into the next cell, as stepOf tells. Conditions: the grid is one to five wide and has at most 25 cells; the cell and the direction exist. -/
import Derived.Test.YteapnipnoadejaaPx0
import Derived.Laws.EntriesVeiled
namespace Go.Proofs.Yteapnipnoadejaa.P
open Go.RowKit Go.Proofs.YteapnipnoadejaaW
set_option linter.unusedVariables false
set_option linter.unusedSimpArgs false
set_option maxHeartbeats 2000000 in
theorem spot_up (n x : Int) (A : Option Addr) (m c : Nat) (hn : 1 <= n) (hn5 : n <= 5) (hx : 0 <= x) (hx2 : x <= 25) (w : World) :
  Calls Try.prog 54 #[.agg #[.int .i64 n, .slice A m c, .int .i64 x]] w fun e w' => e = .returned (.tuple #[.int .i64 (x - n), .bool (decide (n <= x))]) ∧ Below w.heap.size w w' := by
 go_enter Try.func54, Try.ntmps54
 go_wp2
 go_quiet (fail)
 go_wp2
 go_ret2
 exact ⟨rfl, by repeat (first | exact Below.refl _ _ | apply Qb | apply Qc)⟩
set_option maxHeartbeats 2000000 in
theorem spot_right (n x : Int) (A : Option Addr) (m c : Nat) (hn : 1 <= n) (hn5 : n <= 5) (hx : 0 <= x) (hx2 : x <= 25) (w : World) :
  Calls Try.prog 55 #[.agg #[.int .i64 n, .slice A m c, .int .i64 x]] w fun e w' => e = .returned (.tuple #[.int .i64 (x + 1), .bool (x % n != n - 1)]) ∧ Below w.heap.size w w' := by
 go_enter Try.func55, Try.ntmps55
 go_wp2
 go_quiet (fail)
 go_wp2
 go_ret2
 exact ⟨rfl, by repeat (first | exact Below.refl _ _ | apply Qb | apply Qc)⟩
set_option maxHeartbeats 2000000 in
theorem spot_down (n x : Int) (A : Option Addr) (m c : Nat) (hn : 1 <= n) (hn5 : n <= 5) (hx : 0 <= x) (hx2 : x <= 25) (w : World) :
  Calls Try.prog 56 #[.agg #[.int .i64 n, .slice A m c, .int .i64 x]] w fun e w' => e = .returned (.tuple #[.int .i64 (x + n), .bool (decide (x + n < (m : Int)))]) ∧ Below w.heap.size w w' := by
 go_enter Try.func56, Try.ntmps56
 go_wp2
 go_quiet (fail)
 go_wp2
 go_ret2
 exact ⟨rfl, by repeat (first | exact Below.refl _ _ | apply Qb | apply Qc)⟩
set_option maxHeartbeats 2000000 in
theorem spot_left (n x : Int) (A : Option Addr) (m c : Nat) (hn : 1 <= n) (hn5 : n <= 5) (hx : 0 <= x) (hx2 : x <= 25) (w : World) :
  Calls Try.prog 57 #[.agg #[.int .i64 n, .slice A m c, .int .i64 x]] w fun e w' => e = .returned (.tuple #[.int .i64 (x - 1), .bool (x % n != 0)]) ∧ Below w.heap.size w w' := by
 go_enter Try.func57, Try.ntmps57
 go_wp2
 go_quiet (fail)
 go_wp2
 go_ret2
 exact ⟨rfl, by repeat (first | exact Below.refl _ _ | apply Qb | apply Qc)⟩
theorem bcell {W w1 : World} (hb : Below W.heap.size W w1) : (∀ b o, b < W.heap.size -> w1.cell? ⟨b, o, none⟩ = W.cell? ⟨b, o, none⟩) ∧ (∀ b o, b < W.heap.size -> w1.frozen? ⟨b, o, none⟩ = W.frozen? ⟨b, o, none⟩) :=
 ⟨fun b o h => hb.cell (p := ⟨b, o, none⟩) h, fun b o h => hb.frozen (p := ⟨b, o, none⟩) h⟩
set_option maxRecDepth 100000 in
set_option maxHeartbeats 4000000 in
theorem ray_up_yes (n x : Int) (A : Option Addr) (m c : Nat) (hn : 1 <= n) (hn5 : n <= 5) (hx : 0 <= x) (hx2 : x <= 25) (h : n <= x) (w : World) :
  Calls Try.prog 38 #[.agg #[.int .i64 n, .slice A m c], .int .i64 x, .int .i64 0] w fun e w' => e = .returned (.tuple #[.agg #[.int .i64 (x - n), .int .i64 0], .bool true]) ∧ Below w.heap.size w w' := by
 have hb : decide (n <= x) = true := decide_eq_true h
 have HSP := Qa.mk (spot_up n x A m c hn hn5 hx hx2)
 clear h
 have HB := Qa.mk hb
 clear hb
 go_enter Try.func38, Try.ntmps38
 go_wp2
 go_region_held3 (fun w' => w'.cell? ⟨w.heap.size, 0, none⟩ = some (.int .i64 n) ∧ w'.cell? ⟨w.heap.size, 1, none⟩ = some (.slice A m c) ∧ w'.cell? ⟨w.heap.size + 1 + 1, 0, none⟩ = some (.func (.func 54) #[] #[]) ∧ Below w.heap.size w w') (refine ⟨?_, ?_, ?_, ?_⟩ <;> first | assumption | (simp [go_sem]; done) | (simp [go_sem, World.cell?_alloc_past]; done) | (refine Yk (by assumption) ?_; first | assumption | (simp [go_sem]; done) | (simp [go_sem, World.cell?_alloc_past]; done)) | (refine Ql ?_ (by assumption); repeat (first | exact Below.refl _ _ | assumption | apply Zn | apply Qb | apply Qc)) | (repeat (first | exact Below.refl _ _ | apply Zn | apply Qb | apply Qc)))
  (first | (go_at_call 54; refine (HSP.out _).mono ?_; rintro e w1 ⟨rfl, hb⟩))
 obtain ⟨hcell, hfroz⟩ := bcell hb
 have hyn := HB.out
 go_wp2
 exact bodyPost_ret (v := .tuple #[.agg #[.int .i64 (x - n), .int .i64 0], .bool true]) (by simp [results, Try.results38, go_sem, hcell, hfroz]) rfl ⟨rfl, by repeat (first | exact Below.refl _ _ | assumption | refine Ql ?_ hb | apply Zn | apply Qb | apply Qc | refine Qm ?_ (by simp))⟩
set_option maxRecDepth 100000 in
set_option maxHeartbeats 4000000 in
theorem ray_up_no (n x : Int) (A : Option Addr) (m c : Nat) (hn : 1 <= n) (hn5 : n <= 5) (hx : 0 <= x) (hx2 : x <= 25) (h : ¬ (n <= x)) (w : World) :
  Calls Try.prog 38 #[.agg #[.int .i64 n, .slice A m c], .int .i64 x, .int .i64 0] w fun e w' => e = .returned (.tuple #[.agg #[.int .i64 0, .int .i64 0], .bool false]) ∧ Below w.heap.size w w' := by
 have hb : decide (n <= x) = false := decide_eq_false h
 have HSP := Qa.mk (spot_up n x A m c hn hn5 hx hx2)
 clear h
 have HB := Qa.mk hb
 clear hb
 go_enter Try.func38, Try.ntmps38
 go_wp2
 go_region_held3 (fun w' => w'.cell? ⟨w.heap.size, 0, none⟩ = some (.int .i64 n) ∧ w'.cell? ⟨w.heap.size, 1, none⟩ = some (.slice A m c) ∧ w'.cell? ⟨w.heap.size + 1 + 1, 0, none⟩ = some (.func (.func 54) #[] #[]) ∧ Below w.heap.size w w') (refine ⟨?_, ?_, ?_, ?_⟩ <;> first | assumption | (simp [go_sem]; done) | (simp [go_sem, World.cell?_alloc_past]; done) | (refine Yk (by assumption) ?_; first | assumption | (simp [go_sem]; done) | (simp [go_sem, World.cell?_alloc_past]; done)) | (refine Ql ?_ (by assumption); repeat (first | exact Below.refl _ _ | assumption | apply Zn | apply Qb | apply Qc)) | (repeat (first | exact Below.refl _ _ | apply Zn | apply Qb | apply Qc)))
  (first | (go_at_call 54; refine (HSP.out _).mono ?_; rintro e w1 ⟨rfl, hb⟩))
 obtain ⟨hcell, hfroz⟩ := bcell hb
 have hyn := HB.out
 go_wp2
 exact bodyPost_ret (v := .tuple #[.agg #[.int .i64 0, .int .i64 0], .bool false]) (by simp [results, Try.results38, go_sem, hcell, hfroz]) rfl ⟨rfl, by repeat (first | exact Below.refl _ _ | assumption | refine Ql ?_ hb | apply Zn | apply Qb | apply Qc | refine Qm ?_ (by simp))⟩
set_option maxRecDepth 100000 in
set_option maxHeartbeats 4000000 in
theorem ray_right_yes (n x : Int) (A : Option Addr) (m c : Nat) (hn : 1 <= n) (hn5 : n <= 5) (hx : 0 <= x) (hx2 : x <= 25) (h : x % n ≠ n - 1) (w : World) :
  Calls Try.prog 38 #[.agg #[.int .i64 n, .slice A m c], .int .i64 x, .int .i64 1] w fun e w' => e = .returned (.tuple #[.agg #[.int .i64 (x + 1), .int .i64 1], .bool true]) ∧ Below w.heap.size w w' := by
 have hb : (x % n != n - 1) = true := bne_iff_ne.mpr h
 have HSP := Qa.mk (spot_right n x A m c hn hn5 hx hx2)
 clear h
 have HB := Qa.mk hb
 clear hb
 go_enter Try.func38, Try.ntmps38
 go_wp2
 go_region_held3 (fun w' => w'.cell? ⟨w.heap.size, 0, none⟩ = some (.int .i64 n) ∧ w'.cell? ⟨w.heap.size, 1, none⟩ = some (.slice A m c) ∧ w'.cell? ⟨w.heap.size + 1 + 1, 1, none⟩ = some (.func (.func 55) #[] #[]) ∧ Below w.heap.size w w') (refine ⟨?_, ?_, ?_, ?_⟩ <;> first | assumption | (simp [go_sem]; done) | (simp [go_sem, World.cell?_alloc_past]; done) | (refine Yk (by assumption) ?_; first | assumption | (simp [go_sem]; done) | (simp [go_sem, World.cell?_alloc_past]; done)) | (refine Ql ?_ (by assumption); repeat (first | exact Below.refl _ _ | assumption | apply Zn | apply Qb | apply Qc)) | (repeat (first | exact Below.refl _ _ | apply Zn | apply Qb | apply Qc)))
  (first | (go_at_call 55; refine (HSP.out _).mono ?_; rintro e w1 ⟨rfl, hb⟩))
 obtain ⟨hcell, hfroz⟩ := bcell hb
 have hyn := HB.out
 go_wp2
 exact bodyPost_ret (v := .tuple #[.agg #[.int .i64 (x + 1), .int .i64 1], .bool true]) (by simp [results, Try.results38, go_sem, hcell, hfroz]) rfl ⟨rfl, by repeat (first | exact Below.refl _ _ | assumption | refine Ql ?_ hb | apply Zn | apply Qb | apply Qc | refine Qm ?_ (by simp))⟩
set_option maxRecDepth 100000 in
set_option maxHeartbeats 4000000 in
theorem ray_right_no (n x : Int) (A : Option Addr) (m c : Nat) (hn : 1 <= n) (hn5 : n <= 5) (hx : 0 <= x) (hx2 : x <= 25) (h : ¬ (x % n ≠ n - 1)) (w : World) :
  Calls Try.prog 38 #[.agg #[.int .i64 n, .slice A m c], .int .i64 x, .int .i64 1] w fun e w' => e = .returned (.tuple #[.agg #[.int .i64 0, .int .i64 0], .bool false]) ∧ Below w.heap.size w w' := by
 have hb : (x % n != n - 1) = false := (bne_eq_false_iff_eq.mpr (Classical.not_not.1 h))
 have HSP := Qa.mk (spot_right n x A m c hn hn5 hx hx2)
 clear h
 have HB := Qa.mk hb
 clear hb
 go_enter Try.func38, Try.ntmps38
 go_wp2
 go_region_held3 (fun w' => w'.cell? ⟨w.heap.size, 0, none⟩ = some (.int .i64 n) ∧ w'.cell? ⟨w.heap.size, 1, none⟩ = some (.slice A m c) ∧ w'.cell? ⟨w.heap.size + 1 + 1, 1, none⟩ = some (.func (.func 55) #[] #[]) ∧ Below w.heap.size w w') (refine ⟨?_, ?_, ?_, ?_⟩ <;> first | assumption | (simp [go_sem]; done) | (simp [go_sem, World.cell?_alloc_past]; done) | (refine Yk (by assumption) ?_; first | assumption | (simp [go_sem]; done) | (simp [go_sem, World.cell?_alloc_past]; done)) | (refine Ql ?_ (by assumption); repeat (first | exact Below.refl _ _ | assumption | apply Zn | apply Qb | apply Qc)) | (repeat (first | exact Below.refl _ _ | apply Zn | apply Qb | apply Qc)))
  (first | (go_at_call 55; refine (HSP.out _).mono ?_; rintro e w1 ⟨rfl, hb⟩))
 obtain ⟨hcell, hfroz⟩ := bcell hb
 have hyn := HB.out
 go_wp2
 exact bodyPost_ret (v := .tuple #[.agg #[.int .i64 0, .int .i64 0], .bool false]) (by simp [results, Try.results38, go_sem, hcell, hfroz]) rfl ⟨rfl, by repeat (first | exact Below.refl _ _ | assumption | refine Ql ?_ hb | apply Zn | apply Qb | apply Qc | refine Qm ?_ (by simp))⟩
set_option maxRecDepth 100000 in
set_option maxHeartbeats 4000000 in
theorem ray_down_yes (n x : Int) (A : Option Addr) (m c : Nat) (hn : 1 <= n) (hn5 : n <= 5) (hx : 0 <= x) (hx2 : x <= 25) (h : x + n < (m : Int)) (w : World) :
  Calls Try.prog 38 #[.agg #[.int .i64 n, .slice A m c], .int .i64 x, .int .i64 2] w fun e w' => e = .returned (.tuple #[.agg #[.int .i64 (x + n), .int .i64 2], .bool true]) ∧ Below w.heap.size w w' := by
 have hb : decide (x + n < (m : Int)) = true := decide_eq_true h
 have HSP := Qa.mk (spot_down n x A m c hn hn5 hx hx2)
 clear h
 have HB := Qa.mk hb
 clear hb
 go_enter Try.func38, Try.ntmps38
 go_wp2
 go_region_held3 (fun w' => w'.cell? ⟨w.heap.size, 0, none⟩ = some (.int .i64 n) ∧ w'.cell? ⟨w.heap.size, 1, none⟩ = some (.slice A m c) ∧ w'.cell? ⟨w.heap.size + 1 + 1, 2, none⟩ = some (.func (.func 56) #[] #[]) ∧ Below w.heap.size w w') (refine ⟨?_, ?_, ?_, ?_⟩ <;> first | assumption | (simp [go_sem]; done) | (simp [go_sem, World.cell?_alloc_past]; done) | (refine Yk (by assumption) ?_; first | assumption | (simp [go_sem]; done) | (simp [go_sem, World.cell?_alloc_past]; done)) | (refine Ql ?_ (by assumption); repeat (first | exact Below.refl _ _ | assumption | apply Zn | apply Qb | apply Qc)) | (repeat (first | exact Below.refl _ _ | apply Zn | apply Qb | apply Qc)))
  (first | (go_at_call 56; refine (HSP.out _).mono ?_; rintro e w1 ⟨rfl, hb⟩))
 obtain ⟨hcell, hfroz⟩ := bcell hb
 have hyn := HB.out
 go_wp2
 exact bodyPost_ret (v := .tuple #[.agg #[.int .i64 (x + n), .int .i64 2], .bool true]) (by simp [results, Try.results38, go_sem, hcell, hfroz]) rfl ⟨rfl, by repeat (first | exact Below.refl _ _ | assumption | refine Ql ?_ hb | apply Zn | apply Qb | apply Qc | refine Qm ?_ (by simp))⟩
set_option maxRecDepth 100000 in
set_option maxHeartbeats 4000000 in
theorem ray_down_no (n x : Int) (A : Option Addr) (m c : Nat) (hn : 1 <= n) (hn5 : n <= 5) (hx : 0 <= x) (hx2 : x <= 25) (h : ¬ (x + n < (m : Int))) (w : World) :
  Calls Try.prog 38 #[.agg #[.int .i64 n, .slice A m c], .int .i64 x, .int .i64 2] w fun e w' => e = .returned (.tuple #[.agg #[.int .i64 0, .int .i64 0], .bool false]) ∧ Below w.heap.size w w' := by
 have hb : decide (x + n < (m : Int)) = false := decide_eq_false h
 have HSP := Qa.mk (spot_down n x A m c hn hn5 hx hx2)
 clear h
 have HB := Qa.mk hb
 clear hb
 go_enter Try.func38, Try.ntmps38
 go_wp2
 go_region_held3 (fun w' => w'.cell? ⟨w.heap.size, 0, none⟩ = some (.int .i64 n) ∧ w'.cell? ⟨w.heap.size, 1, none⟩ = some (.slice A m c) ∧ w'.cell? ⟨w.heap.size + 1 + 1, 2, none⟩ = some (.func (.func 56) #[] #[]) ∧ Below w.heap.size w w') (refine ⟨?_, ?_, ?_, ?_⟩ <;> first | assumption | (simp [go_sem]; done) | (simp [go_sem, World.cell?_alloc_past]; done) | (refine Yk (by assumption) ?_; first | assumption | (simp [go_sem]; done) | (simp [go_sem, World.cell?_alloc_past]; done)) | (refine Ql ?_ (by assumption); repeat (first | exact Below.refl _ _ | assumption | apply Zn | apply Qb | apply Qc)) | (repeat (first | exact Below.refl _ _ | apply Zn | apply Qb | apply Qc)))
  (first | (go_at_call 56; refine (HSP.out _).mono ?_; rintro e w1 ⟨rfl, hb⟩))
 obtain ⟨hcell, hfroz⟩ := bcell hb
 have hyn := HB.out
 go_wp2
 exact bodyPost_ret (v := .tuple #[.agg #[.int .i64 0, .int .i64 0], .bool false]) (by simp [results, Try.results38, go_sem, hcell, hfroz]) rfl ⟨rfl, by repeat (first | exact Below.refl _ _ | assumption | refine Ql ?_ hb | apply Zn | apply Qb | apply Qc | refine Qm ?_ (by simp))⟩
set_option maxRecDepth 100000 in
set_option maxHeartbeats 4000000 in
theorem ray_left_yes (n x : Int) (A : Option Addr) (m c : Nat) (hn : 1 <= n) (hn5 : n <= 5) (hx : 0 <= x) (hx2 : x <= 25) (h : x % n ≠ 0) (w : World) :
  Calls Try.prog 38 #[.agg #[.int .i64 n, .slice A m c], .int .i64 x, .int .i64 3] w fun e w' => e = .returned (.tuple #[.agg #[.int .i64 (x - 1), .int .i64 3], .bool true]) ∧ Below w.heap.size w w' := by
 have hb : (x % n != 0) = true := bne_iff_ne.mpr h
 have HSP := Qa.mk (spot_left n x A m c hn hn5 hx hx2)
 clear h
 have HB := Qa.mk hb
 clear hb
 go_enter Try.func38, Try.ntmps38
 go_wp2
 go_region_held3 (fun w' => w'.cell? ⟨w.heap.size, 0, none⟩ = some (.int .i64 n) ∧ w'.cell? ⟨w.heap.size, 1, none⟩ = some (.slice A m c) ∧ w'.cell? ⟨w.heap.size + 1 + 1, 3, none⟩ = some (.func (.func 57) #[] #[]) ∧ Below w.heap.size w w') (refine ⟨?_, ?_, ?_, ?_⟩ <;> first | assumption | (simp [go_sem]; done) | (simp [go_sem, World.cell?_alloc_past]; done) | (refine Yk (by assumption) ?_; first | assumption | (simp [go_sem]; done) | (simp [go_sem, World.cell?_alloc_past]; done)) | (refine Ql ?_ (by assumption); repeat (first | exact Below.refl _ _ | assumption | apply Zn | apply Qb | apply Qc)) | (repeat (first | exact Below.refl _ _ | apply Zn | apply Qb | apply Qc)))
  (first | (go_at_call 57; refine (HSP.out _).mono ?_; rintro e w1 ⟨rfl, hb⟩))
 obtain ⟨hcell, hfroz⟩ := bcell hb
 have hyn := HB.out
 go_wp2
 exact bodyPost_ret (v := .tuple #[.agg #[.int .i64 (x - 1), .int .i64 3], .bool true]) (by simp [results, Try.results38, go_sem, hcell, hfroz]) rfl ⟨rfl, by repeat (first | exact Below.refl _ _ | assumption | refine Ql ?_ hb | apply Zn | apply Qb | apply Qc | refine Qm ?_ (by simp))⟩
set_option maxRecDepth 100000 in
set_option maxHeartbeats 4000000 in
theorem ray_left_no (n x : Int) (A : Option Addr) (m c : Nat) (hn : 1 <= n) (hn5 : n <= 5) (hx : 0 <= x) (hx2 : x <= 25) (h : ¬ (x % n ≠ 0)) (w : World) :
  Calls Try.prog 38 #[.agg #[.int .i64 n, .slice A m c], .int .i64 x, .int .i64 3] w fun e w' => e = .returned (.tuple #[.agg #[.int .i64 0, .int .i64 0], .bool false]) ∧ Below w.heap.size w w' := by
 have hb : (x % n != 0) = false := (bne_eq_false_iff_eq.mpr (Classical.not_not.1 h))
 have HSP := Qa.mk (spot_left n x A m c hn hn5 hx hx2)
 clear h
 have HB := Qa.mk hb
 clear hb
 go_enter Try.func38, Try.ntmps38
 go_wp2
 go_region_held3 (fun w' => w'.cell? ⟨w.heap.size, 0, none⟩ = some (.int .i64 n) ∧ w'.cell? ⟨w.heap.size, 1, none⟩ = some (.slice A m c) ∧ w'.cell? ⟨w.heap.size + 1 + 1, 3, none⟩ = some (.func (.func 57) #[] #[]) ∧ Below w.heap.size w w') (refine ⟨?_, ?_, ?_, ?_⟩ <;> first | assumption | (simp [go_sem]; done) | (simp [go_sem, World.cell?_alloc_past]; done) | (refine Yk (by assumption) ?_; first | assumption | (simp [go_sem]; done) | (simp [go_sem, World.cell?_alloc_past]; done)) | (refine Ql ?_ (by assumption); repeat (first | exact Below.refl _ _ | assumption | apply Zn | apply Qb | apply Qc)) | (repeat (first | exact Below.refl _ _ | apply Zn | apply Qb | apply Qc)))
  (first | (go_at_call 57; refine (HSP.out _).mono ?_; rintro e w1 ⟨rfl, hb⟩))
 obtain ⟨hcell, hfroz⟩ := bcell hb
 have hyn := HB.out
 go_wp2
 exact bodyPost_ret (v := .tuple #[.agg #[.int .i64 0, .int .i64 0], .bool false]) (by simp [results, Try.results38, go_sem, hcell, hfroz]) rfl ⟨rfl, by repeat (first | exact Below.refl _ _ | assumption | refine Ql ?_ hb | apply Zn | apply Qb | apply Qc | refine Qm ?_ (by simp))⟩
def stepOf (n : Int) (m : Nat) (x d : Int) : Int × Int × Bool :=
 if d = 0 then (if n <= x then (x - n, 0, true) else (0, 0, false))
 else if d = 1 then (if x % n ≠ n - 1 then (x + 1, 1, true) else (0, 0, false))
 else if d = 2 then (if x + n < (m : Int) then (x + n, 2, true) else (0, 0, false))
 else (if x % n ≠ 0 then (x - 1, 3, true) else (0, 0, false))
def stepIn (n : Int) (m : Nat) (x d : Int) : Bool := decide (1 <= n) && (decide (n <= 5) && (decide (m <= 25) && (decide (0 <= x) && (decide (x < (m : Int)) && (decide (0 <= d) && decide (d <= 3))))))
def Yv.f (a0_0 : Int) (l0_1 : List S42) (a1 a2 : Int) : Option (Int × Int × Bool) :=
 if stepIn a0_0 l0_1.length a1 a2 = true then some (stepOf a0_0 l0_1.length a1 a2) else none
theorem Yv.calls (a0_0 : Int) (A0_1 : Option Addr) (c0_1 : Nat) (l0_1 : List S42) (a1 a2 : Int) (r1 r2 : Int) (r3 : Bool) (w : World) (hr0_1 : Kd.C k42 w A0_1 l0_1.length l0_1) (hc0_1 : l0_1.length <= c0_1) (h : Yv.f a0_0 l0_1 a1 a2 = some (r1, r2, r3)) :
  Calls Try.prog 38 #[.agg #[.int .i64 a0_0, .slice A0_1 l0_1.length c0_1], .int .i64 a1, .int .i64 a2] w fun e w' => e = .returned (.tuple #[.agg #[.int .i64 r1, .int .i64 r2], .bool r3]) ∧ Below w.heap.size w w' := by
 unfold Yv.f at h
 by_cases hs : stepIn a0_0 l0_1.length a1 a2 = true
 ·rw [if_pos hs] at h
  have e := Option.some.inj h
  clear h
  unfold stepIn at hs
  simp at hs
  obtain ⟨h1, h5, h25, hx, hxl, hd0, hd3⟩ := hs
  have hx2 : a1 <= 25 := by omega
  have hd : a2 = 0 ∨ a2 = 1 ∨ a2 = 2 ∨ a2 = 3 := by omega
  clear hd0 hd3
  rcases hd with rfl | rfl | rfl | rfl
  ·unfold stepOf at e
   rw [if_pos rfl] at e
   by_cases hq : a0_0 <= a1
   ·rw [if_pos hq] at e
    obtain ⟨rfl, rfl, rfl⟩ : a1 - a0_0 = r1 ∧ 0 = r2 ∧ true = r3 := by simpa using e
    exact ray_up_yes a0_0 a1 A0_1 _ c0_1 h1 h5 hx hx2 hq w
   ·rw [if_neg hq] at e
    obtain ⟨rfl, rfl, rfl⟩ : 0 = r1 ∧ 0 = r2 ∧ false = r3 := by simpa using e
    exact ray_up_no a0_0 a1 A0_1 _ c0_1 h1 h5 hx hx2 hq w
  ·unfold stepOf at e
   rw [if_neg (by decide), if_pos rfl] at e
   by_cases hq : a1 % a0_0 ≠ a0_0 - 1
   ·rw [if_pos hq] at e
    obtain ⟨rfl, rfl, rfl⟩ : a1 + 1 = r1 ∧ 1 = r2 ∧ true = r3 := by simpa using e
    exact ray_right_yes a0_0 a1 A0_1 _ c0_1 h1 h5 hx hx2 hq w
   ·rw [if_neg hq] at e
    obtain ⟨rfl, rfl, rfl⟩ : 0 = r1 ∧ 0 = r2 ∧ false = r3 := by simpa using e
    exact ray_right_no a0_0 a1 A0_1 _ c0_1 h1 h5 hx hx2 hq w
  ·unfold stepOf at e
   rw [if_neg (by decide), if_neg (by decide), if_pos rfl] at e
   by_cases hq : a1 + a0_0 < (l0_1.length : Int)
   ·rw [if_pos hq] at e
    obtain ⟨rfl, rfl, rfl⟩ : a1 + a0_0 = r1 ∧ 2 = r2 ∧ true = r3 := by simpa using e
    exact ray_down_yes a0_0 a1 A0_1 _ c0_1 h1 h5 hx hx2 hq w
   ·rw [if_neg hq] at e
    obtain ⟨rfl, rfl, rfl⟩ : 0 = r1 ∧ 0 = r2 ∧ false = r3 := by simpa using e
    exact ray_down_no a0_0 a1 A0_1 _ c0_1 h1 h5 hx hx2 hq w
  ·unfold stepOf at e
   rw [if_neg (by decide), if_neg (by decide), if_neg (by decide)] at e
   by_cases hq : a1 % a0_0 ≠ 0
   ·rw [if_pos hq] at e
    obtain ⟨rfl, rfl, rfl⟩ : a1 - 1 = r1 ∧ 3 = r2 ∧ true = r3 := by simpa using e
    exact ray_left_yes a0_0 a1 A0_1 _ c0_1 h1 h5 hx hx2 hq w
   ·rw [if_neg hq] at e
    obtain ⟨rfl, rfl, rfl⟩ : 0 = r1 ∧ 0 = r2 ∧ false = r3 := by simpa using e
    exact ray_left_no a0_0 a1 A0_1 _ c0_1 h1 h5 hx hx2 hq w
 ·rw [if_neg hs] at h
  exact absurd h (by simp)
end Go.Proofs.Yteapnipnoadejaa.P
