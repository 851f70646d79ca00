/- PROVED: the program's spreadOf: what becomes of a weight in a cell. Condition: the kind is 0 to 7. -/
import Derived.Test.YteapnipnoadejaaPx0
import Derived.Test.YteapnipnoadejaaH0Fn
import Derived.Test.YteapnipnoadejaaH1Ray
namespace Go.Proofs.Yteapnipnoadejaa.P
open Go.RowKit Go.Proofs.YteapnipnoadejaaW
set_option linter.unusedVariables false
set_option linter.unusedSimpArgs false
set_option maxRecDepth 100000 in
set_option maxHeartbeats 4000000 in
theorem spread1_calls (x : Int) (w : World) : Calls Try.prog 60 #[.int .i64 x] w fun e w' => e = .returned (.agg #[.int .i64 (x), .int .i64 (0), .int .i64 (0), .int .i64 (0)]) ∧ Below w.heap.size w w' := by
 have huS := Try.underlying78
 go_enter Try.func60, Try.ntmps60
 go_wp2
 exact bodyPost_ret (v := .agg #[.int .i64 (x), .int .i64 (0), .int .i64 (0), .int .i64 (0)]) (by simp [results, Try.results60, go_sem, Wp]) rfl ⟨rfl, by repeat (first | exact Below.refl _ _ | assumption | apply Zn | apply Qb | apply Qc | refine Qm ?_ (by simp))⟩
set_option maxRecDepth 100000 in
set_option maxHeartbeats 4000000 in
theorem spread2_calls (x : Int) (w : World) : Calls Try.prog 61 #[.int .i64 x] w fun e w' => e = .returned (.agg #[.int .i64 (0), .int .i64 (x), .int .i64 (0), .int .i64 (0)]) ∧ Below w.heap.size w w' := by
 have huS := Try.underlying78
 go_enter Try.func61, Try.ntmps61
 go_wp2
 exact bodyPost_ret (v := .agg #[.int .i64 (0), .int .i64 (x), .int .i64 (0), .int .i64 (0)]) (by simp [results, Try.results61, go_sem, Wp]) rfl ⟨rfl, by repeat (first | exact Below.refl _ _ | assumption | apply Zn | apply Qb | apply Qc | refine Qm ?_ (by simp))⟩
set_option maxRecDepth 100000 in
set_option maxHeartbeats 4000000 in
theorem spread3_calls (x : Int) (w : World) : Calls Try.prog 62 #[.int .i64 x] w fun e w' => e = .returned (.agg #[.int .i64 (0), .int .i64 (0), .int .i64 (0), .int .i64 (x)]) ∧ Below w.heap.size w w' := by
 have huS := Try.underlying78
 go_enter Try.func62, Try.ntmps62
 go_wp2
 exact bodyPost_ret (v := .agg #[.int .i64 (0), .int .i64 (0), .int .i64 (0), .int .i64 (x)]) (by simp [results, Try.results62, go_sem, Wp]) rfl ⟨rfl, by repeat (first | exact Below.refl _ _ | assumption | apply Zn | apply Qb | apply Qc | refine Qm ?_ (by simp))⟩
set_option maxRecDepth 100000 in
set_option maxHeartbeats 4000000 in
theorem spread4_calls (x : Int) (w : World) : Calls Try.prog 63 #[.int .i64 x] w fun e w' => e = .returned (.agg #[.int .i64 (wrap64 (Int.tdiv x 2)), .int .i64 (wrap64 (Int.tdiv x 2)), .int .i64 (wrap64 (wrap64 (x - wrap64 (Int.tdiv x 2)) - wrap64 (Int.tdiv x 2))), .int .i64 (0)]) ∧ Below w.heap.size w w' := by
 have huS := Try.underlying78
 go_enter Try.func63, Try.ntmps63
 go_wp2
 exact bodyPost_ret (v := .agg #[.int .i64 (wrap64 (Int.tdiv x 2)), .int .i64 (wrap64 (Int.tdiv x 2)), .int .i64 (wrap64 (wrap64 (x - wrap64 (Int.tdiv x 2)) - wrap64 (Int.tdiv x 2))), .int .i64 (0)]) (by simp [results, Try.results63, go_sem, Wp]) rfl ⟨rfl, by repeat (first | exact Below.refl _ _ | assumption | apply Zn | apply Qb | apply Qc | refine Qm ?_ (by simp))⟩
set_option maxRecDepth 100000 in
set_option maxHeartbeats 4000000 in
theorem spread5_calls (x : Int) (w : World) : Calls Try.prog 64 #[.int .i64 x] w fun e w' => e = .returned (.agg #[.int .i64 (wrap64 (Int.tdiv x 2)), .int .i64 (0), .int .i64 (wrap64 (x - wrap64 (Int.tdiv x 2))), .int .i64 (0)]) ∧ Below w.heap.size w w' := by
 have huS := Try.underlying78
 go_enter Try.func64, Try.ntmps64
 go_wp2
 exact bodyPost_ret (v := .agg #[.int .i64 (wrap64 (Int.tdiv x 2)), .int .i64 (0), .int .i64 (wrap64 (x - wrap64 (Int.tdiv x 2))), .int .i64 (0)]) (by simp [results, Try.results64, go_sem, Wp]) rfl ⟨rfl, by repeat (first | exact Below.refl _ _ | assumption | apply Zn | apply Qb | apply Qc | refine Qm ?_ (by simp))⟩
set_option maxRecDepth 100000 in
set_option maxHeartbeats 4000000 in
theorem spreadOf_0 (x : Int) (w : World) : Calls Try.prog 45 #[.int .i64 0, .int .i64 x] w fun e w' => e = .returned (.agg #[.int .i64 (x), .int .i64 (0), .int .i64 (0), .int .i64 (0)]) ∧ Below w.heap.size w w' := by
 have huS := Try.underlying78
 go_enter Try.func45, Try.ntmps45
 go_wp2_with (first | ((with_reducible refine We (N := 4) rfl ?_); refine Qy ?hg (N := 4) ?hd (cs := #[.int .i64 0, .int .i64 0, .int .i64 0, .int .i64 0]) (t := 78) ?hr ?_; (case hd => rfl); (case hg => rfl); (case hr => first | (go_simp; done) | (go_simp; rfl)); intro gb hg w1 hbox hb; have BK := Qa.mk hbox; have HB := Qa.mk hb; have GE := Qa.mk (show w.heap.size <= gb from Nat.le_of_eq hg.symm); clear hg hbox hb) | (go_at_call 60; refine (spread1_calls x _).mono ?_; rintro e w2 ⟨rfl, hb⟩; have BK2 := Qa.mk (Qk (Qd BK.out _) hb); have HB2 := Qa.mk (Ql (Qc HB.out _) hb); clear hb; have hc0 : w2.cell? ⟨gb, 0, none⟩ = some (.int .i64 0) := (Qe BK2.out 0).trans rfl; have hc1 : w2.cell? ⟨gb, 1, none⟩ = some (.int .i64 0) := (Qe BK2.out 1).trans rfl; have hc2 : w2.cell? ⟨gb, 2, none⟩ = some (.int .i64 0) := (Qe BK2.out 2).trans rfl; have hc3 : w2.cell? ⟨gb, 3, none⟩ = some (.int .i64 0) := (Qe BK2.out 3).trans rfl; have hf0 := Qf BK2.out 0; have hf1 := Qf BK2.out 1; have hf2 := Qf BK2.out 2; have hf3 := Qf BK2.out 3))
 exact bodyPost_ret (v := .agg #[.int .i64 (x), .int .i64 (0), .int .i64 (0), .int .i64 (0)]) (by simp [results, Try.results45, go_sem, hc0, hc1, hc2, hc3, hf0, hf1, hf2, hf3]) rfl ⟨rfl, by repeat (first | exact HB2.out | refine Qm ?_ GE.out)⟩
set_option maxRecDepth 100000 in
set_option maxHeartbeats 4000000 in
theorem spreadOf_1 (x : Int) (w : World) : Calls Try.prog 45 #[.int .i64 1, .int .i64 x] w fun e w' => e = .returned (.agg #[.int .i64 (0), .int .i64 (0), .int .i64 (0), .int .i64 (x)]) ∧ Below w.heap.size w w' := by
 have huS := Try.underlying78
 go_enter Try.func45, Try.ntmps45
 go_wp2_with (first | ((with_reducible refine We (N := 4) rfl ?_); refine Qy ?hg (N := 4) ?hd (cs := #[.int .i64 0, .int .i64 0, .int .i64 0, .int .i64 0]) (t := 78) ?hr ?_; (case hd => rfl); (case hg => rfl); (case hr => first | (go_simp; done) | (go_simp; rfl)); intro gb hg w1 hbox hb; have BK := Qa.mk hbox; have HB := Qa.mk hb; have GE := Qa.mk (show w.heap.size <= gb from Nat.le_of_eq hg.symm); clear hg hbox hb) | (go_at_call 62; refine (spread3_calls x _).mono ?_; rintro e w2 ⟨rfl, hb⟩; have BK2 := Qa.mk (Qk (Qd BK.out _) hb); have HB2 := Qa.mk (Ql (Qc HB.out _) hb); clear hb; have hc0 : w2.cell? ⟨gb, 0, none⟩ = some (.int .i64 0) := (Qe BK2.out 0).trans rfl; have hc1 : w2.cell? ⟨gb, 1, none⟩ = some (.int .i64 0) := (Qe BK2.out 1).trans rfl; have hc2 : w2.cell? ⟨gb, 2, none⟩ = some (.int .i64 0) := (Qe BK2.out 2).trans rfl; have hc3 : w2.cell? ⟨gb, 3, none⟩ = some (.int .i64 0) := (Qe BK2.out 3).trans rfl; have hf0 := Qf BK2.out 0; have hf1 := Qf BK2.out 1; have hf2 := Qf BK2.out 2; have hf3 := Qf BK2.out 3))
 exact bodyPost_ret (v := .agg #[.int .i64 (0), .int .i64 (0), .int .i64 (0), .int .i64 (x)]) (by simp [results, Try.results45, go_sem, hc0, hc1, hc2, hc3, hf0, hf1, hf2, hf3]) rfl ⟨rfl, by repeat (first | exact HB2.out | refine Qm ?_ GE.out)⟩
set_option maxRecDepth 100000 in
set_option maxHeartbeats 4000000 in
theorem spreadOf_2 (x : Int) (w : World) : Calls Try.prog 45 #[.int .i64 2, .int .i64 x] w fun e w' => e = .returned (.agg #[.int .i64 (0), .int .i64 (x), .int .i64 (0), .int .i64 (0)]) ∧ Below w.heap.size w w' := by
 have huS := Try.underlying78
 go_enter Try.func45, Try.ntmps45
 go_wp2_with (first | ((with_reducible refine We (N := 4) rfl ?_); refine Qy ?hg (N := 4) ?hd (cs := #[.int .i64 0, .int .i64 0, .int .i64 0, .int .i64 0]) (t := 78) ?hr ?_; (case hd => rfl); (case hg => rfl); (case hr => first | (go_simp; done) | (go_simp; rfl)); intro gb hg w1 hbox hb; have BK := Qa.mk hbox; have HB := Qa.mk hb; have GE := Qa.mk (show w.heap.size <= gb from Nat.le_of_eq hg.symm); clear hg hbox hb) | (go_at_call 61; refine (spread2_calls x _).mono ?_; rintro e w2 ⟨rfl, hb⟩; have BK2 := Qa.mk (Qk (Qd BK.out _) hb); have HB2 := Qa.mk (Ql (Qc HB.out _) hb); clear hb; have hc0 : w2.cell? ⟨gb, 0, none⟩ = some (.int .i64 0) := (Qe BK2.out 0).trans rfl; have hc1 : w2.cell? ⟨gb, 1, none⟩ = some (.int .i64 0) := (Qe BK2.out 1).trans rfl; have hc2 : w2.cell? ⟨gb, 2, none⟩ = some (.int .i64 0) := (Qe BK2.out 2).trans rfl; have hc3 : w2.cell? ⟨gb, 3, none⟩ = some (.int .i64 0) := (Qe BK2.out 3).trans rfl; have hf0 := Qf BK2.out 0; have hf1 := Qf BK2.out 1; have hf2 := Qf BK2.out 2; have hf3 := Qf BK2.out 3))
 exact bodyPost_ret (v := .agg #[.int .i64 (0), .int .i64 (x), .int .i64 (0), .int .i64 (0)]) (by simp [results, Try.results45, go_sem, hc0, hc1, hc2, hc3, hf0, hf1, hf2, hf3]) rfl ⟨rfl, by repeat (first | exact HB2.out | refine Qm ?_ GE.out)⟩
set_option maxRecDepth 100000 in
set_option maxHeartbeats 4000000 in
theorem spreadOf_3 (x : Int) (w : World) : Calls Try.prog 45 #[.int .i64 3, .int .i64 x] w fun e w' => e = .returned (.agg #[.int .i64 (0), .int .i64 (x), .int .i64 (0), .int .i64 (0)]) ∧ Below w.heap.size w w' := by
 have huS := Try.underlying78
 go_enter Try.func45, Try.ntmps45
 go_wp2_with (first | ((with_reducible refine We (N := 4) rfl ?_); refine Qy ?hg (N := 4) ?hd (cs := #[.int .i64 0, .int .i64 0, .int .i64 0, .int .i64 0]) (t := 78) ?hr ?_; (case hd => rfl); (case hg => rfl); (case hr => first | (go_simp; done) | (go_simp; rfl)); intro gb hg w1 hbox hb; have BK := Qa.mk hbox; have HB := Qa.mk hb; have GE := Qa.mk (show w.heap.size <= gb from Nat.le_of_eq hg.symm); clear hg hbox hb) | (go_at_call 61; refine (spread2_calls x _).mono ?_; rintro e w2 ⟨rfl, hb⟩; have BK2 := Qa.mk (Qk (Qd BK.out _) hb); have HB2 := Qa.mk (Ql (Qc HB.out _) hb); clear hb; have hc0 : w2.cell? ⟨gb, 0, none⟩ = some (.int .i64 0) := (Qe BK2.out 0).trans rfl; have hc1 : w2.cell? ⟨gb, 1, none⟩ = some (.int .i64 0) := (Qe BK2.out 1).trans rfl; have hc2 : w2.cell? ⟨gb, 2, none⟩ = some (.int .i64 0) := (Qe BK2.out 2).trans rfl; have hc3 : w2.cell? ⟨gb, 3, none⟩ = some (.int .i64 0) := (Qe BK2.out 3).trans rfl; have hf0 := Qf BK2.out 0; have hf1 := Qf BK2.out 1; have hf2 := Qf BK2.out 2; have hf3 := Qf BK2.out 3))
 exact bodyPost_ret (v := .agg #[.int .i64 (0), .int .i64 (x), .int .i64 (0), .int .i64 (0)]) (by simp [results, Try.results45, go_sem, hc0, hc1, hc2, hc3, hf0, hf1, hf2, hf3]) rfl ⟨rfl, by repeat (first | exact HB2.out | refine Qm ?_ GE.out)⟩
set_option maxRecDepth 100000 in
set_option maxHeartbeats 4000000 in
theorem spreadOf_4 (x : Int) (w : World) : Calls Try.prog 45 #[.int .i64 4, .int .i64 x] w fun e w' => e = .returned (.agg #[.int .i64 (wrap64 (Int.tdiv x 2)), .int .i64 (wrap64 (Int.tdiv x 2)), .int .i64 (wrap64 (wrap64 (x - wrap64 (Int.tdiv x 2)) - wrap64 (Int.tdiv x 2))), .int .i64 (0)]) ∧ Below w.heap.size w w' := by
 have huS := Try.underlying78
 go_enter Try.func45, Try.ntmps45
 go_wp2_with (first | ((with_reducible refine We (N := 4) rfl ?_); refine Qy ?hg (N := 4) ?hd (cs := #[.int .i64 0, .int .i64 0, .int .i64 0, .int .i64 0]) (t := 78) ?hr ?_; (case hd => rfl); (case hg => rfl); (case hr => first | (go_simp; done) | (go_simp; rfl)); intro gb hg w1 hbox hb; have BK := Qa.mk hbox; have HB := Qa.mk hb; have GE := Qa.mk (show w.heap.size <= gb from Nat.le_of_eq hg.symm); clear hg hbox hb) | (go_at_call 63; refine (spread4_calls x _).mono ?_; rintro e w2 ⟨rfl, hb⟩; have BK2 := Qa.mk (Qk (Qd BK.out _) hb); have HB2 := Qa.mk (Ql (Qc HB.out _) hb); clear hb; have hc0 : w2.cell? ⟨gb, 0, none⟩ = some (.int .i64 0) := (Qe BK2.out 0).trans rfl; have hc1 : w2.cell? ⟨gb, 1, none⟩ = some (.int .i64 0) := (Qe BK2.out 1).trans rfl; have hc2 : w2.cell? ⟨gb, 2, none⟩ = some (.int .i64 0) := (Qe BK2.out 2).trans rfl; have hc3 : w2.cell? ⟨gb, 3, none⟩ = some (.int .i64 0) := (Qe BK2.out 3).trans rfl; have hf0 := Qf BK2.out 0; have hf1 := Qf BK2.out 1; have hf2 := Qf BK2.out 2; have hf3 := Qf BK2.out 3))
 exact bodyPost_ret (v := .agg #[.int .i64 (wrap64 (Int.tdiv x 2)), .int .i64 (wrap64 (Int.tdiv x 2)), .int .i64 (wrap64 (wrap64 (x - wrap64 (Int.tdiv x 2)) - wrap64 (Int.tdiv x 2))), .int .i64 (0)]) (by simp [results, Try.results45, go_sem, hc0, hc1, hc2, hc3, hf0, hf1, hf2, hf3]) rfl ⟨rfl, by repeat (first | exact HB2.out | refine Qm ?_ GE.out)⟩
set_option maxRecDepth 100000 in
set_option maxHeartbeats 4000000 in
theorem spreadOf_5 (x : Int) (w : World) : Calls Try.prog 45 #[.int .i64 5, .int .i64 x] w fun e w' => e = .returned (.agg #[.int .i64 (wrap64 (Int.tdiv x 2)), .int .i64 (wrap64 (Int.tdiv x 2)), .int .i64 (wrap64 (wrap64 (x - wrap64 (Int.tdiv x 2)) - wrap64 (Int.tdiv x 2))), .int .i64 (0)]) ∧ Below w.heap.size w w' := by
 have huS := Try.underlying78
 go_enter Try.func45, Try.ntmps45
 go_wp2_with (first | ((with_reducible refine We (N := 4) rfl ?_); refine Qy ?hg (N := 4) ?hd (cs := #[.int .i64 0, .int .i64 0, .int .i64 0, .int .i64 0]) (t := 78) ?hr ?_; (case hd => rfl); (case hg => rfl); (case hr => first | (go_simp; done) | (go_simp; rfl)); intro gb hg w1 hbox hb; have BK := Qa.mk hbox; have HB := Qa.mk hb; have GE := Qa.mk (show w.heap.size <= gb from Nat.le_of_eq hg.symm); clear hg hbox hb) | (go_at_call 63; refine (spread4_calls x _).mono ?_; rintro e w2 ⟨rfl, hb⟩; have BK2 := Qa.mk (Qk (Qd BK.out _) hb); have HB2 := Qa.mk (Ql (Qc HB.out _) hb); clear hb; have hc0 : w2.cell? ⟨gb, 0, none⟩ = some (.int .i64 0) := (Qe BK2.out 0).trans rfl; have hc1 : w2.cell? ⟨gb, 1, none⟩ = some (.int .i64 0) := (Qe BK2.out 1).trans rfl; have hc2 : w2.cell? ⟨gb, 2, none⟩ = some (.int .i64 0) := (Qe BK2.out 2).trans rfl; have hc3 : w2.cell? ⟨gb, 3, none⟩ = some (.int .i64 0) := (Qe BK2.out 3).trans rfl; have hf0 := Qf BK2.out 0; have hf1 := Qf BK2.out 1; have hf2 := Qf BK2.out 2; have hf3 := Qf BK2.out 3))
 exact bodyPost_ret (v := .agg #[.int .i64 (wrap64 (Int.tdiv x 2)), .int .i64 (wrap64 (Int.tdiv x 2)), .int .i64 (wrap64 (wrap64 (x - wrap64 (Int.tdiv x 2)) - wrap64 (Int.tdiv x 2))), .int .i64 (0)]) (by simp [results, Try.results45, go_sem, hc0, hc1, hc2, hc3, hf0, hf1, hf2, hf3]) rfl ⟨rfl, by repeat (first | exact HB2.out | refine Qm ?_ GE.out)⟩
set_option maxRecDepth 100000 in
set_option maxHeartbeats 4000000 in
theorem spreadOf_6 (x : Int) (w : World) : Calls Try.prog 45 #[.int .i64 6, .int .i64 x] w fun e w' => e = .returned (.agg #[.int .i64 (wrap64 (Int.tdiv x 2)), .int .i64 (0), .int .i64 (wrap64 (x - wrap64 (Int.tdiv x 2))), .int .i64 (0)]) ∧ Below w.heap.size w w' := by
 have huS := Try.underlying78
 go_enter Try.func45, Try.ntmps45
 go_wp2_with (first | ((with_reducible refine We (N := 4) rfl ?_); refine Qy ?hg (N := 4) ?hd (cs := #[.int .i64 0, .int .i64 0, .int .i64 0, .int .i64 0]) (t := 78) ?hr ?_; (case hd => rfl); (case hg => rfl); (case hr => first | (go_simp; done) | (go_simp; rfl)); intro gb hg w1 hbox hb; have BK := Qa.mk hbox; have HB := Qa.mk hb; have GE := Qa.mk (show w.heap.size <= gb from Nat.le_of_eq hg.symm); clear hg hbox hb) | (go_at_call 64; refine (spread5_calls x _).mono ?_; rintro e w2 ⟨rfl, hb⟩; have BK2 := Qa.mk (Qk (Qd BK.out _) hb); have HB2 := Qa.mk (Ql (Qc HB.out _) hb); clear hb; have hc0 : w2.cell? ⟨gb, 0, none⟩ = some (.int .i64 0) := (Qe BK2.out 0).trans rfl; have hc1 : w2.cell? ⟨gb, 1, none⟩ = some (.int .i64 0) := (Qe BK2.out 1).trans rfl; have hc2 : w2.cell? ⟨gb, 2, none⟩ = some (.int .i64 0) := (Qe BK2.out 2).trans rfl; have hc3 : w2.cell? ⟨gb, 3, none⟩ = some (.int .i64 0) := (Qe BK2.out 3).trans rfl; have hf0 := Qf BK2.out 0; have hf1 := Qf BK2.out 1; have hf2 := Qf BK2.out 2; have hf3 := Qf BK2.out 3))
 exact bodyPost_ret (v := .agg #[.int .i64 (wrap64 (Int.tdiv x 2)), .int .i64 (0), .int .i64 (wrap64 (x - wrap64 (Int.tdiv x 2))), .int .i64 (0)]) (by simp [results, Try.results45, go_sem, hc0, hc1, hc2, hc3, hf0, hf1, hf2, hf3]) rfl ⟨rfl, by repeat (first | exact HB2.out | refine Qm ?_ GE.out)⟩
set_option maxRecDepth 100000 in
set_option maxHeartbeats 4000000 in
theorem spreadOf_7 (x : Int) (w : World) : Calls Try.prog 45 #[.int .i64 7, .int .i64 x] w fun e w' => e = .returned (.agg #[.int .i64 (0), .int .i64 (0), .int .i64 (0), .int .i64 (x)]) ∧ Below w.heap.size w w' := by
 have huS := Try.underlying78
 go_enter Try.func45, Try.ntmps45
 go_wp2_with (first | ((with_reducible refine We (N := 4) rfl ?_); refine Qy ?hg (N := 4) ?hd (cs := #[.int .i64 0, .int .i64 0, .int .i64 0, .int .i64 0]) (t := 78) ?hr ?_; (case hd => rfl); (case hg => rfl); (case hr => first | (go_simp; done) | (go_simp; rfl)); intro gb hg w1 hbox hb; have BK := Qa.mk hbox; have HB := Qa.mk hb; have GE := Qa.mk (show w.heap.size <= gb from Nat.le_of_eq hg.symm); clear hg hbox hb) | (go_at_call 62; refine (spread3_calls x _).mono ?_; rintro e w2 ⟨rfl, hb⟩; have BK2 := Qa.mk (Qk (Qd BK.out _) hb); have HB2 := Qa.mk (Ql (Qc HB.out _) hb); clear hb; have hc0 : w2.cell? ⟨gb, 0, none⟩ = some (.int .i64 0) := (Qe BK2.out 0).trans rfl; have hc1 : w2.cell? ⟨gb, 1, none⟩ = some (.int .i64 0) := (Qe BK2.out 1).trans rfl; have hc2 : w2.cell? ⟨gb, 2, none⟩ = some (.int .i64 0) := (Qe BK2.out 2).trans rfl; have hc3 : w2.cell? ⟨gb, 3, none⟩ = some (.int .i64 0) := (Qe BK2.out 3).trans rfl; have hf0 := Qf BK2.out 0; have hf1 := Qf BK2.out 1; have hf2 := Qf BK2.out 2; have hf3 := Qf BK2.out 3))
 exact bodyPost_ret (v := .agg #[.int .i64 (0), .int .i64 (0), .int .i64 (0), .int .i64 (x)]) (by simp [results, Try.results45, go_sem, hc0, hc1, hc2, hc3, hf0, hf1, hf2, hf3]) rfl ⟨rfl, by repeat (first | exact HB2.out | refine Qm ?_ GE.out)⟩
def Yq.f (k x : Int) : Option (Int × Int × Int × Int) :=
 if k = 0 then some (x, 0, 0, 0) else if k = 1 then some (0, 0, 0, x) else if k = 2 then some (0, x, 0, 0) else if k = 3 then some (0, x, 0, 0) else if k = 4 then some (wrap64 (Int.tdiv x 2), wrap64 (Int.tdiv x 2), wrap64 (wrap64 (x - wrap64 (Int.tdiv x 2)) - wrap64 (Int.tdiv x 2)), 0) else if k = 5 then some (wrap64 (Int.tdiv x 2), wrap64 (Int.tdiv x 2), wrap64 (wrap64 (x - wrap64 (Int.tdiv x 2)) - wrap64 (Int.tdiv x 2)), 0) else if k = 6 then some (wrap64 (Int.tdiv x 2), 0, wrap64 (x - wrap64 (Int.tdiv x 2)), 0) else if k = 7 then some (0, 0, 0, x) else none
theorem Yq.calls (a0 a1 r1 r2 r3 r4 : Int) (w : World) (h : Yq.f a0 a1 = some (r1, r2, r3, r4)) :
  Calls Try.prog 45 #[.int .i64 a0, .int .i64 a1] w fun e w' => e = .returned (.agg #[.int .i64 r1, .int .i64 r2, .int .i64 r3, .int .i64 r4]) ∧ Below w.heap.size w w' := by
 unfold Yq.f at h
 by_cases h0 : a0 = 0
 ·rw [if_pos h0] at h
  obtain ⟨rfl, rfl, rfl, rfl⟩ := by simpa using h
  subst h0
  exact spreadOf_0 a1 w
 rw [if_neg h0] at h
 by_cases h1 : a0 = 1
 ·rw [if_pos h1] at h
  obtain ⟨rfl, rfl, rfl, rfl⟩ := by simpa using h
  subst h1
  exact spreadOf_1 a1 w
 rw [if_neg h1] at h
 by_cases h2 : a0 = 2
 ·rw [if_pos h2] at h
  obtain ⟨rfl, rfl, rfl, rfl⟩ := by simpa using h
  subst h2
  exact spreadOf_2 a1 w
 rw [if_neg h2] at h
 by_cases h3 : a0 = 3
 ·rw [if_pos h3] at h
  obtain ⟨rfl, rfl, rfl, rfl⟩ := by simpa using h
  subst h3
  exact spreadOf_3 a1 w
 rw [if_neg h3] at h
 by_cases h4 : a0 = 4
 ·rw [if_pos h4] at h
  obtain ⟨rfl, rfl, rfl, rfl⟩ := by simpa using h
  subst h4
  exact spreadOf_4 a1 w
 rw [if_neg h4] at h
 by_cases h5 : a0 = 5
 ·rw [if_pos h5] at h
  obtain ⟨rfl, rfl, rfl, rfl⟩ := by simpa using h
  subst h5
  exact spreadOf_5 a1 w
 rw [if_neg h5] at h
 by_cases h6 : a0 = 6
 ·rw [if_pos h6] at h
  obtain ⟨rfl, rfl, rfl, rfl⟩ := by simpa using h
  subst h6
  exact spreadOf_6 a1 w
 rw [if_neg h6] at h
 by_cases h7 : a0 = 7
 ·rw [if_pos h7] at h
  obtain ⟨rfl, rfl, rfl, rfl⟩ := by simpa using h
  subst h7
  exact spreadOf_7 a1 w
 rw [if_neg h7] at h
 cases h
end Go.Proofs.Yteapnipnoadejaa.P
