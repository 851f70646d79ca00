/- PROVED: contracts of functions of the program, the reference and the statements; written by this session's driver (pk.py) through its own changed copy of the kit's print. No condition. -/
import Derived.Test.YtniaipoelaefnaaPx0
import Derived.Test.YtniaipoelaefnaaPx1
import Derived.Test.YtniaipoelaefnaaPx3
import Derived.Test.YtniaipoelaefnaaPx4
import Derived.Test.YtniaipoelaefnaaPx14
import Derived.Test.YtniaipoelaefnaaPx24
namespace Go.Proofs.Ytniaipoelaefnaa.P
open Go.RowKit Go.Proofs.YtniaipoelaefnaaW.PrintWords Go.Proofs.YtniaipoelaefnaaW.PrintLast Go.Proofs.YtniaipoelaefnaaW.PrintMore
attribute [local go_sem] max2_int min2_int max_two min_two max_three min_three max_four min_four   -- for this text's walks alone
set_option linter.unusedVariables false
set_option linter.unusedSimpArgs false

/-! ### laws_FnExactGridPut: function 10 -/
mutual
def laws_FnExactGridPut.j0 : Nat → Int → Bool → Bool → Bool → Int → List (S45) → Int → Int → Int → List (S48) → Int → List (S48) → Int → List (S48) → Option (Bool)
 | 0, _, _, _, _, _, _, _, _, _, _, _, _, _, _ => none
 | k + 1, x1, x9, x12, x50, x442000, x442001, x443000, x443001, x456000, x456001, x461000, x461001, x469000, x469001 => if x50 = true then (some false) else ((laws_toGrid.f k x442000 x442001).bind fun bt470 => ((laws_eqGrid.f k x461000 x461001 bt470.1 bt470.2).bind fun t474 => (if t474 = true then ((laws_markGrid.f k x461000 x461001 1).bind fun bt475 => (if bt475.1 < 0 then (laws_FnExactGridPut.j1 k x1 x9 true x442000 x442001 x443000 x443001 x456000 x456001 x469000 x469001) else ((laws_eqGrid.f k x469000 x469001 x456000 x456001).bind fun t477 => (if t477 = true then (laws_FnExactGridPut.j1 k x1 x9 (x12 != x9) x442000 x442001 x443000 x443001 x456000 x456001 x469000 x469001) else (laws_FnExactGridPut.j1 k x1 x9 true x442000 x442001 x443000 x443001 x456000 x456001 x469000 x469001))))) else (some false))))
def laws_FnExactGridPut.j1 : Nat → Int → Bool → Bool → Int → List (S45) → Int → Int → Int → List (S48) → Int → List (S48) → Option (Bool)
 | 0, _, _, _, _, _, _, _, _, _, _, _ => none
 | k + 1, x1, x9, x71, x442000, x442001, x443000, x443001, x456000, x456001, x469000, x469001 => if x71 = true then (some false) else ((laws_markGrid.f k x469000 x469001 1).bind fun bt478 => ((laws_heldGrid.f k x469000 bt478.2 1).bind fun t480 => (if t480 < 0 then (some false) else (if t480 = bt478.1 then ((laws_toGrid.f k x442000 x442001).bind fun bt481 => ((laws_toCell.f x443000 x443001).bind fun bt485 => ((impl_GridPut.f k bt481.1 bt481.2 x1 bt485.1 bt485.2).bind fun bt487 => ((laws_eqGrid.f k bt487.1 bt487.2.1 x456000 x456001).bind fun t493 => (if t493 = true then (laws_FnExactGridPut.j2 k bt478.1 (bt487.2.2 != x9) x469000 bt478.2) else (laws_FnExactGridPut.j2 k bt478.1 true x469000 bt478.2)))))) else (some false)))))
def laws_FnExactGridPut.j2 : Nat → Int → Bool → Int → List (S48) → Option (Bool)
 | 0, _, _, _, _ => none
 | k + 1, x14, x100, x469000, x469001 => if x100 = true then (some false) else ((laws_heldGrid.f k x469000 x469001 1).bind fun t494 => (if t494 < 0 then (some false) else (if t494 = x14 then (some true) else (some false))))
end
def laws_FnExactGridPut.f (k : Nat) (a0_0 : Int) (l0_1 : List (S45)) (a1 : Int) (a2_0 : Int) (a2_1 : Int) : Option (Bool) := (laws_szGrid.f a0_0 l0_1 1048576).bind fun t443 => (if t443 < 0 then (some true) else ((laws_toGrid.f k a0_0 l0_1).bind fun bt444 => ((laws_toCell.f a2_0 a2_1).bind fun bt448 => ((spec_GridPut.f k bt444.1 bt444.2 a1 bt448.1 bt448.2).bind fun bt450 => ((laws_toGrid.f k a0_0 l0_1).bind fun bt456 => ((laws_toCell.f a2_0 a2_1).bind fun bt461 => ((impl_GridPut.f k bt456.1 bt456.2 a1 bt461.1 bt461.2).bind fun bt463 => ((laws_eqGrid.f k bt463.1 bt463.2.1 bt450.1 bt450.2.1).bind fun t469 => (if t469 = true then (laws_FnExactGridPut.j0 k a1 bt450.2.2 bt463.2.2 (bt463.2.2 != bt450.2.2) a0_0 l0_1 a2_0 a2_1 bt450.1 bt450.2.1 bt456.1 bt456.2 bt463.1 bt463.2.1) else (laws_FnExactGridPut.j0 k a1 bt450.2.2 bt463.2.2 true a0_0 l0_1 a2_0 a2_1 bt450.1 bt450.2.1 bt456.1 bt456.2 bt463.1 bt463.2.1))))))))))
theorem laws_FnExactGridPut.mono_l : ∀ k, (∀ y0 y1 y2 y3 y4 y5 y6 y7 y8 y9 y10 y11 y12 y13, LeO (laws_FnExactGridPut.j0 k y0 y1 y2 y3 y4 y5 y6 y7 y8 y9 y10 y11 y12 y13) (laws_FnExactGridPut.j0 (k + 1) y0 y1 y2 y3 y4 y5 y6 y7 y8 y9 y10 y11 y12 y13)) ∧ (∀ y0 y1 y2 y3 y4 y5 y6 y7 y8 y9 y10, LeO (laws_FnExactGridPut.j1 k y0 y1 y2 y3 y4 y5 y6 y7 y8 y9 y10) (laws_FnExactGridPut.j1 (k + 1) y0 y1 y2 y3 y4 y5 y6 y7 y8 y9 y10)) ∧ (∀ y0 y1 y2 y3, LeO (laws_FnExactGridPut.j2 k y0 y1 y2 y3) (laws_FnExactGridPut.j2 (k + 1) y0 y1 y2 y3))
 | 0 => ⟨fun _ _ _ _ _ _ _ _ _ _ _ _ _ _ r h => by simp [laws_FnExactGridPut.j0] at h, fun _ _ _ _ _ _ _ _ _ _ _ r h => by simp [laws_FnExactGridPut.j1] at h, fun _ _ _ _ r h => by simp [laws_FnExactGridPut.j2] at h⟩
 | k + 1 => by
  obtain ⟨ih0, ih1, ih2⟩ := laws_FnExactGridPut.mono_l k
  refine ⟨?_, ?_, ?_⟩
  ·intro y0 y1 y2 y3 y4 y5 y6 y7 y8 y9 y10 y11 y12 y13
   unfold laws_FnExactGridPut.j0
   repeat' first
   | (with_reducible exact ih0 _ _ _ _ _ _ _ _ _ _ _ _ _ _)
   | (with_reducible exact ih1 _ _ _ _ _ _ _ _ _ _ _)
   | (with_reducible exact ih2 _ _ _ _)
   | (with_reducible exact impl_GridPut.mono _ _ _ _ _ _)
   | (with_reducible exact laws_eqGrid.mono _ _ _ _ _)
   | (with_reducible exact laws_heldGrid.mono _ _ _ _)
   | (with_reducible exact laws_markGrid.mono _ _ _ _)
   | (with_reducible exact laws_toGrid.mono _ _ _)
   | (with_reducible exact spec_GridPut.mono _ _ _ _ _ _)
   | (with_reducible exact LeO.refl _)
   | (with_reducible exact LeO.none _)
   | (with_reducible refine LeO.ite ?_ ?_)
   | (with_reducible refine LeO.bind ?_ (fun _ => ?_))
   | exact ih0 _ _ _ _ _ _ _ _ _ _ _ _ _ _
   | exact ih1 _ _ _ _ _ _ _ _ _ _ _
   | exact ih2 _ _ _ _
   | exact impl_GridPut.mono _ _ _ _ _ _
   | exact laws_eqGrid.mono _ _ _ _ _
   | exact laws_heldGrid.mono _ _ _ _
   | exact laws_markGrid.mono _ _ _ _
   | exact laws_toGrid.mono _ _ _
   | exact spec_GridPut.mono _ _ _ _ _ _
   | exact LeO.none _
   | refine LeO.ite ?_ ?_
   | refine LeO.bind ?_ (fun _ => ?_)
  ·intro y0 y1 y2 y3 y4 y5 y6 y7 y8 y9 y10
   unfold laws_FnExactGridPut.j1
   repeat' first
   | (with_reducible exact ih0 _ _ _ _ _ _ _ _ _ _ _ _ _ _)
   | (with_reducible exact ih1 _ _ _ _ _ _ _ _ _ _ _)
   | (with_reducible exact ih2 _ _ _ _)
   | (with_reducible exact impl_GridPut.mono _ _ _ _ _ _)
   | (with_reducible exact laws_eqGrid.mono _ _ _ _ _)
   | (with_reducible exact laws_heldGrid.mono _ _ _ _)
   | (with_reducible exact laws_markGrid.mono _ _ _ _)
   | (with_reducible exact laws_toGrid.mono _ _ _)
   | (with_reducible exact spec_GridPut.mono _ _ _ _ _ _)
   | (with_reducible exact LeO.refl _)
   | (with_reducible exact LeO.none _)
   | (with_reducible refine LeO.ite ?_ ?_)
   | (with_reducible refine LeO.bind ?_ (fun _ => ?_))
   | exact ih0 _ _ _ _ _ _ _ _ _ _ _ _ _ _
   | exact ih1 _ _ _ _ _ _ _ _ _ _ _
   | exact ih2 _ _ _ _
   | exact impl_GridPut.mono _ _ _ _ _ _
   | exact laws_eqGrid.mono _ _ _ _ _
   | exact laws_heldGrid.mono _ _ _ _
   | exact laws_markGrid.mono _ _ _ _
   | exact laws_toGrid.mono _ _ _
   | exact spec_GridPut.mono _ _ _ _ _ _
   | exact LeO.none _
   | refine LeO.ite ?_ ?_
   | refine LeO.bind ?_ (fun _ => ?_)
  ·intro y0 y1 y2 y3
   unfold laws_FnExactGridPut.j2
   repeat' first
   | (with_reducible exact ih0 _ _ _ _ _ _ _ _ _ _ _ _ _ _)
   | (with_reducible exact ih1 _ _ _ _ _ _ _ _ _ _ _)
   | (with_reducible exact ih2 _ _ _ _)
   | (with_reducible exact impl_GridPut.mono _ _ _ _ _ _)
   | (with_reducible exact laws_eqGrid.mono _ _ _ _ _)
   | (with_reducible exact laws_heldGrid.mono _ _ _ _)
   | (with_reducible exact laws_markGrid.mono _ _ _ _)
   | (with_reducible exact laws_toGrid.mono _ _ _)
   | (with_reducible exact spec_GridPut.mono _ _ _ _ _ _)
   | (with_reducible exact LeO.refl _)
   | (with_reducible exact LeO.none _)
   | (with_reducible refine LeO.ite ?_ ?_)
   | (with_reducible refine LeO.bind ?_ (fun _ => ?_))
   | exact ih0 _ _ _ _ _ _ _ _ _ _ _ _ _ _
   | exact ih1 _ _ _ _ _ _ _ _ _ _ _
   | exact ih2 _ _ _ _
   | exact impl_GridPut.mono _ _ _ _ _ _
   | exact laws_eqGrid.mono _ _ _ _ _
   | exact laws_heldGrid.mono _ _ _ _
   | exact laws_markGrid.mono _ _ _ _
   | exact laws_toGrid.mono _ _ _
   | exact spec_GridPut.mono _ _ _ _ _ _
   | exact LeO.none _
   | refine LeO.ite ?_ ?_
   | refine LeO.bind ?_ (fun _ => ?_)
theorem laws_FnExactGridPut.mono : ∀ a0 a1 a2 a3 a4 k, LeO (laws_FnExactGridPut.f k a0 a1 a2 a3 a4) (laws_FnExactGridPut.f (k + 1) a0 a1 a2 a3 a4) := by
 intro a0 a1 a2 a3 a4 k
 obtain ⟨ih0, ih1, ih2⟩ := laws_FnExactGridPut.mono_l k
 unfold laws_FnExactGridPut.f
 repeat' first
   | (with_reducible exact ih0 _ _ _ _ _ _ _ _ _ _ _ _ _ _)
   | (with_reducible exact ih1 _ _ _ _ _ _ _ _ _ _ _)
   | (with_reducible exact ih2 _ _ _ _)
   | (with_reducible exact impl_GridPut.mono _ _ _ _ _ _)
   | (with_reducible exact laws_eqGrid.mono _ _ _ _ _)
   | (with_reducible exact laws_heldGrid.mono _ _ _ _)
   | (with_reducible exact laws_markGrid.mono _ _ _ _)
   | (with_reducible exact laws_toGrid.mono _ _ _)
   | (with_reducible exact spec_GridPut.mono _ _ _ _ _ _)
   | (with_reducible exact LeO.refl _)
   | (with_reducible exact LeO.none _)
   | (with_reducible refine LeO.ite ?_ ?_)
   | (with_reducible refine LeO.bind ?_ (fun _ => ?_))
   | exact ih0 _ _ _ _ _ _ _ _ _ _ _ _ _ _
   | exact ih1 _ _ _ _ _ _ _ _ _ _ _
   | exact ih2 _ _ _ _
   | exact impl_GridPut.mono _ _ _ _ _ _
   | exact laws_eqGrid.mono _ _ _ _ _
   | exact laws_heldGrid.mono _ _ _ _
   | exact laws_markGrid.mono _ _ _ _
   | exact laws_toGrid.mono _ _ _
   | exact spec_GridPut.mono _ _ _ _ _ _
   | exact LeO.none _
   | refine LeO.ite ?_ ?_
   | refine LeO.bind ?_ (fun _ => ?_)
def laws_FnExactGridPut.T5 : Bool × List (List Nat × List Nat) := (true, [([], []), ([0], [0]), ([], []), ([], []), ([3, 1], [3]), ([1, 2, 4, 4], [1, 2, 4]), ([5], [5]), ([6], [6]), ([6], [6]), ([], []), ([9, 7, 5, 0, 1, 2, 3, 4, 5, 6, 7, 9], [7, 9]), ([8, 10, 0, 1, 2, 3, 4, 5, 6, 7, 8, 9, 10], [8])])
def laws_FnExactGridPut.B5 : List Nat := [0, 1, 0, 0, 11, 31, 63, 127, 127, 0, 767, 2047]
theorem laws_FnExactGridPut.tab5 : rtab .any (opsOf Try.f10 5) = laws_FnExactGridPut.T5 := by kernel_rfl
theorem laws_FnExactGridPut.bits5 : waitsOk laws_FnExactGridPut.T5.2 laws_FnExactGridPut.B5 = true := by kernel_rfl
def laws_FnExactGridPut.T7 : Bool × List (List Nat × List Nat) := (true, [([], []), ([], []), ([], []), ([2], [2]), ([0, 1, 3, 3], [0, 1, 3]), ([4], [4]), ([5], [5]), ([5], [5]), ([], []), ([8, 6, 4, 0, 1, 2, 3, 4, 5, 6, 8], [6, 8]), ([7, 9, 0, 1, 2, 3, 4, 5, 6, 7, 8, 9], [7])])
def laws_FnExactGridPut.B7 : List Nat := [0, 0, 0, 4, 15, 31, 63, 63, 0, 383, 1023]
theorem laws_FnExactGridPut.tab7 : rtab .any (opsOf Try.f10 7) = laws_FnExactGridPut.T7 := by kernel_rfl
theorem laws_FnExactGridPut.bits7 : waitsOk laws_FnExactGridPut.T7.2 laws_FnExactGridPut.B7 = true := by kernel_rfl
def laws_FnExactGridPut.T24 : Bool × List (List Nat × List Nat) := (true, [([], []), ([0], [0]), ([], []), ([], []), ([3, 1], [3]), ([1, 2, 4, 4], [1, 2, 4]), ([5], [5]), ([6], [6]), ([6], [6]), ([], []), ([9, 7, 5, 0, 1, 2, 3, 4, 5, 6, 7, 9], [7, 9]), ([8, 10, 0, 1, 2, 3, 4, 5, 6, 7, 8, 9, 10], [8])])
def laws_FnExactGridPut.B24 : List Nat := [0, 1, 0, 0, 11, 31, 63, 127, 127, 0, 767, 2047]
theorem laws_FnExactGridPut.tab24 : rtab .any (opsOf Try.f10 24) = laws_FnExactGridPut.T24 := by kernel_rfl
theorem laws_FnExactGridPut.bits24 : waitsOk laws_FnExactGridPut.T24.2 laws_FnExactGridPut.B24 = true := by kernel_rfl
set_option maxHeartbeats 8000000 in
set_option maxRecDepth 100000 in
theorem laws_FnExactGridPut.calls (k : Nat) (a0_0 : Int) (A0_1 : Option Addr) (c0_1 : Nat) (l0_1 : List (S45)) (a1 : Int) (a2_0 : Int) (a2_1 : Int) (r : Bool) (w : World) (hr0_1 : Kd.C k45 w A0_1 l0_1.length l0_1) (hc0_1 : l0_1.length ≤ c0_1) (h : laws_FnExactGridPut.f k a0_0 l0_1 a1 a2_0 a2_1 = some r) (hrt : r = true) :
  Calls Try.prog 10 #[.agg #[.int .i64 a0_0, .slice A0_1 l0_1.length c0_1], .int .i64 a1, .agg #[.int .i64 a2_0, .int .i64 a2_1]] w fun e w' => e = .returned (.bool r) ∧ Below w.heap.size w w' := by
 have HRT := Aside0.mk hrt
 clear hrt
 have hu24 := Try.underlying24
 have hu45 := Try.underlying45
 have hu29 := Try.underlying29
 have HR0_1 := Aside0.mk hr0_1
 have HC0_1 := Aside0.mk hc0_1
 clear hr0_1 hc0_1
 have HB := Aside0.mk (Below.refl w.heap.size w)
 have H : ((laws_szGrid.f a0_0 l0_1 1048576).bind fun t443 => (if t443 < 0 then (some true) else ((laws_toGrid.f k a0_0 l0_1).bind fun bt444 => ((laws_toCell.f a2_0 a2_1).bind fun bt448 => ((spec_GridPut.f k bt444.1 bt444.2 a1 bt448.1 bt448.2).bind fun bt450 => ((laws_toGrid.f k a0_0 l0_1).bind fun bt456 => ((laws_toCell.f a2_0 a2_1).bind fun bt461 => ((impl_GridPut.f k bt456.1 bt456.2 a1 bt461.1 bt461.2).bind fun bt463 => ((laws_eqGrid.f k bt463.1 bt463.2.1 bt450.1 bt450.2.1).bind fun t469 => (if t469 = true then (laws_FnExactGridPut.j0 k a1 bt450.2.2 bt463.2.2 (bt463.2.2 != bt450.2.2) a0_0 l0_1 a2_0 a2_1 bt450.1 bt450.2.1 bt456.1 bt456.2 bt463.1 bt463.2.1) else (laws_FnExactGridPut.j0 k a1 bt450.2.2 bt463.2.2 true a0_0 l0_1 a2_0 a2_1 bt450.1 bt450.2.1 bt456.1 bt456.2 bt463.1 bt463.2.1))))))))))) = some r := h
 clear h
 replace H := Option.bind_eq_some_iff.mp H
 obtain ⟨t443, A40, H⟩ := H
 replace H : (if t443 < 0 then (some true) else ((laws_toGrid.f k a0_0 l0_1).bind fun bt444 => ((laws_toCell.f a2_0 a2_1).bind fun bt448 => ((spec_GridPut.f k bt444.1 bt444.2 a1 bt448.1 bt448.2).bind fun bt450 => ((laws_toGrid.f k a0_0 l0_1).bind fun bt456 => ((laws_toCell.f a2_0 a2_1).bind fun bt461 => ((impl_GridPut.f k bt456.1 bt456.2 a1 bt461.1 bt461.2).bind fun bt463 => ((laws_eqGrid.f k bt463.1 bt463.2.1 bt450.1 bt450.2.1).bind fun t469 => (if t469 = true then (laws_FnExactGridPut.j0 k a1 bt450.2.2 bt463.2.2 (bt463.2.2 != bt450.2.2) a0_0 l0_1 a2_0 a2_1 bt450.1 bt450.2.1 bt456.1 bt456.2 bt463.1 bt463.2.1) else (laws_FnExactGridPut.j0 k a1 bt450.2.2 bt463.2.2 true a0_0 l0_1 a2_0 a2_1 bt450.1 bt450.2.1 bt456.1 bt456.2 bt463.1 bt463.2.1)))))))))) = some r := H
 have A4 := Aside0.mk A40
 clear A40
 by_cases c5 : t443 < 0
 ·rw [if_pos c5] at H
  have c5b0 : decide (t443 < 0) = true := decide_eq_true c5
  clear c5
  obtain rfl := Option.some.inj H
  go_enter Try.func10, Try.ntmps10
  go_wp2_with (first | ((with_reducible refine gate_dst (N := 3) rfl ?_); refine box_event ?hg (N := 3) ?hd (cs := #[.int .i64 a0_0, .slice A0_1 l0_1.length c0_1]) (t := 24) ?hr ?_; (case hd => rfl); (case hg => rfl); (case hr => first | (go_simp; done) | (go_simp; rfl)); intro gb441 hg w6 hbox hb; have n0_ := Aside0.mk (below_step (by repeat (first | (with_reducible first | exact HB.out | apply below_alloc | apply pw_below_drewN | apply below_drew1) | exact HB.out)) hb); have n1_ := Aside0.mk (hbox); have n2_ := Aside0.mk ((by rw [hg]; exact (below_size (by repeat (first | (with_reducible first | exact HB.out | apply below_alloc | apply pw_below_drewN | apply below_drew1) | exact HB.out))) : w.heap.size ≤ gb441)); have n3_ := Aside0.mk ((by rw [hg]; exact (below_size (by repeat (first | (with_reducible first | exact HB.out | apply below_alloc | apply pw_below_drewN | apply below_drew1) | exact HB.out))) : w.heap.size ≤ gb441)); clear HB; have HB := n0_; have BK441 := n1_; have GW441 := n2_; have GE441 := n3_; clear n0_ n1_ n2_ n3_; clear hb hbox hg) | ((with_reducible refine gate_dst (N := 5) rfl ?_); refine box_event ?hg (N := 5) ?hd (cs := #[.int .i64 a2_0, .int .i64 a2_1]) (t := 45) ?hr ?_; (case hd => rfl); (case hg => rfl); (case hr => first | (go_simp; done) | (go_simp; rfl)); intro gb442 hg w7 hbox hb; have n0_ := Aside0.mk (blk_below (bK BK441.out) hb); have n1_ := Aside0.mk (below_step (by repeat (first | (with_reducible first | exact HB.out | apply below_alloc | apply pw_below_drewN | apply below_drew1 | refine below_set ?_ GE441.out) | exact HB.out)) hb); have n2_ := Aside0.mk (hbox); have n3_ := Aside0.mk ((by rw [hg]; exact (below_size (by repeat (first | (with_reducible first | exact HB.out | apply below_alloc | apply pw_below_drewN | apply below_drew1 | refine below_set ?_ GE441.out) | exact HB.out))) : w.heap.size ≤ gb442)); have n4_ := Aside0.mk ((by rw [hg]; exact (below_size (by repeat (first | (with_reducible first | exact HB.out | apply below_alloc | apply pw_below_drewN | apply below_drew1 | refine below_set ?_ GE441.out) | exact HB.out))) : w.heap.size ≤ gb442)); have n5_ := Aside0.mk ((by rw [hg]; exact Nat.ne_of_lt (blk_lt (bK BK441.out)) : gb441 ≠ gb442)); have n6_ := Aside0.mk ((by rw [hg]; exact Nat.ne_of_gt (blk_lt (bK BK441.out)) : gb442 ≠ gb441)); clear BK441; clear HB; have BK441 := n0_; have HB := n1_; have BK442 := n2_; have GW442 := n3_; have GE442 := n4_; have NB441_442 := n5_; have NB442_441 := n6_; clear n0_ n1_ n2_ n3_ n4_ n5_ n6_; clear hb hbox hg; have hnb8 := NB441_442.out; have hnc8 := NB442_441.out; have hcz9_0 : w7.cell? ⟨gb441, 0, none⟩ = some (.int .i64 a0_0) := (blk_cell BK441.out 0).trans rfl; have hcz9_1 : w7.cell? ⟨gb441, 1, none⟩ = some (.slice A0_1 l0_1.length c0_1) := (blk_cell BK441.out 1).trans rfl; have hfz9_0 := blk_frozen BK441.out 0; have hfz9_1 := blk_frozen BK441.out 1) | ((with_reducible refine gate_callee (f := 15) rfl ?_); refine goesL_ (some 20) rfl rfl Try.func15 (by kernel_rfl) rfl #[.agg #[.int .i64 a0_0, .slice A0_1 l0_1.length c0_1], .int .i64 1048576] rfl (by (try simp only [List.map_toArray, List.map_cons, List.map_nil]); first | done | rfl | (simp only [List.length_drop, List.length_take]; rfl)) ?_; (with_reducible refine (laws_szGrid.calls a0_0 _ _ l0_1 1048576 t443 _ ?side1 ?side2 A4.out).mono ?_); (case side1 => repeat (first | exact (Kd.C_below HR0_1.out HB.out) | (with_reducible refine Kd.C_alloc ?_ _) | (with_reducible refine Kd.C_drewN ?_ _) | (with_reducible refine Kd.C_drew ?_))); (case side2 => exact HC0_1.out); rintro e w10 ⟨rfl, hb⟩; refine ⟨_, rfl, ?_⟩; have n0_ := Aside0.mk (blk_below (bK BK441.out) hb); have n1_ := Aside0.mk (blk_below (bK BK442.out) hb); have n2_ := Aside0.mk (below_step (by repeat (first | (with_reducible first | exact HB.out | apply below_alloc | apply pw_below_drewN | apply below_drew1 | refine below_set ?_ GE441.out | refine below_set ?_ GE442.out) | exact HB.out)) hb); clear BK441; clear BK442; clear HB; have BK441 := n0_; have BK442 := n1_; have HB := n2_; clear n0_ n1_ n2_; (try clear hb); (try clear hb2); (try clear hk); (try clear hi)))
  go_ret
  exact ⟨by first | rfl | (simp [errW_none, errW_some] <;> rfl) | (simp [*, errW_none, errW_some] <;> rfl), by repeat (first | (with_reducible first | exact HB.out | apply below_alloc | apply pw_below_drewN | apply below_drew1 | refine below_set ?_ GE441.out | refine below_set ?_ GE442.out) | exact HB.out)⟩
 ·rw [if_neg c5] at H
  have c5b0 : decide (t443 < 0) = false := decide_eq_false c5
  clear c5
  replace H := Option.bind_eq_some_iff.mp H
  obtain ⟨⟨t444, t445⟩, A110, H⟩ := H
  replace H : ((laws_toCell.f a2_0 a2_1).bind fun bt448 => ((spec_GridPut.f k t444 t445 a1 bt448.1 bt448.2).bind fun bt450 => ((laws_toGrid.f k a0_0 l0_1).bind fun bt456 => ((laws_toCell.f a2_0 a2_1).bind fun bt461 => ((impl_GridPut.f k bt456.1 bt456.2 a1 bt461.1 bt461.2).bind fun bt463 => ((laws_eqGrid.f k bt463.1 bt463.2.1 bt450.1 bt450.2.1).bind fun t469 => (if t469 = true then (laws_FnExactGridPut.j0 k a1 bt450.2.2 bt463.2.2 (bt463.2.2 != bt450.2.2) a0_0 l0_1 a2_0 a2_1 bt450.1 bt450.2.1 bt456.1 bt456.2 bt463.1 bt463.2.1) else (laws_FnExactGridPut.j0 k a1 bt450.2.2 bt463.2.2 true a0_0 l0_1 a2_0 a2_1 bt450.1 bt450.2.1 bt456.1 bt456.2 bt463.1 bt463.2.1)))))))) = some r := H
  have A11 := Aside0.mk A110
  clear A110
  replace H := Option.bind_eq_some_iff.mp H
  obtain ⟨⟨t448, t449⟩, A120, H⟩ := H
  replace H : ((spec_GridPut.f k t444 t445 a1 t448 t449).bind fun bt450 => ((laws_toGrid.f k a0_0 l0_1).bind fun bt456 => ((laws_toCell.f a2_0 a2_1).bind fun bt461 => ((impl_GridPut.f k bt456.1 bt456.2 a1 bt461.1 bt461.2).bind fun bt463 => ((laws_eqGrid.f k bt463.1 bt463.2.1 bt450.1 bt450.2.1).bind fun t469 => (if t469 = true then (laws_FnExactGridPut.j0 k a1 bt450.2.2 bt463.2.2 (bt463.2.2 != bt450.2.2) a0_0 l0_1 a2_0 a2_1 bt450.1 bt450.2.1 bt456.1 bt456.2 bt463.1 bt463.2.1) else (laws_FnExactGridPut.j0 k a1 bt450.2.2 bt463.2.2 true a0_0 l0_1 a2_0 a2_1 bt450.1 bt450.2.1 bt456.1 bt456.2 bt463.1 bt463.2.1))))))) = some r := H
  have A12 := Aside0.mk A120
  clear A120
  replace H := Option.bind_eq_some_iff.mp H
  obtain ⟨⟨t450, t451, t454⟩, A130, H⟩ := H
  replace H : ((laws_toGrid.f k a0_0 l0_1).bind fun bt456 => ((laws_toCell.f a2_0 a2_1).bind fun bt461 => ((impl_GridPut.f k bt456.1 bt456.2 a1 bt461.1 bt461.2).bind fun bt463 => ((laws_eqGrid.f k bt463.1 bt463.2.1 t450 t451).bind fun t469 => (if t469 = true then (laws_FnExactGridPut.j0 k a1 t454 bt463.2.2 (bt463.2.2 != t454) a0_0 l0_1 a2_0 a2_1 t450 t451 bt456.1 bt456.2 bt463.1 bt463.2.1) else (laws_FnExactGridPut.j0 k a1 t454 bt463.2.2 true a0_0 l0_1 a2_0 a2_1 t450 t451 bt456.1 bt456.2 bt463.1 bt463.2.1)))))) = some r := H
  have A13 := Aside0.mk A130
  clear A130
  replace H := Option.bind_eq_some_iff.mp H
  obtain ⟨⟨t456, t457⟩, A140, H⟩ := H
  replace H : ((laws_toCell.f a2_0 a2_1).bind fun bt461 => ((impl_GridPut.f k t456 t457 a1 bt461.1 bt461.2).bind fun bt463 => ((laws_eqGrid.f k bt463.1 bt463.2.1 t450 t451).bind fun t469 => (if t469 = true then (laws_FnExactGridPut.j0 k a1 t454 bt463.2.2 (bt463.2.2 != t454) a0_0 l0_1 a2_0 a2_1 t450 t451 t456 t457 bt463.1 bt463.2.1) else (laws_FnExactGridPut.j0 k a1 t454 bt463.2.2 true a0_0 l0_1 a2_0 a2_1 t450 t451 t456 t457 bt463.1 bt463.2.1))))) = some r := H
  have A14 := Aside0.mk A140
  clear A140
  replace H := Option.bind_eq_some_iff.mp H
  obtain ⟨⟨t461, t462⟩, A150, H⟩ := H
  replace H : ((impl_GridPut.f k t456 t457 a1 t461 t462).bind fun bt463 => ((laws_eqGrid.f k bt463.1 bt463.2.1 t450 t451).bind fun t469 => (if t469 = true then (laws_FnExactGridPut.j0 k a1 t454 bt463.2.2 (bt463.2.2 != t454) a0_0 l0_1 a2_0 a2_1 t450 t451 t456 t457 bt463.1 bt463.2.1) else (laws_FnExactGridPut.j0 k a1 t454 bt463.2.2 true a0_0 l0_1 a2_0 a2_1 t450 t451 t456 t457 bt463.1 bt463.2.1)))) = some r := H
  have A15 := Aside0.mk A150
  clear A150
  replace H := Option.bind_eq_some_iff.mp H
  obtain ⟨⟨t463, t464, t467⟩, A160, H⟩ := H
  replace H : ((laws_eqGrid.f k t463 t464 t450 t451).bind fun t469 => (if t469 = true then (laws_FnExactGridPut.j0 k a1 t454 t467 (t467 != t454) a0_0 l0_1 a2_0 a2_1 t450 t451 t456 t457 t463 t464) else (laws_FnExactGridPut.j0 k a1 t454 t467 true a0_0 l0_1 a2_0 a2_1 t450 t451 t456 t457 t463 t464))) = some r := H
  have A16 := Aside0.mk A160
  clear A160
  have HC17 := Aside0.mk H
  clear H
  go_enter Try.func10, Try.ntmps10
  try go_wp2_with (first | ((with_reducible refine gate_dst (N := 3) rfl ?_); refine box_event ?hg (N := 3) ?hd (cs := #[.int .i64 a0_0, .slice A0_1 l0_1.length c0_1]) (t := 24) ?hr ?_; (case hd => rfl); (case hg => rfl); (case hr => first | (go_simp; done) | (go_simp; rfl)); intro gb441 hg w18 hbox hb; have n0_ := Aside0.mk (below_step (by repeat (first | (with_reducible first | exact HB.out | apply below_alloc | apply pw_below_drewN | apply below_drew1) | exact HB.out)) hb); have n1_ := Aside0.mk (hbox); have n2_ := Aside0.mk ((by rw [hg]; exact (below_size (by repeat (first | (with_reducible first | exact HB.out | apply below_alloc | apply pw_below_drewN | apply below_drew1) | exact HB.out))) : w.heap.size ≤ gb441)); have n3_ := Aside0.mk ((by rw [hg]; exact (below_size (by repeat (first | (with_reducible first | exact HB.out | apply below_alloc | apply pw_below_drewN | apply below_drew1) | exact HB.out))) : w.heap.size ≤ gb441)); clear HB; have HB := n0_; have BK441 := n1_; have GW441 := n2_; have GE441 := n3_; clear n0_ n1_ n2_ n3_; clear hb hbox hg) | ((with_reducible refine gate_dst (N := 5) rfl ?_); refine box_event ?hg (N := 5) ?hd (cs := #[.int .i64 a2_0, .int .i64 a2_1]) (t := 45) ?hr ?_; (case hd => rfl); (case hg => rfl); (case hr => first | (go_simp; done) | (go_simp; rfl)); intro gb442 hg w19 hbox hb; have n0_ := Aside0.mk (blk_below (bK BK441.out) hb); have n1_ := Aside0.mk (below_step (by repeat (first | (with_reducible first | exact HB.out | apply below_alloc | apply pw_below_drewN | apply below_drew1 | refine below_set ?_ GE441.out) | exact HB.out)) hb); have n2_ := Aside0.mk (hbox); have n3_ := Aside0.mk ((by rw [hg]; exact (below_size (by repeat (first | (with_reducible first | exact HB.out | apply below_alloc | apply pw_below_drewN | apply below_drew1 | refine below_set ?_ GE441.out) | exact HB.out))) : w.heap.size ≤ gb442)); have n4_ := Aside0.mk ((by rw [hg]; exact (below_size (by repeat (first | (with_reducible first | exact HB.out | apply below_alloc | apply pw_below_drewN | apply below_drew1 | refine below_set ?_ GE441.out) | exact HB.out))) : w.heap.size ≤ gb442)); have n5_ := Aside0.mk ((by rw [hg]; exact Nat.ne_of_lt (blk_lt (bK BK441.out)) : gb441 ≠ gb442)); have n6_ := Aside0.mk ((by rw [hg]; exact Nat.ne_of_gt (blk_lt (bK BK441.out)) : gb442 ≠ gb441)); clear BK441; clear HB; have BK441 := n0_; have HB := n1_; have BK442 := n2_; have GW442 := n3_; have GE442 := n4_; have NB441_442 := n5_; have NB442_441 := n6_; clear n0_ n1_ n2_ n3_ n4_ n5_ n6_; clear hb hbox hg; have hnb20 := NB441_442.out; have hnc20 := NB442_441.out; have hcz21_0 : w19.cell? ⟨gb441, 0, none⟩ = some (.int .i64 a0_0) := (blk_cell BK441.out 0).trans rfl; have hcz21_1 : w19.cell? ⟨gb441, 1, none⟩ = some (.slice A0_1 l0_1.length c0_1) := (blk_cell BK441.out 1).trans rfl; have hfz21_0 := blk_frozen BK441.out 0; have hfz21_1 := blk_frozen BK441.out 1) | ((with_reducible refine gate_callee (f := 15) rfl ?_); refine goesL_ (some 20) rfl rfl Try.func15 (by kernel_rfl) rfl #[.agg #[.int .i64 a0_0, .slice A0_1 l0_1.length c0_1], .int .i64 1048576] rfl (by (try simp only [List.map_toArray, List.map_cons, List.map_nil]); first | done | rfl | (simp only [List.length_drop, List.length_take]; rfl)) ?_; (with_reducible refine (laws_szGrid.calls a0_0 _ _ l0_1 1048576 t443 _ ?side1 ?side2 A4.out).mono ?_); (case side1 => repeat (first | exact (Kd.C_below HR0_1.out HB.out) | (with_reducible refine Kd.C_alloc ?_ _) | (with_reducible refine Kd.C_drewN ?_ _) | (with_reducible refine Kd.C_drew ?_))); (case side2 => exact HC0_1.out); rintro e w22 ⟨rfl, hb⟩; refine ⟨_, rfl, ?_⟩; have n0_ := Aside0.mk (blk_below (bK BK441.out) hb); have n1_ := Aside0.mk (blk_below (bK BK442.out) hb); have n2_ := Aside0.mk (below_step (by repeat (first | (with_reducible first | exact HB.out | apply below_alloc | apply pw_below_drewN | apply below_drew1 | refine below_set ?_ GE441.out | refine below_set ?_ GE442.out) | exact HB.out)) hb); clear BK441; clear BK442; clear HB; have BK441 := n0_; have BK442 := n1_; have HB := n2_; clear n0_ n1_ n2_; (try clear hb); (try clear hb2); (try clear hk); (try clear hi)))
  have n0_ := Aside0.mk (blk_drew BK441.out)
  have n1_ := Aside0.mk (blk_drew BK442.out)
  have n2_ := Aside0.mk (below_drew1 HB.out)
  clear BK441
  clear BK442
  clear HB
  have BK441 := n0_
  have BK442 := n1_
  have HB := n2_
  clear n0_ n1_ n2_
  refine start_ (n := 12) (S := fun w' => w'.cell? ⟨gb441, 0, none⟩ = some (.int .i64 a0_0) ∧ w'.cell? ⟨gb441, 1, none⟩ = some (.slice A0_1 l0_1.length c0_1) ∧ w'.cell? ⟨gb442, 0, none⟩ = some (.int .i64 a2_0) ∧ w'.cell? ⟨gb442, 1, none⟩ = some (.int .i64 a2_1)) (ds := []) #[false, false, false, false, false, false, false, false, false, false, false, false] (by kernel_rfl) rfl rfl ⟨(blk_cell BK441.out 0).trans rfl, (blk_cell BK441.out 1).trans rfl, (blk_cell BK442.out 0).trans rfl, (blk_cell BK442.out 1).trans rfl⟩ (fun hHeld => ?_); refine with_tabW laws_FnExactGridPut.tab5 laws_FnExactGridPut.bits5 (fun HT_ HW_ => ?_)
  generalize w22.drew = w23 at BK441 BK442 HB hHeld ⊢
  refine pure_ (i := 2) (N := some 26) (v := ?_) (a' := ?_) #[false, false, true, false, false, false, false, false, false, false, false, false] rfl rfl (any_of HT_.out (by kernel_rfl)) (fun _ _ _ h => h) (Or.inl ⟨by rfl, ?_⟩) ?_ ?_
  rotate_left
  ·intro w'
   go_simp
   with_reducible rfl
  rotate_left
  ·simp only [Act.put, List.setIfInBounds_toArray, List.set_cons_zero, List.set_cons_succ, i64_w, i32_w]
   rfl
  refine take_ (i := 0) (N := some 24) (v := ?_) (a' := ?_) #[true, false, true, false, false, false, false, false, false, false, false, false] rfl rfl (take_ofW HT_.out HW_.out (by kernel_rfl)) (fun _ _ _ h => h) (Or.inl ⟨by rfl, ?_⟩) hHeld ?_ ?_
  rotate_left
  ·rintro w' ⟨s0, s1, s2, s3⟩
   go_simp
   with_reducible rfl
  rotate_left
  ·simp only [Act.put, List.setIfInBounds_toArray, List.set_cons_zero, List.set_cons_succ, i64_w, i32_w]
   rfl
  refine take_ (i := 3) (N := some 27) (v := ?_) (a' := ?_) #[true, false, true, true, false, false, false, false, false, false, false, false] rfl rfl (take_ofW HT_.out HW_.out (by kernel_rfl)) (fun _ _ _ h => h) (Or.inl ⟨by rfl, ?_⟩) hHeld ?_ ?_
  rotate_left
  ·rintro w' ⟨s0, s1, s2, s3⟩
   go_simp
   with_reducible rfl
  rotate_left
  ·simp only [Act.put, List.setIfInBounds_toArray, List.set_cons_zero, List.set_cons_succ, i64_w, i32_w]
   rfl
  refine join_ (σ := Value × Value × Nat) 2 #[true, true, true, true, true, true, true, true, true, true, false, false] (fun s_ => [(25, .agg #[.int .i64 t444, s_.1]), (28, .agg #[.int .i64 t448, .int .i64 t449]), (29, .tuple #[.agg #[.int .i64 t450, s_.2.1], .bool t454]), (8, .pointer (some ⟨s_.2.2, 0, none⟩)), (23, .tuple #[.agg #[.int .i64 t450, s_.2.1], .bool t454]), (30, .agg #[.int .i64 t450, s_.2.1]), (31, .bool t454)]) (fun s_ w' => (w'.cell? ⟨gb441, 0, none⟩ = some (.int .i64 a0_0) ∧ w'.cell? ⟨gb441, 1, none⟩ = some (.slice A0_1 l0_1.length c0_1) ∧ w'.cell? ⟨gb442, 0, none⟩ = some (.int .i64 a2_0) ∧ w'.cell? ⟨gb442, 1, none⟩ = some (.int .i64 a2_1)) ∧ (Kd.R k48 48 w' w.heap.size (fun k_ => some k_ ≠ (s_.2.1 : Value).ownBlock) s_.1 t445) ∧ (Kd.R k48 48 w' w.heap.size (fun k_ => some k_ ≠ (s_.1 : Value).ownBlock) s_.2.1 t451) ∧ (w'.heap[gb441]? = some (.cells #[.int .i64 a0_0, .slice A0_1 l0_1.length c0_1] 24 (0, 0))) ∧ (w'.heap[gb442]? = some (.cells #[.int .i64 a2_0, .int .i64 a2_1] 45 (0, 0))) ∧ (w'.heap[s_.2.2]? = some (.cells #[.int .i64 0, .slice none 0 0] 29 (0, 0))) ∧ (w.heap.size ≤ s_.2.2) ∧ (w.heap.size ≤ s_.2.2) ∧ (gb441 ≠ s_.2.2) ∧ (s_.2.2 ≠ gb441) ∧ (gb442 ≠ s_.2.2) ∧ (s_.2.2 ≠ gb442) ∧ (Below w.heap.size w w')) ?_ ?_
  rotate_left
  ·intro hCont
   refine two_ (i := 1) (j := 9) (Ni := some 25) (Nj := some 8) #[true, true, true, true, false, false, false, false, false, false, false, false] #[true, false, true, true, false, false, false, false, false, true, false, false] rfl rfl rfl rfl (two_of HT_.out (by kernel_rfl)) (by decide) (by decide) (fun K hK => ?_) (fun K hK => ?_)
   ·skip
    refine goes_ Try.func17 (by kernel_rfl) rfl #[.agg #[.int .i64 a0_0, .slice A0_1 l0_1.length c0_1]] (by rfl) rfl rfl (by (try simp only [List.map_toArray, List.map_cons, List.map_nil]); first | done | rfl | (simp only [List.length_drop, List.length_take]; rfl)) ?_
    with_reducible refine (laws_toGrid.calls k a0_0 _ _ l0_1 t444 t445 _ ?side1 ?side2 A11.out).mono ?_
    (case side1 => repeat (first | exact (Kd.C_below HR0_1.out HB.out) | (with_reducible refine Kd.C_alloc ?_ _) | (with_reducible refine Kd.C_drewN ?_ _) | (with_reducible refine Kd.C_drew ?_)))
    (case side2 => exact HC0_1.out)
    rintro e w24 ⟨v446, rfl, ho0, hb⟩
    refine ⟨_, rfl, ?_⟩
    have n0_ := Aside0.mk (Kd.R_lower ho0 (below_size (by repeat (first | (with_reducible first | exact HB.out | apply below_alloc | apply pw_below_drewN | apply below_drew1 | refine below_set ?_ GE441.out | refine below_set ?_ GE442.out) | exact HB.out))))
    have n1_ := Aside0.mk (blk_below (bK BK441.out) hb)
    have n2_ := Aside0.mk (blk_below (bK BK442.out) hb)
    have n3_ := Aside0.mk (below_step (by repeat (first | (with_reducible first | exact HB.out | apply below_alloc | apply pw_below_drewN | apply below_drew1 | refine below_set ?_ GE441.out | refine below_set ?_ GE442.out) | exact HB.out)) hb)
    clear BK441
    clear BK442
    clear HB
    have HO447 := n0_
    have BK441 := n1_
    have BK442 := n2_
    have HB := n3_
    clear n0_ n1_ n2_ n3_
    (try clear hb)
    (try clear hb2)
    (try clear hk)
    (try clear hi)
    (try clear ho0)
    refine hK.out _ _ ⟨(blk_cell BK441.out 0).trans rfl, (blk_cell BK441.out 1).trans rfl, (blk_cell BK442.out 0).trans rfl, (blk_cell BK442.out 1).trans rfl⟩ (fun hHeld => ?_)
    clear hK K
    refine norm_ (a' := ?_) ?_ ?_
    rotate_left
    ·show Act.put _ (some 25) _ = _
     simp only [Act.put, List.setIfInBounds_toArray, List.set_cons_zero, List.set_cons_succ, i64_w, i32_w]
     rfl
    refine two_ (i := 4) (j := 9) (Ni := some 28) (Nj := some 8) #[true, true, true, true, true, false, false, false, false, false, false, false] #[true, true, true, true, false, false, false, false, false, true, false, false] rfl rfl rfl rfl (two_of HT_.out (by kernel_rfl)) (by decide) (by decide) (fun K hK => ?_) (fun K hK => ?_)
    ·skip
     refine goes_ Try.func34 (by kernel_rfl) rfl #[.agg #[.int .i64 a2_0, .int .i64 a2_1]] (by rfl) rfl rfl (by (try simp only [List.map_toArray, List.map_cons, List.map_nil]); first | done | rfl | (simp only [List.length_drop, List.length_take]; rfl)) ?_
     with_reducible refine (laws_toCell.calls a2_0 a2_1 t448 t449 _ A12.out).mono ?_
     rintro e w25 ⟨rfl, hb⟩
     refine ⟨_, rfl, ?_⟩
     have n0_ := Aside0.mk (Kd.R_below (kR HO447.out) hb)
     have n1_ := Aside0.mk (blk_below (bK BK441.out) hb)
     have n2_ := Aside0.mk (blk_below (bK BK442.out) hb)
     have n3_ := Aside0.mk (below_step (by repeat (first | (with_reducible first | exact HB.out | apply below_alloc | apply pw_below_drewN | apply below_drew1 | refine below_set ?_ GE441.out | refine below_set ?_ GE442.out) | exact HB.out)) hb)
     clear HO447
     clear BK441
     clear BK442
     clear HB
     have HO447 := n0_
     have BK441 := n1_
     have BK442 := n2_
     have HB := n3_
     clear n0_ n1_ n2_ n3_
     (try clear hb)
     (try clear hb2)
     (try clear hk)
     (try clear hi)
     obtain ⟨Ao26, co26, eo26⟩ := Kd.R_slice HO447.out
     (first | subst eo26 | (injection eo26 with f1_ f2_ f3_; have f4_ := f1_.symm; have f5_ := f3_.symm; clear f1_ f2_ f3_; subst f4_; subst f5_))
     refine hK.out _ _ ⟨(blk_cell BK441.out 0).trans rfl, (blk_cell BK441.out 1).trans rfl, (blk_cell BK442.out 0).trans rfl, (blk_cell BK442.out 1).trans rfl⟩ (fun hHeld => ?_)
     clear hK K
     refine norm_ (a' := ?_) ?_ ?_
     rotate_left
     ·show Act.put _ (some 28) _ = _
      simp only [Act.put, List.setIfInBounds_toArray, List.set_cons_zero, List.set_cons_succ, i64_w, i32_w]
      rfl
     refine two_ (i := 5) (j := 9) (Ni := some 29) (Nj := some 8) #[true, true, true, true, true, true, false, false, false, false, false, false] #[true, true, true, true, true, false, false, false, false, true, false, false] rfl rfl rfl rfl (two_of HT_.out (by kernel_rfl)) (by decide) (by decide) (fun K hK => ?_) (fun K hK => ?_)
     ·skip
      refine goes_ Try.func33 (by kernel_rfl) rfl #[.agg #[.int .i64 t444, .slice Ao26 t445.length co26], .int .i64 a1, .agg #[.int .i64 t448, .int .i64 t449]] (by rfl) rfl rfl (by (try simp only [List.map_toArray, List.map_cons, List.map_nil]); first | done | rfl | (simp only [List.length_drop, List.length_take]; rfl)) ?_
      with_reducible refine (spec_GridPut.calls k t444 _ _ t445 a1 t448 t449 t450 t451 t454 _ ?side1 ?side2 A13.out).mono ?_
      (case side1 => repeat (first | exact (Kd.R_reads' HO447.out).2.2 | (with_reducible refine Kd.C_alloc ?_ _) | (with_reducible refine Kd.C_drewN ?_ _) | (with_reducible refine Kd.C_drew ?_)))
      (case side2 => exact (Kd.R_reads' HO447.out).2.1)
      rintro e w27 ⟨v452, rfl, ho0, hb⟩
      refine ⟨_, rfl, ?_⟩
      have n0_ := Aside0.mk (Kd.R_elder' (kR HO447.out) (Kd.R_base ho0) hb)
      have n1_ := Aside0.mk (Kd.R_lower (Kd.R_new' ho0 (Kd.R_lt (kR HO447.out))) (below_size (by repeat (first | (with_reducible first | exact HB.out | apply below_alloc | apply pw_below_drewN | apply below_drew1 | refine below_set ?_ GE441.out | refine below_set ?_ GE442.out) | exact HB.out))))
      have n2_ := Aside0.mk (blk_below (bK BK441.out) hb)
      have n3_ := Aside0.mk (blk_below (bK BK442.out) hb)
      have n4_ := Aside0.mk (below_step (by repeat (first | (with_reducible first | exact HB.out | apply below_alloc | apply pw_below_drewN | apply below_drew1 | refine below_set ?_ GE441.out | refine below_set ?_ GE442.out) | exact HB.out)) hb)
      clear HO447
      clear BK441
      clear BK442
      clear HB
      have HO447 := n0_
      have HO453 := n1_
      have BK441 := n2_
      have BK442 := n3_
      have HB := n4_
      clear n0_ n1_ n2_ n3_ n4_
      (try clear hb)
      (try clear hb2)
      (try clear hk)
      (try clear hi)
      (try clear ho0)
      refine hK.out _ _ ⟨(blk_cell BK441.out 0).trans rfl, (blk_cell BK441.out 1).trans rfl, (blk_cell BK442.out 0).trans rfl, (blk_cell BK442.out 1).trans rfl⟩ (fun hHeld => ?_)
      clear hK K
      refine norm_ (a' := ?_) ?_ ?_
      rotate_left
      ·show Act.put _ (some 29) _ = _
       simp only [Act.put, List.setIfInBounds_toArray, List.set_cons_zero, List.set_cons_succ, i64_w, i32_w]
       rfl
      refine pure_ (i := 6) (N := some 23) (v := ?_) (a' := ?_) #[true, true, true, true, true, true, true, false, false, false, false, false] rfl rfl (any_of HT_.out (by kernel_rfl)) (fun _ _ _ h => h) (Or.inl ⟨by rfl, ?_⟩) ?_ ?_
      rotate_left
      ·intro w'
       go_simp
       with_reducible rfl
      rotate_left
      ·simp only [Act.put, List.setIfInBounds_toArray, List.set_cons_zero, List.set_cons_succ, i64_w, i32_w]
       rfl
      refine pure_ (i := 7) (N := some 30) (v := ?_) (a' := ?_) #[true, true, true, true, true, true, true, true, false, false, false, false] rfl rfl (any_of HT_.out (by kernel_rfl)) (fun _ _ _ h => h) (Or.inl ⟨by rfl, ?_⟩) ?_ ?_
      rotate_left
      ·intro w'
       go_simp
       with_reducible rfl
      rotate_left
      ·simp only [Act.put, List.setIfInBounds_toArray, List.set_cons_zero, List.set_cons_succ, i64_w, i32_w]
       rfl
      refine pure_ (i := 8) (N := some 31) (v := ?_) (a' := ?_) #[true, true, true, true, true, true, true, true, true, false, false, false] rfl rfl (any_of HT_.out (by kernel_rfl)) (fun _ _ _ h => h) (Or.inl ⟨by rfl, ?_⟩) ?_ ?_
      rotate_left
      ·intro w'
       go_simp
       with_reducible rfl
      rotate_left
      ·simp only [Act.put, List.setIfInBounds_toArray, List.set_cons_zero, List.set_cons_succ, i64_w, i32_w]
       rfl
      refine one_ (i := 9) (N := some 8) #[true, true, true, true, true, true, true, true, true, true, false, false] rfl rfl (one_of HT_.out (by kernel_rfl)) (by decide) (fun K hK => ?_)
      refine box_step ?hg (N := 8) ?hd (cs := #[.int .i64 0, .slice none 0 0]) (t := 29) ?hr ?_; (case hd => rfl); (case hg => rfl); (case hr => first | (go_simp; done) | (go_simp; rfl))
      intro gb455 hg w28 hbox hb
      have n0_ := Aside0.mk (Kd.R_below (kR HO447.out) hb)
      have n1_ := Aside0.mk (Kd.R_below (kR HO453.out) hb)
      have n2_ := Aside0.mk (blk_below (bK BK441.out) hb)
      have n3_ := Aside0.mk (blk_below (bK BK442.out) hb)
      have n4_ := Aside0.mk (below_step (by repeat (first | (with_reducible first | exact HB.out | apply below_alloc | apply pw_below_drewN | apply below_drew1 | refine below_set ?_ GE441.out | refine below_set ?_ GE442.out) | exact HB.out)) hb)
      have n5_ := Aside0.mk (hbox)
      have n6_ := Aside0.mk ((by rw [hg]; exact (below_size (by repeat (first | (with_reducible first | exact HB.out | apply below_alloc | apply pw_below_drewN | apply below_drew1 | refine below_set ?_ GE441.out | refine below_set ?_ GE442.out) | exact HB.out))) : w.heap.size ≤ gb455))
      have n7_ := Aside0.mk ((by rw [hg]; exact (below_size (by repeat (first | (with_reducible first | exact HB.out | apply below_alloc | apply pw_below_drewN | apply below_drew1 | refine below_set ?_ GE441.out | refine below_set ?_ GE442.out) | exact HB.out))) : w.heap.size ≤ gb455))
      have n8_ := Aside0.mk ((by rw [hg]; exact Nat.ne_of_lt (blk_lt (bK BK441.out)) : gb441 ≠ gb455))
      have n9_ := Aside0.mk ((by rw [hg]; exact Nat.ne_of_gt (blk_lt (bK BK441.out)) : gb455 ≠ gb441))
      have n10_ := Aside0.mk ((by rw [hg]; exact Nat.ne_of_lt (blk_lt (bK BK442.out)) : gb442 ≠ gb455))
      have n11_ := Aside0.mk ((by rw [hg]; exact Nat.ne_of_gt (blk_lt (bK BK442.out)) : gb455 ≠ gb442))
      clear HO447
      clear HO453
      clear BK441
      clear BK442
      clear HB
      have HO447 := n0_
      have HO453 := n1_
      have BK441 := n2_
      have BK442 := n3_
      have HB := n4_
      have BK455 := n5_
      have GW455 := n6_
      have GE455 := n7_
      have NB441_455 := n8_
      have NB455_441 := n9_
      have NB442_455 := n10_
      have NB455_442 := n11_
      clear n0_ n1_ n2_ n3_ n4_ n5_ n6_ n7_ n8_ n9_ n10_ n11_
      clear hb hbox hg
      refine hK.out _ _ ⟨(blk_cell BK441.out 0).trans rfl, (blk_cell BK441.out 1).trans rfl, (blk_cell BK442.out 0).trans rfl, (blk_cell BK442.out 1).trans rfl⟩ (fun hHeld => ?_)
      clear hK K
      refine norm_ (a' := ?_) ?_ ?_
      rotate_left
      ·show Act.put _ (some 8) _ = _
       simp only [Act.put, List.setIfInBounds_toArray, List.set_cons_zero, List.set_cons_succ, i64_w, i32_w]
       rfl
      exact norm_ (by simp only [putAll, Act.put, List.setIfInBounds_toArray, List.set_cons_zero, List.set_cons_succ]) (hCont (.slice Ao26 t445.length co26, v452, gb455) _ ⟨hHeld, (by (with_reducible repeat (first | apply Kd.R_alloc | apply Kd.R_drewN | apply Kd.R_drew)); exact Kd.R_mono HO447.out (fun _ hk => hk.2)), (by (with_reducible repeat (first | apply Kd.R_alloc | apply Kd.R_drewN | apply Kd.R_drew)); exact Kd.R_mono HO453.out (fun _ hk => hk.2)), (bK BK441.out), (bK BK442.out), (bK BK455.out), GW455.out, GE455.out, NB441_455.out, NB455_441.out, NB442_455.out, NB455_442.out, (by repeat (first | (with_reducible first | exact HB.out | apply below_alloc | apply pw_below_drewN | apply below_drew1 | refine below_set ?_ GE441.out | refine below_set ?_ GE442.out | refine below_set ?_ GE455.out) | exact HB.out))⟩)
     ·skip
      refine box_step ?hg (N := 8) ?hd (cs := #[.int .i64 0, .slice none 0 0]) (t := 29) ?hr ?_; (case hd => rfl); (case hg => rfl); (case hr => first | (go_simp; done) | (go_simp; rfl))
      intro gb455 hg w26 hbox hb
      have n0_ := Aside0.mk (Kd.R_below (kR HO447.out) hb)
      have n1_ := Aside0.mk (blk_below (bK BK441.out) hb)
      have n2_ := Aside0.mk (blk_below (bK BK442.out) hb)
      have n3_ := Aside0.mk (below_step (by repeat (first | (with_reducible first | exact HB.out | apply below_alloc | apply pw_below_drewN | apply below_drew1 | refine below_set ?_ GE441.out | refine below_set ?_ GE442.out) | exact HB.out)) hb)
      have n4_ := Aside0.mk (hbox)
      have n5_ := Aside0.mk ((by rw [hg]; exact (below_size (by repeat (first | (with_reducible first | exact HB.out | apply below_alloc | apply pw_below_drewN | apply below_drew1 | refine below_set ?_ GE441.out | refine below_set ?_ GE442.out) | exact HB.out))) : w.heap.size ≤ gb455))
      have n6_ := Aside0.mk ((by rw [hg]; exact (below_size (by repeat (first | (with_reducible first | exact HB.out | apply below_alloc | apply pw_below_drewN | apply below_drew1 | refine below_set ?_ GE441.out | refine below_set ?_ GE442.out) | exact HB.out))) : w.heap.size ≤ gb455))
      have n7_ := Aside0.mk ((by rw [hg]; exact Nat.ne_of_lt (blk_lt (bK BK441.out)) : gb441 ≠ gb455))
      have n8_ := Aside0.mk ((by rw [hg]; exact Nat.ne_of_gt (blk_lt (bK BK441.out)) : gb455 ≠ gb441))
      have n9_ := Aside0.mk ((by rw [hg]; exact Nat.ne_of_lt (blk_lt (bK BK442.out)) : gb442 ≠ gb455))
      have n10_ := Aside0.mk ((by rw [hg]; exact Nat.ne_of_gt (blk_lt (bK BK442.out)) : gb455 ≠ gb442))
      clear HO447
      clear BK441
      clear BK442
      clear HB
      have HO447 := n0_
      have BK441 := n1_
      have BK442 := n2_
      have HB := n3_
      have BK455 := n4_
      have GW455 := n5_
      have GE455 := n6_
      have NB441_455 := n7_
      have NB455_441 := n8_
      have NB442_455 := n9_
      have NB455_442 := n10_
      clear n0_ n1_ n2_ n3_ n4_ n5_ n6_ n7_ n8_ n9_ n10_
      clear hb hbox hg
      obtain ⟨Ao27, co27, eo27⟩ := Kd.R_slice HO447.out
      (first | subst eo27 | (injection eo27 with f1_ f2_ f3_; have f4_ := f1_.symm; have f5_ := f3_.symm; clear f1_ f2_ f3_; subst f4_; subst f5_))
      refine hK.out _ _ ⟨(blk_cell BK441.out 0).trans rfl, (blk_cell BK441.out 1).trans rfl, (blk_cell BK442.out 0).trans rfl, (blk_cell BK442.out 1).trans rfl⟩ (fun hHeld => ?_)
      clear hK K
      refine norm_ (a' := ?_) ?_ ?_
      rotate_left
      ·show Act.put _ (some 8) _ = _
       simp only [Act.put, List.setIfInBounds_toArray, List.set_cons_zero, List.set_cons_succ, i64_w, i32_w]
       rfl
      refine one_ (i := 5) (N := some 29) #[true, true, true, true, true, true, false, false, false, true, false, false] rfl rfl (one_of HT_.out (by kernel_rfl)) (by decide) (fun K hK => ?_)
      refine goes_ Try.func33 (by kernel_rfl) rfl #[.agg #[.int .i64 t444, .slice Ao27 t445.length co27], .int .i64 a1, .agg #[.int .i64 t448, .int .i64 t449]] (by rfl) rfl rfl (by (try simp only [List.map_toArray, List.map_cons, List.map_nil]); first | done | rfl | (simp only [List.length_drop, List.length_take]; rfl)) ?_
      with_reducible refine (spec_GridPut.calls k t444 _ _ t445 a1 t448 t449 t450 t451 t454 _ ?side1 ?side2 A13.out).mono ?_
      (case side1 => repeat (first | exact (Kd.R_reads' HO447.out).2.2 | (with_reducible refine Kd.C_alloc ?_ _) | (with_reducible refine Kd.C_drewN ?_ _) | (with_reducible refine Kd.C_drew ?_)))
      (case side2 => exact (Kd.R_reads' HO447.out).2.1)
      rintro e w28 ⟨v452, rfl, ho0, hb⟩
      refine ⟨_, rfl, ?_⟩
      have n0_ := Aside0.mk (Kd.R_elder' (kR HO447.out) (Kd.R_base ho0) hb)
      have n1_ := Aside0.mk (Kd.R_lower (Kd.R_new' ho0 (Kd.R_lt (kR HO447.out))) (below_size (by repeat (first | (with_reducible first | exact HB.out | apply below_alloc | apply pw_below_drewN | apply below_drew1 | refine below_set ?_ GE441.out | refine below_set ?_ GE442.out | refine below_set ?_ GE455.out) | exact HB.out))))
      have n2_ := Aside0.mk (blk_below (bK BK441.out) hb)
      have n3_ := Aside0.mk (blk_below (bK BK442.out) hb)
      have n4_ := Aside0.mk (blk_below (bK BK455.out) hb)
      have n5_ := Aside0.mk (below_step (by repeat (first | (with_reducible first | exact HB.out | apply below_alloc | apply pw_below_drewN | apply below_drew1 | refine below_set ?_ GE441.out | refine below_set ?_ GE442.out | refine below_set ?_ GE455.out) | exact HB.out)) hb)
      clear HO447
      clear BK441
      clear BK442
      clear BK455
      clear HB
      have HO447 := n0_
      have HO453 := n1_
      have BK441 := n2_
      have BK442 := n3_
      have BK455 := n4_
      have HB := n5_
      clear n0_ n1_ n2_ n3_ n4_ n5_
      (try clear hb)
      (try clear hb2)
      (try clear hk)
      (try clear hi)
      (try clear ho0)
      refine hK.out _ _ ⟨(blk_cell BK441.out 0).trans rfl, (blk_cell BK441.out 1).trans rfl, (blk_cell BK442.out 0).trans rfl, (blk_cell BK442.out 1).trans rfl⟩ (fun hHeld => ?_)
      clear hK K
      refine norm_ (a' := ?_) ?_ ?_
      rotate_left
      ·show Act.put _ (some 29) _ = _
       simp only [Act.put, List.setIfInBounds_toArray, List.set_cons_zero, List.set_cons_succ, i64_w, i32_w]
       rfl
      refine pure_ (i := 6) (N := some 23) (v := ?_) (a' := ?_) #[true, true, true, true, true, true, true, false, false, true, false, false] rfl rfl (any_of HT_.out (by kernel_rfl)) (fun _ _ _ h => h) (Or.inl ⟨by rfl, ?_⟩) ?_ ?_
      rotate_left
      ·intro w'
       go_simp
       with_reducible rfl
      rotate_left
      ·simp only [Act.put, List.setIfInBounds_toArray, List.set_cons_zero, List.set_cons_succ, i64_w, i32_w]
       rfl
      refine pure_ (i := 7) (N := some 30) (v := ?_) (a' := ?_) #[true, true, true, true, true, true, true, true, false, true, false, false] rfl rfl (any_of HT_.out (by kernel_rfl)) (fun _ _ _ h => h) (Or.inl ⟨by rfl, ?_⟩) ?_ ?_
      rotate_left
      ·intro w'
       go_simp
       with_reducible rfl
      rotate_left
      ·simp only [Act.put, List.setIfInBounds_toArray, List.set_cons_zero, List.set_cons_succ, i64_w, i32_w]
       rfl
      refine pure_ (i := 8) (N := some 31) (v := ?_) (a' := ?_) #[true, true, true, true, true, true, true, true, true, true, false, false] rfl rfl (any_of HT_.out (by kernel_rfl)) (fun _ _ _ h => h) (Or.inl ⟨by rfl, ?_⟩) ?_ ?_
      rotate_left
      ·intro w'
       go_simp
       with_reducible rfl
      rotate_left
      ·simp only [Act.put, List.setIfInBounds_toArray, List.set_cons_zero, List.set_cons_succ, i64_w, i32_w]
       rfl
      exact norm_ (by simp only [putAll, Act.put, List.setIfInBounds_toArray, List.set_cons_zero, List.set_cons_succ]) (hCont (.slice Ao27 t445.length co27, v452, gb455) _ ⟨hHeld, (by (with_reducible repeat (first | apply Kd.R_alloc | apply Kd.R_drewN | apply Kd.R_drew)); exact Kd.R_mono HO447.out (fun _ hk => hk.2)), (by (with_reducible repeat (first | apply Kd.R_alloc | apply Kd.R_drewN | apply Kd.R_drew)); exact Kd.R_mono HO453.out (fun _ hk => hk.2)), (bK BK441.out), (bK BK442.out), (bK BK455.out), GW455.out, GE455.out, NB441_455.out, NB455_441.out, NB442_455.out, NB455_442.out, (by repeat (first | (with_reducible first | exact HB.out | apply below_alloc | apply pw_below_drewN | apply below_drew1 | refine below_set ?_ GE441.out | refine below_set ?_ GE442.out | refine below_set ?_ GE455.out) | exact HB.out))⟩)
    ·skip
     refine box_step ?hg (N := 8) ?hd (cs := #[.int .i64 0, .slice none 0 0]) (t := 29) ?hr ?_; (case hd => rfl); (case hg => rfl); (case hr => first | (go_simp; done) | (go_simp; rfl))
     intro gb455 hg w25 hbox hb
     have n0_ := Aside0.mk (Kd.R_below (kR HO447.out) hb)
     have n1_ := Aside0.mk (blk_below (bK BK441.out) hb)
     have n2_ := Aside0.mk (blk_below (bK BK442.out) hb)
     have n3_ := Aside0.mk (below_step (by repeat (first | (with_reducible first | exact HB.out | apply below_alloc | apply pw_below_drewN | apply below_drew1 | refine below_set ?_ GE441.out | refine below_set ?_ GE442.out) | exact HB.out)) hb)
     have n4_ := Aside0.mk (hbox)
     have n5_ := Aside0.mk ((by rw [hg]; exact (below_size (by repeat (first | (with_reducible first | exact HB.out | apply below_alloc | apply pw_below_drewN | apply below_drew1 | refine below_set ?_ GE441.out | refine below_set ?_ GE442.out) | exact HB.out))) : w.heap.size ≤ gb455))
     have n6_ := Aside0.mk ((by rw [hg]; exact (below_size (by repeat (first | (with_reducible first | exact HB.out | apply below_alloc | apply pw_below_drewN | apply below_drew1 | refine below_set ?_ GE441.out | refine below_set ?_ GE442.out) | exact HB.out))) : w.heap.size ≤ gb455))
     have n7_ := Aside0.mk ((by rw [hg]; exact Nat.ne_of_lt (blk_lt (bK BK441.out)) : gb441 ≠ gb455))
     have n8_ := Aside0.mk ((by rw [hg]; exact Nat.ne_of_gt (blk_lt (bK BK441.out)) : gb455 ≠ gb441))
     have n9_ := Aside0.mk ((by rw [hg]; exact Nat.ne_of_lt (blk_lt (bK BK442.out)) : gb442 ≠ gb455))
     have n10_ := Aside0.mk ((by rw [hg]; exact Nat.ne_of_gt (blk_lt (bK BK442.out)) : gb455 ≠ gb442))
     clear HO447
     clear BK441
     clear BK442
     clear HB
     have HO447 := n0_
     have BK441 := n1_
     have BK442 := n2_
     have HB := n3_
     have BK455 := n4_
     have GW455 := n5_
     have GE455 := n6_
     have NB441_455 := n7_
     have NB455_441 := n8_
     have NB442_455 := n9_
     have NB455_442 := n10_
     clear n0_ n1_ n2_ n3_ n4_ n5_ n6_ n7_ n8_ n9_ n10_
     clear hb hbox hg
     refine hK.out _ _ ⟨(blk_cell BK441.out 0).trans rfl, (blk_cell BK441.out 1).trans rfl, (blk_cell BK442.out 0).trans rfl, (blk_cell BK442.out 1).trans rfl⟩ (fun hHeld => ?_)
     clear hK K
     refine norm_ (a' := ?_) ?_ ?_
     rotate_left
     ·show Act.put _ (some 8) _ = _
      simp only [Act.put, List.setIfInBounds_toArray, List.set_cons_zero, List.set_cons_succ, i64_w, i32_w]
      rfl
     refine one_ (i := 4) (N := some 28) #[true, true, true, true, true, false, false, false, false, true, false, false] rfl rfl (one_of HT_.out (by kernel_rfl)) (by decide) (fun K hK => ?_)
     refine goes_ Try.func34 (by kernel_rfl) rfl #[.agg #[.int .i64 a2_0, .int .i64 a2_1]] (by rfl) rfl rfl (by (try simp only [List.map_toArray, List.map_cons, List.map_nil]); first | done | rfl | (simp only [List.length_drop, List.length_take]; rfl)) ?_
     with_reducible refine (laws_toCell.calls a2_0 a2_1 t448 t449 _ A12.out).mono ?_
     rintro e w26 ⟨rfl, hb⟩
     refine ⟨_, rfl, ?_⟩
     have n0_ := Aside0.mk (Kd.R_below (kR HO447.out) hb)
     have n1_ := Aside0.mk (blk_below (bK BK441.out) hb)
     have n2_ := Aside0.mk (blk_below (bK BK442.out) hb)
     have n3_ := Aside0.mk (blk_below (bK BK455.out) hb)
     have n4_ := Aside0.mk (below_step (by repeat (first | (with_reducible first | exact HB.out | apply below_alloc | apply pw_below_drewN | apply below_drew1 | refine below_set ?_ GE441.out | refine below_set ?_ GE442.out | refine below_set ?_ GE455.out) | exact HB.out)) hb)
     clear HO447
     clear BK441
     clear BK442
     clear BK455
     clear HB
     have HO447 := n0_
     have BK441 := n1_
     have BK442 := n2_
     have BK455 := n3_
     have HB := n4_
     clear n0_ n1_ n2_ n3_ n4_
     (try clear hb)
     (try clear hb2)
     (try clear hk)
     (try clear hi)
     obtain ⟨Ao27, co27, eo27⟩ := Kd.R_slice HO447.out
     (first | subst eo27 | (injection eo27 with f1_ f2_ f3_; have f4_ := f1_.symm; have f5_ := f3_.symm; clear f1_ f2_ f3_; subst f4_; subst f5_))
     refine hK.out _ _ ⟨(blk_cell BK441.out 0).trans rfl, (blk_cell BK441.out 1).trans rfl, (blk_cell BK442.out 0).trans rfl, (blk_cell BK442.out 1).trans rfl⟩ (fun hHeld => ?_)
     clear hK K
     refine norm_ (a' := ?_) ?_ ?_
     rotate_left
     ·show Act.put _ (some 28) _ = _
      simp only [Act.put, List.setIfInBounds_toArray, List.set_cons_zero, List.set_cons_succ, i64_w, i32_w]
      rfl
     refine one_ (i := 5) (N := some 29) #[true, true, true, true, true, true, false, false, false, true, false, false] rfl rfl (one_of HT_.out (by kernel_rfl)) (by decide) (fun K hK => ?_)
     refine goes_ Try.func33 (by kernel_rfl) rfl #[.agg #[.int .i64 t444, .slice Ao27 t445.length co27], .int .i64 a1, .agg #[.int .i64 t448, .int .i64 t449]] (by rfl) rfl rfl (by (try simp only [List.map_toArray, List.map_cons, List.map_nil]); first | done | rfl | (simp only [List.length_drop, List.length_take]; rfl)) ?_
     with_reducible refine (spec_GridPut.calls k t444 _ _ t445 a1 t448 t449 t450 t451 t454 _ ?side1 ?side2 A13.out).mono ?_
     (case side1 => repeat (first | exact (Kd.R_reads' HO447.out).2.2 | (with_reducible refine Kd.C_alloc ?_ _) | (with_reducible refine Kd.C_drewN ?_ _) | (with_reducible refine Kd.C_drew ?_)))
     (case side2 => exact (Kd.R_reads' HO447.out).2.1)
     rintro e w28 ⟨v452, rfl, ho0, hb⟩
     refine ⟨_, rfl, ?_⟩
     have n0_ := Aside0.mk (Kd.R_elder' (kR HO447.out) (Kd.R_base ho0) hb)
     have n1_ := Aside0.mk (Kd.R_lower (Kd.R_new' ho0 (Kd.R_lt (kR HO447.out))) (below_size (by repeat (first | (with_reducible first | exact HB.out | apply below_alloc | apply pw_below_drewN | apply below_drew1 | refine below_set ?_ GE441.out | refine below_set ?_ GE442.out | refine below_set ?_ GE455.out) | exact HB.out))))
     have n2_ := Aside0.mk (blk_below (bK BK441.out) hb)
     have n3_ := Aside0.mk (blk_below (bK BK442.out) hb)
     have n4_ := Aside0.mk (blk_below (bK BK455.out) hb)
     have n5_ := Aside0.mk (below_step (by repeat (first | (with_reducible first | exact HB.out | apply below_alloc | apply pw_below_drewN | apply below_drew1 | refine below_set ?_ GE441.out | refine below_set ?_ GE442.out | refine below_set ?_ GE455.out) | exact HB.out)) hb)
     clear HO447
     clear BK441
     clear BK442
     clear BK455
     clear HB
     have HO447 := n0_
     have HO453 := n1_
     have BK441 := n2_
     have BK442 := n3_
     have BK455 := n4_
     have HB := n5_
     clear n0_ n1_ n2_ n3_ n4_ n5_
     (try clear hb)
     (try clear hb2)
     (try clear hk)
     (try clear hi)
     (try clear ho0)
     refine hK.out _ _ ⟨(blk_cell BK441.out 0).trans rfl, (blk_cell BK441.out 1).trans rfl, (blk_cell BK442.out 0).trans rfl, (blk_cell BK442.out 1).trans rfl⟩ (fun hHeld => ?_)
     clear hK K
     refine norm_ (a' := ?_) ?_ ?_
     rotate_left
     ·show Act.put _ (some 29) _ = _
      simp only [Act.put, List.setIfInBounds_toArray, List.set_cons_zero, List.set_cons_succ, i64_w, i32_w]
      rfl
     refine pure_ (i := 6) (N := some 23) (v := ?_) (a' := ?_) #[true, true, true, true, true, true, true, false, false, true, false, false] rfl rfl (any_of HT_.out (by kernel_rfl)) (fun _ _ _ h => h) (Or.inl ⟨by rfl, ?_⟩) ?_ ?_
     rotate_left
     ·intro w'
      go_simp
      with_reducible rfl
     rotate_left
     ·simp only [Act.put, List.setIfInBounds_toArray, List.set_cons_zero, List.set_cons_succ, i64_w, i32_w]
      rfl
     refine pure_ (i := 7) (N := some 30) (v := ?_) (a' := ?_) #[true, true, true, true, true, true, true, true, false, true, false, false] rfl rfl (any_of HT_.out (by kernel_rfl)) (fun _ _ _ h => h) (Or.inl ⟨by rfl, ?_⟩) ?_ ?_
     rotate_left
     ·intro w'
      go_simp
      with_reducible rfl
     rotate_left
     ·simp only [Act.put, List.setIfInBounds_toArray, List.set_cons_zero, List.set_cons_succ, i64_w, i32_w]
      rfl
     refine pure_ (i := 8) (N := some 31) (v := ?_) (a' := ?_) #[true, true, true, true, true, true, true, true, true, true, false, false] rfl rfl (any_of HT_.out (by kernel_rfl)) (fun _ _ _ h => h) (Or.inl ⟨by rfl, ?_⟩) ?_ ?_
     rotate_left
     ·intro w'
      go_simp
      with_reducible rfl
     rotate_left
     ·simp only [Act.put, List.setIfInBounds_toArray, List.set_cons_zero, List.set_cons_succ, i64_w, i32_w]
      rfl
     exact norm_ (by simp only [putAll, Act.put, List.setIfInBounds_toArray, List.set_cons_zero, List.set_cons_succ]) (hCont (.slice Ao27 t445.length co27, v452, gb455) _ ⟨hHeld, (by (with_reducible repeat (first | apply Kd.R_alloc | apply Kd.R_drewN | apply Kd.R_drew)); exact Kd.R_mono HO447.out (fun _ hk => hk.2)), (by (with_reducible repeat (first | apply Kd.R_alloc | apply Kd.R_drewN | apply Kd.R_drew)); exact Kd.R_mono HO453.out (fun _ hk => hk.2)), (bK BK441.out), (bK BK442.out), (bK BK455.out), GW455.out, GE455.out, NB441_455.out, NB455_441.out, NB442_455.out, NB455_442.out, (by repeat (first | (with_reducible first | exact HB.out | apply below_alloc | apply pw_below_drewN | apply below_drew1 | refine below_set ?_ GE441.out | refine below_set ?_ GE442.out | refine below_set ?_ GE455.out) | exact HB.out))⟩)
   ·skip
    refine box_step ?hg (N := 8) ?hd (cs := #[.int .i64 0, .slice none 0 0]) (t := 29) ?hr ?_; (case hd => rfl); (case hg => rfl); (case hr => first | (go_simp; done) | (go_simp; rfl))
    intro gb455 hg w24 hbox hb
    have n0_ := Aside0.mk (blk_below (bK BK441.out) hb)
    have n1_ := Aside0.mk (blk_below (bK BK442.out) hb)
    have n2_ := Aside0.mk (below_step (by repeat (first | (with_reducible first | exact HB.out | apply below_alloc | apply pw_below_drewN | apply below_drew1 | refine below_set ?_ GE441.out | refine below_set ?_ GE442.out) | exact HB.out)) hb)
    have n3_ := Aside0.mk (hbox)
    have n4_ := Aside0.mk ((by rw [hg]; exact (below_size (by repeat (first | (with_reducible first | exact HB.out | apply below_alloc | apply pw_below_drewN | apply below_drew1 | refine below_set ?_ GE441.out | refine below_set ?_ GE442.out) | exact HB.out))) : w.heap.size ≤ gb455))
    have n5_ := Aside0.mk ((by rw [hg]; exact (below_size (by repeat (first | (with_reducible first | exact HB.out | apply below_alloc | apply pw_below_drewN | apply below_drew1 | refine below_set ?_ GE441.out | refine below_set ?_ GE442.out) | exact HB.out))) : w.heap.size ≤ gb455))
    have n6_ := Aside0.mk ((by rw [hg]; exact Nat.ne_of_lt (blk_lt (bK BK441.out)) : gb441 ≠ gb455))
    have n7_ := Aside0.mk ((by rw [hg]; exact Nat.ne_of_gt (blk_lt (bK BK441.out)) : gb455 ≠ gb441))
    have n8_ := Aside0.mk ((by rw [hg]; exact Nat.ne_of_lt (blk_lt (bK BK442.out)) : gb442 ≠ gb455))
    have n9_ := Aside0.mk ((by rw [hg]; exact Nat.ne_of_gt (blk_lt (bK BK442.out)) : gb455 ≠ gb442))
    clear BK441
    clear BK442
    clear HB
    have BK441 := n0_
    have BK442 := n1_
    have HB := n2_
    have BK455 := n3_
    have GW455 := n4_
    have GE455 := n5_
    have NB441_455 := n6_
    have NB455_441 := n7_
    have NB442_455 := n8_
    have NB455_442 := n9_
    clear n0_ n1_ n2_ n3_ n4_ n5_ n6_ n7_ n8_ n9_
    clear hb hbox hg
    refine hK.out _ _ ⟨(blk_cell BK441.out 0).trans rfl, (blk_cell BK441.out 1).trans rfl, (blk_cell BK442.out 0).trans rfl, (blk_cell BK442.out 1).trans rfl⟩ (fun hHeld => ?_)
    clear hK K
    refine norm_ (a' := ?_) ?_ ?_
    rotate_left
    ·show Act.put _ (some 8) _ = _
     simp only [Act.put, List.setIfInBounds_toArray, List.set_cons_zero, List.set_cons_succ, i64_w, i32_w]
     rfl
    refine one_ (i := 1) (N := some 25) #[true, true, true, true, false, false, false, false, false, true, false, false] rfl rfl (one_of HT_.out (by kernel_rfl)) (by decide) (fun K hK => ?_)
    refine goes_ Try.func17 (by kernel_rfl) rfl #[.agg #[.int .i64 a0_0, .slice A0_1 l0_1.length c0_1]] (by rfl) rfl rfl (by (try simp only [List.map_toArray, List.map_cons, List.map_nil]); first | done | rfl | (simp only [List.length_drop, List.length_take]; rfl)) ?_
    with_reducible refine (laws_toGrid.calls k a0_0 _ _ l0_1 t444 t445 _ ?side1 ?side2 A11.out).mono ?_
    (case side1 => repeat (first | exact (Kd.C_below HR0_1.out HB.out) | (with_reducible refine Kd.C_alloc ?_ _) | (with_reducible refine Kd.C_drewN ?_ _) | (with_reducible refine Kd.C_drew ?_)))
    (case side2 => exact HC0_1.out)
    rintro e w25 ⟨v446, rfl, ho0, hb⟩
    refine ⟨_, rfl, ?_⟩
    have n0_ := Aside0.mk (Kd.R_lower ho0 (below_size (by repeat (first | (with_reducible first | exact HB.out | apply below_alloc | apply pw_below_drewN | apply below_drew1 | refine below_set ?_ GE441.out | refine below_set ?_ GE442.out | refine below_set ?_ GE455.out) | exact HB.out))))
    have n1_ := Aside0.mk (blk_below (bK BK441.out) hb)
    have n2_ := Aside0.mk (blk_below (bK BK442.out) hb)
    have n3_ := Aside0.mk (blk_below (bK BK455.out) hb)
    have n4_ := Aside0.mk (below_step (by repeat (first | (with_reducible first | exact HB.out | apply below_alloc | apply pw_below_drewN | apply below_drew1 | refine below_set ?_ GE441.out | refine below_set ?_ GE442.out | refine below_set ?_ GE455.out) | exact HB.out)) hb)
    clear BK441
    clear BK442
    clear BK455
    clear HB
    have HO447 := n0_
    have BK441 := n1_
    have BK442 := n2_
    have BK455 := n3_
    have HB := n4_
    clear n0_ n1_ n2_ n3_ n4_
    (try clear hb)
    (try clear hb2)
    (try clear hk)
    (try clear hi)
    (try clear ho0)
    refine hK.out _ _ ⟨(blk_cell BK441.out 0).trans rfl, (blk_cell BK441.out 1).trans rfl, (blk_cell BK442.out 0).trans rfl, (blk_cell BK442.out 1).trans rfl⟩ (fun hHeld => ?_)
    clear hK K
    refine norm_ (a' := ?_) ?_ ?_
    rotate_left
    ·show Act.put _ (some 25) _ = _
     simp only [Act.put, List.setIfInBounds_toArray, List.set_cons_zero, List.set_cons_succ, i64_w, i32_w]
     rfl
    refine one_ (i := 4) (N := some 28) #[true, true, true, true, true, false, false, false, false, true, false, false] rfl rfl (one_of HT_.out (by kernel_rfl)) (by decide) (fun K hK => ?_)
    refine goes_ Try.func34 (by kernel_rfl) rfl #[.agg #[.int .i64 a2_0, .int .i64 a2_1]] (by rfl) rfl rfl (by (try simp only [List.map_toArray, List.map_cons, List.map_nil]); first | done | rfl | (simp only [List.length_drop, List.length_take]; rfl)) ?_
    with_reducible refine (laws_toCell.calls a2_0 a2_1 t448 t449 _ A12.out).mono ?_
    rintro e w26 ⟨rfl, hb⟩
    refine ⟨_, rfl, ?_⟩
    have n0_ := Aside0.mk (Kd.R_below (kR HO447.out) hb)
    have n1_ := Aside0.mk (blk_below (bK BK441.out) hb)
    have n2_ := Aside0.mk (blk_below (bK BK442.out) hb)
    have n3_ := Aside0.mk (blk_below (bK BK455.out) hb)
    have n4_ := Aside0.mk (below_step (by repeat (first | (with_reducible first | exact HB.out | apply below_alloc | apply pw_below_drewN | apply below_drew1 | refine below_set ?_ GE441.out | refine below_set ?_ GE442.out | refine below_set ?_ GE455.out) | exact HB.out)) hb)
    clear HO447
    clear BK441
    clear BK442
    clear BK455
    clear HB
    have HO447 := n0_
    have BK441 := n1_
    have BK442 := n2_
    have BK455 := n3_
    have HB := n4_
    clear n0_ n1_ n2_ n3_ n4_
    (try clear hb)
    (try clear hb2)
    (try clear hk)
    (try clear hi)
    obtain ⟨Ao27, co27, eo27⟩ := Kd.R_slice HO447.out
    (first | subst eo27 | (injection eo27 with f1_ f2_ f3_; have f4_ := f1_.symm; have f5_ := f3_.symm; clear f1_ f2_ f3_; subst f4_; subst f5_))
    refine hK.out _ _ ⟨(blk_cell BK441.out 0).trans rfl, (blk_cell BK441.out 1).trans rfl, (blk_cell BK442.out 0).trans rfl, (blk_cell BK442.out 1).trans rfl⟩ (fun hHeld => ?_)
    clear hK K
    refine norm_ (a' := ?_) ?_ ?_
    rotate_left
    ·show Act.put _ (some 28) _ = _
     simp only [Act.put, List.setIfInBounds_toArray, List.set_cons_zero, List.set_cons_succ, i64_w, i32_w]
     rfl
    refine one_ (i := 5) (N := some 29) #[true, true, true, true, true, true, false, false, false, true, false, false] rfl rfl (one_of HT_.out (by kernel_rfl)) (by decide) (fun K hK => ?_)
    refine goes_ Try.func33 (by kernel_rfl) rfl #[.agg #[.int .i64 t444, .slice Ao27 t445.length co27], .int .i64 a1, .agg #[.int .i64 t448, .int .i64 t449]] (by rfl) rfl rfl (by (try simp only [List.map_toArray, List.map_cons, List.map_nil]); first | done | rfl | (simp only [List.length_drop, List.length_take]; rfl)) ?_
    with_reducible refine (spec_GridPut.calls k t444 _ _ t445 a1 t448 t449 t450 t451 t454 _ ?side1 ?side2 A13.out).mono ?_
    (case side1 => repeat (first | exact (Kd.R_reads' HO447.out).2.2 | (with_reducible refine Kd.C_alloc ?_ _) | (with_reducible refine Kd.C_drewN ?_ _) | (with_reducible refine Kd.C_drew ?_)))
    (case side2 => exact (Kd.R_reads' HO447.out).2.1)
    rintro e w28 ⟨v452, rfl, ho0, hb⟩
    refine ⟨_, rfl, ?_⟩
    have n0_ := Aside0.mk (Kd.R_elder' (kR HO447.out) (Kd.R_base ho0) hb)
    have n1_ := Aside0.mk (Kd.R_lower (Kd.R_new' ho0 (Kd.R_lt (kR HO447.out))) (below_size (by repeat (first | (with_reducible first | exact HB.out | apply below_alloc | apply pw_below_drewN | apply below_drew1 | refine below_set ?_ GE441.out | refine below_set ?_ GE442.out | refine below_set ?_ GE455.out) | exact HB.out))))
    have n2_ := Aside0.mk (blk_below (bK BK441.out) hb)
    have n3_ := Aside0.mk (blk_below (bK BK442.out) hb)
    have n4_ := Aside0.mk (blk_below (bK BK455.out) hb)
    have n5_ := Aside0.mk (below_step (by repeat (first | (with_reducible first | exact HB.out | apply below_alloc | apply pw_below_drewN | apply below_drew1 | refine below_set ?_ GE441.out | refine below_set ?_ GE442.out | refine below_set ?_ GE455.out) | exact HB.out)) hb)
    clear HO447
    clear BK441
    clear BK442
    clear BK455
    clear HB
    have HO447 := n0_
    have HO453 := n1_
    have BK441 := n2_
    have BK442 := n3_
    have BK455 := n4_
    have HB := n5_
    clear n0_ n1_ n2_ n3_ n4_ n5_
    (try clear hb)
    (try clear hb2)
    (try clear hk)
    (try clear hi)
    (try clear ho0)
    refine hK.out _ _ ⟨(blk_cell BK441.out 0).trans rfl, (blk_cell BK441.out 1).trans rfl, (blk_cell BK442.out 0).trans rfl, (blk_cell BK442.out 1).trans rfl⟩ (fun hHeld => ?_)
    clear hK K
    refine norm_ (a' := ?_) ?_ ?_
    rotate_left
    ·show Act.put _ (some 29) _ = _
     simp only [Act.put, List.setIfInBounds_toArray, List.set_cons_zero, List.set_cons_succ, i64_w, i32_w]
     rfl
    refine pure_ (i := 6) (N := some 23) (v := ?_) (a' := ?_) #[true, true, true, true, true, true, true, false, false, true, false, false] rfl rfl (any_of HT_.out (by kernel_rfl)) (fun _ _ _ h => h) (Or.inl ⟨by rfl, ?_⟩) ?_ ?_
    rotate_left
    ·intro w'
     go_simp
     with_reducible rfl
    rotate_left
    ·simp only [Act.put, List.setIfInBounds_toArray, List.set_cons_zero, List.set_cons_succ, i64_w, i32_w]
     rfl
    refine pure_ (i := 7) (N := some 30) (v := ?_) (a' := ?_) #[true, true, true, true, true, true, true, true, false, true, false, false] rfl rfl (any_of HT_.out (by kernel_rfl)) (fun _ _ _ h => h) (Or.inl ⟨by rfl, ?_⟩) ?_ ?_
    rotate_left
    ·intro w'
     go_simp
     with_reducible rfl
    rotate_left
    ·simp only [Act.put, List.setIfInBounds_toArray, List.set_cons_zero, List.set_cons_succ, i64_w, i32_w]
     rfl
    refine pure_ (i := 8) (N := some 31) (v := ?_) (a' := ?_) #[true, true, true, true, true, true, true, true, true, true, false, false] rfl rfl (any_of HT_.out (by kernel_rfl)) (fun _ _ _ h => h) (Or.inl ⟨by rfl, ?_⟩) ?_ ?_
    rotate_left
    ·intro w'
     go_simp
     with_reducible rfl
    rotate_left
    ·simp only [Act.put, List.setIfInBounds_toArray, List.set_cons_zero, List.set_cons_succ, i64_w, i32_w]
     rfl
    exact norm_ (by simp only [putAll, Act.put, List.setIfInBounds_toArray, List.set_cons_zero, List.set_cons_succ]) (hCont (.slice Ao27 t445.length co27, v452, gb455) _ ⟨hHeld, (by (with_reducible repeat (first | apply Kd.R_alloc | apply Kd.R_drewN | apply Kd.R_drew)); exact Kd.R_mono HO447.out (fun _ hk => hk.2)), (by (with_reducible repeat (first | apply Kd.R_alloc | apply Kd.R_drewN | apply Kd.R_drew)); exact Kd.R_mono HO453.out (fun _ hk => hk.2)), (bK BK441.out), (bK BK442.out), (bK BK455.out), GW455.out, GE455.out, NB441_455.out, NB455_441.out, NB442_455.out, NB455_442.out, (by repeat (first | (with_reducible first | exact HB.out | apply below_alloc | apply pw_below_drewN | apply below_drew1 | refine below_set ?_ GE441.out | refine below_set ?_ GE442.out | refine below_set ?_ GE455.out) | exact HB.out))⟩)
  rintro ⟨v446, v452, gb455⟩ w29 ⟨hS_, h0_, h1_, h2_, h3_, h4_, h5_, h6_, h7_, h8_, h9_, h10_, h11_⟩
  have n0_ : Aside0 (Kd.R k48 48 w29 w.heap.size (fun k_ => some k_ ≠ (v452 : Value).ownBlock) v446 t445) := ⟨h0_⟩
  have n1_ : Aside0 (Kd.R k48 48 w29 w.heap.size (fun k_ => some k_ ≠ (v446 : Value).ownBlock) v452 t451) := ⟨h1_⟩
  have n2_ : Aside0 (w29.heap[gb441]? = some (.cells #[.int .i64 a0_0, .slice A0_1 l0_1.length c0_1] 24 (0, 0))) := ⟨h2_⟩
  have n3_ : Aside0 (w29.heap[gb442]? = some (.cells #[.int .i64 a2_0, .int .i64 a2_1] 45 (0, 0))) := ⟨h3_⟩
  have n4_ : Aside0 (w29.heap[gb455]? = some (.cells #[.int .i64 0, .slice none 0 0] 29 (0, 0))) := ⟨h4_⟩
  have n5_ : Aside0 (w.heap.size ≤ gb455) := ⟨h5_⟩
  have n6_ : Aside0 (w.heap.size ≤ gb455) := ⟨h6_⟩
  have n7_ : Aside0 (gb441 ≠ gb455) := ⟨h7_⟩
  have n8_ : Aside0 (gb455 ≠ gb441) := ⟨h8_⟩
  have n9_ : Aside0 (gb442 ≠ gb455) := ⟨h9_⟩
  have n10_ : Aside0 (gb455 ≠ gb442) := ⟨h10_⟩
  have n11_ : Aside0 (Below w.heap.size w w29) := ⟨h11_⟩
  clear BK441
  clear BK442
  clear HB
  clear h0_ h1_ h2_ h3_ h4_ h5_ h6_ h7_ h8_ h9_ h10_ h11_
  have HO447 := n0_
  have HO453 := n1_
  have BK441 := n2_
  have BK442 := n3_
  have BK455 := n4_
  have GW455 := n5_
  have GE455 := n6_
  have NB441_455 := n7_
  have NB455_441 := n8_
  have NB442_455 := n9_
  have NB455_442 := n10_
  have HB := n11_
  clear n0_ n1_ n2_ n3_ n4_ n5_ n6_ n7_ n8_ n9_ n10_ n11_
  have hHeld : w29.cell? ⟨gb441, 0, none⟩ = some (.int .i64 a0_0) ∧ w29.cell? ⟨gb441, 1, none⟩ = some (.slice A0_1 l0_1.length c0_1) ∧ w29.cell? ⟨gb442, 0, none⟩ = some (.int .i64 a2_0) ∧ w29.cell? ⟨gb442, 1, none⟩ = some (.int .i64 a2_1) := hS_
  obtain ⟨Ao31, co31, eo31⟩ := Kd.R_slice HO453.out
  (first | subst eo31 | (injection eo31 with f1_ f2_ f3_; have f4_ := f1_.symm; have f5_ := f3_.symm; clear f1_ f2_ f3_; subst f4_; subst f5_))
  refine norm_ (a' := ?_) ?_ ?_
  rotate_left
  ·simp only [putAll, Act.put, List.setIfInBounds_toArray, List.set_cons_zero, List.set_cons_succ]
   rfl
  refine one_ (i := 10) (N := none) #[true, true, true, true, true, true, true, true, true, true, true, false] rfl rfl (one_of HT_.out (by kernel_rfl)) (by decide) (fun K hK => ?_)
  have hs30 : w29.cell? ⟨gb455, 0, none⟩ = some (.int .i64 0) := (blk_cell BK455.out 0).trans rfl
  have hfs30 := blk_frozen BK455.out 0
  have hns30_0 := NB441_455.out
  have hns30_1 := NB442_455.out
  have hms30_0 := NB455_441.out
  have hms30_1 := NB455_442.out
  have hs32 : w29.cell? ⟨gb455, 1, none⟩ = some (.slice none 0 0) := (blk_cell BK455.out 1).trans rfl
  have hfs32 := blk_frozen BK455.out 1
  have hns32_0 := NB441_455.out
  have hns32_1 := NB442_455.out
  have hms32_0 := NB455_441.out
  have hms32_1 := NB455_442.out
  refine skip_ (w1 := ?_) (by rfl) rfl ?_ ?_
  rotate_left
  ·go_simp
   rfl
  refine hK.out _ _ ⟨((cell_far (p := ⟨gb455, _, none⟩) NB441_455.out _).trans (((cell_far (p := ⟨gb455, _, none⟩) NB441_455.out _).trans (hHeld.1)))), ((cell_far (p := ⟨gb455, _, none⟩) NB441_455.out _).trans (((cell_far (p := ⟨gb455, _, none⟩) NB441_455.out _).trans (hHeld.2.1)))), ((cell_far (p := ⟨gb455, _, none⟩) NB442_455.out _).trans (((cell_far (p := ⟨gb455, _, none⟩) NB442_455.out _).trans (hHeld.2.2.1)))), ((cell_far (p := ⟨gb455, _, none⟩) NB442_455.out _).trans (((cell_far (p := ⟨gb455, _, none⟩) NB442_455.out _).trans (hHeld.2.2.2))))⟩ (fun hHeld => ?_)
  clear hK K
  refine pure_ (i := 11) (N := some 9) (v := ?_) (a' := ?_) #[true, true, true, true, true, true, true, true, true, true, true, true] rfl rfl (any_of HT_.out (by kernel_rfl)) (fun _ _ _ h => h) (Or.inl ⟨by rfl, ?_⟩) ?_ ?_
  rotate_left
  ·intro w'
   go_simp
   with_reducible rfl
  rotate_left
  ·simp only [Act.put, List.setIfInBounds_toArray, List.set_cons_zero, List.set_cons_succ, i64_w, i32_w]
   rfl
  refine done_ (done_of HT_.out (by kernel_rfl)) ?_
  have hnb33 := NB441_455.out
  have hnc33 := NB455_441.out
  have hcz34_0 : w29.cell? ⟨gb441, 0, none⟩ = some (.int .i64 a0_0) := (blk_cell BK441.out 0).trans rfl
  have hcz34_1 : w29.cell? ⟨gb441, 1, none⟩ = some (.slice A0_1 l0_1.length c0_1) := (blk_cell BK441.out 1).trans rfl
  have hfz34_0 := blk_frozen BK441.out 0
  have hfz34_1 := blk_frozen BK441.out 1
  try go_wp2_with (first | ((with_reducible refine gate_callee (f := 17) rfl ?_); refine goesL_ (some 33) rfl rfl Try.func17 (by kernel_rfl) rfl #[.agg #[.int .i64 a0_0, .slice A0_1 l0_1.length c0_1]] rfl (by (try simp only [List.map_toArray, List.map_cons, List.map_nil]); first | done | rfl | (simp only [List.length_drop, List.length_take]; rfl)) ?_; (with_reducible refine (laws_toGrid.calls k a0_0 _ _ l0_1 t456 t457 _ ?side1 ?side2 A14.out).mono ?_); (case side1 => exact Kd.C_below HR0_1.out (by repeat (first | (with_reducible first | exact HB.out | apply below_alloc | apply pw_below_drewN | apply below_drew1 | refine below_set ?_ GE441.out | refine below_set ?_ GE442.out | refine below_set ?_ GE455.out) | exact HB.out))); (case side2 => exact HC0_1.out); rintro e w35 ⟨v458, rfl, ho0, hb⟩; refine ⟨_, rfl, ?_⟩; have n0_ := Aside0.mk (Kd.R_elder' (by (with_reducible repeat (first | apply Kd.R_alloc | apply Kd.R_drewN | apply Kd.R_drew)); exact (Kd.R_mono (Kd.R_far (p := ⟨gb455, 1, none⟩) (Kd.R_far (p := ⟨gb455, 0, none⟩) (Kd.R_types HO447.out BK455.out (by decide)) (fun _ hk => hk.2) (.int .i64 t450)) (fun _ hk => hk.2) (.slice Ao31 t451.length co31)) (fun _ h_ => h_.1))) (Kd.R_base ho0) hb); have n1_ := Aside0.mk (Kd.R_elder' (by (with_reducible repeat (first | apply Kd.R_alloc | apply Kd.R_drewN | apply Kd.R_drew)); exact (Kd.R_mono (Kd.R_far (p := ⟨gb455, 1, none⟩) (Kd.R_far (p := ⟨gb455, 0, none⟩) (Kd.R_types HO453.out BK455.out (by decide)) (fun _ hk => hk.2) (.int .i64 t450)) (fun _ hk => hk.2) (.slice Ao31 t451.length co31)) (fun _ h_ => h_.1))) (Kd.R_base ho0) hb); have n2_ := Aside0.mk (Kd.R_lower (Kd.R_new' (Kd.R_new' ho0 (Kd.R_lt (by (with_reducible repeat (first | apply Kd.R_alloc | apply Kd.R_drewN | apply Kd.R_drew)); exact (Kd.R_mono (Kd.R_far (p := ⟨gb455, 1, none⟩) (Kd.R_far (p := ⟨gb455, 0, none⟩) (Kd.R_types HO447.out BK455.out (by decide)) (fun _ hk => hk.2) (.int .i64 t450)) (fun _ hk => hk.2) (.slice Ao31 t451.length co31)) (fun _ h_ => h_.1))))) (Kd.R_lt (by (with_reducible repeat (first | apply Kd.R_alloc | apply Kd.R_drewN | apply Kd.R_drew)); exact (Kd.R_mono (Kd.R_far (p := ⟨gb455, 1, none⟩) (Kd.R_far (p := ⟨gb455, 0, none⟩) (Kd.R_types HO453.out BK455.out (by decide)) (fun _ hk => hk.2) (.int .i64 t450)) (fun _ hk => hk.2) (.slice Ao31 t451.length co31)) (fun _ h_ => h_.1))))) (below_size (by repeat (first | (with_reducible first | exact HB.out | apply below_alloc | apply pw_below_drewN | apply below_drew1 | refine below_set ?_ GE441.out | refine below_set ?_ GE442.out | refine below_set ?_ GE455.out) | exact HB.out)))); have n3_ := Aside0.mk (blk_below (g := gb441) (o := .cells #[.int .i64 a0_0, .slice A0_1 l0_1.length c0_1] 24 (0, 0)) (by (with_reducible repeat (first | refine blk_drewN ?_ _ | refine blk_drew ?_ | refine blk_alloc ?_ _)); refine blk_far ?_ NB441_455.out _; (with_reducible repeat (first | refine blk_drewN ?_ _ | refine blk_drew ?_ | refine blk_alloc ?_ _)); refine blk_far ?_ NB441_455.out _; (with_reducible repeat (first | refine blk_drewN ?_ _ | refine blk_drew ?_ | refine blk_alloc ?_ _)); exact BK441.out) hb); have n4_ := Aside0.mk (blk_below (g := gb442) (o := .cells #[.int .i64 a2_0, .int .i64 a2_1] 45 (0, 0)) (by (with_reducible repeat (first | refine blk_drewN ?_ _ | refine blk_drew ?_ | refine blk_alloc ?_ _)); refine blk_far ?_ NB442_455.out _; (with_reducible repeat (first | refine blk_drewN ?_ _ | refine blk_drew ?_ | refine blk_alloc ?_ _)); refine blk_far ?_ NB442_455.out _; (with_reducible repeat (first | refine blk_drewN ?_ _ | refine blk_drew ?_ | refine blk_alloc ?_ _)); exact BK442.out) hb); have n5_ := Aside0.mk (blk_below (g := gb455) (o := .cells #[.int .i64 t450, .slice Ao31 t451.length co31] 29 (0, 0)) (by (with_reducible repeat (first | refine blk_drewN ?_ _ | refine blk_drew ?_ | refine blk_alloc ?_ _)); refine blk_put (cs := #[.int .i64 t450, .slice none 0 0]) ?_ 1 _ rfl; (with_reducible repeat (first | refine blk_drewN ?_ _ | refine blk_drew ?_ | refine blk_alloc ?_ _)); refine blk_put (cs := #[.int .i64 0, .slice none 0 0]) ?_ 0 _ rfl; (with_reducible repeat (first | refine blk_drewN ?_ _ | refine blk_drew ?_ | refine blk_alloc ?_ _)); exact BK455.out) hb); have n6_ := Aside0.mk (below_step (by repeat (first | (with_reducible first | exact HB.out | apply below_alloc | apply pw_below_drewN | apply below_drew1 | refine below_set ?_ GE441.out | refine below_set ?_ GE442.out | refine below_set ?_ GE455.out) | exact HB.out)) hb); clear HO447; clear HO453; clear BK441; clear BK442; clear BK455; clear HB; have HO447 := n0_; have HO453 := n1_; have HO459 := n2_; have BK441 := n3_; have BK442 := n4_; have BK455 := n5_; have HB := n6_; clear n0_ n1_ n2_ n3_ n4_ n5_ n6_; (try clear hb); (try clear hb2); (try clear hk); (try clear hi); (try clear ho0)) | ((with_reducible refine gate_dst (N := 10) rfl ?_); refine box_event ?hg (N := 10) ?hd (cs := #[.int .i64 0, .slice none 0 0]) (t := 29) ?hr ?_; (case hd => rfl); (case hg => rfl); (case hr => first | (go_simp; done) | (go_simp; rfl)); intro gb460 hg w36 hbox hb; have n0_ := Aside0.mk (Kd.R_below (kR HO447.out) hb); have n1_ := Aside0.mk (Kd.R_below (kR HO453.out) hb); have n2_ := Aside0.mk (Kd.R_below (kR HO459.out) hb); have n3_ := Aside0.mk (blk_below (bK BK441.out) hb); have n4_ := Aside0.mk (blk_below (bK BK442.out) hb); have n5_ := Aside0.mk (blk_below (bK BK455.out) hb); have n6_ := Aside0.mk (below_step (by repeat (first | (with_reducible first | exact HB.out | apply below_alloc | apply pw_below_drewN | apply below_drew1 | refine below_set ?_ GE441.out | refine below_set ?_ GE442.out | refine below_set ?_ GE455.out) | exact HB.out)) hb); have n7_ := Aside0.mk (hbox); have n8_ := Aside0.mk ((by rw [hg]; exact (below_size (by repeat (first | (with_reducible first | exact HB.out | apply below_alloc | apply pw_below_drewN | apply below_drew1 | refine below_set ?_ GE441.out | refine below_set ?_ GE442.out | refine below_set ?_ GE455.out) | exact HB.out))) : w.heap.size ≤ gb460)); have n9_ := Aside0.mk ((by rw [hg]; exact (below_size (by repeat (first | (with_reducible first | exact HB.out | apply below_alloc | apply pw_below_drewN | apply below_drew1 | refine below_set ?_ GE441.out | refine below_set ?_ GE442.out | refine below_set ?_ GE455.out) | exact HB.out))) : w.heap.size ≤ gb460)); have n10_ := Aside0.mk ((by rw [hg]; exact Nat.ne_of_lt (blk_lt (bK BK441.out)) : gb441 ≠ gb460)); have n11_ := Aside0.mk ((by rw [hg]; exact Nat.ne_of_gt (blk_lt (bK BK441.out)) : gb460 ≠ gb441)); have n12_ := Aside0.mk ((by rw [hg]; exact Nat.ne_of_lt (blk_lt (bK BK442.out)) : gb442 ≠ gb460)); have n13_ := Aside0.mk ((by rw [hg]; exact Nat.ne_of_gt (blk_lt (bK BK442.out)) : gb460 ≠ gb442)); have n14_ := Aside0.mk ((by rw [hg]; exact Nat.ne_of_lt (blk_lt (bK BK455.out)) : gb455 ≠ gb460)); have n15_ := Aside0.mk ((by rw [hg]; exact Nat.ne_of_gt (blk_lt (bK BK455.out)) : gb460 ≠ gb455)); clear HO447; clear HO453; clear HO459; clear BK441; clear BK442; clear BK455; clear HB; have HO447 := n0_; have HO453 := n1_; have HO459 := n2_; have BK441 := n3_; have BK442 := n4_; have BK455 := n5_; have HB := n6_; have BK460 := n7_; have GW460 := n8_; have GE460 := n9_; have NB441_460 := n10_; have NB460_441 := n11_; have NB442_460 := n12_; have NB460_442 := n13_; have NB455_460 := n14_; have NB460_455 := n15_; clear n0_ n1_ n2_ n3_ n4_ n5_ n6_ n7_ n8_ n9_ n10_ n11_ n12_ n13_ n14_ n15_; clear hb hbox hg; have hnb37 := NB460_441.out; have hnc37 := NB441_460.out; have hnb38 := NB460_442.out; have hnc38 := NB442_460.out; have hnb39 := NB460_455.out; have hnc39 := NB455_460.out; have hcz40_0 : w36.cell? ⟨gb460, 0, none⟩ = some (.int .i64 0) := (blk_cell BK460.out 0).trans rfl; have hcz40_1 : w36.cell? ⟨gb460, 1, none⟩ = some (.slice none 0 0) := (blk_cell BK460.out 1).trans rfl; have hfz40_0 := blk_frozen BK460.out 0; have hfz40_1 := blk_frozen BK460.out 1; obtain ⟨Ao41, co41, eo41⟩ := Kd.R_slice HO459.out; subst eo41))
  have n0_ : Aside0 (Kd.R k48 48 ((w36.setCell ⟨gb460, 0, none⟩ (.int .i64 t456)).setCell ⟨gb460, 1, none⟩ (.slice Ao41 t457.length co41)) w.heap.size (fun k_ => some k_ ≠ (.slice Ao31 t451.length co31 : Value).ownBlock ∧ some k_ ≠ (.slice Ao41 t457.length co41 : Value).ownBlock) v446 t445) := ⟨by (with_reducible repeat (first | apply Kd.R_alloc | apply Kd.R_drewN | apply Kd.R_drew)); exact Kd.R_mono (Kd.R_far (p := ⟨gb460, 1, none⟩) (Kd.R_far (p := ⟨gb460, 0, none⟩) (Kd.R_types HO447.out BK460.out (by decide)) (fun _ hk => hk.2) (.int .i64 t456)) (fun _ hk => hk.2) (.slice Ao41 t457.length co41)) (fun _ hk => ⟨hk.1.1, hk.1.2⟩)⟩
  have n1_ : Aside0 (Kd.R k48 48 ((w36.setCell ⟨gb460, 0, none⟩ (.int .i64 t456)).setCell ⟨gb460, 1, none⟩ (.slice Ao41 t457.length co41)) w.heap.size (fun k_ => some k_ ≠ (v446 : Value).ownBlock ∧ some k_ ≠ (.slice Ao41 t457.length co41 : Value).ownBlock) (.slice Ao31 t451.length co31) t451) := ⟨by (with_reducible repeat (first | apply Kd.R_alloc | apply Kd.R_drewN | apply Kd.R_drew)); exact Kd.R_mono (Kd.R_far (p := ⟨gb460, 1, none⟩) (Kd.R_far (p := ⟨gb460, 0, none⟩) (Kd.R_types HO453.out BK460.out (by decide)) (fun _ hk => hk.2) (.int .i64 t456)) (fun _ hk => hk.2) (.slice Ao41 t457.length co41)) (fun _ hk => ⟨hk.1.1, hk.1.2⟩)⟩
  have n2_ : Aside0 (Kd.R k48 48 ((w36.setCell ⟨gb460, 0, none⟩ (.int .i64 t456)).setCell ⟨gb460, 1, none⟩ (.slice Ao41 t457.length co41)) w.heap.size (fun k_ => some k_ ≠ (v446 : Value).ownBlock ∧ some k_ ≠ (.slice Ao31 t451.length co31 : Value).ownBlock) (.slice Ao41 t457.length co41) t457) := ⟨by (with_reducible repeat (first | apply Kd.R_alloc | apply Kd.R_drewN | apply Kd.R_drew)); exact Kd.R_mono (Kd.R_far (p := ⟨gb460, 1, none⟩) (Kd.R_far (p := ⟨gb460, 0, none⟩) (Kd.R_types HO459.out BK460.out (by decide)) (fun _ hk => hk.2) (.int .i64 t456)) (fun _ hk => hk.2) (.slice Ao41 t457.length co41)) (fun _ hk => ⟨hk.1.1.2, hk.1.2⟩)⟩
  have n3_ : Aside0 (((w36.setCell ⟨gb460, 0, none⟩ (.int .i64 t456)).setCell ⟨gb460, 1, none⟩ (.slice Ao41 t457.length co41)).heap[gb441]? = some (.cells #[.int .i64 a0_0, .slice A0_1 l0_1.length c0_1] 24 (0, 0))) := ⟨by (with_reducible repeat (first | refine blk_drewN ?_ _ | refine blk_drew ?_ | refine blk_alloc ?_ _)); refine blk_far ?_ NB441_460.out _; (with_reducible repeat (first | refine blk_drewN ?_ _ | refine blk_drew ?_ | refine blk_alloc ?_ _)); refine blk_far ?_ NB441_460.out _; (with_reducible repeat (first | refine blk_drewN ?_ _ | refine blk_drew ?_ | refine blk_alloc ?_ _)); exact BK441.out⟩
  have n4_ : Aside0 (((w36.setCell ⟨gb460, 0, none⟩ (.int .i64 t456)).setCell ⟨gb460, 1, none⟩ (.slice Ao41 t457.length co41)).heap[gb442]? = some (.cells #[.int .i64 a2_0, .int .i64 a2_1] 45 (0, 0))) := ⟨by (with_reducible repeat (first | refine blk_drewN ?_ _ | refine blk_drew ?_ | refine blk_alloc ?_ _)); refine blk_far ?_ NB442_460.out _; (with_reducible repeat (first | refine blk_drewN ?_ _ | refine blk_drew ?_ | refine blk_alloc ?_ _)); refine blk_far ?_ NB442_460.out _; (with_reducible repeat (first | refine blk_drewN ?_ _ | refine blk_drew ?_ | refine blk_alloc ?_ _)); exact BK442.out⟩
  have n5_ : Aside0 (((w36.setCell ⟨gb460, 0, none⟩ (.int .i64 t456)).setCell ⟨gb460, 1, none⟩ (.slice Ao41 t457.length co41)).heap[gb455]? = some (.cells #[.int .i64 t450, .slice Ao31 t451.length co31] 29 (0, 0))) := ⟨by (with_reducible repeat (first | refine blk_drewN ?_ _ | refine blk_drew ?_ | refine blk_alloc ?_ _)); refine blk_far ?_ NB455_460.out _; (with_reducible repeat (first | refine blk_drewN ?_ _ | refine blk_drew ?_ | refine blk_alloc ?_ _)); refine blk_far ?_ NB455_460.out _; (with_reducible repeat (first | refine blk_drewN ?_ _ | refine blk_drew ?_ | refine blk_alloc ?_ _)); exact BK455.out⟩
  have n6_ : Aside0 (((w36.setCell ⟨gb460, 0, none⟩ (.int .i64 t456)).setCell ⟨gb460, 1, none⟩ (.slice Ao41 t457.length co41)).heap[gb460]? = some (.cells #[.int .i64 t456, .slice Ao41 t457.length co41] 29 (0, 0))) := ⟨by (with_reducible repeat (first | refine blk_drewN ?_ _ | refine blk_drew ?_ | refine blk_alloc ?_ _)); refine blk_put (cs := #[.int .i64 t456, .slice none 0 0]) ?_ 1 _ rfl; (with_reducible repeat (first | refine blk_drewN ?_ _ | refine blk_drew ?_ | refine blk_alloc ?_ _)); refine blk_put (cs := #[.int .i64 0, .slice none 0 0]) ?_ 0 _ rfl; (with_reducible repeat (first | refine blk_drewN ?_ _ | refine blk_drew ?_ | refine blk_alloc ?_ _)); exact BK460.out⟩
  have n7_ : Aside0 (Below w.heap.size w ((w36.setCell ⟨gb460, 0, none⟩ (.int .i64 t456)).setCell ⟨gb460, 1, none⟩ (.slice Ao41 t457.length co41))) := ⟨by repeat (first | (with_reducible first | exact HB.out | apply below_alloc | apply pw_below_drewN | apply below_drew1 | refine below_set ?_ GE441.out | refine below_set ?_ GE442.out | refine below_set ?_ GE455.out | refine below_set ?_ GE460.out) | exact HB.out)⟩
  (try clear HO447)
  (try clear HO453)
  (try clear HO459)
  (try clear BK441)
  (try clear BK442)
  (try clear BK455)
  (try clear BK460)
  (try clear HB)
  generalize ((w36.setCell ⟨gb460, 0, none⟩ (.int .i64 t456)).setCell ⟨gb460, 1, none⟩ (.slice Ao41 t457.length co41)) = w42 at n0_ n1_ n2_ n3_ n4_ n5_ n6_ n7_ ⊢
  have HO447 := n0_
  have HO453 := n1_
  have HO459 := n2_
  have BK441 := n3_
  have BK442 := n4_
  have BK455 := n5_
  have BK460 := n6_
  have HB := n7_
  clear n0_ n1_ n2_ n3_ n4_ n5_ n6_ n7_
  have n0_ := Aside0.mk (Kd.R_drew HO447.out)
  have n1_ := Aside0.mk (Kd.R_drew HO453.out)
  have n2_ := Aside0.mk (Kd.R_drew HO459.out)
  have n3_ := Aside0.mk (blk_drew BK441.out)
  have n4_ := Aside0.mk (blk_drew BK442.out)
  have n5_ := Aside0.mk (blk_drew BK455.out)
  have n6_ := Aside0.mk (blk_drew BK460.out)
  have n7_ := Aside0.mk (below_drew1 HB.out)
  clear HO447
  clear HO453
  clear HO459
  clear BK441
  clear BK442
  clear BK455
  clear BK460
  clear HB
  have HO447 := n0_
  have HO453 := n1_
  have HO459 := n2_
  have BK441 := n3_
  have BK442 := n4_
  have BK455 := n5_
  have BK460 := n6_
  have HB := n7_
  clear n0_ n1_ n2_ n3_ n4_ n5_ n6_ n7_
  refine start_ (n := 11) (S := fun w' => w'.cell? ⟨gb460, 0, none⟩ = some (.int .i64 t456) ∧ w'.cell? ⟨gb460, 1, none⟩ = some (.slice Ao41 t457.length co41) ∧ w'.cell? ⟨gb442, 0, none⟩ = some (.int .i64 a2_0) ∧ w'.cell? ⟨gb442, 1, none⟩ = some (.int .i64 a2_1)) (ds := []) #[false, false, false, false, false, false, false, false, false, false, false] (by kernel_rfl) rfl rfl ⟨(blk_cell BK460.out 0).trans rfl, (blk_cell BK460.out 1).trans rfl, (blk_cell BK442.out 0).trans rfl, (blk_cell BK442.out 1).trans rfl⟩ (fun hHeld => ?_); refine with_tabW laws_FnExactGridPut.tab7 laws_FnExactGridPut.bits7 (fun HT_ HW_ => ?_)
  generalize w42.drew = w43 at HO447 HO453 HO459 BK441 BK442 BK455 BK460 HB hHeld ⊢
  refine pure_ (i := 1) (N := some 36) (v := ?_) (a' := ?_) #[false, true, false, false, false, false, false, false, false, false, false] rfl rfl (any_of HT_.out (by kernel_rfl)) (fun _ _ _ h => h) (Or.inl ⟨by rfl, ?_⟩) ?_ ?_
  rotate_left
  ·intro w'
   go_simp
   with_reducible rfl
  rotate_left
  ·simp only [Act.put, List.setIfInBounds_toArray, List.set_cons_zero, List.set_cons_succ, i64_w, i32_w]
   rfl
  refine take_ (i := 0) (N := some 35) (v := ?_) (a' := ?_) #[true, true, false, false, false, false, false, false, false, false, false] rfl rfl (take_ofW HT_.out HW_.out (by kernel_rfl)) (fun _ _ _ h => h) (Or.inl ⟨by rfl, ?_⟩) hHeld ?_ ?_
  rotate_left
  ·rintro w' ⟨s0, s1, s2, s3⟩
   go_simp
   with_reducible rfl
  rotate_left
  ·simp only [Act.put, List.setIfInBounds_toArray, List.set_cons_zero, List.set_cons_succ, i64_w, i32_w]
   rfl
  refine take_ (i := 2) (N := some 37) (v := ?_) (a' := ?_) #[true, true, true, false, false, false, false, false, false, false, false] rfl rfl (take_ofW HT_.out HW_.out (by kernel_rfl)) (fun _ _ _ h => h) (Or.inl ⟨by rfl, ?_⟩) hHeld ?_ ?_
  rotate_left
  ·rintro w' ⟨s0, s1, s2, s3⟩
   go_simp
   with_reducible rfl
  rotate_left
  ·simp only [Act.put, List.setIfInBounds_toArray, List.set_cons_zero, List.set_cons_succ, i64_w, i32_w]
   rfl
  refine join_ (σ := Value × Nat) 2 #[true, true, true, true, true, true, true, true, true, false, false] (fun s_ => [(38, .agg #[.int .i64 t461, .int .i64 t462]), (39, .tuple #[.agg #[.int .i64 t463, s_.1], .bool t467]), (11, .pointer (some ⟨s_.2, 0, none⟩)), (34, .tuple #[.agg #[.int .i64 t463, s_.1], .bool t467]), (40, .agg #[.int .i64 t463, s_.1]), (41, .bool t467)]) (fun s_ w' => (w'.cell? ⟨gb460, 0, none⟩ = some (.int .i64 t456) ∧ w'.cell? ⟨gb460, 1, none⟩ = some (.slice Ao41 t457.length co41) ∧ w'.cell? ⟨gb442, 0, none⟩ = some (.int .i64 a2_0) ∧ w'.cell? ⟨gb442, 1, none⟩ = some (.int .i64 a2_1)) ∧ (Kd.R k48 48 w' w.heap.size (fun k_ => some k_ ≠ (.slice Ao31 t451.length co31 : Value).ownBlock ∧ some k_ ≠ (.slice Ao41 t457.length co41 : Value).ownBlock ∧ some k_ ≠ (s_.1 : Value).ownBlock) v446 t445) ∧ (Kd.R k48 48 w' w.heap.size (fun k_ => some k_ ≠ (v446 : Value).ownBlock ∧ some k_ ≠ (.slice Ao41 t457.length co41 : Value).ownBlock ∧ some k_ ≠ (s_.1 : Value).ownBlock) (.slice Ao31 t451.length co31) t451) ∧ (Kd.R k48 48 w' w.heap.size (fun k_ => some k_ ≠ (v446 : Value).ownBlock ∧ some k_ ≠ (.slice Ao31 t451.length co31 : Value).ownBlock ∧ some k_ ≠ (s_.1 : Value).ownBlock) (.slice Ao41 t457.length co41) t457) ∧ (Kd.R k48 48 w' w.heap.size (fun k_ => some k_ ≠ (v446 : Value).ownBlock ∧ some k_ ≠ (.slice Ao31 t451.length co31 : Value).ownBlock ∧ some k_ ≠ (.slice Ao41 t457.length co41 : Value).ownBlock) s_.1 t464) ∧ (w'.heap[gb441]? = some (.cells #[.int .i64 a0_0, .slice A0_1 l0_1.length c0_1] 24 (0, 0))) ∧ (w'.heap[gb442]? = some (.cells #[.int .i64 a2_0, .int .i64 a2_1] 45 (0, 0))) ∧ (w'.heap[gb455]? = some (.cells #[.int .i64 t450, .slice Ao31 t451.length co31] 29 (0, 0))) ∧ (w'.heap[gb460]? = some (.cells #[.int .i64 t456, .slice Ao41 t457.length co41] 29 (0, 0))) ∧ (w'.heap[s_.2]? = some (.cells #[.int .i64 0, .slice none 0 0] 29 (0, 0))) ∧ (w.heap.size ≤ s_.2) ∧ (w.heap.size ≤ s_.2) ∧ (gb441 ≠ s_.2) ∧ (s_.2 ≠ gb441) ∧ (gb442 ≠ s_.2) ∧ (s_.2 ≠ gb442) ∧ (gb455 ≠ s_.2) ∧ (s_.2 ≠ gb455) ∧ (gb460 ≠ s_.2) ∧ (s_.2 ≠ gb460) ∧ (Below w.heap.size w w')) ?_ ?_
  rotate_left
  ·intro hCont
   refine two_ (i := 3) (j := 8) (Ni := some 38) (Nj := some 11) #[true, true, true, true, false, false, false, false, false, false, false] #[true, true, true, false, false, false, false, false, true, false, false] rfl rfl rfl rfl (two_of HT_.out (by kernel_rfl)) (by decide) (by decide) (fun K hK => ?_) (fun K hK => ?_)
   ·skip
    refine goes_ Try.func34 (by kernel_rfl) rfl #[.agg #[.int .i64 a2_0, .int .i64 a2_1]] (by rfl) rfl rfl (by (try simp only [List.map_toArray, List.map_cons, List.map_nil]); first | done | rfl | (simp only [List.length_drop, List.length_take]; rfl)) ?_
    with_reducible refine (laws_toCell.calls a2_0 a2_1 t461 t462 _ A15.out).mono ?_
    rintro e w44 ⟨rfl, hb⟩
    refine ⟨_, rfl, ?_⟩
    have n0_ := Aside0.mk (Kd.R_below (kR HO447.out) hb)
    have n1_ := Aside0.mk (Kd.R_below (kR HO453.out) hb)
    have n2_ := Aside0.mk (Kd.R_below (kR HO459.out) hb)
    have n3_ := Aside0.mk (blk_below (bK BK441.out) hb)
    have n4_ := Aside0.mk (blk_below (bK BK442.out) hb)
    have n5_ := Aside0.mk (blk_below (bK BK455.out) hb)
    have n6_ := Aside0.mk (blk_below (bK BK460.out) hb)
    have n7_ := Aside0.mk (below_step (by repeat (first | (with_reducible first | exact HB.out | apply below_alloc | apply pw_below_drewN | apply below_drew1 | refine below_set ?_ GE441.out | refine below_set ?_ GE442.out | refine below_set ?_ GE455.out | refine below_set ?_ GE460.out) | exact HB.out)) hb)
    clear HO447
    clear HO453
    clear HO459
    clear BK441
    clear BK442
    clear BK455
    clear BK460
    clear HB
    have HO447 := n0_
    have HO453 := n1_
    have HO459 := n2_
    have BK441 := n3_
    have BK442 := n4_
    have BK455 := n5_
    have BK460 := n6_
    have HB := n7_
    clear n0_ n1_ n2_ n3_ n4_ n5_ n6_ n7_
    (try clear hb)
    (try clear hb2)
    (try clear hk)
    (try clear hi)
    refine hK.out _ _ ⟨(blk_cell BK460.out 0).trans rfl, (blk_cell BK460.out 1).trans rfl, (blk_cell BK442.out 0).trans rfl, (blk_cell BK442.out 1).trans rfl⟩ (fun hHeld => ?_)
    clear hK K
    refine norm_ (a' := ?_) ?_ ?_
    rotate_left
    ·show Act.put _ (some 38) _ = _
     simp only [Act.put, List.setIfInBounds_toArray, List.set_cons_zero, List.set_cons_succ, i64_w, i32_w]
     rfl
    refine two_ (i := 4) (j := 8) (Ni := some 39) (Nj := some 11) #[true, true, true, true, true, false, false, false, false, false, false] #[true, true, true, true, false, false, false, false, true, false, false] rfl rfl rfl rfl (two_of HT_.out (by kernel_rfl)) (by decide) (by decide) (fun K hK => ?_) (fun K hK => ?_)
    ·skip
     refine goes_ Try.func35 (by kernel_rfl) rfl #[.agg #[.int .i64 t456, .slice Ao41 t457.length co41], .int .i64 a1, .agg #[.int .i64 t461, .int .i64 t462]] (by rfl) rfl rfl (by (try simp only [List.map_toArray, List.map_cons, List.map_nil]); first | done | rfl | (simp only [List.length_drop, List.length_take]; rfl)) ?_
     with_reducible refine (impl_GridPut.calls k t456 _ _ t457 a1 t461 t462 t463 t464 t467 _ ?side1 ?side2 A16.out).mono ?_
     (case side1 => repeat (first | exact (Kd.R_reads' HO459.out).2.2 | (with_reducible refine Kd.C_alloc ?_ _) | (with_reducible refine Kd.C_drewN ?_ _) | (with_reducible refine Kd.C_drew ?_)))
     (case side2 => exact (Kd.R_reads' HO459.out).2.1)
     rintro e w45 ⟨v465, rfl, ho0, hb⟩
     refine ⟨_, rfl, ?_⟩
     have n0_ := Aside0.mk (Kd.R_elder' (kR HO447.out) (Kd.R_base ho0) hb)
     have n1_ := Aside0.mk (Kd.R_elder' (kR HO453.out) (Kd.R_base ho0) hb)
     have n2_ := Aside0.mk (Kd.R_elder' (kR HO459.out) (Kd.R_base ho0) hb)
     have n3_ := Aside0.mk (Kd.R_lower (Kd.R_new' (Kd.R_new' (Kd.R_new' ho0 (Kd.R_lt (kR HO447.out))) (Kd.R_lt (kR HO453.out))) (Kd.R_lt (kR HO459.out))) (below_size (by repeat (first | (with_reducible first | exact HB.out | apply below_alloc | apply pw_below_drewN | apply below_drew1 | refine below_set ?_ GE441.out | refine below_set ?_ GE442.out | refine below_set ?_ GE455.out | refine below_set ?_ GE460.out) | exact HB.out))))
     have n4_ := Aside0.mk (blk_below (bK BK441.out) hb)
     have n5_ := Aside0.mk (blk_below (bK BK442.out) hb)
     have n6_ := Aside0.mk (blk_below (bK BK455.out) hb)
     have n7_ := Aside0.mk (blk_below (bK BK460.out) hb)
     have n8_ := Aside0.mk (below_step (by repeat (first | (with_reducible first | exact HB.out | apply below_alloc | apply pw_below_drewN | apply below_drew1 | refine below_set ?_ GE441.out | refine below_set ?_ GE442.out | refine below_set ?_ GE455.out | refine below_set ?_ GE460.out) | exact HB.out)) hb)
     clear HO447
     clear HO453
     clear HO459
     clear BK441
     clear BK442
     clear BK455
     clear BK460
     clear HB
     have HO447 := n0_
     have HO453 := n1_
     have HO459 := n2_
     have HO466 := n3_
     have BK441 := n4_
     have BK442 := n5_
     have BK455 := n6_
     have BK460 := n7_
     have HB := n8_
     clear n0_ n1_ n2_ n3_ n4_ n5_ n6_ n7_ n8_
     (try clear hb)
     (try clear hb2)
     (try clear hk)
     (try clear hi)
     (try clear ho0)
     refine hK.out _ _ ⟨(blk_cell BK460.out 0).trans rfl, (blk_cell BK460.out 1).trans rfl, (blk_cell BK442.out 0).trans rfl, (blk_cell BK442.out 1).trans rfl⟩ (fun hHeld => ?_)
     clear hK K
     refine norm_ (a' := ?_) ?_ ?_
     rotate_left
     ·show Act.put _ (some 39) _ = _
      simp only [Act.put, List.setIfInBounds_toArray, List.set_cons_zero, List.set_cons_succ, i64_w, i32_w]
      rfl
     refine pure_ (i := 5) (N := some 34) (v := ?_) (a' := ?_) #[true, true, true, true, true, true, false, false, false, false, false] rfl rfl (any_of HT_.out (by kernel_rfl)) (fun _ _ _ h => h) (Or.inl ⟨by rfl, ?_⟩) ?_ ?_
     rotate_left
     ·intro w'
      go_simp
      with_reducible rfl
     rotate_left
     ·simp only [Act.put, List.setIfInBounds_toArray, List.set_cons_zero, List.set_cons_succ, i64_w, i32_w]
      rfl
     refine pure_ (i := 6) (N := some 40) (v := ?_) (a' := ?_) #[true, true, true, true, true, true, true, false, false, false, false] rfl rfl (any_of HT_.out (by kernel_rfl)) (fun _ _ _ h => h) (Or.inl ⟨by rfl, ?_⟩) ?_ ?_
     rotate_left
     ·intro w'
      go_simp
      with_reducible rfl
     rotate_left
     ·simp only [Act.put, List.setIfInBounds_toArray, List.set_cons_zero, List.set_cons_succ, i64_w, i32_w]
      rfl
     refine pure_ (i := 7) (N := some 41) (v := ?_) (a' := ?_) #[true, true, true, true, true, true, true, true, false, false, false] rfl rfl (any_of HT_.out (by kernel_rfl)) (fun _ _ _ h => h) (Or.inl ⟨by rfl, ?_⟩) ?_ ?_
     rotate_left
     ·intro w'
      go_simp
      with_reducible rfl
     rotate_left
     ·simp only [Act.put, List.setIfInBounds_toArray, List.set_cons_zero, List.set_cons_succ, i64_w, i32_w]
      rfl
     refine one_ (i := 8) (N := some 11) #[true, true, true, true, true, true, true, true, true, false, false] rfl rfl (one_of HT_.out (by kernel_rfl)) (by decide) (fun K hK => ?_)
     refine box_step ?hg (N := 11) ?hd (cs := #[.int .i64 0, .slice none 0 0]) (t := 29) ?hr ?_; (case hd => rfl); (case hg => rfl); (case hr => first | (go_simp; done) | (go_simp; rfl))
     intro gb468 hg w46 hbox hb
     have n0_ := Aside0.mk (Kd.R_below (kR HO447.out) hb)
     have n1_ := Aside0.mk (Kd.R_below (kR HO453.out) hb)
     have n2_ := Aside0.mk (Kd.R_below (kR HO459.out) hb)
     have n3_ := Aside0.mk (Kd.R_below (kR HO466.out) hb)
     have n4_ := Aside0.mk (blk_below (bK BK441.out) hb)
     have n5_ := Aside0.mk (blk_below (bK BK442.out) hb)
     have n6_ := Aside0.mk (blk_below (bK BK455.out) hb)
     have n7_ := Aside0.mk (blk_below (bK BK460.out) hb)
     have n8_ := Aside0.mk (below_step (by repeat (first | (with_reducible first | exact HB.out | apply below_alloc | apply pw_below_drewN | apply below_drew1 | refine below_set ?_ GE441.out | refine below_set ?_ GE442.out | refine below_set ?_ GE455.out | refine below_set ?_ GE460.out) | exact HB.out)) hb)
     have n9_ := Aside0.mk (hbox)
     have n10_ := Aside0.mk ((by rw [hg]; exact (below_size (by repeat (first | (with_reducible first | exact HB.out | apply below_alloc | apply pw_below_drewN | apply below_drew1 | refine below_set ?_ GE441.out | refine below_set ?_ GE442.out | refine below_set ?_ GE455.out | refine below_set ?_ GE460.out) | exact HB.out))) : w.heap.size ≤ gb468))
     have n11_ := Aside0.mk ((by rw [hg]; exact (below_size (by repeat (first | (with_reducible first | exact HB.out | apply below_alloc | apply pw_below_drewN | apply below_drew1 | refine below_set ?_ GE441.out | refine below_set ?_ GE442.out | refine below_set ?_ GE455.out | refine below_set ?_ GE460.out) | exact HB.out))) : w.heap.size ≤ gb468))
     have n12_ := Aside0.mk ((by rw [hg]; exact Nat.ne_of_lt (blk_lt (bK BK441.out)) : gb441 ≠ gb468))
     have n13_ := Aside0.mk ((by rw [hg]; exact Nat.ne_of_gt (blk_lt (bK BK441.out)) : gb468 ≠ gb441))
     have n14_ := Aside0.mk ((by rw [hg]; exact Nat.ne_of_lt (blk_lt (bK BK442.out)) : gb442 ≠ gb468))
     have n15_ := Aside0.mk ((by rw [hg]; exact Nat.ne_of_gt (blk_lt (bK BK442.out)) : gb468 ≠ gb442))
     have n16_ := Aside0.mk ((by rw [hg]; exact Nat.ne_of_lt (blk_lt (bK BK455.out)) : gb455 ≠ gb468))
     have n17_ := Aside0.mk ((by rw [hg]; exact Nat.ne_of_gt (blk_lt (bK BK455.out)) : gb468 ≠ gb455))
     have n18_ := Aside0.mk ((by rw [hg]; exact Nat.ne_of_lt (blk_lt (bK BK460.out)) : gb460 ≠ gb468))
     have n19_ := Aside0.mk ((by rw [hg]; exact Nat.ne_of_gt (blk_lt (bK BK460.out)) : gb468 ≠ gb460))
     clear HO447
     clear HO453
     clear HO459
     clear HO466
     clear BK441
     clear BK442
     clear BK455
     clear BK460
     clear HB
     have HO447 := n0_
     have HO453 := n1_
     have HO459 := n2_
     have HO466 := n3_
     have BK441 := n4_
     have BK442 := n5_
     have BK455 := n6_
     have BK460 := n7_
     have HB := n8_
     have BK468 := n9_
     have GW468 := n10_
     have GE468 := n11_
     have NB441_468 := n12_
     have NB468_441 := n13_
     have NB442_468 := n14_
     have NB468_442 := n15_
     have NB455_468 := n16_
     have NB468_455 := n17_
     have NB460_468 := n18_
     have NB468_460 := n19_
     clear n0_ n1_ n2_ n3_ n4_ n5_ n6_ n7_ n8_ n9_ n10_ n11_ n12_ n13_ n14_ n15_ n16_ n17_ n18_ n19_
     clear hb hbox hg
     refine hK.out _ _ ⟨(blk_cell BK460.out 0).trans rfl, (blk_cell BK460.out 1).trans rfl, (blk_cell BK442.out 0).trans rfl, (blk_cell BK442.out 1).trans rfl⟩ (fun hHeld => ?_)
     clear hK K
     refine norm_ (a' := ?_) ?_ ?_
     rotate_left
     ·show Act.put _ (some 11) _ = _
      simp only [Act.put, List.setIfInBounds_toArray, List.set_cons_zero, List.set_cons_succ, i64_w, i32_w]
      rfl
     exact norm_ (by simp only [putAll, Act.put, List.setIfInBounds_toArray, List.set_cons_zero, List.set_cons_succ]) (hCont (v465, gb468) _ ⟨hHeld, (by (with_reducible repeat (first | apply Kd.R_alloc | apply Kd.R_drewN | apply Kd.R_drew)); exact Kd.R_mono HO447.out (fun _ hk => ⟨hk.1.1, ⟨hk.1.2, hk.2⟩⟩)), (by (with_reducible repeat (first | apply Kd.R_alloc | apply Kd.R_drewN | apply Kd.R_drew)); exact Kd.R_mono HO453.out (fun _ hk => ⟨hk.1.1, ⟨hk.1.2, hk.2⟩⟩)), (by (with_reducible repeat (first | apply Kd.R_alloc | apply Kd.R_drewN | apply Kd.R_drew)); exact Kd.R_mono HO459.out (fun _ hk => ⟨hk.1.1, ⟨hk.1.2, hk.2⟩⟩)), (by (with_reducible repeat (first | apply Kd.R_alloc | apply Kd.R_drewN | apply Kd.R_drew)); exact Kd.R_mono HO466.out (fun _ hk => ⟨hk.1.1.2, ⟨hk.1.2, hk.2⟩⟩)), (bK BK441.out), (bK BK442.out), (bK BK455.out), (bK BK460.out), (bK BK468.out), GW468.out, GE468.out, NB441_468.out, NB468_441.out, NB442_468.out, NB468_442.out, NB455_468.out, NB468_455.out, NB460_468.out, NB468_460.out, (by repeat (first | (with_reducible first | exact HB.out | apply below_alloc | apply pw_below_drewN | apply below_drew1 | refine below_set ?_ GE441.out | refine below_set ?_ GE442.out | refine below_set ?_ GE455.out | refine below_set ?_ GE460.out | refine below_set ?_ GE468.out) | exact HB.out))⟩)
    ·skip
     refine box_step ?hg (N := 11) ?hd (cs := #[.int .i64 0, .slice none 0 0]) (t := 29) ?hr ?_; (case hd => rfl); (case hg => rfl); (case hr => first | (go_simp; done) | (go_simp; rfl))
     intro gb468 hg w45 hbox hb
     have n0_ := Aside0.mk (Kd.R_below (kR HO447.out) hb)
     have n1_ := Aside0.mk (Kd.R_below (kR HO453.out) hb)
     have n2_ := Aside0.mk (Kd.R_below (kR HO459.out) hb)
     have n3_ := Aside0.mk (blk_below (bK BK441.out) hb)
     have n4_ := Aside0.mk (blk_below (bK BK442.out) hb)
     have n5_ := Aside0.mk (blk_below (bK BK455.out) hb)
     have n6_ := Aside0.mk (blk_below (bK BK460.out) hb)
     have n7_ := Aside0.mk (below_step (by repeat (first | (with_reducible first | exact HB.out | apply below_alloc | apply pw_below_drewN | apply below_drew1 | refine below_set ?_ GE441.out | refine below_set ?_ GE442.out | refine below_set ?_ GE455.out | refine below_set ?_ GE460.out) | exact HB.out)) hb)
     have n8_ := Aside0.mk (hbox)
     have n9_ := Aside0.mk ((by rw [hg]; exact (below_size (by repeat (first | (with_reducible first | exact HB.out | apply below_alloc | apply pw_below_drewN | apply below_drew1 | refine below_set ?_ GE441.out | refine below_set ?_ GE442.out | refine below_set ?_ GE455.out | refine below_set ?_ GE460.out) | exact HB.out))) : w.heap.size ≤ gb468))
     have n10_ := Aside0.mk ((by rw [hg]; exact (below_size (by repeat (first | (with_reducible first | exact HB.out | apply below_alloc | apply pw_below_drewN | apply below_drew1 | refine below_set ?_ GE441.out | refine below_set ?_ GE442.out | refine below_set ?_ GE455.out | refine below_set ?_ GE460.out) | exact HB.out))) : w.heap.size ≤ gb468))
     have n11_ := Aside0.mk ((by rw [hg]; exact Nat.ne_of_lt (blk_lt (bK BK441.out)) : gb441 ≠ gb468))
     have n12_ := Aside0.mk ((by rw [hg]; exact Nat.ne_of_gt (blk_lt (bK BK441.out)) : gb468 ≠ gb441))
     have n13_ := Aside0.mk ((by rw [hg]; exact Nat.ne_of_lt (blk_lt (bK BK442.out)) : gb442 ≠ gb468))
     have n14_ := Aside0.mk ((by rw [hg]; exact Nat.ne_of_gt (blk_lt (bK BK442.out)) : gb468 ≠ gb442))
     have n15_ := Aside0.mk ((by rw [hg]; exact Nat.ne_of_lt (blk_lt (bK BK455.out)) : gb455 ≠ gb468))
     have n16_ := Aside0.mk ((by rw [hg]; exact Nat.ne_of_gt (blk_lt (bK BK455.out)) : gb468 ≠ gb455))
     have n17_ := Aside0.mk ((by rw [hg]; exact Nat.ne_of_lt (blk_lt (bK BK460.out)) : gb460 ≠ gb468))
     have n18_ := Aside0.mk ((by rw [hg]; exact Nat.ne_of_gt (blk_lt (bK BK460.out)) : gb468 ≠ gb460))
     clear HO447
     clear HO453
     clear HO459
     clear BK441
     clear BK442
     clear BK455
     clear BK460
     clear HB
     have HO447 := n0_
     have HO453 := n1_
     have HO459 := n2_
     have BK441 := n3_
     have BK442 := n4_
     have BK455 := n5_
     have BK460 := n6_
     have HB := n7_
     have BK468 := n8_
     have GW468 := n9_
     have GE468 := n10_
     have NB441_468 := n11_
     have NB468_441 := n12_
     have NB442_468 := n13_
     have NB468_442 := n14_
     have NB455_468 := n15_
     have NB468_455 := n16_
     have NB460_468 := n17_
     have NB468_460 := n18_
     clear n0_ n1_ n2_ n3_ n4_ n5_ n6_ n7_ n8_ n9_ n10_ n11_ n12_ n13_ n14_ n15_ n16_ n17_ n18_
     clear hb hbox hg
     refine hK.out _ _ ⟨(blk_cell BK460.out 0).trans rfl, (blk_cell BK460.out 1).trans rfl, (blk_cell BK442.out 0).trans rfl, (blk_cell BK442.out 1).trans rfl⟩ (fun hHeld => ?_)
     clear hK K
     refine norm_ (a' := ?_) ?_ ?_
     rotate_left
     ·show Act.put _ (some 11) _ = _
      simp only [Act.put, List.setIfInBounds_toArray, List.set_cons_zero, List.set_cons_succ, i64_w, i32_w]
      rfl
     refine one_ (i := 4) (N := some 39) #[true, true, true, true, true, false, false, false, true, false, false] rfl rfl (one_of HT_.out (by kernel_rfl)) (by decide) (fun K hK => ?_)
     refine goes_ Try.func35 (by kernel_rfl) rfl #[.agg #[.int .i64 t456, .slice Ao41 t457.length co41], .int .i64 a1, .agg #[.int .i64 t461, .int .i64 t462]] (by rfl) rfl rfl (by (try simp only [List.map_toArray, List.map_cons, List.map_nil]); first | done | rfl | (simp only [List.length_drop, List.length_take]; rfl)) ?_
     with_reducible refine (impl_GridPut.calls k t456 _ _ t457 a1 t461 t462 t463 t464 t467 _ ?side1 ?side2 A16.out).mono ?_
     (case side1 => repeat (first | exact (Kd.R_reads' HO459.out).2.2 | (with_reducible refine Kd.C_alloc ?_ _) | (with_reducible refine Kd.C_drewN ?_ _) | (with_reducible refine Kd.C_drew ?_)))
     (case side2 => exact (Kd.R_reads' HO459.out).2.1)
     rintro e w46 ⟨v465, rfl, ho0, hb⟩
     refine ⟨_, rfl, ?_⟩
     have n0_ := Aside0.mk (Kd.R_elder' (kR HO447.out) (Kd.R_base ho0) hb)
     have n1_ := Aside0.mk (Kd.R_elder' (kR HO453.out) (Kd.R_base ho0) hb)
     have n2_ := Aside0.mk (Kd.R_elder' (kR HO459.out) (Kd.R_base ho0) hb)
     have n3_ := Aside0.mk (Kd.R_lower (Kd.R_new' (Kd.R_new' (Kd.R_new' ho0 (Kd.R_lt (kR HO447.out))) (Kd.R_lt (kR HO453.out))) (Kd.R_lt (kR HO459.out))) (below_size (by repeat (first | (with_reducible first | exact HB.out | apply below_alloc | apply pw_below_drewN | apply below_drew1 | refine below_set ?_ GE441.out | refine below_set ?_ GE442.out | refine below_set ?_ GE455.out | refine below_set ?_ GE460.out | refine below_set ?_ GE468.out) | exact HB.out))))
     have n4_ := Aside0.mk (blk_below (bK BK441.out) hb)
     have n5_ := Aside0.mk (blk_below (bK BK442.out) hb)
     have n6_ := Aside0.mk (blk_below (bK BK455.out) hb)
     have n7_ := Aside0.mk (blk_below (bK BK460.out) hb)
     have n8_ := Aside0.mk (blk_below (bK BK468.out) hb)
     have n9_ := Aside0.mk (below_step (by repeat (first | (with_reducible first | exact HB.out | apply below_alloc | apply pw_below_drewN | apply below_drew1 | refine below_set ?_ GE441.out | refine below_set ?_ GE442.out | refine below_set ?_ GE455.out | refine below_set ?_ GE460.out | refine below_set ?_ GE468.out) | exact HB.out)) hb)
     clear HO447
     clear HO453
     clear HO459
     clear BK441
     clear BK442
     clear BK455
     clear BK460
     clear BK468
     clear HB
     have HO447 := n0_
     have HO453 := n1_
     have HO459 := n2_
     have HO466 := n3_
     have BK441 := n4_
     have BK442 := n5_
     have BK455 := n6_
     have BK460 := n7_
     have BK468 := n8_
     have HB := n9_
     clear n0_ n1_ n2_ n3_ n4_ n5_ n6_ n7_ n8_ n9_
     (try clear hb)
     (try clear hb2)
     (try clear hk)
     (try clear hi)
     (try clear ho0)
     refine hK.out _ _ ⟨(blk_cell BK460.out 0).trans rfl, (blk_cell BK460.out 1).trans rfl, (blk_cell BK442.out 0).trans rfl, (blk_cell BK442.out 1).trans rfl⟩ (fun hHeld => ?_)
     clear hK K
     refine norm_ (a' := ?_) ?_ ?_
     rotate_left
     ·show Act.put _ (some 39) _ = _
      simp only [Act.put, List.setIfInBounds_toArray, List.set_cons_zero, List.set_cons_succ, i64_w, i32_w]
      rfl
     refine pure_ (i := 5) (N := some 34) (v := ?_) (a' := ?_) #[true, true, true, true, true, true, false, false, true, false, false] rfl rfl (any_of HT_.out (by kernel_rfl)) (fun _ _ _ h => h) (Or.inl ⟨by rfl, ?_⟩) ?_ ?_
     rotate_left
     ·intro w'
      go_simp
      with_reducible rfl
     rotate_left
     ·simp only [Act.put, List.setIfInBounds_toArray, List.set_cons_zero, List.set_cons_succ, i64_w, i32_w]
      rfl
     refine pure_ (i := 6) (N := some 40) (v := ?_) (a' := ?_) #[true, true, true, true, true, true, true, false, true, false, false] rfl rfl (any_of HT_.out (by kernel_rfl)) (fun _ _ _ h => h) (Or.inl ⟨by rfl, ?_⟩) ?_ ?_
     rotate_left
     ·intro w'
      go_simp
      with_reducible rfl
     rotate_left
     ·simp only [Act.put, List.setIfInBounds_toArray, List.set_cons_zero, List.set_cons_succ, i64_w, i32_w]
      rfl
     refine pure_ (i := 7) (N := some 41) (v := ?_) (a' := ?_) #[true, true, true, true, true, true, true, true, true, false, false] rfl rfl (any_of HT_.out (by kernel_rfl)) (fun _ _ _ h => h) (Or.inl ⟨by rfl, ?_⟩) ?_ ?_
     rotate_left
     ·intro w'
      go_simp
      with_reducible rfl
     rotate_left
     ·simp only [Act.put, List.setIfInBounds_toArray, List.set_cons_zero, List.set_cons_succ, i64_w, i32_w]
      rfl
     exact norm_ (by simp only [putAll, Act.put, List.setIfInBounds_toArray, List.set_cons_zero, List.set_cons_succ]) (hCont (v465, gb468) _ ⟨hHeld, (by (with_reducible repeat (first | apply Kd.R_alloc | apply Kd.R_drewN | apply Kd.R_drew)); exact Kd.R_mono HO447.out (fun _ hk => ⟨hk.1.1, ⟨hk.1.2, hk.2⟩⟩)), (by (with_reducible repeat (first | apply Kd.R_alloc | apply Kd.R_drewN | apply Kd.R_drew)); exact Kd.R_mono HO453.out (fun _ hk => ⟨hk.1.1, ⟨hk.1.2, hk.2⟩⟩)), (by (with_reducible repeat (first | apply Kd.R_alloc | apply Kd.R_drewN | apply Kd.R_drew)); exact Kd.R_mono HO459.out (fun _ hk => ⟨hk.1.1, ⟨hk.1.2, hk.2⟩⟩)), (by (with_reducible repeat (first | apply Kd.R_alloc | apply Kd.R_drewN | apply Kd.R_drew)); exact Kd.R_mono HO466.out (fun _ hk => ⟨hk.1.1.2, ⟨hk.1.2, hk.2⟩⟩)), (bK BK441.out), (bK BK442.out), (bK BK455.out), (bK BK460.out), (bK BK468.out), GW468.out, GE468.out, NB441_468.out, NB468_441.out, NB442_468.out, NB468_442.out, NB455_468.out, NB468_455.out, NB460_468.out, NB468_460.out, (by repeat (first | (with_reducible first | exact HB.out | apply below_alloc | apply pw_below_drewN | apply below_drew1 | refine below_set ?_ GE441.out | refine below_set ?_ GE442.out | refine below_set ?_ GE455.out | refine below_set ?_ GE460.out | refine below_set ?_ GE468.out) | exact HB.out))⟩)
   ·skip
    refine box_step ?hg (N := 11) ?hd (cs := #[.int .i64 0, .slice none 0 0]) (t := 29) ?hr ?_; (case hd => rfl); (case hg => rfl); (case hr => first | (go_simp; done) | (go_simp; rfl))
    intro gb468 hg w44 hbox hb
    have n0_ := Aside0.mk (Kd.R_below (kR HO447.out) hb)
    have n1_ := Aside0.mk (Kd.R_below (kR HO453.out) hb)
    have n2_ := Aside0.mk (Kd.R_below (kR HO459.out) hb)
    have n3_ := Aside0.mk (blk_below (bK BK441.out) hb)
    have n4_ := Aside0.mk (blk_below (bK BK442.out) hb)
    have n5_ := Aside0.mk (blk_below (bK BK455.out) hb)
    have n6_ := Aside0.mk (blk_below (bK BK460.out) hb)
    have n7_ := Aside0.mk (below_step (by repeat (first | (with_reducible first | exact HB.out | apply below_alloc | apply pw_below_drewN | apply below_drew1 | refine below_set ?_ GE441.out | refine below_set ?_ GE442.out | refine below_set ?_ GE455.out | refine below_set ?_ GE460.out) | exact HB.out)) hb)
    have n8_ := Aside0.mk (hbox)
    have n9_ := Aside0.mk ((by rw [hg]; exact (below_size (by repeat (first | (with_reducible first | exact HB.out | apply below_alloc | apply pw_below_drewN | apply below_drew1 | refine below_set ?_ GE441.out | refine below_set ?_ GE442.out | refine below_set ?_ GE455.out | refine below_set ?_ GE460.out) | exact HB.out))) : w.heap.size ≤ gb468))
    have n10_ := Aside0.mk ((by rw [hg]; exact (below_size (by repeat (first | (with_reducible first | exact HB.out | apply below_alloc | apply pw_below_drewN | apply below_drew1 | refine below_set ?_ GE441.out | refine below_set ?_ GE442.out | refine below_set ?_ GE455.out | refine below_set ?_ GE460.out) | exact HB.out))) : w.heap.size ≤ gb468))
    have n11_ := Aside0.mk ((by rw [hg]; exact Nat.ne_of_lt (blk_lt (bK BK441.out)) : gb441 ≠ gb468))
    have n12_ := Aside0.mk ((by rw [hg]; exact Nat.ne_of_gt (blk_lt (bK BK441.out)) : gb468 ≠ gb441))
    have n13_ := Aside0.mk ((by rw [hg]; exact Nat.ne_of_lt (blk_lt (bK BK442.out)) : gb442 ≠ gb468))
    have n14_ := Aside0.mk ((by rw [hg]; exact Nat.ne_of_gt (blk_lt (bK BK442.out)) : gb468 ≠ gb442))
    have n15_ := Aside0.mk ((by rw [hg]; exact Nat.ne_of_lt (blk_lt (bK BK455.out)) : gb455 ≠ gb468))
    have n16_ := Aside0.mk ((by rw [hg]; exact Nat.ne_of_gt (blk_lt (bK BK455.out)) : gb468 ≠ gb455))
    have n17_ := Aside0.mk ((by rw [hg]; exact Nat.ne_of_lt (blk_lt (bK BK460.out)) : gb460 ≠ gb468))
    have n18_ := Aside0.mk ((by rw [hg]; exact Nat.ne_of_gt (blk_lt (bK BK460.out)) : gb468 ≠ gb460))
    clear HO447
    clear HO453
    clear HO459
    clear BK441
    clear BK442
    clear BK455
    clear BK460
    clear HB
    have HO447 := n0_
    have HO453 := n1_
    have HO459 := n2_
    have BK441 := n3_
    have BK442 := n4_
    have BK455 := n5_
    have BK460 := n6_
    have HB := n7_
    have BK468 := n8_
    have GW468 := n9_
    have GE468 := n10_
    have NB441_468 := n11_
    have NB468_441 := n12_
    have NB442_468 := n13_
    have NB468_442 := n14_
    have NB455_468 := n15_
    have NB468_455 := n16_
    have NB460_468 := n17_
    have NB468_460 := n18_
    clear n0_ n1_ n2_ n3_ n4_ n5_ n6_ n7_ n8_ n9_ n10_ n11_ n12_ n13_ n14_ n15_ n16_ n17_ n18_
    clear hb hbox hg
    refine hK.out _ _ ⟨(blk_cell BK460.out 0).trans rfl, (blk_cell BK460.out 1).trans rfl, (blk_cell BK442.out 0).trans rfl, (blk_cell BK442.out 1).trans rfl⟩ (fun hHeld => ?_)
    clear hK K
    refine norm_ (a' := ?_) ?_ ?_
    rotate_left
    ·show Act.put _ (some 11) _ = _
     simp only [Act.put, List.setIfInBounds_toArray, List.set_cons_zero, List.set_cons_succ, i64_w, i32_w]
     rfl
    refine one_ (i := 3) (N := some 38) #[true, true, true, true, false, false, false, false, true, false, false] rfl rfl (one_of HT_.out (by kernel_rfl)) (by decide) (fun K hK => ?_)
    refine goes_ Try.func34 (by kernel_rfl) rfl #[.agg #[.int .i64 a2_0, .int .i64 a2_1]] (by rfl) rfl rfl (by (try simp only [List.map_toArray, List.map_cons, List.map_nil]); first | done | rfl | (simp only [List.length_drop, List.length_take]; rfl)) ?_
    with_reducible refine (laws_toCell.calls a2_0 a2_1 t461 t462 _ A15.out).mono ?_
    rintro e w45 ⟨rfl, hb⟩
    refine ⟨_, rfl, ?_⟩
    have n0_ := Aside0.mk (Kd.R_below (kR HO447.out) hb)
    have n1_ := Aside0.mk (Kd.R_below (kR HO453.out) hb)
    have n2_ := Aside0.mk (Kd.R_below (kR HO459.out) hb)
    have n3_ := Aside0.mk (blk_below (bK BK441.out) hb)
    have n4_ := Aside0.mk (blk_below (bK BK442.out) hb)
    have n5_ := Aside0.mk (blk_below (bK BK455.out) hb)
    have n6_ := Aside0.mk (blk_below (bK BK460.out) hb)
    have n7_ := Aside0.mk (blk_below (bK BK468.out) hb)
    have n8_ := Aside0.mk (below_step (by repeat (first | (with_reducible first | exact HB.out | apply below_alloc | apply pw_below_drewN | apply below_drew1 | refine below_set ?_ GE441.out | refine below_set ?_ GE442.out | refine below_set ?_ GE455.out | refine below_set ?_ GE460.out | refine below_set ?_ GE468.out) | exact HB.out)) hb)
    clear HO447
    clear HO453
    clear HO459
    clear BK441
    clear BK442
    clear BK455
    clear BK460
    clear BK468
    clear HB
    have HO447 := n0_
    have HO453 := n1_
    have HO459 := n2_
    have BK441 := n3_
    have BK442 := n4_
    have BK455 := n5_
    have BK460 := n6_
    have BK468 := n7_
    have HB := n8_
    clear n0_ n1_ n2_ n3_ n4_ n5_ n6_ n7_ n8_
    (try clear hb)
    (try clear hb2)
    (try clear hk)
    (try clear hi)
    refine hK.out _ _ ⟨(blk_cell BK460.out 0).trans rfl, (blk_cell BK460.out 1).trans rfl, (blk_cell BK442.out 0).trans rfl, (blk_cell BK442.out 1).trans rfl⟩ (fun hHeld => ?_)
    clear hK K
    refine norm_ (a' := ?_) ?_ ?_
    rotate_left
    ·show Act.put _ (some 38) _ = _
     simp only [Act.put, List.setIfInBounds_toArray, List.set_cons_zero, List.set_cons_succ, i64_w, i32_w]
     rfl
    refine one_ (i := 4) (N := some 39) #[true, true, true, true, true, false, false, false, true, false, false] rfl rfl (one_of HT_.out (by kernel_rfl)) (by decide) (fun K hK => ?_)
    refine goes_ Try.func35 (by kernel_rfl) rfl #[.agg #[.int .i64 t456, .slice Ao41 t457.length co41], .int .i64 a1, .agg #[.int .i64 t461, .int .i64 t462]] (by rfl) rfl rfl (by (try simp only [List.map_toArray, List.map_cons, List.map_nil]); first | done | rfl | (simp only [List.length_drop, List.length_take]; rfl)) ?_
    with_reducible refine (impl_GridPut.calls k t456 _ _ t457 a1 t461 t462 t463 t464 t467 _ ?side1 ?side2 A16.out).mono ?_
    (case side1 => repeat (first | exact (Kd.R_reads' HO459.out).2.2 | (with_reducible refine Kd.C_alloc ?_ _) | (with_reducible refine Kd.C_drewN ?_ _) | (with_reducible refine Kd.C_drew ?_)))
    (case side2 => exact (Kd.R_reads' HO459.out).2.1)
    rintro e w46 ⟨v465, rfl, ho0, hb⟩
    refine ⟨_, rfl, ?_⟩
    have n0_ := Aside0.mk (Kd.R_elder' (kR HO447.out) (Kd.R_base ho0) hb)
    have n1_ := Aside0.mk (Kd.R_elder' (kR HO453.out) (Kd.R_base ho0) hb)
    have n2_ := Aside0.mk (Kd.R_elder' (kR HO459.out) (Kd.R_base ho0) hb)
    have n3_ := Aside0.mk (Kd.R_lower (Kd.R_new' (Kd.R_new' (Kd.R_new' ho0 (Kd.R_lt (kR HO447.out))) (Kd.R_lt (kR HO453.out))) (Kd.R_lt (kR HO459.out))) (below_size (by repeat (first | (with_reducible first | exact HB.out | apply below_alloc | apply pw_below_drewN | apply below_drew1 | refine below_set ?_ GE441.out | refine below_set ?_ GE442.out | refine below_set ?_ GE455.out | refine below_set ?_ GE460.out | refine below_set ?_ GE468.out) | exact HB.out))))
    have n4_ := Aside0.mk (blk_below (bK BK441.out) hb)
    have n5_ := Aside0.mk (blk_below (bK BK442.out) hb)
    have n6_ := Aside0.mk (blk_below (bK BK455.out) hb)
    have n7_ := Aside0.mk (blk_below (bK BK460.out) hb)
    have n8_ := Aside0.mk (blk_below (bK BK468.out) hb)
    have n9_ := Aside0.mk (below_step (by repeat (first | (with_reducible first | exact HB.out | apply below_alloc | apply pw_below_drewN | apply below_drew1 | refine below_set ?_ GE441.out | refine below_set ?_ GE442.out | refine below_set ?_ GE455.out | refine below_set ?_ GE460.out | refine below_set ?_ GE468.out) | exact HB.out)) hb)
    clear HO447
    clear HO453
    clear HO459
    clear BK441
    clear BK442
    clear BK455
    clear BK460
    clear BK468
    clear HB
    have HO447 := n0_
    have HO453 := n1_
    have HO459 := n2_
    have HO466 := n3_
    have BK441 := n4_
    have BK442 := n5_
    have BK455 := n6_
    have BK460 := n7_
    have BK468 := n8_
    have HB := n9_
    clear n0_ n1_ n2_ n3_ n4_ n5_ n6_ n7_ n8_ n9_
    (try clear hb)
    (try clear hb2)
    (try clear hk)
    (try clear hi)
    (try clear ho0)
    refine hK.out _ _ ⟨(blk_cell BK460.out 0).trans rfl, (blk_cell BK460.out 1).trans rfl, (blk_cell BK442.out 0).trans rfl, (blk_cell BK442.out 1).trans rfl⟩ (fun hHeld => ?_)
    clear hK K
    refine norm_ (a' := ?_) ?_ ?_
    rotate_left
    ·show Act.put _ (some 39) _ = _
     simp only [Act.put, List.setIfInBounds_toArray, List.set_cons_zero, List.set_cons_succ, i64_w, i32_w]
     rfl
    refine pure_ (i := 5) (N := some 34) (v := ?_) (a' := ?_) #[true, true, true, true, true, true, false, false, true, false, false] rfl rfl (any_of HT_.out (by kernel_rfl)) (fun _ _ _ h => h) (Or.inl ⟨by rfl, ?_⟩) ?_ ?_
    rotate_left
    ·intro w'
     go_simp
     with_reducible rfl
    rotate_left
    ·simp only [Act.put, List.setIfInBounds_toArray, List.set_cons_zero, List.set_cons_succ, i64_w, i32_w]
     rfl
    refine pure_ (i := 6) (N := some 40) (v := ?_) (a' := ?_) #[true, true, true, true, true, true, true, false, true, false, false] rfl rfl (any_of HT_.out (by kernel_rfl)) (fun _ _ _ h => h) (Or.inl ⟨by rfl, ?_⟩) ?_ ?_
    rotate_left
    ·intro w'
     go_simp
     with_reducible rfl
    rotate_left
    ·simp only [Act.put, List.setIfInBounds_toArray, List.set_cons_zero, List.set_cons_succ, i64_w, i32_w]
     rfl
    refine pure_ (i := 7) (N := some 41) (v := ?_) (a' := ?_) #[true, true, true, true, true, true, true, true, true, false, false] rfl rfl (any_of HT_.out (by kernel_rfl)) (fun _ _ _ h => h) (Or.inl ⟨by rfl, ?_⟩) ?_ ?_
    rotate_left
    ·intro w'
     go_simp
     with_reducible rfl
    rotate_left
    ·simp only [Act.put, List.setIfInBounds_toArray, List.set_cons_zero, List.set_cons_succ, i64_w, i32_w]
     rfl
    exact norm_ (by simp only [putAll, Act.put, List.setIfInBounds_toArray, List.set_cons_zero, List.set_cons_succ]) (hCont (v465, gb468) _ ⟨hHeld, (by (with_reducible repeat (first | apply Kd.R_alloc | apply Kd.R_drewN | apply Kd.R_drew)); exact Kd.R_mono HO447.out (fun _ hk => ⟨hk.1.1, ⟨hk.1.2, hk.2⟩⟩)), (by (with_reducible repeat (first | apply Kd.R_alloc | apply Kd.R_drewN | apply Kd.R_drew)); exact Kd.R_mono HO453.out (fun _ hk => ⟨hk.1.1, ⟨hk.1.2, hk.2⟩⟩)), (by (with_reducible repeat (first | apply Kd.R_alloc | apply Kd.R_drewN | apply Kd.R_drew)); exact Kd.R_mono HO459.out (fun _ hk => ⟨hk.1.1, ⟨hk.1.2, hk.2⟩⟩)), (by (with_reducible repeat (first | apply Kd.R_alloc | apply Kd.R_drewN | apply Kd.R_drew)); exact Kd.R_mono HO466.out (fun _ hk => ⟨hk.1.1.2, ⟨hk.1.2, hk.2⟩⟩)), (bK BK441.out), (bK BK442.out), (bK BK455.out), (bK BK460.out), (bK BK468.out), GW468.out, GE468.out, NB441_468.out, NB468_441.out, NB442_468.out, NB468_442.out, NB455_468.out, NB468_455.out, NB460_468.out, NB468_460.out, (by repeat (first | (with_reducible first | exact HB.out | apply below_alloc | apply pw_below_drewN | apply below_drew1 | refine below_set ?_ GE441.out | refine below_set ?_ GE442.out | refine below_set ?_ GE455.out | refine below_set ?_ GE460.out | refine below_set ?_ GE468.out) | exact HB.out))⟩)
  rintro ⟨v465, gb468⟩ w47 ⟨hS_, h0_, h1_, h2_, h3_, h4_, h5_, h6_, h7_, h8_, h9_, h10_, h11_, h12_, h13_, h14_, h15_, h16_, h17_, h18_, h19_⟩
  have n0_ : Aside0 (Kd.R k48 48 w47 w.heap.size (fun k_ => some k_ ≠ (.slice Ao31 t451.length co31 : Value).ownBlock ∧ some k_ ≠ (.slice Ao41 t457.length co41 : Value).ownBlock ∧ some k_ ≠ (v465 : Value).ownBlock) v446 t445) := ⟨h0_⟩
  have n1_ : Aside0 (Kd.R k48 48 w47 w.heap.size (fun k_ => some k_ ≠ (v446 : Value).ownBlock ∧ some k_ ≠ (.slice Ao41 t457.length co41 : Value).ownBlock ∧ some k_ ≠ (v465 : Value).ownBlock) (.slice Ao31 t451.length co31) t451) := ⟨h1_⟩
  have n2_ : Aside0 (Kd.R k48 48 w47 w.heap.size (fun k_ => some k_ ≠ (v446 : Value).ownBlock ∧ some k_ ≠ (.slice Ao31 t451.length co31 : Value).ownBlock ∧ some k_ ≠ (v465 : Value).ownBlock) (.slice Ao41 t457.length co41) t457) := ⟨h2_⟩
  have n3_ : Aside0 (Kd.R k48 48 w47 w.heap.size (fun k_ => some k_ ≠ (v446 : Value).ownBlock ∧ some k_ ≠ (.slice Ao31 t451.length co31 : Value).ownBlock ∧ some k_ ≠ (.slice Ao41 t457.length co41 : Value).ownBlock) v465 t464) := ⟨h3_⟩
  have n4_ : Aside0 (w47.heap[gb441]? = some (.cells #[.int .i64 a0_0, .slice A0_1 l0_1.length c0_1] 24 (0, 0))) := ⟨h4_⟩
  have n5_ : Aside0 (w47.heap[gb442]? = some (.cells #[.int .i64 a2_0, .int .i64 a2_1] 45 (0, 0))) := ⟨h5_⟩
  have n6_ : Aside0 (w47.heap[gb455]? = some (.cells #[.int .i64 t450, .slice Ao31 t451.length co31] 29 (0, 0))) := ⟨h6_⟩
  have n7_ : Aside0 (w47.heap[gb460]? = some (.cells #[.int .i64 t456, .slice Ao41 t457.length co41] 29 (0, 0))) := ⟨h7_⟩
  have n8_ : Aside0 (w47.heap[gb468]? = some (.cells #[.int .i64 0, .slice none 0 0] 29 (0, 0))) := ⟨h8_⟩
  have n9_ : Aside0 (w.heap.size ≤ gb468) := ⟨h9_⟩
  have n10_ : Aside0 (w.heap.size ≤ gb468) := ⟨h10_⟩
  have n11_ : Aside0 (gb441 ≠ gb468) := ⟨h11_⟩
  have n12_ : Aside0 (gb468 ≠ gb441) := ⟨h12_⟩
  have n13_ : Aside0 (gb442 ≠ gb468) := ⟨h13_⟩
  have n14_ : Aside0 (gb468 ≠ gb442) := ⟨h14_⟩
  have n15_ : Aside0 (gb455 ≠ gb468) := ⟨h15_⟩
  have n16_ : Aside0 (gb468 ≠ gb455) := ⟨h16_⟩
  have n17_ : Aside0 (gb460 ≠ gb468) := ⟨h17_⟩
  have n18_ : Aside0 (gb468 ≠ gb460) := ⟨h18_⟩
  have n19_ : Aside0 (Below w.heap.size w w47) := ⟨h19_⟩
  clear HO447
  clear HO453
  clear HO459
  clear BK441
  clear BK442
  clear BK455
  clear BK460
  clear HB
  clear h0_ h1_ h2_ h3_ h4_ h5_ h6_ h7_ h8_ h9_ h10_ h11_ h12_ h13_ h14_ h15_ h16_ h17_ h18_ h19_
  have HO447 := n0_
  have HO453 := n1_
  have HO459 := n2_
  have HO466 := n3_
  have BK441 := n4_
  have BK442 := n5_
  have BK455 := n6_
  have BK460 := n7_
  have BK468 := n8_
  have GW468 := n9_
  have GE468 := n10_
  have NB441_468 := n11_
  have NB468_441 := n12_
  have NB442_468 := n13_
  have NB468_442 := n14_
  have NB455_468 := n15_
  have NB468_455 := n16_
  have NB460_468 := n17_
  have NB468_460 := n18_
  have HB := n19_
  clear n0_ n1_ n2_ n3_ n4_ n5_ n6_ n7_ n8_ n9_ n10_ n11_ n12_ n13_ n14_ n15_ n16_ n17_ n18_ n19_
  have hHeld : w47.cell? ⟨gb460, 0, none⟩ = some (.int .i64 t456) ∧ w47.cell? ⟨gb460, 1, none⟩ = some (.slice Ao41 t457.length co41) ∧ w47.cell? ⟨gb442, 0, none⟩ = some (.int .i64 a2_0) ∧ w47.cell? ⟨gb442, 1, none⟩ = some (.int .i64 a2_1) := hS_
  obtain ⟨Ao49, co49, eo49⟩ := Kd.R_slice HO466.out
  (first | subst eo49 | (injection eo49 with f1_ f2_ f3_; have f4_ := f1_.symm; have f5_ := f3_.symm; clear f1_ f2_ f3_; subst f4_; subst f5_))
  refine norm_ (a' := ?_) ?_ ?_
  rotate_left
  ·simp only [putAll, Act.put, List.setIfInBounds_toArray, List.set_cons_zero, List.set_cons_succ]
   rfl
  refine one_ (i := 9) (N := none) #[true, true, true, true, true, true, true, true, true, true, false] rfl rfl (one_of HT_.out (by kernel_rfl)) (by decide) (fun K hK => ?_)
  have hs48 : w47.cell? ⟨gb468, 0, none⟩ = some (.int .i64 0) := (blk_cell BK468.out 0).trans rfl
  have hfs48 := blk_frozen BK468.out 0
  have hns48_0 := NB441_468.out
  have hns48_1 := NB442_468.out
  have hns48_2 := NB455_468.out
  have hns48_3 := NB460_468.out
  have hms48_0 := NB468_441.out
  have hms48_1 := NB468_442.out
  have hms48_2 := NB468_455.out
  have hms48_3 := NB468_460.out
  have hs50 : w47.cell? ⟨gb468, 1, none⟩ = some (.slice none 0 0) := (blk_cell BK468.out 1).trans rfl
  have hfs50 := blk_frozen BK468.out 1
  have hns50_0 := NB441_468.out
  have hns50_1 := NB442_468.out
  have hns50_2 := NB455_468.out
  have hns50_3 := NB460_468.out
  have hms50_0 := NB468_441.out
  have hms50_1 := NB468_442.out
  have hms50_2 := NB468_455.out
  have hms50_3 := NB468_460.out
  refine skip_ (w1 := ?_) (by rfl) rfl ?_ ?_
  rotate_left
  ·go_simp
   rfl
  refine hK.out _ _ ⟨((cell_far (p := ⟨gb468, _, none⟩) NB460_468.out _).trans (((cell_far (p := ⟨gb468, _, none⟩) NB460_468.out _).trans (hHeld.1)))), ((cell_far (p := ⟨gb468, _, none⟩) NB460_468.out _).trans (((cell_far (p := ⟨gb468, _, none⟩) NB460_468.out _).trans (hHeld.2.1)))), ((cell_far (p := ⟨gb468, _, none⟩) NB442_468.out _).trans (((cell_far (p := ⟨gb468, _, none⟩) NB442_468.out _).trans (hHeld.2.2.1)))), ((cell_far (p := ⟨gb468, _, none⟩) NB442_468.out _).trans (((cell_far (p := ⟨gb468, _, none⟩) NB442_468.out _).trans (hHeld.2.2.2))))⟩ (fun hHeld => ?_)
  clear hK K
  refine pure_ (i := 10) (N := some 12) (v := ?_) (a' := ?_) #[true, true, true, true, true, true, true, true, true, true, true] rfl rfl (any_of HT_.out (by kernel_rfl)) (fun _ _ _ h => h) (Or.inl ⟨by rfl, ?_⟩) ?_ ?_
  rotate_left
  ·intro w'
   go_simp
   with_reducible rfl
  rotate_left
  ·simp only [Act.put, List.setIfInBounds_toArray, List.set_cons_zero, List.set_cons_succ, i64_w, i32_w]
   rfl
  refine done_ (done_of HT_.out (by kernel_rfl)) ?_
  go_upto_region 8 with (fail)
  go_cut [50] (fun v50 wc => ∃ (kq : Nat) (x50_16 : Bool), v50 = .bool x50_16 ∧ Aside0 (laws_FnExactGridPut.j0 kq a1 t454 t467 x50_16 a0_0 l0_1 a2_0 a2_1 t450 t451 t456 t457 t463 t464 = some r) ∧ Aside0 (kq ≤ k) ∧ Aside0 (Kd.R k48 48 wc w.heap.size (fun k_ => some k_ ≠ ((.slice Ao41 t457.length co41) : Value).ownBlock ∧ some k_ ≠ ((.slice Ao49 t464.length co49) : Value).ownBlock) (.slice Ao31 t451.length co31) t451) ∧ Aside0 (Kd.R k48 48 wc w.heap.size (fun k_ => some k_ ≠ ((.slice Ao31 t451.length co31) : Value).ownBlock ∧ some k_ ≠ ((.slice Ao49 t464.length co49) : Value).ownBlock) (.slice Ao41 t457.length co41) t457) ∧ Aside0 (Kd.R k48 48 wc w.heap.size (fun k_ => some k_ ≠ ((.slice Ao31 t451.length co31) : Value).ownBlock ∧ some k_ ≠ ((.slice Ao41 t457.length co41) : Value).ownBlock) (.slice Ao49 t464.length co49) t464) ∧ Aside0 (wc.heap[gb441]? = some (.cells #[.int .i64 a0_0, (.slice A0_1 l0_1.length c0_1)] 24 (0, 0))) ∧ Aside0 (wc.heap[gb442]? = some (.cells #[.int .i64 a2_0, .int .i64 a2_1] 45 (0, 0))) ∧ Aside0 (wc.heap[gb455]? = some (.cells #[.int .i64 t450, (.slice Ao31 t451.length co31)] 29 (0, 0))) ∧ Aside0 (wc.heap[gb460]? = some (.cells #[.int .i64 t456, (.slice Ao41 t457.length co41)] 29 (0, 0))) ∧ Aside0 (wc.heap[gb468]? = some (.cells #[.int .i64 t463, (.slice Ao49 t464.length co49)] 29 (0, 0))) ∧ Aside0 (Below w.heap.size w wc))
  case first =>
   have H := HC17.out
   clear HC17
   replace H := Option.bind_eq_some_iff.mp H
   obtain ⟨t469, A510, H⟩ := H
   replace H : (if t469 = true then (laws_FnExactGridPut.j0 k a1 t454 t467 (t467 != t454) a0_0 l0_1 a2_0 a2_1 t450 t451 t456 t457 t463 t464) else (laws_FnExactGridPut.j0 k a1 t454 t467 true a0_0 l0_1 a2_0 a2_1 t450 t451 t456 t457 t463 t464)) = some r := H
   have A51 := Aside0.mk A510
   clear A510
   by_cases c52 : t469 = true
   ·subst c52
    have H1 : (laws_FnExactGridPut.j0 k a1 t454 t467 (t467 != t454) a0_0 l0_1 a2_0 a2_1 t450 t451 t456 t457 t463 t464) = some r := by rw [if_pos rfl] at H; exact H
    clear H
    have H := H1
    clear H1
    have H' := Aside0.mk H
    clear H
    have hnb53 := NB468_441.out
    have hnc53 := NB441_468.out
    have hnb54 := NB468_442.out
    have hnc54 := NB442_468.out
    have hnb55 := NB468_455.out
    have hnc55 := NB455_468.out
    have hnb56 := NB468_460.out
    have hnc56 := NB460_468.out
    have hcz57_0 : w47.cell? ⟨gb468, 0, none⟩ = some (.int .i64 0) := (blk_cell BK468.out 0).trans rfl
    have hcz57_1 : w47.cell? ⟨gb468, 1, none⟩ = some (.slice none 0 0) := (blk_cell BK468.out 1).trans rfl
    have hfz57_0 := blk_frozen BK468.out 0
    have hfz57_1 := blk_frozen BK468.out 1
    have hnb58 := NB455_441.out
    have hnc58 := NB441_455.out
    have hnb59 := NB455_442.out
    have hnc59 := NB442_455.out
    have hnb60 := NB455_460.out
    have hnc60 := NB460_455.out
    have hcz61_0 : w47.cell? ⟨gb455, 0, none⟩ = some (.int .i64 t450) := (blk_cell BK455.out 0).trans rfl
    have hcz61_1 : w47.cell? ⟨gb455, 1, none⟩ = some (.slice Ao31 t451.length co31) := (blk_cell BK455.out 1).trans rfl
    have hfz61_0 := blk_frozen BK455.out 0
    have hfz61_1 := blk_frozen BK455.out 1
    go_wp2_with (first | ((with_reducible refine gate_callee (f := 19) rfl ?_); refine goesL_ (some 44) rfl rfl Try.func19 (by kernel_rfl) rfl #[.agg #[.int .i64 t463, .slice Ao49 t464.length co49], .agg #[.int .i64 t450, .slice Ao31 t451.length co31]] rfl (by (try simp only [List.map_toArray, List.map_cons, List.map_nil]); first | done | rfl | (simp only [List.length_drop, List.length_take]; rfl)) ?_; (with_reducible refine (laws_eqGrid.calls k t463 _ _ t464 t450 _ _ t451 true _ ?side1 ?side2 ?side3 ?side4 A51.out).mono ?_); (case side1 => refine (Kd.R_reads' (e := 48) (base := w.heap.size) (ok := fun k_ => (some k_ ≠ (v446 : Value).ownBlock ∧ (some k_ ≠ (.slice Ao31 t451.length co31 : Value).ownBlock ∧ some k_ ≠ (.slice Ao41 t457.length co41 : Value).ownBlock))) (n := t464.length) (c := co49) ?_).2.2; exact (by (with_reducible repeat (first | apply Kd.R_alloc | apply Kd.R_drewN | apply Kd.R_drew)); exact (Kd.R_mono (Kd.R_far (p := ⟨gb468, 1, none⟩) (Kd.R_far (p := ⟨gb468, 0, none⟩) (Kd.R_types HO466.out BK468.out (by decide)) (fun _ hk => hk.2) (.int .i64 t463)) (fun _ hk => hk.2) (.slice Ao49 t464.length co49)) (fun _ h_ => h_.1)))); (case side2 => exact (Kd.R_reads' HO466.out).2.1); (case side3 => refine (Kd.R_reads' (e := 48) (base := w.heap.size) (ok := fun k_ => (some k_ ≠ (v446 : Value).ownBlock ∧ (some k_ ≠ (.slice Ao41 t457.length co41 : Value).ownBlock ∧ some k_ ≠ (.slice Ao49 t464.length co49 : Value).ownBlock))) (n := t451.length) (c := co31) ?_).2.2; exact (by (with_reducible repeat (first | apply Kd.R_alloc | apply Kd.R_drewN | apply Kd.R_drew)); exact (Kd.R_mono (Kd.R_far (p := ⟨gb468, 1, none⟩) (Kd.R_far (p := ⟨gb468, 0, none⟩) (Kd.R_types HO453.out BK468.out (by decide)) (fun _ hk => hk.2) (.int .i64 t463)) (fun _ hk => hk.2) (.slice Ao49 t464.length co49)) (fun _ h_ => h_.1)))); (case side4 => exact (Kd.R_reads' HO453.out).2.1); rintro e w62 ⟨rfl, hb⟩; refine ⟨_, rfl, ?_⟩; have n0_ := Aside0.mk (Kd.R_below (by (with_reducible repeat (first | apply Kd.R_alloc | apply Kd.R_drewN | apply Kd.R_drew)); exact (Kd.R_mono (Kd.R_far (p := ⟨gb468, 1, none⟩) (Kd.R_far (p := ⟨gb468, 0, none⟩) (Kd.R_types HO447.out BK468.out (by decide)) (fun _ hk => hk.2) (.int .i64 t463)) (fun _ hk => hk.2) (.slice Ao49 t464.length co49)) (fun _ h_ => h_.1))) hb); have n1_ := Aside0.mk (Kd.R_below (by (with_reducible repeat (first | apply Kd.R_alloc | apply Kd.R_drewN | apply Kd.R_drew)); exact (Kd.R_mono (Kd.R_far (p := ⟨gb468, 1, none⟩) (Kd.R_far (p := ⟨gb468, 0, none⟩) (Kd.R_types HO453.out BK468.out (by decide)) (fun _ hk => hk.2) (.int .i64 t463)) (fun _ hk => hk.2) (.slice Ao49 t464.length co49)) (fun _ h_ => h_.1))) hb); have n2_ := Aside0.mk (Kd.R_below (by (with_reducible repeat (first | apply Kd.R_alloc | apply Kd.R_drewN | apply Kd.R_drew)); exact (Kd.R_mono (Kd.R_far (p := ⟨gb468, 1, none⟩) (Kd.R_far (p := ⟨gb468, 0, none⟩) (Kd.R_types HO459.out BK468.out (by decide)) (fun _ hk => hk.2) (.int .i64 t463)) (fun _ hk => hk.2) (.slice Ao49 t464.length co49)) (fun _ h_ => h_.1))) hb); have n3_ := Aside0.mk (Kd.R_below (by (with_reducible repeat (first | apply Kd.R_alloc | apply Kd.R_drewN | apply Kd.R_drew)); exact (Kd.R_mono (Kd.R_far (p := ⟨gb468, 1, none⟩) (Kd.R_far (p := ⟨gb468, 0, none⟩) (Kd.R_types HO466.out BK468.out (by decide)) (fun _ hk => hk.2) (.int .i64 t463)) (fun _ hk => hk.2) (.slice Ao49 t464.length co49)) (fun _ h_ => h_.1))) hb); have n4_ := Aside0.mk (blk_below (g := gb441) (o := .cells #[.int .i64 a0_0, .slice A0_1 l0_1.length c0_1] 24 (0, 0)) (by (with_reducible repeat (first | refine blk_drewN ?_ _ | refine blk_drew ?_ | refine blk_alloc ?_ _)); refine blk_far ?_ NB441_468.out _; (with_reducible repeat (first | refine blk_drewN ?_ _ | refine blk_drew ?_ | refine blk_alloc ?_ _)); refine blk_far ?_ NB441_468.out _; (with_reducible repeat (first | refine blk_drewN ?_ _ | refine blk_drew ?_ | refine blk_alloc ?_ _)); exact BK441.out) hb); have n5_ := Aside0.mk (blk_below (g := gb442) (o := .cells #[.int .i64 a2_0, .int .i64 a2_1] 45 (0, 0)) (by (with_reducible repeat (first | refine blk_drewN ?_ _ | refine blk_drew ?_ | refine blk_alloc ?_ _)); refine blk_far ?_ NB442_468.out _; (with_reducible repeat (first | refine blk_drewN ?_ _ | refine blk_drew ?_ | refine blk_alloc ?_ _)); refine blk_far ?_ NB442_468.out _; (with_reducible repeat (first | refine blk_drewN ?_ _ | refine blk_drew ?_ | refine blk_alloc ?_ _)); exact BK442.out) hb); have n6_ := Aside0.mk (blk_below (g := gb455) (o := .cells #[.int .i64 t450, .slice Ao31 t451.length co31] 29 (0, 0)) (by (with_reducible repeat (first | refine blk_drewN ?_ _ | refine blk_drew ?_ | refine blk_alloc ?_ _)); refine blk_far ?_ NB455_468.out _; (with_reducible repeat (first | refine blk_drewN ?_ _ | refine blk_drew ?_ | refine blk_alloc ?_ _)); refine blk_far ?_ NB455_468.out _; (with_reducible repeat (first | refine blk_drewN ?_ _ | refine blk_drew ?_ | refine blk_alloc ?_ _)); exact BK455.out) hb); have n7_ := Aside0.mk (blk_below (g := gb460) (o := .cells #[.int .i64 t456, .slice Ao41 t457.length co41] 29 (0, 0)) (by (with_reducible repeat (first | refine blk_drewN ?_ _ | refine blk_drew ?_ | refine blk_alloc ?_ _)); refine blk_far ?_ NB460_468.out _; (with_reducible repeat (first | refine blk_drewN ?_ _ | refine blk_drew ?_ | refine blk_alloc ?_ _)); refine blk_far ?_ NB460_468.out _; (with_reducible repeat (first | refine blk_drewN ?_ _ | refine blk_drew ?_ | refine blk_alloc ?_ _)); exact BK460.out) hb); have n8_ := Aside0.mk (blk_below (g := gb468) (o := .cells #[.int .i64 t463, .slice Ao49 t464.length co49] 29 (0, 0)) (by (with_reducible repeat (first | refine blk_drewN ?_ _ | refine blk_drew ?_ | refine blk_alloc ?_ _)); refine blk_put (cs := #[.int .i64 t463, .slice none 0 0]) ?_ 1 _ rfl; (with_reducible repeat (first | refine blk_drewN ?_ _ | refine blk_drew ?_ | refine blk_alloc ?_ _)); refine blk_put (cs := #[.int .i64 0, .slice none 0 0]) ?_ 0 _ rfl; (with_reducible repeat (first | refine blk_drewN ?_ _ | refine blk_drew ?_ | refine blk_alloc ?_ _)); exact BK468.out) hb); have n9_ := Aside0.mk (below_step (by repeat (first | (with_reducible first | exact HB.out | apply below_alloc | apply pw_below_drewN | apply below_drew1 | refine below_set ?_ GE441.out | refine below_set ?_ GE442.out | refine below_set ?_ GE455.out | refine below_set ?_ GE460.out | refine below_set ?_ GE468.out) | exact HB.out)) hb); clear HO447; clear HO453; clear HO459; clear HO466; clear BK441; clear BK442; clear BK455; clear BK460; clear BK468; clear HB; have HO447 := n0_; have HO453 := n1_; have HO459 := n2_; have HO466 := n3_; have BK441 := n4_; have BK442 := n5_; have BK455 := n6_; have BK460 := n7_; have BK468 := n8_; have HB := n9_; clear n0_ n1_ n2_ n3_ n4_ n5_ n6_ n7_ n8_ n9_; (try clear hb); (try clear hb2); (try clear hk); (try clear hi)))
    go_meet
    case rel => exact ⟨_, ((t467 != t454)), (by first | rfl | (simp; done) | (simp [*]; done)), H', ⟨by first | omega | exact Nat.le_refl _⟩, ⟨by (with_reducible repeat (first | apply Kd.R_alloc | apply Kd.R_drewN | apply Kd.R_drew)); exact Kd.R_mono HO453.out (fun _ hk => ⟨hk.2.1, hk.2.2⟩)⟩, ⟨by (with_reducible repeat (first | apply Kd.R_alloc | apply Kd.R_drewN | apply Kd.R_drew)); exact Kd.R_mono HO459.out (fun _ hk => ⟨hk.2.1, hk.2.2⟩)⟩, ⟨by (with_reducible repeat (first | apply Kd.R_alloc | apply Kd.R_drewN | apply Kd.R_drew)); exact Kd.R_mono HO466.out (fun _ hk => ⟨hk.2.1, hk.2.2⟩)⟩, ⟨by (with_reducible repeat (first | refine blk_drewN ?_ _ | refine blk_drew ?_ | refine blk_alloc ?_ _)); exact BK441.out⟩, ⟨by (with_reducible repeat (first | refine blk_drewN ?_ _ | refine blk_drew ?_ | refine blk_alloc ?_ _)); exact BK442.out⟩, ⟨by (with_reducible repeat (first | refine blk_drewN ?_ _ | refine blk_drew ?_ | refine blk_alloc ?_ _)); exact BK455.out⟩, ⟨by (with_reducible repeat (first | refine blk_drewN ?_ _ | refine blk_drew ?_ | refine blk_alloc ?_ _)); exact BK460.out⟩, ⟨by (with_reducible repeat (first | refine blk_drewN ?_ _ | refine blk_drew ?_ | refine blk_alloc ?_ _)); exact BK468.out⟩, ⟨by repeat (first | (with_reducible first | exact HB.out | apply below_alloc | apply pw_below_drewN | apply below_drew1 | refine below_set ?_ GE441.out | refine below_set ?_ GE442.out | refine below_set ?_ GE455.out | refine below_set ?_ GE460.out | refine below_set ?_ GE468.out) | exact HB.out)⟩⟩
   ·replace c52 := Bool.eq_false_iff.mpr c52
    subst c52
    have H1 : (laws_FnExactGridPut.j0 k a1 t454 t467 true a0_0 l0_1 a2_0 a2_1 t450 t451 t456 t457 t463 t464) = some r := by rw [if_neg (show ¬ (false = true) by decide)] at H; exact H
    clear H
    have H := H1
    clear H1
    cases k with
    | zero => exact absurd H (by simp [laws_FnExactGridPut.j0])
    | succ k_ =>
     have hf_ := Option.some.inj (show (some false : Option Bool) = some r from H)
     rw [HRT.out] at hf_
     exact absurd hf_ (by decide)
  case rest =>
   clear HC17
   try clear c1
   try clear p2
   try clear c3
   try clear c5
   try clear c6
   try clear c19
   try clear c34
   try clear c35
   try clear c52
   try clear c53
   try clear c54
   try clear c55
   try clear c56
   try clear c58
   try clear c59
   try clear c60
   try clear hcz57_0
   try clear hcz57_1
   try clear hcz61_0
   try clear hcz61_1
   try clear hfz57_0
   try clear hfz57_1
   try clear hfz61_0
   try clear hfz61_1
   obtain ⟨kq, x50_16, rfl, HA, HJ16, HO_456001, HO_461001, HO_469001, BK441, BK442, BK455, BK460, BK468, HB⟩ := hcut
   cases kq with
   | zero => exact absurd HA.out (by simp [laws_FnExactGridPut.j0])
   | succ kj16 =>
    have H := HA.out
    clear HA
    simp only [laws_FnExactGridPut.j0] at H
    by_cases c63 : x50_16 = true
    ·subst c63
     have H1 : (some false) = some r := by rw [if_pos rfl] at H; exact H
     clear H
     have H := H1
     clear H1
     obtain rfl := Option.some.inj H
     exact absurd HRT.out (by decide)
    ·replace c63 := Bool.eq_false_iff.mpr c63
     subst c63
     have H1 : ((laws_toGrid.f kj16 a0_0 l0_1).bind fun bt470 => ((laws_eqGrid.f kj16 t456 t457 bt470.1 bt470.2).bind fun t474 => (if t474 = true then ((laws_markGrid.f kj16 t456 t457 1).bind fun bt475 => (if bt475.1 < 0 then (laws_FnExactGridPut.j1 kj16 a1 t454 true a0_0 l0_1 a2_0 a2_1 t450 t451 t463 t464) else ((laws_eqGrid.f kj16 t463 t464 t450 t451).bind fun t477 => (if t477 = true then (laws_FnExactGridPut.j1 kj16 a1 t454 (t467 != t454) a0_0 l0_1 a2_0 a2_1 t450 t451 t463 t464) else (laws_FnExactGridPut.j1 kj16 a1 t454 true a0_0 l0_1 a2_0 a2_1 t450 t451 t463 t464))))) else (some false)))) = some r := by rw [if_neg (show ¬ (false = true) by decide)] at H; exact H
     clear H
     have H := H1
     clear H1
     replace H := Option.bind_eq_some_iff.mp H
     obtain ⟨⟨t470, t471⟩, A640, H⟩ := H
     replace H : ((laws_eqGrid.f kj16 t456 t457 t470 t471).bind fun t474 => (if t474 = true then ((laws_markGrid.f kj16 t456 t457 1).bind fun bt475 => (if bt475.1 < 0 then (laws_FnExactGridPut.j1 kj16 a1 t454 true a0_0 l0_1 a2_0 a2_1 t450 t451 t463 t464) else ((laws_eqGrid.f kj16 t463 t464 t450 t451).bind fun t477 => (if t477 = true then (laws_FnExactGridPut.j1 kj16 a1 t454 (t467 != t454) a0_0 l0_1 a2_0 a2_1 t450 t451 t463 t464) else (laws_FnExactGridPut.j1 kj16 a1 t454 true a0_0 l0_1 a2_0 a2_1 t450 t451 t463 t464))))) else (some false))) = some r := H
     have A64 := Aside0.mk A640
     clear A640
     replace H := Option.bind_eq_some_iff.mp H
     obtain ⟨t474, A650, H⟩ := H
     replace H : (if t474 = true then ((laws_markGrid.f kj16 t456 t457 1).bind fun bt475 => (if bt475.1 < 0 then (laws_FnExactGridPut.j1 kj16 a1 t454 true a0_0 l0_1 a2_0 a2_1 t450 t451 t463 t464) else ((laws_eqGrid.f kj16 t463 t464 t450 t451).bind fun t477 => (if t477 = true then (laws_FnExactGridPut.j1 kj16 a1 t454 (t467 != t454) a0_0 l0_1 a2_0 a2_1 t450 t451 t463 t464) else (laws_FnExactGridPut.j1 kj16 a1 t454 true a0_0 l0_1 a2_0 a2_1 t450 t451 t463 t464))))) else (some false)) = some r := H
     have A65 := Aside0.mk A650
     clear A650
     by_cases c66 : t474 = true
     ·subst c66
      have H1 : ((laws_markGrid.f kj16 t456 t457 1).bind fun bt475 => (if bt475.1 < 0 then (laws_FnExactGridPut.j1 kj16 a1 t454 true a0_0 l0_1 a2_0 a2_1 t450 t451 t463 t464) else ((laws_eqGrid.f kj16 t463 t464 t450 t451).bind fun t477 => (if t477 = true then (laws_FnExactGridPut.j1 kj16 a1 t454 (t467 != t454) a0_0 l0_1 a2_0 a2_1 t450 t451 t463 t464) else (laws_FnExactGridPut.j1 kj16 a1 t454 true a0_0 l0_1 a2_0 a2_1 t450 t451 t463 t464))))) = some r := by rw [if_pos rfl] at H; exact H
      clear H
      have H := H1
      clear H1
      replace H := Option.bind_eq_some_iff.mp H
      obtain ⟨⟨t475, t476⟩, A670, H⟩ := H
      replace H : (if t475 < 0 then (laws_FnExactGridPut.j1 kj16 a1 t454 true a0_0 l0_1 a2_0 a2_1 t450 t451 t463 t464) else ((laws_eqGrid.f kj16 t463 t464 t450 t451).bind fun t477 => (if t477 = true then (laws_FnExactGridPut.j1 kj16 a1 t454 (t467 != t454) a0_0 l0_1 a2_0 a2_1 t450 t451 t463 t464) else (laws_FnExactGridPut.j1 kj16 a1 t454 true a0_0 l0_1 a2_0 a2_1 t450 t451 t463 t464)))) = some r := H
      have A67 := Aside0.mk A670
      clear A670
      have HC68 := Aside0.mk H
      clear H
      try go_wp2
      have n0_ := Aside0.mk (Kd.R_drew HO_456001.out)
      have n1_ := Aside0.mk (Kd.R_drew HO_461001.out)
      have n2_ := Aside0.mk (Kd.R_drew HO_469001.out)
      have n3_ := Aside0.mk (blk_drew BK441.out)
      have n4_ := Aside0.mk (blk_drew BK442.out)
      have n5_ := Aside0.mk (blk_drew BK455.out)
      have n6_ := Aside0.mk (blk_drew BK460.out)
      have n7_ := Aside0.mk (blk_drew BK468.out)
      have n8_ := Aside0.mk (below_drew1 HB.out)
      clear HO_456001
      clear HO_461001
      clear HO_469001
      clear BK441
      clear BK442
      clear BK455
      clear BK460
      clear BK468
      clear HB
      have HO_456001 := n0_
      have HO_461001 := n1_
      have HO_469001 := n2_
      have BK441 := n3_
      have BK442 := n4_
      have BK455 := n5_
      have BK460 := n6_
      have BK468 := n7_
      have HB := n8_
      clear n0_ n1_ n2_ n3_ n4_ n5_ n6_ n7_ n8_
      refine start_ (n := 5) (S := fun w' => w'.cell? ⟨gb460, 0, none⟩ = some (.int .i64 t456) ∧ w'.cell? ⟨gb460, 1, none⟩ = some (.slice Ao41 t457.length co41) ∧ w'.cell? ⟨gb441, 0, none⟩ = some (.int .i64 a0_0) ∧ w'.cell? ⟨gb441, 1, none⟩ = some (.slice A0_1 l0_1.length c0_1)) (ds := []) #[false, false, false, false, false] (by kernel_rfl) rfl rfl ⟨(blk_cell BK460.out 0).trans rfl, (blk_cell BK460.out 1).trans rfl, (blk_cell BK441.out 0).trans rfl, (blk_cell BK441.out 1).trans rfl⟩ (fun hHeld => ?_)
      generalize wc.drew = w69 at HO_456001 HO_461001 HO_469001 BK441 BK442 BK455 BK460 BK468 HB hHeld ⊢
      refine take_ (i := 0) (N := some 51) (v := ?_) (a' := ?_) #[true, false, false, false, false] rfl rfl (by kernel_rfl) (fun _ _ _ h => h) (Or.inl ⟨by rfl, ?_⟩) hHeld ?_ ?_
      rotate_left
      ·rintro w' ⟨s0, s1, s2, s3⟩
       go_simp
       with_reducible rfl
      rotate_left
      ·simp only [Act.put, List.setIfInBounds_toArray, List.set_cons_zero, List.set_cons_succ, i64_w, i32_w]
       rfl
      refine take_ (i := 1) (N := some 52) (v := ?_) (a' := ?_) #[true, true, false, false, false] rfl rfl (by kernel_rfl) (fun _ _ _ h => h) (Or.inl ⟨by rfl, ?_⟩) hHeld ?_ ?_
      rotate_left
      ·rintro w' ⟨s0, s1, s2, s3⟩
       go_simp
       with_reducible rfl
      rotate_left
      ·simp only [Act.put, List.setIfInBounds_toArray, List.set_cons_zero, List.set_cons_succ, i64_w, i32_w]
       rfl
      refine one_ (i := 2) (N := some 53) #[true, true, true, false, false] rfl rfl (by kernel_rfl) (by decide) (fun K hK => ?_)
      refine goes_ Try.func17 (by kernel_rfl) rfl #[.agg #[.int .i64 a0_0, .slice A0_1 l0_1.length c0_1]] (by rfl) rfl rfl (by (try simp only [List.map_toArray, List.map_cons, List.map_nil]); first | done | rfl | (simp only [List.length_drop, List.length_take]; rfl)) ?_
      with_reducible refine (laws_toGrid.calls kj16 a0_0 _ _ l0_1 t470 t471 _ ?side1 ?side2 A64.out).mono ?_
      (case side1 => repeat (first | exact (Kd.C_below HR0_1.out HB.out) | (with_reducible refine Kd.C_alloc ?_ _) | (with_reducible refine Kd.C_drewN ?_ _) | (with_reducible refine Kd.C_drew ?_)))
      (case side2 => exact HC0_1.out)
      rintro e w70 ⟨v472, rfl, ho0, hb⟩
      refine ⟨_, rfl, ?_⟩
      have n0_ := Aside0.mk (Kd.R_elder' (kR HO_456001.out) (Kd.R_base ho0) hb)
      have n1_ := Aside0.mk (Kd.R_elder' (kR HO_461001.out) (Kd.R_base ho0) hb)
      have n2_ := Aside0.mk (Kd.R_elder' (kR HO_469001.out) (Kd.R_base ho0) hb)
      have n3_ := Aside0.mk (Kd.R_lower (Kd.R_new' (Kd.R_new' (Kd.R_new' ho0 (Kd.R_lt (kR HO_456001.out))) (Kd.R_lt (kR HO_461001.out))) (Kd.R_lt (kR HO_469001.out))) (below_size (by repeat (first | (with_reducible first | exact HB.out | apply below_alloc | apply pw_below_drewN | apply below_drew1 | refine below_set ?_ GE441.out | refine below_set ?_ GE442.out | refine below_set ?_ GE455.out | refine below_set ?_ GE460.out | refine below_set ?_ GE468.out) | exact HB.out))))
      have n4_ := Aside0.mk (blk_below (bK BK441.out) hb)
      have n5_ := Aside0.mk (blk_below (bK BK442.out) hb)
      have n6_ := Aside0.mk (blk_below (bK BK455.out) hb)
      have n7_ := Aside0.mk (blk_below (bK BK460.out) hb)
      have n8_ := Aside0.mk (blk_below (bK BK468.out) hb)
      have n9_ := Aside0.mk (below_step (by repeat (first | (with_reducible first | exact HB.out | apply below_alloc | apply pw_below_drewN | apply below_drew1 | refine below_set ?_ GE441.out | refine below_set ?_ GE442.out | refine below_set ?_ GE455.out | refine below_set ?_ GE460.out | refine below_set ?_ GE468.out) | exact HB.out)) hb)
      clear HO_456001
      clear HO_461001
      clear HO_469001
      clear BK441
      clear BK442
      clear BK455
      clear BK460
      clear BK468
      clear HB
      have HO_456001 := n0_
      have HO_461001 := n1_
      have HO_469001 := n2_
      have HO473 := n3_
      have BK441 := n4_
      have BK442 := n5_
      have BK455 := n6_
      have BK460 := n7_
      have BK468 := n8_
      have HB := n9_
      clear n0_ n1_ n2_ n3_ n4_ n5_ n6_ n7_ n8_ n9_
      (try clear hb)
      (try clear hb2)
      (try clear hk)
      (try clear hi)
      (try clear ho0)
      obtain ⟨Ao71, co71, eo71⟩ := Kd.R_slice HO473.out
      (first | subst eo71 | (injection eo71 with f1_ f2_ f3_; have f4_ := f1_.symm; have f5_ := f3_.symm; clear f1_ f2_ f3_; subst f4_; subst f5_))
      refine hK.out _ _ ⟨(blk_cell BK460.out 0).trans rfl, (blk_cell BK460.out 1).trans rfl, (blk_cell BK441.out 0).trans rfl, (blk_cell BK441.out 1).trans rfl⟩ (fun hHeld => ?_)
      clear hK K
      refine norm_ (a' := ?_) ?_ ?_
      rotate_left
      ·show Act.put _ (some 53) _ = _
       simp only [Act.put, List.setIfInBounds_toArray, List.set_cons_zero, List.set_cons_succ, i64_w, i32_w]
       rfl
      refine one_ (i := 3) (N := some 54) #[true, true, true, true, false] rfl rfl (by kernel_rfl) (by decide) (fun K hK => ?_)
      refine goes_ Try.func19 (by kernel_rfl) rfl #[.agg #[.int .i64 t456, .slice Ao41 t457.length co41], .agg #[.int .i64 t470, .slice Ao71 t471.length co71]] (by rfl) rfl rfl (by (try simp only [List.map_toArray, List.map_cons, List.map_nil]); first | done | rfl | (simp only [List.length_drop, List.length_take]; rfl)) ?_
      with_reducible refine (laws_eqGrid.calls kj16 t456 _ _ t457 t470 _ _ t471 true _ ?side1 ?side2 ?side3 ?side4 A65.out).mono ?_
      (case side1 => repeat (first | exact (Kd.R_reads' HO_461001.out).2.2 | (with_reducible refine Kd.C_alloc ?_ _) | (with_reducible refine Kd.C_drewN ?_ _) | (with_reducible refine Kd.C_drew ?_)))
      (case side2 => exact (Kd.R_reads' HO_461001.out).2.1)
      (case side3 => repeat (first | exact (Kd.R_reads' HO473.out).2.2 | (with_reducible refine Kd.C_alloc ?_ _) | (with_reducible refine Kd.C_drewN ?_ _) | (with_reducible refine Kd.C_drew ?_)))
      (case side4 => exact (Kd.R_reads' HO473.out).2.1)
      rintro e w72 ⟨rfl, hb⟩
      refine ⟨_, rfl, ?_⟩
      have n0_ := Aside0.mk (Kd.R_below (kR HO_456001.out) hb)
      have n1_ := Aside0.mk (Kd.R_below (kR HO_461001.out) hb)
      have n2_ := Aside0.mk (Kd.R_below (kR HO_469001.out) hb)
      have n3_ := Aside0.mk (Kd.R_below (kR HO473.out) hb)
      have n4_ := Aside0.mk (blk_below (bK BK441.out) hb)
      have n5_ := Aside0.mk (blk_below (bK BK442.out) hb)
      have n6_ := Aside0.mk (blk_below (bK BK455.out) hb)
      have n7_ := Aside0.mk (blk_below (bK BK460.out) hb)
      have n8_ := Aside0.mk (blk_below (bK BK468.out) hb)
      have n9_ := Aside0.mk (below_step (by repeat (first | (with_reducible first | exact HB.out | apply below_alloc | apply pw_below_drewN | apply below_drew1 | refine below_set ?_ GE441.out | refine below_set ?_ GE442.out | refine below_set ?_ GE455.out | refine below_set ?_ GE460.out | refine below_set ?_ GE468.out) | exact HB.out)) hb)
      clear HO_456001
      clear HO_461001
      clear HO_469001
      clear HO473
      clear BK441
      clear BK442
      clear BK455
      clear BK460
      clear BK468
      clear HB
      have HO_456001 := n0_
      have HO_461001 := n1_
      have HO_469001 := n2_
      have HO473 := n3_
      have BK441 := n4_
      have BK442 := n5_
      have BK455 := n6_
      have BK460 := n7_
      have BK468 := n8_
      have HB := n9_
      clear n0_ n1_ n2_ n3_ n4_ n5_ n6_ n7_ n8_ n9_
      (try clear hb)
      (try clear hb2)
      (try clear hk)
      (try clear hi)
      refine hK.out _ _ ⟨(blk_cell BK460.out 0).trans rfl, (blk_cell BK460.out 1).trans rfl, (blk_cell BK441.out 0).trans rfl, (blk_cell BK441.out 1).trans rfl⟩ (fun hHeld => ?_)
      clear hK K
      refine norm_ (a' := ?_) ?_ ?_
      rotate_left
      ·show Act.put _ (some 54) _ = _
       simp only [Act.put, List.setIfInBounds_toArray, List.set_cons_zero, List.set_cons_succ, i64_w, i32_w]
       rfl
      refine pure_ (i := 4) (N := some 55) (v := ?_) (a' := ?_) #[true, true, true, true, true] rfl rfl (by kernel_rfl) (fun _ _ _ h => h) (Or.inl ⟨by rfl, ?_⟩) ?_ ?_
      rotate_left
      ·intro w'
       go_simp
       with_reducible rfl
      rotate_left
      ·simp only [Act.put, List.setIfInBounds_toArray, List.set_cons_zero, List.set_cons_succ, i64_w, i32_w]
       rfl
      refine done_ (by kernel_rfl) ?_
      have hnb73 := NB460_441.out
      have hnc73 := NB441_460.out
      have hnb74 := NB460_442.out
      have hnc74 := NB442_460.out
      have hnb75 := NB460_455.out
      have hnc75 := NB455_460.out
      have hnb76 := NB460_468.out
      have hnc76 := NB468_460.out
      have hcz77_0 : w72.cell? ⟨gb460, 0, none⟩ = some (.int .i64 t456) := (blk_cell BK460.out 0).trans rfl
      have hcz77_1 : w72.cell? ⟨gb460, 1, none⟩ = some (.slice Ao41 t457.length co41) := (blk_cell BK460.out 1).trans rfl
      have hfz77_0 := blk_frozen BK460.out 0
      have hfz77_1 := blk_frozen BK460.out 1
      go_upto_region 14 with (first | ((with_reducible refine gate_callee (f := 36) rfl ?_); refine goesL_ (some 58) rfl rfl Try.func36 (by kernel_rfl) rfl #[.agg #[.int .i64 t456, .slice Ao41 t457.length co41], .int .i64 1] rfl (by (try simp only [List.map_toArray, List.map_cons, List.map_nil]); first | done | rfl | (simp only [List.length_drop, List.length_take]; rfl)) ?_; (with_reducible refine (laws_markGrid.calls kj16 t456 (fun k_ => some k_ = (.slice Ao41 t457.length co41 : Value).ownBlock) (.slice Ao41 t457.length co41) t457 1 t475 t476 w _ ?side1 ?side2 A67.out).mono ?_); (case side1 => repeat (first | (with_reducible first | exact HB.out | apply below_alloc | apply pw_below_drewN | apply below_drew1 | refine below_set ?_ GE441.out | refine below_set ?_ GE442.out | refine below_set ?_ GE455.out | refine below_set ?_ GE460.out | refine below_set ?_ GE468.out) | exact HB.out)); (case side2 => exact Kd.R_tight rfl HO_461001.out); rintro e w78 ⟨rfl, hy0, hb, hkp⟩; refine ⟨_, rfl, ?_⟩; have n0_ := Aside0.mk (Kd.R_mono (ok' := fun k_ => some k_ ≠ (.slice Ao41 t457.length co41 : Value).ownBlock ∧ some k_ ≠ (.slice Ao49 t464.length co49 : Value).ownBlock ∧ some k_ ≠ (.slice Ao71 t471.length co71 : Value).ownBlock) (Kd.R_keptB (HO_456001.out) hkp (fun k_ hk_ hs_ => (hk_.1.1) hs_)) (fun k_ hk_ => ⟨hk_.1.1.1, hk_.1.1.2, hk_.1.2⟩)); have n1_ := Aside0.mk (Kd.R_reok rfl hy0 (fun k_ e_ => HO_461001.out.1 k_ e_)); have n2_ := Aside0.mk (Kd.R_mono (ok' := fun k_ => some k_ ≠ (.slice Ao31 t451.length co31 : Value).ownBlock ∧ some k_ ≠ (.slice Ao41 t457.length co41 : Value).ownBlock ∧ some k_ ≠ (.slice Ao71 t471.length co71 : Value).ownBlock) (Kd.R_keptB (HO_469001.out) hkp (fun k_ hk_ hs_ => (hk_.1.2) hs_)) (fun k_ hk_ => ⟨hk_.1.1.1, hk_.1.1.2, hk_.1.2⟩)); have n3_ := Aside0.mk (blk_kept (bK BK441.out) hkp (fun hs_ => (fun e_ => (Kd.R_ne HO_461001.out BK441.out (by decide)) e_) hs_)); have n4_ := Aside0.mk (blk_kept (bK BK442.out) hkp (fun hs_ => (fun e_ => (Kd.R_ne HO_461001.out BK442.out (by decide)) e_) hs_)); have n5_ := Aside0.mk (blk_kept (bK BK455.out) hkp (fun hs_ => (fun e_ => (Kd.R_ne HO_461001.out BK455.out (by decide)) e_) hs_)); have n6_ := Aside0.mk (blk_kept (bK BK460.out) hkp (fun hs_ => (fun e_ => (Kd.R_ne HO_461001.out BK460.out (by decide)) e_) hs_)); have n7_ := Aside0.mk (blk_kept (bK BK468.out) hkp (fun hs_ => (fun e_ => (Kd.R_ne HO_461001.out BK468.out (by decide)) e_) hs_)); have n8_ := Aside0.mk (Kd.R_mono (ok' := fun k_ => some k_ ≠ (.slice Ao31 t451.length co31 : Value).ownBlock ∧ some k_ ≠ (.slice Ao41 t457.length co41 : Value).ownBlock ∧ some k_ ≠ (.slice Ao49 t464.length co49 : Value).ownBlock) (Kd.R_keptB (HO473.out) hkp (fun k_ hk_ hs_ => (hk_.1.2) hs_)) (fun k_ hk_ => ⟨hk_.1.1.1.2, hk_.1.1.2, hk_.1.2⟩)); have n9_ := Aside0.mk (hb); clear HO_456001; clear HO_461001; clear HO_469001; clear BK441; clear BK442; clear BK455; clear BK460; clear BK468; clear HO473; clear HB; have HO_456001 := n0_; have HO_461001 := n1_; have HO_469001 := n2_; have BK441 := n3_; have BK442 := n4_; have BK455 := n5_; have BK460 := n6_; have BK468 := n7_; have HO473 := n8_; have HB := n9_; clear n0_ n1_ n2_ n3_ n4_ n5_ n6_ n7_ n8_ n9_; (try clear hb); (try clear hkp); (try clear hy0)))
      (try simp only [Act.put, List.setIfInBounds_toArray, List.set_cons_zero, List.set_cons_succ])
      go_cut [71] (fun v71 wc => ∃ (kq : Nat) (x71_67 : Bool), v71 = .bool x71_67 ∧ Aside0 (laws_FnExactGridPut.j1 kq a1 t454 x71_67 a0_0 l0_1 a2_0 a2_1 t450 t451 t463 t464 = some r) ∧ Aside0 (kq ≤ kj16) ∧ Aside0 (Kd.R k48 48 wc w.heap.size (fun k_ => some k_ ≠ ((.slice Ao41 t457.length co41) : Value).ownBlock ∧ some k_ ≠ ((.slice Ao49 t464.length co49) : Value).ownBlock) (.slice Ao31 t451.length co31) t451) ∧ Aside0 (Kd.R k48 48 wc w.heap.size (fun k_ => some k_ ≠ ((.slice Ao31 t451.length co31) : Value).ownBlock ∧ some k_ ≠ ((.slice Ao49 t464.length co49) : Value).ownBlock) (.slice Ao41 t457.length co41) t476) ∧ Aside0 (Kd.R k48 48 wc w.heap.size (fun k_ => some k_ ≠ ((.slice Ao31 t451.length co31) : Value).ownBlock ∧ some k_ ≠ ((.slice Ao41 t457.length co41) : Value).ownBlock) (.slice Ao49 t464.length co49) t464) ∧ Aside0 (wc.heap[gb441]? = some (.cells #[.int .i64 a0_0, (.slice A0_1 l0_1.length c0_1)] 24 (0, 0))) ∧ Aside0 (wc.heap[gb442]? = some (.cells #[.int .i64 a2_0, .int .i64 a2_1] 45 (0, 0))) ∧ Aside0 (wc.heap[gb455]? = some (.cells #[.int .i64 t450, (.slice Ao31 t451.length co31)] 29 (0, 0))) ∧ Aside0 (wc.heap[gb460]? = some (.cells #[.int .i64 t456, (.slice Ao41 t457.length co41)] 29 (0, 0))) ∧ Aside0 (wc.heap[gb468]? = some (.cells #[.int .i64 t463, (.slice Ao49 t464.length co49)] 29 (0, 0))) ∧ Aside0 (Below w.heap.size w wc))
      case first =>
       have H := HC68.out
       clear HC68
       by_cases c79 : t475 < 0
       ·rw [if_pos c79] at H
        have c79b0 : decide (t475 < 0) = true := decide_eq_true c79
        clear c79
        (first | rw [c79b0] | (simp only [i64_w, i32_w]; rw [c79b0]) | skip)
        cases kj16 with
        | zero => exact absurd H (by simp [laws_FnExactGridPut.j1])
        | succ k_ =>
         have hf_ := Option.some.inj (show (some false : Option Bool) = some r from H)
         rw [HRT.out] at hf_
         exact absurd hf_ (by decide)
       ·rw [if_neg c79] at H
        have c79b0 : decide (t475 < 0) = false := decide_eq_false c79
        clear c79
        (first | rw [c79b0] | (simp only [i64_w, i32_w]; rw [c79b0]) | skip)
        replace H := Option.bind_eq_some_iff.mp H
        obtain ⟨t477, A800, H⟩ := H
        replace H : (if t477 = true then (laws_FnExactGridPut.j1 kj16 a1 t454 (t467 != t454) a0_0 l0_1 a2_0 a2_1 t450 t451 t463 t464) else (laws_FnExactGridPut.j1 kj16 a1 t454 true a0_0 l0_1 a2_0 a2_1 t450 t451 t463 t464)) = some r := H
        have A80 := Aside0.mk A800
        clear A800
        by_cases c81 : t477 = true
        ·subst c81
         have H1 : (laws_FnExactGridPut.j1 kj16 a1 t454 (t467 != t454) a0_0 l0_1 a2_0 a2_1 t450 t451 t463 t464) = some r := by rw [if_pos rfl] at H; exact H
         clear H
         have H := H1
         clear H1
         have H' := Aside0.mk H
         clear H
         have hnb82 := NB468_441.out
         have hnc82 := NB441_468.out
         have hnb83 := NB468_442.out
         have hnc83 := NB442_468.out
         have hnb84 := NB468_455.out
         have hnc84 := NB455_468.out
         have hnb85 := NB468_460.out
         have hnc85 := NB460_468.out
         have hcz86_0 : w78.cell? ⟨gb468, 0, none⟩ = some (.int .i64 t463) := (blk_cell BK468.out 0).trans rfl
         have hcz86_1 : w78.cell? ⟨gb468, 1, none⟩ = some (.slice Ao49 t464.length co49) := (blk_cell BK468.out 1).trans rfl
         have hfz86_0 := blk_frozen BK468.out 0
         have hfz86_1 := blk_frozen BK468.out 1
         have hnb87 := NB455_441.out
         have hnc87 := NB441_455.out
         have hnb88 := NB455_442.out
         have hnc88 := NB442_455.out
         have hnb89 := NB455_460.out
         have hnc89 := NB460_455.out
         have hcz90_0 : w78.cell? ⟨gb455, 0, none⟩ = some (.int .i64 t450) := (blk_cell BK455.out 0).trans rfl
         have hcz90_1 : w78.cell? ⟨gb455, 1, none⟩ = some (.slice Ao31 t451.length co31) := (blk_cell BK455.out 1).trans rfl
         have hfz90_0 := blk_frozen BK455.out 0
         have hfz90_1 := blk_frozen BK455.out 1
         go_wp2_with (first | (go_at_call 19; (with_reducible refine (laws_eqGrid.calls kj16 t463 _ _ t464 t450 _ _ t451 true _ ?side1 ?side2 ?side3 ?side4 A80.out).mono ?_); (case side1 => repeat (first | exact (Kd.R_reads' HO_469001.out).2.2 | (with_reducible refine Kd.C_alloc ?_ _) | (with_reducible refine Kd.C_drewN ?_ _) | (with_reducible refine Kd.C_drew ?_))); (case side2 => exact (Kd.R_reads' HO_469001.out).2.1); (case side3 => repeat (first | exact (Kd.R_reads' HO_456001.out).2.2 | (with_reducible refine Kd.C_alloc ?_ _) | (with_reducible refine Kd.C_drewN ?_ _) | (with_reducible refine Kd.C_drew ?_))); (case side4 => exact (Kd.R_reads' HO_456001.out).2.1); rintro e w91 ⟨rfl, hb⟩; have n0_ := Aside0.mk (Kd.R_below (kR HO_456001.out) hb); have n1_ := Aside0.mk (Kd.R_below (kR HO_461001.out) hb); have n2_ := Aside0.mk (Kd.R_below (kR HO_469001.out) hb); have n3_ := Aside0.mk (Kd.R_below (kR HO473.out) hb); have n4_ := Aside0.mk (blk_below (bK BK441.out) hb); have n5_ := Aside0.mk (blk_below (bK BK442.out) hb); have n6_ := Aside0.mk (blk_below (bK BK455.out) hb); have n7_ := Aside0.mk (blk_below (bK BK460.out) hb); have n8_ := Aside0.mk (blk_below (bK BK468.out) hb); have n9_ := Aside0.mk (below_step (by repeat (first | (with_reducible first | exact HB.out | apply below_alloc | apply pw_below_drewN | apply below_drew1 | refine below_set ?_ GE441.out | refine below_set ?_ GE442.out | refine below_set ?_ GE455.out | refine below_set ?_ GE460.out | refine below_set ?_ GE468.out) | exact HB.out)) hb); clear HO_456001; clear HO_461001; clear HO_469001; clear HO473; clear BK441; clear BK442; clear BK455; clear BK460; clear BK468; clear HB; have HO_456001 := n0_; have HO_461001 := n1_; have HO_469001 := n2_; have HO473 := n3_; have BK441 := n4_; have BK442 := n5_; have BK455 := n6_; have BK460 := n7_; have BK468 := n8_; have HB := n9_; clear n0_ n1_ n2_ n3_ n4_ n5_ n6_ n7_ n8_ n9_; (try clear hb); (try clear hb2); (try clear hk); (try clear hi)))
         go_meet
         case rel => exact ⟨_, ((t467 != t454)), (by first | rfl | (simp; done) | (simp [*]; done)), H', ⟨by have := HJ16.out; first | omega | exact Nat.le_refl _⟩, ⟨by (with_reducible repeat (first | apply Kd.R_alloc | apply Kd.R_drewN | apply Kd.R_drew)); exact Kd.R_mono HO_456001.out (fun _ hk => ⟨hk.1, hk.2.1⟩)⟩, ⟨by (with_reducible repeat (first | apply Kd.R_alloc | apply Kd.R_drewN | apply Kd.R_drew)); exact Kd.R_mono HO_461001.out (fun _ hk => ⟨hk.1.1, hk.1.2⟩)⟩, ⟨by (with_reducible repeat (first | apply Kd.R_alloc | apply Kd.R_drewN | apply Kd.R_drew)); exact Kd.R_mono HO_469001.out (fun _ hk => ⟨hk.1, hk.2.1⟩)⟩, ⟨by (with_reducible repeat (first | refine blk_drewN ?_ _ | refine blk_drew ?_ | refine blk_alloc ?_ _)); exact BK441.out⟩, ⟨by (with_reducible repeat (first | refine blk_drewN ?_ _ | refine blk_drew ?_ | refine blk_alloc ?_ _)); exact BK442.out⟩, ⟨by (with_reducible repeat (first | refine blk_drewN ?_ _ | refine blk_drew ?_ | refine blk_alloc ?_ _)); exact BK455.out⟩, ⟨by (with_reducible repeat (first | refine blk_drewN ?_ _ | refine blk_drew ?_ | refine blk_alloc ?_ _)); exact BK460.out⟩, ⟨by (with_reducible repeat (first | refine blk_drewN ?_ _ | refine blk_drew ?_ | refine blk_alloc ?_ _)); exact BK468.out⟩, ⟨by repeat (first | (with_reducible first | exact HB.out | apply below_alloc | apply pw_below_drewN | apply below_drew1 | refine below_set ?_ GE441.out | refine below_set ?_ GE442.out | refine below_set ?_ GE455.out | refine below_set ?_ GE460.out | refine below_set ?_ GE468.out) | exact HB.out)⟩⟩
        ·replace c81 := Bool.eq_false_iff.mpr c81
         subst c81
         have H1 : (laws_FnExactGridPut.j1 kj16 a1 t454 true a0_0 l0_1 a2_0 a2_1 t450 t451 t463 t464) = some r := by rw [if_neg (show ¬ (false = true) by decide)] at H; exact H
         clear H
         have H := H1
         clear H1
         cases kj16 with
         | zero => exact absurd H (by simp [laws_FnExactGridPut.j1])
         | succ k_ =>
          have hf_ := Option.some.inj (show (some false : Option Bool) = some r from H)
          rw [HRT.out] at hf_
          exact absurd hf_ (by decide)
      case rest =>
       clear HC68
       try clear c1
       try clear p2
       try clear c3
       try clear c5
       try clear c6
       try clear c7
       try clear c8
       try clear c17
       try clear c19
       try clear c34
       try clear c35
       try clear c36
       try clear c52
       try clear c53
       try clear c54
       try clear c55
       try clear c56
       try clear c58
       try clear c59
       try clear c60
       try clear c63
       try clear c66
       try clear c73
       try clear c74
       try clear c75
       try clear c76
       try clear c79
       try clear c79b0
       try clear c81
       try clear c82
       try clear c83
       try clear c84
       try clear c85
       try clear c87
       try clear c88
       try clear c89
       try clear hcz57_0
       try clear hcz57_1
       try clear hcz61_0
       try clear hcz61_1
       try clear hcz77_0
       try clear hcz77_1
       try clear hcz86_0
       try clear hcz86_1
       try clear hcz90_0
       try clear hcz90_1
       try clear hfz57_0
       try clear hfz57_1
       try clear hfz61_0
       try clear hfz61_1
       try clear hfz77_0
       try clear hfz77_1
       try clear hfz86_0
       try clear hfz86_1
       try clear hfz90_0
       try clear hfz90_1
       try clear p2
       obtain ⟨kq, x71_67, rfl, HA, HJ67, HO_456001, HO_461001, HO_469001, BK441, BK442, BK455, BK460, BK468, HB⟩ := hcut
       have hl461001_67 := (Kd.R_reads' HO_461001.out).1
       rw [hl461001_67] at HO_461001
       (try simp only [hl461001_67])
       (try simp only [hl461001_67] at BK441)
       (try simp only [hl461001_67] at BK442)
       (try simp only [hl461001_67] at BK455)
       (try simp only [hl461001_67] at BK460)
       (try simp only [hl461001_67] at BK468)
       (try simp only [hl461001_67] at HO_456001)
       (try simp only [hl461001_67] at HO_469001)
       cases kq with
       | zero => exact absurd HA.out (by simp [laws_FnExactGridPut.j1])
       | succ kj67 =>
        have H := HA.out
        clear HA
        simp only [laws_FnExactGridPut.j1] at H
        by_cases c92 : x71_67 = true
        ·subst c92
         have H1 : (some false) = some r := by rw [if_pos rfl] at H; exact H
         clear H
         have H := H1
         clear H1
         obtain rfl := Option.some.inj H
         exact absurd HRT.out (by decide)
        ·replace c92 := Bool.eq_false_iff.mpr c92
         subst c92
         have H1 : ((laws_markGrid.f kj67 t463 t464 1).bind fun bt478 => ((laws_heldGrid.f kj67 t463 bt478.2 1).bind fun t480 => (if t480 < 0 then (some false) else (if t480 = bt478.1 then ((laws_toGrid.f kj67 a0_0 l0_1).bind fun bt481 => ((laws_toCell.f a2_0 a2_1).bind fun bt485 => ((impl_GridPut.f kj67 bt481.1 bt481.2 a1 bt485.1 bt485.2).bind fun bt487 => ((laws_eqGrid.f kj67 bt487.1 bt487.2.1 t450 t451).bind fun t493 => (if t493 = true then (laws_FnExactGridPut.j2 kj67 bt478.1 (bt487.2.2 != t454) t463 bt478.2) else (laws_FnExactGridPut.j2 kj67 bt478.1 true t463 bt478.2)))))) else (some false))))) = some r := by rw [if_neg (show ¬ (false = true) by decide)] at H; exact H
         clear H
         have H := H1
         clear H1
         replace H := Option.bind_eq_some_iff.mp H
         obtain ⟨⟨t478, t479⟩, A930, H⟩ := H
         replace H : ((laws_heldGrid.f kj67 t463 t479 1).bind fun t480 => (if t480 < 0 then (some false) else (if t480 = t478 then ((laws_toGrid.f kj67 a0_0 l0_1).bind fun bt481 => ((laws_toCell.f a2_0 a2_1).bind fun bt485 => ((impl_GridPut.f kj67 bt481.1 bt481.2 a1 bt485.1 bt485.2).bind fun bt487 => ((laws_eqGrid.f kj67 bt487.1 bt487.2.1 t450 t451).bind fun t493 => (if t493 = true then (laws_FnExactGridPut.j2 kj67 t478 (bt487.2.2 != t454) t463 t479) else (laws_FnExactGridPut.j2 kj67 t478 true t463 t479)))))) else (some false)))) = some r := H
         have A93 := Aside0.mk A930
         clear A930
         replace H := Option.bind_eq_some_iff.mp H
         obtain ⟨t480, A940, H⟩ := H
         replace H : (if t480 < 0 then (some false) else (if t480 = t478 then ((laws_toGrid.f kj67 a0_0 l0_1).bind fun bt481 => ((laws_toCell.f a2_0 a2_1).bind fun bt485 => ((impl_GridPut.f kj67 bt481.1 bt481.2 a1 bt485.1 bt485.2).bind fun bt487 => ((laws_eqGrid.f kj67 bt487.1 bt487.2.1 t450 t451).bind fun t493 => (if t493 = true then (laws_FnExactGridPut.j2 kj67 t478 (bt487.2.2 != t454) t463 t479) else (laws_FnExactGridPut.j2 kj67 t478 true t463 t479)))))) else (some false))) = some r := H
         have A94 := Aside0.mk A940
         clear A940
         by_cases c95 : t480 < 0
         ·rw [if_pos c95] at H
          have c95b0 : decide (t480 < 0) = true := decide_eq_true c95
          clear c95
          obtain rfl := Option.some.inj H
          exact absurd HRT.out (by decide)
         ·rw [if_neg c95] at H
          have c95b0 : decide (t480 < 0) = false := decide_eq_false c95
          clear c95
          by_cases c96 : t480 = t478
          ·rw [if_pos c96] at H
           have c96b0 : (t480 == t478) = true := beq_iff_eq.mpr c96
           have c96b1 : (t480 != t478) = false := bne_eq_false_iff_eq.mpr c96
           clear c96
           replace H := Option.bind_eq_some_iff.mp H
           obtain ⟨⟨t481, t482⟩, A970, H⟩ := H
           replace H : ((laws_toCell.f a2_0 a2_1).bind fun bt485 => ((impl_GridPut.f kj67 t481 t482 a1 bt485.1 bt485.2).bind fun bt487 => ((laws_eqGrid.f kj67 bt487.1 bt487.2.1 t450 t451).bind fun t493 => (if t493 = true then (laws_FnExactGridPut.j2 kj67 t478 (bt487.2.2 != t454) t463 t479) else (laws_FnExactGridPut.j2 kj67 t478 true t463 t479))))) = some r := H
           have A97 := Aside0.mk A970
           clear A970
           replace H := Option.bind_eq_some_iff.mp H
           obtain ⟨⟨t485, t486⟩, A980, H⟩ := H
           replace H : ((impl_GridPut.f kj67 t481 t482 a1 t485 t486).bind fun bt487 => ((laws_eqGrid.f kj67 bt487.1 bt487.2.1 t450 t451).bind fun t493 => (if t493 = true then (laws_FnExactGridPut.j2 kj67 t478 (bt487.2.2 != t454) t463 t479) else (laws_FnExactGridPut.j2 kj67 t478 true t463 t479)))) = some r := H
           have A98 := Aside0.mk A980
           clear A980
           replace H := Option.bind_eq_some_iff.mp H
           obtain ⟨⟨t487, t488, t491⟩, A990, H⟩ := H
           replace H : ((laws_eqGrid.f kj67 t487 t488 t450 t451).bind fun t493 => (if t493 = true then (laws_FnExactGridPut.j2 kj67 t478 (t491 != t454) t463 t479) else (laws_FnExactGridPut.j2 kj67 t478 true t463 t479))) = some r := H
           have A99 := Aside0.mk A990
           clear A990
           have HC100 := Aside0.mk H
           clear H
           have hnb101 := NB468_441.out
           have hnc101 := NB441_468.out
           have hnb102 := NB468_442.out
           have hnc102 := NB442_468.out
           have hnb103 := NB468_455.out
           have hnc103 := NB455_468.out
           have hnb104 := NB468_460.out
           have hnc104 := NB460_468.out
           have hcz105_0 : wc.cell? ⟨gb468, 0, none⟩ = some (.int .i64 t463) := (blk_cell BK468.out 0).trans rfl
           have hcz105_1 : wc.cell? ⟨gb468, 1, none⟩ = some (.slice Ao49 t464.length co49) := (blk_cell BK468.out 1).trans rfl
           have hfz105_0 := blk_frozen BK468.out 0
           have hfz105_1 := blk_frozen BK468.out 1
           try go_wp2_with (first | ((with_reducible refine gate_callee (f := 36) rfl ?_); refine goesL_ (some 74) rfl rfl Try.func36 (by kernel_rfl) rfl #[.agg #[.int .i64 t463, .slice Ao49 t464.length co49], .int .i64 1] rfl (by (try simp only [List.map_toArray, List.map_cons, List.map_nil]); first | done | rfl | (simp only [List.length_drop, List.length_take]; rfl)) ?_; (with_reducible refine (laws_markGrid.calls kj67 t463 (fun k_ => some k_ = (.slice Ao49 t464.length co49 : Value).ownBlock) (.slice Ao49 t464.length co49) t464 1 t478 t479 w _ ?side1 ?side2 A93.out).mono ?_); (case side1 => repeat (first | (with_reducible first | exact HB.out | apply below_alloc | apply pw_below_drewN | apply below_drew1 | refine below_set ?_ GE441.out | refine below_set ?_ GE442.out | refine below_set ?_ GE455.out | refine below_set ?_ GE460.out | refine below_set ?_ GE468.out) | exact HB.out)); (case side2 => exact Kd.R_tight rfl HO_469001.out); rintro e w106 ⟨rfl, hy0, hb, hkp⟩; refine ⟨_, rfl, ?_⟩; have n0_ := Aside0.mk (Kd.R_mono (ok' := fun k_ => some k_ ≠ (.slice Ao41 t476.length co41 : Value).ownBlock ∧ some k_ ≠ (.slice Ao49 t464.length co49 : Value).ownBlock) (Kd.R_keptB (HO_456001.out) hkp (fun k_ hk_ hs_ => (hk_.2) hs_)) (fun k_ hk_ => ⟨hk_.1.1, hk_.1.2⟩)); have n1_ := Aside0.mk (Kd.R_mono (ok' := fun k_ => some k_ ≠ (.slice Ao31 t451.length co31 : Value).ownBlock ∧ some k_ ≠ (.slice Ao49 t464.length co49 : Value).ownBlock) (Kd.R_keptB (HO_461001.out) hkp (fun k_ hk_ hs_ => (hk_.2) hs_)) (fun k_ hk_ => ⟨hk_.1.1, hk_.1.2⟩)); have n2_ := Aside0.mk (Kd.R_reok rfl hy0 (fun k_ e_ => HO_469001.out.1 k_ e_)); have n3_ := Aside0.mk (blk_kept (bK BK441.out) hkp (fun hs_ => (fun e_ => (Kd.R_ne HO_469001.out BK441.out (by decide)) e_) hs_)); have n4_ := Aside0.mk (blk_kept (bK BK442.out) hkp (fun hs_ => (fun e_ => (Kd.R_ne HO_469001.out BK442.out (by decide)) e_) hs_)); have n5_ := Aside0.mk (blk_kept (bK BK455.out) hkp (fun hs_ => (fun e_ => (Kd.R_ne HO_469001.out BK455.out (by decide)) e_) hs_)); have n6_ := Aside0.mk (blk_kept (bK BK460.out) hkp (fun hs_ => (fun e_ => (Kd.R_ne HO_469001.out BK460.out (by decide)) e_) hs_)); have n7_ := Aside0.mk (blk_kept (bK BK468.out) hkp (fun hs_ => (fun e_ => (Kd.R_ne HO_469001.out BK468.out (by decide)) e_) hs_)); have n8_ := Aside0.mk (hb); clear HO_456001; clear HO_461001; clear HO_469001; clear BK441; clear BK442; clear BK455; clear BK460; clear BK468; clear HB; have HO_456001 := n0_; have HO_461001 := n1_; have HO_469001 := n2_; have BK441 := n3_; have BK442 := n4_; have BK455 := n5_; have BK460 := n6_; have BK468 := n7_; have HB := n8_; clear n0_ n1_ n2_ n3_ n4_ n5_ n6_ n7_ n8_; (try clear hb); (try clear hkp); (try clear hy0); have hcz107_0 : w106.cell? ⟨gb468, 0, none⟩ = some (.int .i64 t463) := (blk_cell BK468.out 0).trans rfl; have hcz107_1 : w106.cell? ⟨gb468, 1, none⟩ = some (.slice Ao49 t464.length co49) := (blk_cell BK468.out 1).trans rfl; have hfz107_0 := blk_frozen BK468.out 0; have hfz107_1 := blk_frozen BK468.out 1) | ((with_reducible refine gate_callee (f := 37) rfl ?_); refine goesL_ (some 77) rfl rfl Try.func37 (by kernel_rfl) rfl #[.agg #[.int .i64 t463, .slice Ao49 t479.length co49], .int .i64 1] rfl (by (try simp only [List.map_toArray, List.map_cons, List.map_nil]); first | done | (rw [show t479.length = t464.length from (Kd.R_reads' HO_469001.out).1.symm] <;> rfl) | rfl | (simp only [List.length_drop, List.length_take]; rfl)) ?_; (with_reducible refine (laws_heldGrid.calls kj67 t463 _ _ t479 1 t480 _ ?side1 ?side2 A94.out).mono ?_); (case side1 => repeat (first | exact (Kd.R_reads' HO_469001.out).2.2 | (with_reducible refine Kd.C_alloc ?_ _) | (with_reducible refine Kd.C_drewN ?_ _) | (with_reducible refine Kd.C_drew ?_))); (case side2 => rw [show t479.length = t464.length from (Kd.R_reads' HO_469001.out).1.symm]; exact (Kd.R_reads' HO_469001.out).2.1); rintro e w108 ⟨rfl, hb⟩; refine ⟨_, rfl, ?_⟩; have n0_ := Aside0.mk (Kd.R_below (kR HO_456001.out) hb); have n1_ := Aside0.mk (Kd.R_below (kR HO_461001.out) hb); have n2_ := Aside0.mk (Kd.R_below (kR HO_469001.out) hb); have n3_ := Aside0.mk (blk_below (bK BK441.out) hb); have n4_ := Aside0.mk (blk_below (bK BK442.out) hb); have n5_ := Aside0.mk (blk_below (bK BK455.out) hb); have n6_ := Aside0.mk (blk_below (bK BK460.out) hb); have n7_ := Aside0.mk (blk_below (bK BK468.out) hb); have n8_ := Aside0.mk (below_step (by repeat (first | (with_reducible first | exact HB.out | apply below_alloc | apply pw_below_drewN | apply below_drew1 | refine below_set ?_ GE441.out | refine below_set ?_ GE442.out | refine below_set ?_ GE455.out | refine below_set ?_ GE460.out | refine below_set ?_ GE468.out) | exact HB.out)) hb); clear HO_456001; clear HO_461001; clear HO_469001; clear BK441; clear BK442; clear BK455; clear BK460; clear BK468; clear HB; have HO_456001 := n0_; have HO_461001 := n1_; have HO_469001 := n2_; have BK441 := n3_; have BK442 := n4_; have BK455 := n5_; have BK460 := n6_; have BK468 := n7_; have HB := n8_; clear n0_ n1_ n2_ n3_ n4_ n5_ n6_ n7_ n8_; (try clear hb); (try clear hb2); (try clear hk); (try clear hi)))
           have n0_ := Aside0.mk (Kd.R_drew HO_456001.out)
           have n1_ := Aside0.mk (Kd.R_drew HO_461001.out)
           have n2_ := Aside0.mk (Kd.R_drew HO_469001.out)
           have n3_ := Aside0.mk (blk_drew BK441.out)
           have n4_ := Aside0.mk (blk_drew BK442.out)
           have n5_ := Aside0.mk (blk_drew BK455.out)
           have n6_ := Aside0.mk (blk_drew BK460.out)
           have n7_ := Aside0.mk (blk_drew BK468.out)
           have n8_ := Aside0.mk (below_drew1 HB.out)
           clear HO_456001
           clear HO_461001
           clear HO_469001
           clear BK441
           clear BK442
           clear BK455
           clear BK460
           clear BK468
           clear HB
           have HO_456001 := n0_
           have HO_461001 := n1_
           have HO_469001 := n2_
           have BK441 := n3_
           have BK442 := n4_
           have BK455 := n5_
           have BK460 := n6_
           have BK468 := n7_
           have HB := n8_
           clear n0_ n1_ n2_ n3_ n4_ n5_ n6_ n7_ n8_
           refine start_ (n := 12) (S := fun w' => w'.cell? ⟨gb441, 0, none⟩ = some (.int .i64 a0_0) ∧ w'.cell? ⟨gb441, 1, none⟩ = some (.slice A0_1 l0_1.length c0_1) ∧ w'.cell? ⟨gb442, 0, none⟩ = some (.int .i64 a2_0) ∧ w'.cell? ⟨gb442, 1, none⟩ = some (.int .i64 a2_1)) (ds := []) #[false, false, false, false, false, false, false, false, false, false, false, false] (by kernel_rfl) rfl rfl ⟨(blk_cell BK441.out 0).trans rfl, (blk_cell BK441.out 1).trans rfl, (blk_cell BK442.out 0).trans rfl, (blk_cell BK442.out 1).trans rfl⟩ (fun hHeld => ?_); refine with_tabW laws_FnExactGridPut.tab24 laws_FnExactGridPut.bits24 (fun HT_ HW_ => ?_)
           generalize w108.drew = w109 at HO_456001 HO_461001 HO_469001 BK441 BK442 BK455 BK460 BK468 HB hHeld ⊢
           refine pure_ (i := 2) (N := some 86) (v := ?_) (a' := ?_) #[false, false, true, false, false, false, false, false, false, false, false, false] rfl rfl (any_of HT_.out (by kernel_rfl)) (fun _ _ _ h => h) (Or.inl ⟨by rfl, ?_⟩) ?_ ?_
           rotate_left
           ·intro w'
            go_simp
            with_reducible rfl
           rotate_left
           ·simp only [Act.put, List.setIfInBounds_toArray, List.set_cons_zero, List.set_cons_succ, i64_w, i32_w]
            rfl
           refine take_ (i := 0) (N := some 84) (v := ?_) (a' := ?_) #[true, false, true, false, false, false, false, false, false, false, false, false] rfl rfl (take_ofW HT_.out HW_.out (by kernel_rfl)) (fun _ _ _ h => h) (Or.inl ⟨by rfl, ?_⟩) hHeld ?_ ?_
           rotate_left
           ·rintro w' ⟨s0, s1, s2, s3⟩
            go_simp
            with_reducible rfl
           rotate_left
           ·simp only [Act.put, List.setIfInBounds_toArray, List.set_cons_zero, List.set_cons_succ, i64_w, i32_w]
            rfl
           refine take_ (i := 3) (N := some 87) (v := ?_) (a' := ?_) #[true, false, true, true, false, false, false, false, false, false, false, false] rfl rfl (take_ofW HT_.out HW_.out (by kernel_rfl)) (fun _ _ _ h => h) (Or.inl ⟨by rfl, ?_⟩) hHeld ?_ ?_
           rotate_left
           ·rintro w' ⟨s0, s1, s2, s3⟩
            go_simp
            with_reducible rfl
           rotate_left
           ·simp only [Act.put, List.setIfInBounds_toArray, List.set_cons_zero, List.set_cons_succ, i64_w, i32_w]
            rfl
           refine join_ (σ := Value × Value × Nat) 2 #[true, true, true, true, true, true, true, true, true, true, false, false] (fun s_ => [(85, .agg #[.int .i64 t481, s_.1]), (88, .agg #[.int .i64 t485, .int .i64 t486]), (89, .tuple #[.agg #[.int .i64 t487, s_.2.1], .bool t491]), (16, .pointer (some ⟨s_.2.2, 0, none⟩)), (83, .tuple #[.agg #[.int .i64 t487, s_.2.1], .bool t491]), (90, .agg #[.int .i64 t487, s_.2.1]), (91, .bool t491)]) (fun s_ w' => (w'.cell? ⟨gb441, 0, none⟩ = some (.int .i64 a0_0) ∧ w'.cell? ⟨gb441, 1, none⟩ = some (.slice A0_1 l0_1.length c0_1) ∧ w'.cell? ⟨gb442, 0, none⟩ = some (.int .i64 a2_0) ∧ w'.cell? ⟨gb442, 1, none⟩ = some (.int .i64 a2_1)) ∧ (Kd.R k48 48 w' w.heap.size (fun k_ => some k_ ≠ (s_.2.1 : Value).ownBlock ∧ some k_ ≠ (.slice Ao31 t451.length co31 : Value).ownBlock ∧ some k_ ≠ (.slice Ao41 t476.length co41 : Value).ownBlock ∧ some k_ ≠ (.slice Ao49 t464.length co49 : Value).ownBlock) s_.1 t482) ∧ (Kd.R k48 48 w' w.heap.size (fun k_ => some k_ ≠ (s_.1 : Value).ownBlock ∧ some k_ ≠ (.slice Ao31 t451.length co31 : Value).ownBlock ∧ some k_ ≠ (.slice Ao41 t476.length co41 : Value).ownBlock ∧ some k_ ≠ (.slice Ao49 t464.length co49 : Value).ownBlock) s_.2.1 t488) ∧ (Kd.R k48 48 w' w.heap.size (fun k_ => some k_ ≠ (s_.1 : Value).ownBlock ∧ some k_ ≠ (s_.2.1 : Value).ownBlock ∧ some k_ ≠ (.slice Ao41 t476.length co41 : Value).ownBlock ∧ some k_ ≠ (.slice Ao49 t464.length co49 : Value).ownBlock) (.slice Ao31 t451.length co31) t451) ∧ (Kd.R k48 48 w' w.heap.size (fun k_ => some k_ ≠ (s_.1 : Value).ownBlock ∧ some k_ ≠ (s_.2.1 : Value).ownBlock ∧ some k_ ≠ (.slice Ao31 t451.length co31 : Value).ownBlock ∧ some k_ ≠ (.slice Ao49 t464.length co49 : Value).ownBlock) (.slice Ao41 t476.length co41) t476) ∧ (Kd.R k48 48 w' w.heap.size (fun k_ => some k_ ≠ (s_.1 : Value).ownBlock ∧ some k_ ≠ (s_.2.1 : Value).ownBlock ∧ some k_ ≠ (.slice Ao31 t451.length co31 : Value).ownBlock ∧ some k_ ≠ (.slice Ao41 t476.length co41 : Value).ownBlock) (.slice Ao49 t464.length co49) t479) ∧ (w'.heap[gb441]? = some (.cells #[.int .i64 a0_0, .slice A0_1 l0_1.length c0_1] 24 (0, 0))) ∧ (w'.heap[gb442]? = some (.cells #[.int .i64 a2_0, .int .i64 a2_1] 45 (0, 0))) ∧ (w'.heap[gb455]? = some (.cells #[.int .i64 t450, .slice Ao31 t451.length co31] 29 (0, 0))) ∧ (w'.heap[gb460]? = some (.cells #[.int .i64 t456, .slice Ao41 t476.length co41] 29 (0, 0))) ∧ (w'.heap[gb468]? = some (.cells #[.int .i64 t463, .slice Ao49 t464.length co49] 29 (0, 0))) ∧ (w'.heap[s_.2.2]? = some (.cells #[.int .i64 0, .slice none 0 0] 29 (0, 0))) ∧ (w.heap.size ≤ s_.2.2) ∧ (w.heap.size ≤ s_.2.2) ∧ (gb441 ≠ s_.2.2) ∧ (s_.2.2 ≠ gb441) ∧ (gb442 ≠ s_.2.2) ∧ (s_.2.2 ≠ gb442) ∧ (gb455 ≠ s_.2.2) ∧ (s_.2.2 ≠ gb455) ∧ (gb460 ≠ s_.2.2) ∧ (s_.2.2 ≠ gb460) ∧ (gb468 ≠ s_.2.2) ∧ (s_.2.2 ≠ gb468) ∧ (Below w.heap.size w w')) ?_ ?_
           rotate_left
           ·intro hCont
            refine two_ (i := 1) (j := 9) (Ni := some 85) (Nj := some 16) #[true, true, true, true, false, false, false, false, false, false, false, false] #[true, false, true, true, false, false, false, false, false, true, false, false] rfl rfl rfl rfl (two_of HT_.out (by kernel_rfl)) (by decide) (by decide) (fun K hK => ?_) (fun K hK => ?_)
            ·skip
             refine goes_ Try.func17 (by kernel_rfl) rfl #[.agg #[.int .i64 a0_0, .slice A0_1 l0_1.length c0_1]] (by rfl) rfl rfl (by (try simp only [List.map_toArray, List.map_cons, List.map_nil]); first | done | rfl | (simp only [List.length_drop, List.length_take]; rfl)) ?_
             with_reducible refine (laws_toGrid.calls kj67 a0_0 _ _ l0_1 t481 t482 _ ?side1 ?side2 A97.out).mono ?_
             (case side1 => repeat (first | exact (Kd.C_below HR0_1.out HB.out) | (with_reducible refine Kd.C_alloc ?_ _) | (with_reducible refine Kd.C_drewN ?_ _) | (with_reducible refine Kd.C_drew ?_)))
             (case side2 => exact HC0_1.out)
             rintro e w110 ⟨v483, rfl, ho0, hb⟩
             refine ⟨_, rfl, ?_⟩
             have n0_ := Aside0.mk (Kd.R_elder' (kR HO_456001.out) (Kd.R_base ho0) hb)
             have n1_ := Aside0.mk (Kd.R_elder' (kR HO_461001.out) (Kd.R_base ho0) hb)
             have n2_ := Aside0.mk (Kd.R_elder' (kR HO_469001.out) (Kd.R_base ho0) hb)
             have n3_ := Aside0.mk (Kd.R_lower (Kd.R_new' (Kd.R_new' (Kd.R_new' ho0 (Kd.R_lt (kR HO_456001.out))) (Kd.R_lt (kR HO_461001.out))) (Kd.R_lt (kR HO_469001.out))) (below_size (by repeat (first | (with_reducible first | exact HB.out | apply below_alloc | apply pw_below_drewN | apply below_drew1 | refine below_set ?_ GE441.out | refine below_set ?_ GE442.out | refine below_set ?_ GE455.out | refine below_set ?_ GE460.out | refine below_set ?_ GE468.out) | exact HB.out))))
             have n4_ := Aside0.mk (blk_below (bK BK441.out) hb)
             have n5_ := Aside0.mk (blk_below (bK BK442.out) hb)
             have n6_ := Aside0.mk (blk_below (bK BK455.out) hb)
             have n7_ := Aside0.mk (blk_below (bK BK460.out) hb)
             have n8_ := Aside0.mk (blk_below (bK BK468.out) hb)
             have n9_ := Aside0.mk (below_step (by repeat (first | (with_reducible first | exact HB.out | apply below_alloc | apply pw_below_drewN | apply below_drew1 | refine below_set ?_ GE441.out | refine below_set ?_ GE442.out | refine below_set ?_ GE455.out | refine below_set ?_ GE460.out | refine below_set ?_ GE468.out) | exact HB.out)) hb)
             clear HO_456001
             clear HO_461001
             clear HO_469001
             clear BK441
             clear BK442
             clear BK455
             clear BK460
             clear BK468
             clear HB
             have HO_456001 := n0_
             have HO_461001 := n1_
             have HO_469001 := n2_
             have HO484 := n3_
             have BK441 := n4_
             have BK442 := n5_
             have BK455 := n6_
             have BK460 := n7_
             have BK468 := n8_
             have HB := n9_
             clear n0_ n1_ n2_ n3_ n4_ n5_ n6_ n7_ n8_ n9_
             (try clear hb)
             (try clear hb2)
             (try clear hk)
             (try clear hi)
             (try clear ho0)
             refine hK.out _ _ ⟨(blk_cell BK441.out 0).trans rfl, (blk_cell BK441.out 1).trans rfl, (blk_cell BK442.out 0).trans rfl, (blk_cell BK442.out 1).trans rfl⟩ (fun hHeld => ?_)
             clear hK K
             refine norm_ (a' := ?_) ?_ ?_
             rotate_left
             ·show Act.put _ (some 85) _ = _
              simp only [Act.put, List.setIfInBounds_toArray, List.set_cons_zero, List.set_cons_succ, i64_w, i32_w]
              rfl
             refine two_ (i := 4) (j := 9) (Ni := some 88) (Nj := some 16) #[true, true, true, true, true, false, false, false, false, false, false, false] #[true, true, true, true, false, false, false, false, false, true, false, false] rfl rfl rfl rfl (two_of HT_.out (by kernel_rfl)) (by decide) (by decide) (fun K hK => ?_) (fun K hK => ?_)
             ·skip
              refine goes_ Try.func34 (by kernel_rfl) rfl #[.agg #[.int .i64 a2_0, .int .i64 a2_1]] (by rfl) rfl rfl (by (try simp only [List.map_toArray, List.map_cons, List.map_nil]); first | done | rfl | (simp only [List.length_drop, List.length_take]; rfl)) ?_
              with_reducible refine (laws_toCell.calls a2_0 a2_1 t485 t486 _ A98.out).mono ?_
              rintro e w111 ⟨rfl, hb⟩
              refine ⟨_, rfl, ?_⟩
              have n0_ := Aside0.mk (Kd.R_below (kR HO_456001.out) hb)
              have n1_ := Aside0.mk (Kd.R_below (kR HO_461001.out) hb)
              have n2_ := Aside0.mk (Kd.R_below (kR HO_469001.out) hb)
              have n3_ := Aside0.mk (Kd.R_below (kR HO484.out) hb)
              have n4_ := Aside0.mk (blk_below (bK BK441.out) hb)
              have n5_ := Aside0.mk (blk_below (bK BK442.out) hb)
              have n6_ := Aside0.mk (blk_below (bK BK455.out) hb)
              have n7_ := Aside0.mk (blk_below (bK BK460.out) hb)
              have n8_ := Aside0.mk (blk_below (bK BK468.out) hb)
              have n9_ := Aside0.mk (below_step (by repeat (first | (with_reducible first | exact HB.out | apply below_alloc | apply pw_below_drewN | apply below_drew1 | refine below_set ?_ GE441.out | refine below_set ?_ GE442.out | refine below_set ?_ GE455.out | refine below_set ?_ GE460.out | refine below_set ?_ GE468.out) | exact HB.out)) hb)
              clear HO_456001
              clear HO_461001
              clear HO_469001
              clear HO484
              clear BK441
              clear BK442
              clear BK455
              clear BK460
              clear BK468
              clear HB
              have HO_456001 := n0_
              have HO_461001 := n1_
              have HO_469001 := n2_
              have HO484 := n3_
              have BK441 := n4_
              have BK442 := n5_
              have BK455 := n6_
              have BK460 := n7_
              have BK468 := n8_
              have HB := n9_
              clear n0_ n1_ n2_ n3_ n4_ n5_ n6_ n7_ n8_ n9_
              (try clear hb)
              (try clear hb2)
              (try clear hk)
              (try clear hi)
              obtain ⟨Ao112, co112, eo112⟩ := Kd.R_slice HO484.out
              (first | subst eo112 | (injection eo112 with f1_ f2_ f3_; have f4_ := f1_.symm; have f5_ := f3_.symm; clear f1_ f2_ f3_; subst f4_; subst f5_))
              refine hK.out _ _ ⟨(blk_cell BK441.out 0).trans rfl, (blk_cell BK441.out 1).trans rfl, (blk_cell BK442.out 0).trans rfl, (blk_cell BK442.out 1).trans rfl⟩ (fun hHeld => ?_)
              clear hK K
              refine norm_ (a' := ?_) ?_ ?_
              rotate_left
              ·show Act.put _ (some 88) _ = _
               simp only [Act.put, List.setIfInBounds_toArray, List.set_cons_zero, List.set_cons_succ, i64_w, i32_w]
               rfl
              refine two_ (i := 5) (j := 9) (Ni := some 89) (Nj := some 16) #[true, true, true, true, true, true, false, false, false, false, false, false] #[true, true, true, true, true, false, false, false, false, true, false, false] rfl rfl rfl rfl (two_of HT_.out (by kernel_rfl)) (by decide) (by decide) (fun K hK => ?_) (fun K hK => ?_)
              ·skip
               refine goes_ Try.func35 (by kernel_rfl) rfl #[.agg #[.int .i64 t481, .slice Ao112 t482.length co112], .int .i64 a1, .agg #[.int .i64 t485, .int .i64 t486]] (by rfl) rfl rfl (by (try simp only [List.map_toArray, List.map_cons, List.map_nil]); first | done | rfl | (simp only [List.length_drop, List.length_take]; rfl)) ?_
               with_reducible refine (impl_GridPut.calls kj67 t481 _ _ t482 a1 t485 t486 t487 t488 t491 _ ?side1 ?side2 A99.out).mono ?_
               (case side1 => repeat (first | exact (Kd.R_reads' HO484.out).2.2 | (with_reducible refine Kd.C_alloc ?_ _) | (with_reducible refine Kd.C_drewN ?_ _) | (with_reducible refine Kd.C_drew ?_)))
               (case side2 => exact (Kd.R_reads' HO484.out).2.1)
               rintro e w113 ⟨v489, rfl, ho0, hb⟩
               refine ⟨_, rfl, ?_⟩
               have n0_ := Aside0.mk (Kd.R_elder' (kR HO_456001.out) (Kd.R_base ho0) hb)
               have n1_ := Aside0.mk (Kd.R_elder' (kR HO_461001.out) (Kd.R_base ho0) hb)
               have n2_ := Aside0.mk (Kd.R_elder' (kR HO_469001.out) (Kd.R_base ho0) hb)
               have n3_ := Aside0.mk (Kd.R_elder' (kR HO484.out) (Kd.R_base ho0) hb)
               have n4_ := Aside0.mk (Kd.R_lower (Kd.R_new' (Kd.R_new' (Kd.R_new' (Kd.R_new' ho0 (Kd.R_lt (kR HO_456001.out))) (Kd.R_lt (kR HO_461001.out))) (Kd.R_lt (kR HO_469001.out))) (Kd.R_lt (kR HO484.out))) (below_size (by repeat (first | (with_reducible first | exact HB.out | apply below_alloc | apply pw_below_drewN | apply below_drew1 | refine below_set ?_ GE441.out | refine below_set ?_ GE442.out | refine below_set ?_ GE455.out | refine below_set ?_ GE460.out | refine below_set ?_ GE468.out) | exact HB.out))))
               have n5_ := Aside0.mk (blk_below (bK BK441.out) hb)
               have n6_ := Aside0.mk (blk_below (bK BK442.out) hb)
               have n7_ := Aside0.mk (blk_below (bK BK455.out) hb)
               have n8_ := Aside0.mk (blk_below (bK BK460.out) hb)
               have n9_ := Aside0.mk (blk_below (bK BK468.out) hb)
               have n10_ := Aside0.mk (below_step (by repeat (first | (with_reducible first | exact HB.out | apply below_alloc | apply pw_below_drewN | apply below_drew1 | refine below_set ?_ GE441.out | refine below_set ?_ GE442.out | refine below_set ?_ GE455.out | refine below_set ?_ GE460.out | refine below_set ?_ GE468.out) | exact HB.out)) hb)
               clear HO_456001
               clear HO_461001
               clear HO_469001
               clear HO484
               clear BK441
               clear BK442
               clear BK455
               clear BK460
               clear BK468
               clear HB
               have HO_456001 := n0_
               have HO_461001 := n1_
               have HO_469001 := n2_
               have HO484 := n3_
               have HO490 := n4_
               have BK441 := n5_
               have BK442 := n6_
               have BK455 := n7_
               have BK460 := n8_
               have BK468 := n9_
               have HB := n10_
               clear n0_ n1_ n2_ n3_ n4_ n5_ n6_ n7_ n8_ n9_ n10_
               (try clear hb)
               (try clear hb2)
               (try clear hk)
               (try clear hi)
               (try clear ho0)
               refine hK.out _ _ ⟨(blk_cell BK441.out 0).trans rfl, (blk_cell BK441.out 1).trans rfl, (blk_cell BK442.out 0).trans rfl, (blk_cell BK442.out 1).trans rfl⟩ (fun hHeld => ?_)
               clear hK K
               refine norm_ (a' := ?_) ?_ ?_
               rotate_left
               ·show Act.put _ (some 89) _ = _
                simp only [Act.put, List.setIfInBounds_toArray, List.set_cons_zero, List.set_cons_succ, i64_w, i32_w]
                rfl
               refine pure_ (i := 6) (N := some 83) (v := ?_) (a' := ?_) #[true, true, true, true, true, true, true, false, false, false, false, false] rfl rfl (any_of HT_.out (by kernel_rfl)) (fun _ _ _ h => h) (Or.inl ⟨by rfl, ?_⟩) ?_ ?_
               rotate_left
               ·intro w'
                go_simp
                with_reducible rfl
               rotate_left
               ·simp only [Act.put, List.setIfInBounds_toArray, List.set_cons_zero, List.set_cons_succ, i64_w, i32_w]
                rfl
               refine pure_ (i := 7) (N := some 90) (v := ?_) (a' := ?_) #[true, true, true, true, true, true, true, true, false, false, false, false] rfl rfl (any_of HT_.out (by kernel_rfl)) (fun _ _ _ h => h) (Or.inl ⟨by rfl, ?_⟩) ?_ ?_
               rotate_left
               ·intro w'
                go_simp
                with_reducible rfl
               rotate_left
               ·simp only [Act.put, List.setIfInBounds_toArray, List.set_cons_zero, List.set_cons_succ, i64_w, i32_w]
                rfl
               refine pure_ (i := 8) (N := some 91) (v := ?_) (a' := ?_) #[true, true, true, true, true, true, true, true, true, false, false, false] rfl rfl (any_of HT_.out (by kernel_rfl)) (fun _ _ _ h => h) (Or.inl ⟨by rfl, ?_⟩) ?_ ?_
               rotate_left
               ·intro w'
                go_simp
                with_reducible rfl
               rotate_left
               ·simp only [Act.put, List.setIfInBounds_toArray, List.set_cons_zero, List.set_cons_succ, i64_w, i32_w]
                rfl
               refine one_ (i := 9) (N := some 16) #[true, true, true, true, true, true, true, true, true, true, false, false] rfl rfl (one_of HT_.out (by kernel_rfl)) (by decide) (fun K hK => ?_)
               refine box_step ?hg (N := 16) ?hd (cs := #[.int .i64 0, .slice none 0 0]) (t := 29) ?hr ?_; (case hd => rfl); (case hg => rfl); (case hr => first | (go_simp; done) | (go_simp; rfl))
               intro gb492 hg w114 hbox hb
               have n0_ := Aside0.mk (Kd.R_below (kR HO_456001.out) hb)
               have n1_ := Aside0.mk (Kd.R_below (kR HO_461001.out) hb)
               have n2_ := Aside0.mk (Kd.R_below (kR HO_469001.out) hb)
               have n3_ := Aside0.mk (Kd.R_below (kR HO484.out) hb)
               have n4_ := Aside0.mk (Kd.R_below (kR HO490.out) hb)
               have n5_ := Aside0.mk (blk_below (bK BK441.out) hb)
               have n6_ := Aside0.mk (blk_below (bK BK442.out) hb)
               have n7_ := Aside0.mk (blk_below (bK BK455.out) hb)
               have n8_ := Aside0.mk (blk_below (bK BK460.out) hb)
               have n9_ := Aside0.mk (blk_below (bK BK468.out) hb)
               have n10_ := Aside0.mk (below_step (by repeat (first | (with_reducible first | exact HB.out | apply below_alloc | apply pw_below_drewN | apply below_drew1 | refine below_set ?_ GE441.out | refine below_set ?_ GE442.out | refine below_set ?_ GE455.out | refine below_set ?_ GE460.out | refine below_set ?_ GE468.out) | exact HB.out)) hb)
               have n11_ := Aside0.mk (hbox)
               have n12_ := Aside0.mk ((by rw [hg]; exact (below_size (by repeat (first | (with_reducible first | exact HB.out | apply below_alloc | apply pw_below_drewN | apply below_drew1 | refine below_set ?_ GE441.out | refine below_set ?_ GE442.out | refine below_set ?_ GE455.out | refine below_set ?_ GE460.out | refine below_set ?_ GE468.out) | exact HB.out))) : w.heap.size ≤ gb492))
               have n13_ := Aside0.mk ((by rw [hg]; exact (below_size (by repeat (first | (with_reducible first | exact HB.out | apply below_alloc | apply pw_below_drewN | apply below_drew1 | refine below_set ?_ GE441.out | refine below_set ?_ GE442.out | refine below_set ?_ GE455.out | refine below_set ?_ GE460.out | refine below_set ?_ GE468.out) | exact HB.out))) : w.heap.size ≤ gb492))
               have n14_ := Aside0.mk ((by rw [hg]; exact Nat.ne_of_lt (blk_lt (bK BK441.out)) : gb441 ≠ gb492))
               have n15_ := Aside0.mk ((by rw [hg]; exact Nat.ne_of_gt (blk_lt (bK BK441.out)) : gb492 ≠ gb441))
               have n16_ := Aside0.mk ((by rw [hg]; exact Nat.ne_of_lt (blk_lt (bK BK442.out)) : gb442 ≠ gb492))
               have n17_ := Aside0.mk ((by rw [hg]; exact Nat.ne_of_gt (blk_lt (bK BK442.out)) : gb492 ≠ gb442))
               have n18_ := Aside0.mk ((by rw [hg]; exact Nat.ne_of_lt (blk_lt (bK BK455.out)) : gb455 ≠ gb492))
               have n19_ := Aside0.mk ((by rw [hg]; exact Nat.ne_of_gt (blk_lt (bK BK455.out)) : gb492 ≠ gb455))
               have n20_ := Aside0.mk ((by rw [hg]; exact Nat.ne_of_lt (blk_lt (bK BK460.out)) : gb460 ≠ gb492))
               have n21_ := Aside0.mk ((by rw [hg]; exact Nat.ne_of_gt (blk_lt (bK BK460.out)) : gb492 ≠ gb460))
               have n22_ := Aside0.mk ((by rw [hg]; exact Nat.ne_of_lt (blk_lt (bK BK468.out)) : gb468 ≠ gb492))
               have n23_ := Aside0.mk ((by rw [hg]; exact Nat.ne_of_gt (blk_lt (bK BK468.out)) : gb492 ≠ gb468))
               clear HO_456001
               clear HO_461001
               clear HO_469001
               clear HO484
               clear HO490
               clear BK441
               clear BK442
               clear BK455
               clear BK460
               clear BK468
               clear HB
               have HO_456001 := n0_
               have HO_461001 := n1_
               have HO_469001 := n2_
               have HO484 := n3_
               have HO490 := n4_
               have BK441 := n5_
               have BK442 := n6_
               have BK455 := n7_
               have BK460 := n8_
               have BK468 := n9_
               have HB := n10_
               have BK492 := n11_
               have GW492 := n12_
               have GE492 := n13_
               have NB441_492 := n14_
               have NB492_441 := n15_
               have NB442_492 := n16_
               have NB492_442 := n17_
               have NB455_492 := n18_
               have NB492_455 := n19_
               have NB460_492 := n20_
               have NB492_460 := n21_
               have NB468_492 := n22_
               have NB492_468 := n23_
               clear n0_ n1_ n2_ n3_ n4_ n5_ n6_ n7_ n8_ n9_ n10_ n11_ n12_ n13_ n14_ n15_ n16_ n17_ n18_ n19_ n20_ n21_ n22_ n23_
               clear hb hbox hg
               refine hK.out _ _ ⟨(blk_cell BK441.out 0).trans rfl, (blk_cell BK441.out 1).trans rfl, (blk_cell BK442.out 0).trans rfl, (blk_cell BK442.out 1).trans rfl⟩ (fun hHeld => ?_)
               clear hK K
               refine norm_ (a' := ?_) ?_ ?_
               rotate_left
               ·show Act.put _ (some 16) _ = _
                simp only [Act.put, List.setIfInBounds_toArray, List.set_cons_zero, List.set_cons_succ, i64_w, i32_w]
                rfl
               exact norm_ (by simp only [putAll, Act.put, List.setIfInBounds_toArray, List.set_cons_zero, List.set_cons_succ]) (hCont (.slice Ao112 t482.length co112, v489, gb492) _ ⟨hHeld, (by (with_reducible repeat (first | apply Kd.R_alloc | apply Kd.R_drewN | apply Kd.R_drew)); exact Kd.R_mono HO484.out (fun _ hk => ⟨hk.2, ⟨hk.1.1.1.2, ⟨hk.1.1.2, hk.1.2⟩⟩⟩)), (by (with_reducible repeat (first | apply Kd.R_alloc | apply Kd.R_drewN | apply Kd.R_drew)); exact Kd.R_mono HO490.out (fun _ hk => ⟨hk.2, ⟨hk.1.1.1.2, ⟨hk.1.1.2, hk.1.2⟩⟩⟩)), (by (with_reducible repeat (first | apply Kd.R_alloc | apply Kd.R_drewN | apply Kd.R_drew)); exact Kd.R_mono HO_456001.out (fun _ hk => ⟨hk.1.2, ⟨hk.2, ⟨hk.1.1.1, hk.1.1.2⟩⟩⟩)), (by (with_reducible repeat (first | apply Kd.R_alloc | apply Kd.R_drewN | apply Kd.R_drew)); exact Kd.R_mono HO_461001.out (fun _ hk => ⟨hk.1.2, ⟨hk.2, ⟨hk.1.1.1, hk.1.1.2⟩⟩⟩)), (by (with_reducible repeat (first | apply Kd.R_alloc | apply Kd.R_drewN | apply Kd.R_drew)); exact Kd.R_mono HO_469001.out (fun _ hk => ⟨hk.1.2, ⟨hk.2, ⟨hk.1.1.1, hk.1.1.2⟩⟩⟩)), (bK BK441.out), (bK BK442.out), (bK BK455.out), (bK BK460.out), (bK BK468.out), (bK BK492.out), GW492.out, GE492.out, NB441_492.out, NB492_441.out, NB442_492.out, NB492_442.out, NB455_492.out, NB492_455.out, NB460_492.out, NB492_460.out, NB468_492.out, NB492_468.out, (by repeat (first | (with_reducible first | exact HB.out | apply below_alloc | apply pw_below_drewN | apply below_drew1 | refine below_set ?_ GE441.out | refine below_set ?_ GE442.out | refine below_set ?_ GE455.out | refine below_set ?_ GE460.out | refine below_set ?_ GE468.out | refine below_set ?_ GE492.out) | exact HB.out))⟩)
              ·skip
               refine box_step ?hg (N := 16) ?hd (cs := #[.int .i64 0, .slice none 0 0]) (t := 29) ?hr ?_; (case hd => rfl); (case hg => rfl); (case hr => first | (go_simp; done) | (go_simp; rfl))
               intro gb492 hg w112 hbox hb
               have n0_ := Aside0.mk (Kd.R_below (kR HO_456001.out) hb)
               have n1_ := Aside0.mk (Kd.R_below (kR HO_461001.out) hb)
               have n2_ := Aside0.mk (Kd.R_below (kR HO_469001.out) hb)
               have n3_ := Aside0.mk (Kd.R_below (kR HO484.out) hb)
               have n4_ := Aside0.mk (blk_below (bK BK441.out) hb)
               have n5_ := Aside0.mk (blk_below (bK BK442.out) hb)
               have n6_ := Aside0.mk (blk_below (bK BK455.out) hb)
               have n7_ := Aside0.mk (blk_below (bK BK460.out) hb)
               have n8_ := Aside0.mk (blk_below (bK BK468.out) hb)
               have n9_ := Aside0.mk (below_step (by repeat (first | (with_reducible first | exact HB.out | apply below_alloc | apply pw_below_drewN | apply below_drew1 | refine below_set ?_ GE441.out | refine below_set ?_ GE442.out | refine below_set ?_ GE455.out | refine below_set ?_ GE460.out | refine below_set ?_ GE468.out) | exact HB.out)) hb)
               have n10_ := Aside0.mk (hbox)
               have n11_ := Aside0.mk ((by rw [hg]; exact (below_size (by repeat (first | (with_reducible first | exact HB.out | apply below_alloc | apply pw_below_drewN | apply below_drew1 | refine below_set ?_ GE441.out | refine below_set ?_ GE442.out | refine below_set ?_ GE455.out | refine below_set ?_ GE460.out | refine below_set ?_ GE468.out) | exact HB.out))) : w.heap.size ≤ gb492))
               have n12_ := Aside0.mk ((by rw [hg]; exact (below_size (by repeat (first | (with_reducible first | exact HB.out | apply below_alloc | apply pw_below_drewN | apply below_drew1 | refine below_set ?_ GE441.out | refine below_set ?_ GE442.out | refine below_set ?_ GE455.out | refine below_set ?_ GE460.out | refine below_set ?_ GE468.out) | exact HB.out))) : w.heap.size ≤ gb492))
               have n13_ := Aside0.mk ((by rw [hg]; exact Nat.ne_of_lt (blk_lt (bK BK441.out)) : gb441 ≠ gb492))
               have n14_ := Aside0.mk ((by rw [hg]; exact Nat.ne_of_gt (blk_lt (bK BK441.out)) : gb492 ≠ gb441))
               have n15_ := Aside0.mk ((by rw [hg]; exact Nat.ne_of_lt (blk_lt (bK BK442.out)) : gb442 ≠ gb492))
               have n16_ := Aside0.mk ((by rw [hg]; exact Nat.ne_of_gt (blk_lt (bK BK442.out)) : gb492 ≠ gb442))
               have n17_ := Aside0.mk ((by rw [hg]; exact Nat.ne_of_lt (blk_lt (bK BK455.out)) : gb455 ≠ gb492))
               have n18_ := Aside0.mk ((by rw [hg]; exact Nat.ne_of_gt (blk_lt (bK BK455.out)) : gb492 ≠ gb455))
               have n19_ := Aside0.mk ((by rw [hg]; exact Nat.ne_of_lt (blk_lt (bK BK460.out)) : gb460 ≠ gb492))
               have n20_ := Aside0.mk ((by rw [hg]; exact Nat.ne_of_gt (blk_lt (bK BK460.out)) : gb492 ≠ gb460))
               have n21_ := Aside0.mk ((by rw [hg]; exact Nat.ne_of_lt (blk_lt (bK BK468.out)) : gb468 ≠ gb492))
               have n22_ := Aside0.mk ((by rw [hg]; exact Nat.ne_of_gt (blk_lt (bK BK468.out)) : gb492 ≠ gb468))
               clear HO_456001
               clear HO_461001
               clear HO_469001
               clear HO484
               clear BK441
               clear BK442
               clear BK455
               clear BK460
               clear BK468
               clear HB
               have HO_456001 := n0_
               have HO_461001 := n1_
               have HO_469001 := n2_
               have HO484 := n3_
               have BK441 := n4_
               have BK442 := n5_
               have BK455 := n6_
               have BK460 := n7_
               have BK468 := n8_
               have HB := n9_
               have BK492 := n10_
               have GW492 := n11_
               have GE492 := n12_
               have NB441_492 := n13_
               have NB492_441 := n14_
               have NB442_492 := n15_
               have NB492_442 := n16_
               have NB455_492 := n17_
               have NB492_455 := n18_
               have NB460_492 := n19_
               have NB492_460 := n20_
               have NB468_492 := n21_
               have NB492_468 := n22_
               clear n0_ n1_ n2_ n3_ n4_ n5_ n6_ n7_ n8_ n9_ n10_ n11_ n12_ n13_ n14_ n15_ n16_ n17_ n18_ n19_ n20_ n21_ n22_
               clear hb hbox hg
               obtain ⟨Ao113, co113, eo113⟩ := Kd.R_slice HO484.out
               (first | subst eo113 | (injection eo113 with f1_ f2_ f3_; have f4_ := f1_.symm; have f5_ := f3_.symm; clear f1_ f2_ f3_; subst f4_; subst f5_))
               refine hK.out _ _ ⟨(blk_cell BK441.out 0).trans rfl, (blk_cell BK441.out 1).trans rfl, (blk_cell BK442.out 0).trans rfl, (blk_cell BK442.out 1).trans rfl⟩ (fun hHeld => ?_)
               clear hK K
               refine norm_ (a' := ?_) ?_ ?_
               rotate_left
               ·show Act.put _ (some 16) _ = _
                simp only [Act.put, List.setIfInBounds_toArray, List.set_cons_zero, List.set_cons_succ, i64_w, i32_w]
                rfl
               refine one_ (i := 5) (N := some 89) #[true, true, true, true, true, true, false, false, false, true, false, false] rfl rfl (one_of HT_.out (by kernel_rfl)) (by decide) (fun K hK => ?_)
               refine goes_ Try.func35 (by kernel_rfl) rfl #[.agg #[.int .i64 t481, .slice Ao113 t482.length co113], .int .i64 a1, .agg #[.int .i64 t485, .int .i64 t486]] (by rfl) rfl rfl (by (try simp only [List.map_toArray, List.map_cons, List.map_nil]); first | done | rfl | (simp only [List.length_drop, List.length_take]; rfl)) ?_
               with_reducible refine (impl_GridPut.calls kj67 t481 _ _ t482 a1 t485 t486 t487 t488 t491 _ ?side1 ?side2 A99.out).mono ?_
               (case side1 => repeat (first | exact (Kd.R_reads' HO484.out).2.2 | (with_reducible refine Kd.C_alloc ?_ _) | (with_reducible refine Kd.C_drewN ?_ _) | (with_reducible refine Kd.C_drew ?_)))
               (case side2 => exact (Kd.R_reads' HO484.out).2.1)
               rintro e w114 ⟨v489, rfl, ho0, hb⟩
               refine ⟨_, rfl, ?_⟩
               have n0_ := Aside0.mk (Kd.R_elder' (kR HO_456001.out) (Kd.R_base ho0) hb)
               have n1_ := Aside0.mk (Kd.R_elder' (kR HO_461001.out) (Kd.R_base ho0) hb)
               have n2_ := Aside0.mk (Kd.R_elder' (kR HO_469001.out) (Kd.R_base ho0) hb)
               have n3_ := Aside0.mk (Kd.R_elder' (kR HO484.out) (Kd.R_base ho0) hb)
               have n4_ := Aside0.mk (Kd.R_lower (Kd.R_new' (Kd.R_new' (Kd.R_new' (Kd.R_new' ho0 (Kd.R_lt (kR HO_456001.out))) (Kd.R_lt (kR HO_461001.out))) (Kd.R_lt (kR HO_469001.out))) (Kd.R_lt (kR HO484.out))) (below_size (by repeat (first | (with_reducible first | exact HB.out | apply below_alloc | apply pw_below_drewN | apply below_drew1 | refine below_set ?_ GE441.out | refine below_set ?_ GE442.out | refine below_set ?_ GE455.out | refine below_set ?_ GE460.out | refine below_set ?_ GE468.out | refine below_set ?_ GE492.out) | exact HB.out))))
               have n5_ := Aside0.mk (blk_below (bK BK441.out) hb)
               have n6_ := Aside0.mk (blk_below (bK BK442.out) hb)
               have n7_ := Aside0.mk (blk_below (bK BK455.out) hb)
               have n8_ := Aside0.mk (blk_below (bK BK460.out) hb)
               have n9_ := Aside0.mk (blk_below (bK BK468.out) hb)
               have n10_ := Aside0.mk (blk_below (bK BK492.out) hb)
               have n11_ := Aside0.mk (below_step (by repeat (first | (with_reducible first | exact HB.out | apply below_alloc | apply pw_below_drewN | apply below_drew1 | refine below_set ?_ GE441.out | refine below_set ?_ GE442.out | refine below_set ?_ GE455.out | refine below_set ?_ GE460.out | refine below_set ?_ GE468.out | refine below_set ?_ GE492.out) | exact HB.out)) hb)
               clear HO_456001
               clear HO_461001
               clear HO_469001
               clear HO484
               clear BK441
               clear BK442
               clear BK455
               clear BK460
               clear BK468
               clear BK492
               clear HB
               have HO_456001 := n0_
               have HO_461001 := n1_
               have HO_469001 := n2_
               have HO484 := n3_
               have HO490 := n4_
               have BK441 := n5_
               have BK442 := n6_
               have BK455 := n7_
               have BK460 := n8_
               have BK468 := n9_
               have BK492 := n10_
               have HB := n11_
               clear n0_ n1_ n2_ n3_ n4_ n5_ n6_ n7_ n8_ n9_ n10_ n11_
               (try clear hb)
               (try clear hb2)
               (try clear hk)
               (try clear hi)
               (try clear ho0)
               refine hK.out _ _ ⟨(blk_cell BK441.out 0).trans rfl, (blk_cell BK441.out 1).trans rfl, (blk_cell BK442.out 0).trans rfl, (blk_cell BK442.out 1).trans rfl⟩ (fun hHeld => ?_)
               clear hK K
               refine norm_ (a' := ?_) ?_ ?_
               rotate_left
               ·show Act.put _ (some 89) _ = _
                simp only [Act.put, List.setIfInBounds_toArray, List.set_cons_zero, List.set_cons_succ, i64_w, i32_w]
                rfl
               refine pure_ (i := 6) (N := some 83) (v := ?_) (a' := ?_) #[true, true, true, true, true, true, true, false, false, true, false, false] rfl rfl (any_of HT_.out (by kernel_rfl)) (fun _ _ _ h => h) (Or.inl ⟨by rfl, ?_⟩) ?_ ?_
               rotate_left
               ·intro w'
                go_simp
                with_reducible rfl
               rotate_left
               ·simp only [Act.put, List.setIfInBounds_toArray, List.set_cons_zero, List.set_cons_succ, i64_w, i32_w]
                rfl
               refine pure_ (i := 7) (N := some 90) (v := ?_) (a' := ?_) #[true, true, true, true, true, true, true, true, false, true, false, false] rfl rfl (any_of HT_.out (by kernel_rfl)) (fun _ _ _ h => h) (Or.inl ⟨by rfl, ?_⟩) ?_ ?_
               rotate_left
               ·intro w'
                go_simp
                with_reducible rfl
               rotate_left
               ·simp only [Act.put, List.setIfInBounds_toArray, List.set_cons_zero, List.set_cons_succ, i64_w, i32_w]
                rfl
               refine pure_ (i := 8) (N := some 91) (v := ?_) (a' := ?_) #[true, true, true, true, true, true, true, true, true, true, false, false] rfl rfl (any_of HT_.out (by kernel_rfl)) (fun _ _ _ h => h) (Or.inl ⟨by rfl, ?_⟩) ?_ ?_
               rotate_left
               ·intro w'
                go_simp
                with_reducible rfl
               rotate_left
               ·simp only [Act.put, List.setIfInBounds_toArray, List.set_cons_zero, List.set_cons_succ, i64_w, i32_w]
                rfl
               exact norm_ (by simp only [putAll, Act.put, List.setIfInBounds_toArray, List.set_cons_zero, List.set_cons_succ]) (hCont (.slice Ao113 t482.length co113, v489, gb492) _ ⟨hHeld, (by (with_reducible repeat (first | apply Kd.R_alloc | apply Kd.R_drewN | apply Kd.R_drew)); exact Kd.R_mono HO484.out (fun _ hk => ⟨hk.2, ⟨hk.1.1.1.2, ⟨hk.1.1.2, hk.1.2⟩⟩⟩)), (by (with_reducible repeat (first | apply Kd.R_alloc | apply Kd.R_drewN | apply Kd.R_drew)); exact Kd.R_mono HO490.out (fun _ hk => ⟨hk.2, ⟨hk.1.1.1.2, ⟨hk.1.1.2, hk.1.2⟩⟩⟩)), (by (with_reducible repeat (first | apply Kd.R_alloc | apply Kd.R_drewN | apply Kd.R_drew)); exact Kd.R_mono HO_456001.out (fun _ hk => ⟨hk.1.2, ⟨hk.2, ⟨hk.1.1.1, hk.1.1.2⟩⟩⟩)), (by (with_reducible repeat (first | apply Kd.R_alloc | apply Kd.R_drewN | apply Kd.R_drew)); exact Kd.R_mono HO_461001.out (fun _ hk => ⟨hk.1.2, ⟨hk.2, ⟨hk.1.1.1, hk.1.1.2⟩⟩⟩)), (by (with_reducible repeat (first | apply Kd.R_alloc | apply Kd.R_drewN | apply Kd.R_drew)); exact Kd.R_mono HO_469001.out (fun _ hk => ⟨hk.1.2, ⟨hk.2, ⟨hk.1.1.1, hk.1.1.2⟩⟩⟩)), (bK BK441.out), (bK BK442.out), (bK BK455.out), (bK BK460.out), (bK BK468.out), (bK BK492.out), GW492.out, GE492.out, NB441_492.out, NB492_441.out, NB442_492.out, NB492_442.out, NB455_492.out, NB492_455.out, NB460_492.out, NB492_460.out, NB468_492.out, NB492_468.out, (by repeat (first | (with_reducible first | exact HB.out | apply below_alloc | apply pw_below_drewN | apply below_drew1 | refine below_set ?_ GE441.out | refine below_set ?_ GE442.out | refine below_set ?_ GE455.out | refine below_set ?_ GE460.out | refine below_set ?_ GE468.out | refine below_set ?_ GE492.out) | exact HB.out))⟩)
             ·skip
              refine box_step ?hg (N := 16) ?hd (cs := #[.int .i64 0, .slice none 0 0]) (t := 29) ?hr ?_; (case hd => rfl); (case hg => rfl); (case hr => first | (go_simp; done) | (go_simp; rfl))
              intro gb492 hg w111 hbox hb
              have n0_ := Aside0.mk (Kd.R_below (kR HO_456001.out) hb)
              have n1_ := Aside0.mk (Kd.R_below (kR HO_461001.out) hb)
              have n2_ := Aside0.mk (Kd.R_below (kR HO_469001.out) hb)
              have n3_ := Aside0.mk (Kd.R_below (kR HO484.out) hb)
              have n4_ := Aside0.mk (blk_below (bK BK441.out) hb)
              have n5_ := Aside0.mk (blk_below (bK BK442.out) hb)
              have n6_ := Aside0.mk (blk_below (bK BK455.out) hb)
              have n7_ := Aside0.mk (blk_below (bK BK460.out) hb)
              have n8_ := Aside0.mk (blk_below (bK BK468.out) hb)
              have n9_ := Aside0.mk (below_step (by repeat (first | (with_reducible first | exact HB.out | apply below_alloc | apply pw_below_drewN | apply below_drew1 | refine below_set ?_ GE441.out | refine below_set ?_ GE442.out | refine below_set ?_ GE455.out | refine below_set ?_ GE460.out | refine below_set ?_ GE468.out) | exact HB.out)) hb)
              have n10_ := Aside0.mk (hbox)
              have n11_ := Aside0.mk ((by rw [hg]; exact (below_size (by repeat (first | (with_reducible first | exact HB.out | apply below_alloc | apply pw_below_drewN | apply below_drew1 | refine below_set ?_ GE441.out | refine below_set ?_ GE442.out | refine below_set ?_ GE455.out | refine below_set ?_ GE460.out | refine below_set ?_ GE468.out) | exact HB.out))) : w.heap.size ≤ gb492))
              have n12_ := Aside0.mk ((by rw [hg]; exact (below_size (by repeat (first | (with_reducible first | exact HB.out | apply below_alloc | apply pw_below_drewN | apply below_drew1 | refine below_set ?_ GE441.out | refine below_set ?_ GE442.out | refine below_set ?_ GE455.out | refine below_set ?_ GE460.out | refine below_set ?_ GE468.out) | exact HB.out))) : w.heap.size ≤ gb492))
              have n13_ := Aside0.mk ((by rw [hg]; exact Nat.ne_of_lt (blk_lt (bK BK441.out)) : gb441 ≠ gb492))
              have n14_ := Aside0.mk ((by rw [hg]; exact Nat.ne_of_gt (blk_lt (bK BK441.out)) : gb492 ≠ gb441))
              have n15_ := Aside0.mk ((by rw [hg]; exact Nat.ne_of_lt (blk_lt (bK BK442.out)) : gb442 ≠ gb492))
              have n16_ := Aside0.mk ((by rw [hg]; exact Nat.ne_of_gt (blk_lt (bK BK442.out)) : gb492 ≠ gb442))
              have n17_ := Aside0.mk ((by rw [hg]; exact Nat.ne_of_lt (blk_lt (bK BK455.out)) : gb455 ≠ gb492))
              have n18_ := Aside0.mk ((by rw [hg]; exact Nat.ne_of_gt (blk_lt (bK BK455.out)) : gb492 ≠ gb455))
              have n19_ := Aside0.mk ((by rw [hg]; exact Nat.ne_of_lt (blk_lt (bK BK460.out)) : gb460 ≠ gb492))
              have n20_ := Aside0.mk ((by rw [hg]; exact Nat.ne_of_gt (blk_lt (bK BK460.out)) : gb492 ≠ gb460))
              have n21_ := Aside0.mk ((by rw [hg]; exact Nat.ne_of_lt (blk_lt (bK BK468.out)) : gb468 ≠ gb492))
              have n22_ := Aside0.mk ((by rw [hg]; exact Nat.ne_of_gt (blk_lt (bK BK468.out)) : gb492 ≠ gb468))
              clear HO_456001
              clear HO_461001
              clear HO_469001
              clear HO484
              clear BK441
              clear BK442
              clear BK455
              clear BK460
              clear BK468
              clear HB
              have HO_456001 := n0_
              have HO_461001 := n1_
              have HO_469001 := n2_
              have HO484 := n3_
              have BK441 := n4_
              have BK442 := n5_
              have BK455 := n6_
              have BK460 := n7_
              have BK468 := n8_
              have HB := n9_
              have BK492 := n10_
              have GW492 := n11_
              have GE492 := n12_
              have NB441_492 := n13_
              have NB492_441 := n14_
              have NB442_492 := n15_
              have NB492_442 := n16_
              have NB455_492 := n17_
              have NB492_455 := n18_
              have NB460_492 := n19_
              have NB492_460 := n20_
              have NB468_492 := n21_
              have NB492_468 := n22_
              clear n0_ n1_ n2_ n3_ n4_ n5_ n6_ n7_ n8_ n9_ n10_ n11_ n12_ n13_ n14_ n15_ n16_ n17_ n18_ n19_ n20_ n21_ n22_
              clear hb hbox hg
              refine hK.out _ _ ⟨(blk_cell BK441.out 0).trans rfl, (blk_cell BK441.out 1).trans rfl, (blk_cell BK442.out 0).trans rfl, (blk_cell BK442.out 1).trans rfl⟩ (fun hHeld => ?_)
              clear hK K
              refine norm_ (a' := ?_) ?_ ?_
              rotate_left
              ·show Act.put _ (some 16) _ = _
               simp only [Act.put, List.setIfInBounds_toArray, List.set_cons_zero, List.set_cons_succ, i64_w, i32_w]
               rfl
              refine one_ (i := 4) (N := some 88) #[true, true, true, true, true, false, false, false, false, true, false, false] rfl rfl (one_of HT_.out (by kernel_rfl)) (by decide) (fun K hK => ?_)
              refine goes_ Try.func34 (by kernel_rfl) rfl #[.agg #[.int .i64 a2_0, .int .i64 a2_1]] (by rfl) rfl rfl (by (try simp only [List.map_toArray, List.map_cons, List.map_nil]); first | done | rfl | (simp only [List.length_drop, List.length_take]; rfl)) ?_
              with_reducible refine (laws_toCell.calls a2_0 a2_1 t485 t486 _ A98.out).mono ?_
              rintro e w112 ⟨rfl, hb⟩
              refine ⟨_, rfl, ?_⟩
              have n0_ := Aside0.mk (Kd.R_below (kR HO_456001.out) hb)
              have n1_ := Aside0.mk (Kd.R_below (kR HO_461001.out) hb)
              have n2_ := Aside0.mk (Kd.R_below (kR HO_469001.out) hb)
              have n3_ := Aside0.mk (Kd.R_below (kR HO484.out) hb)
              have n4_ := Aside0.mk (blk_below (bK BK441.out) hb)
              have n5_ := Aside0.mk (blk_below (bK BK442.out) hb)
              have n6_ := Aside0.mk (blk_below (bK BK455.out) hb)
              have n7_ := Aside0.mk (blk_below (bK BK460.out) hb)
              have n8_ := Aside0.mk (blk_below (bK BK468.out) hb)
              have n9_ := Aside0.mk (blk_below (bK BK492.out) hb)
              have n10_ := Aside0.mk (below_step (by repeat (first | (with_reducible first | exact HB.out | apply below_alloc | apply pw_below_drewN | apply below_drew1 | refine below_set ?_ GE441.out | refine below_set ?_ GE442.out | refine below_set ?_ GE455.out | refine below_set ?_ GE460.out | refine below_set ?_ GE468.out | refine below_set ?_ GE492.out) | exact HB.out)) hb)
              clear HO_456001
              clear HO_461001
              clear HO_469001
              clear HO484
              clear BK441
              clear BK442
              clear BK455
              clear BK460
              clear BK468
              clear BK492
              clear HB
              have HO_456001 := n0_
              have HO_461001 := n1_
              have HO_469001 := n2_
              have HO484 := n3_
              have BK441 := n4_
              have BK442 := n5_
              have BK455 := n6_
              have BK460 := n7_
              have BK468 := n8_
              have BK492 := n9_
              have HB := n10_
              clear n0_ n1_ n2_ n3_ n4_ n5_ n6_ n7_ n8_ n9_ n10_
              (try clear hb)
              (try clear hb2)
              (try clear hk)
              (try clear hi)
              obtain ⟨Ao113, co113, eo113⟩ := Kd.R_slice HO484.out
              (first | subst eo113 | (injection eo113 with f1_ f2_ f3_; have f4_ := f1_.symm; have f5_ := f3_.symm; clear f1_ f2_ f3_; subst f4_; subst f5_))
              refine hK.out _ _ ⟨(blk_cell BK441.out 0).trans rfl, (blk_cell BK441.out 1).trans rfl, (blk_cell BK442.out 0).trans rfl, (blk_cell BK442.out 1).trans rfl⟩ (fun hHeld => ?_)
              clear hK K
              refine norm_ (a' := ?_) ?_ ?_
              rotate_left
              ·show Act.put _ (some 88) _ = _
               simp only [Act.put, List.setIfInBounds_toArray, List.set_cons_zero, List.set_cons_succ, i64_w, i32_w]
               rfl
              refine one_ (i := 5) (N := some 89) #[true, true, true, true, true, true, false, false, false, true, false, false] rfl rfl (one_of HT_.out (by kernel_rfl)) (by decide) (fun K hK => ?_)
              refine goes_ Try.func35 (by kernel_rfl) rfl #[.agg #[.int .i64 t481, .slice Ao113 t482.length co113], .int .i64 a1, .agg #[.int .i64 t485, .int .i64 t486]] (by rfl) rfl rfl (by (try simp only [List.map_toArray, List.map_cons, List.map_nil]); first | done | rfl | (simp only [List.length_drop, List.length_take]; rfl)) ?_
              with_reducible refine (impl_GridPut.calls kj67 t481 _ _ t482 a1 t485 t486 t487 t488 t491 _ ?side1 ?side2 A99.out).mono ?_
              (case side1 => repeat (first | exact (Kd.R_reads' HO484.out).2.2 | (with_reducible refine Kd.C_alloc ?_ _) | (with_reducible refine Kd.C_drewN ?_ _) | (with_reducible refine Kd.C_drew ?_)))
              (case side2 => exact (Kd.R_reads' HO484.out).2.1)
              rintro e w114 ⟨v489, rfl, ho0, hb⟩
              refine ⟨_, rfl, ?_⟩
              have n0_ := Aside0.mk (Kd.R_elder' (kR HO_456001.out) (Kd.R_base ho0) hb)
              have n1_ := Aside0.mk (Kd.R_elder' (kR HO_461001.out) (Kd.R_base ho0) hb)
              have n2_ := Aside0.mk (Kd.R_elder' (kR HO_469001.out) (Kd.R_base ho0) hb)
              have n3_ := Aside0.mk (Kd.R_elder' (kR HO484.out) (Kd.R_base ho0) hb)
              have n4_ := Aside0.mk (Kd.R_lower (Kd.R_new' (Kd.R_new' (Kd.R_new' (Kd.R_new' ho0 (Kd.R_lt (kR HO_456001.out))) (Kd.R_lt (kR HO_461001.out))) (Kd.R_lt (kR HO_469001.out))) (Kd.R_lt (kR HO484.out))) (below_size (by repeat (first | (with_reducible first | exact HB.out | apply below_alloc | apply pw_below_drewN | apply below_drew1 | refine below_set ?_ GE441.out | refine below_set ?_ GE442.out | refine below_set ?_ GE455.out | refine below_set ?_ GE460.out | refine below_set ?_ GE468.out | refine below_set ?_ GE492.out) | exact HB.out))))
              have n5_ := Aside0.mk (blk_below (bK BK441.out) hb)
              have n6_ := Aside0.mk (blk_below (bK BK442.out) hb)
              have n7_ := Aside0.mk (blk_below (bK BK455.out) hb)
              have n8_ := Aside0.mk (blk_below (bK BK460.out) hb)
              have n9_ := Aside0.mk (blk_below (bK BK468.out) hb)
              have n10_ := Aside0.mk (blk_below (bK BK492.out) hb)
              have n11_ := Aside0.mk (below_step (by repeat (first | (with_reducible first | exact HB.out | apply below_alloc | apply pw_below_drewN | apply below_drew1 | refine below_set ?_ GE441.out | refine below_set ?_ GE442.out | refine below_set ?_ GE455.out | refine below_set ?_ GE460.out | refine below_set ?_ GE468.out | refine below_set ?_ GE492.out) | exact HB.out)) hb)
              clear HO_456001
              clear HO_461001
              clear HO_469001
              clear HO484
              clear BK441
              clear BK442
              clear BK455
              clear BK460
              clear BK468
              clear BK492
              clear HB
              have HO_456001 := n0_
              have HO_461001 := n1_
              have HO_469001 := n2_
              have HO484 := n3_
              have HO490 := n4_
              have BK441 := n5_
              have BK442 := n6_
              have BK455 := n7_
              have BK460 := n8_
              have BK468 := n9_
              have BK492 := n10_
              have HB := n11_
              clear n0_ n1_ n2_ n3_ n4_ n5_ n6_ n7_ n8_ n9_ n10_ n11_
              (try clear hb)
              (try clear hb2)
              (try clear hk)
              (try clear hi)
              (try clear ho0)
              refine hK.out _ _ ⟨(blk_cell BK441.out 0).trans rfl, (blk_cell BK441.out 1).trans rfl, (blk_cell BK442.out 0).trans rfl, (blk_cell BK442.out 1).trans rfl⟩ (fun hHeld => ?_)
              clear hK K
              refine norm_ (a' := ?_) ?_ ?_
              rotate_left
              ·show Act.put _ (some 89) _ = _
               simp only [Act.put, List.setIfInBounds_toArray, List.set_cons_zero, List.set_cons_succ, i64_w, i32_w]
               rfl
              refine pure_ (i := 6) (N := some 83) (v := ?_) (a' := ?_) #[true, true, true, true, true, true, true, false, false, true, false, false] rfl rfl (any_of HT_.out (by kernel_rfl)) (fun _ _ _ h => h) (Or.inl ⟨by rfl, ?_⟩) ?_ ?_
              rotate_left
              ·intro w'
               go_simp
               with_reducible rfl
              rotate_left
              ·simp only [Act.put, List.setIfInBounds_toArray, List.set_cons_zero, List.set_cons_succ, i64_w, i32_w]
               rfl
              refine pure_ (i := 7) (N := some 90) (v := ?_) (a' := ?_) #[true, true, true, true, true, true, true, true, false, true, false, false] rfl rfl (any_of HT_.out (by kernel_rfl)) (fun _ _ _ h => h) (Or.inl ⟨by rfl, ?_⟩) ?_ ?_
              rotate_left
              ·intro w'
               go_simp
               with_reducible rfl
              rotate_left
              ·simp only [Act.put, List.setIfInBounds_toArray, List.set_cons_zero, List.set_cons_succ, i64_w, i32_w]
               rfl
              refine pure_ (i := 8) (N := some 91) (v := ?_) (a' := ?_) #[true, true, true, true, true, true, true, true, true, true, false, false] rfl rfl (any_of HT_.out (by kernel_rfl)) (fun _ _ _ h => h) (Or.inl ⟨by rfl, ?_⟩) ?_ ?_
              rotate_left
              ·intro w'
               go_simp
               with_reducible rfl
              rotate_left
              ·simp only [Act.put, List.setIfInBounds_toArray, List.set_cons_zero, List.set_cons_succ, i64_w, i32_w]
               rfl
              exact norm_ (by simp only [putAll, Act.put, List.setIfInBounds_toArray, List.set_cons_zero, List.set_cons_succ]) (hCont (.slice Ao113 t482.length co113, v489, gb492) _ ⟨hHeld, (by (with_reducible repeat (first | apply Kd.R_alloc | apply Kd.R_drewN | apply Kd.R_drew)); exact Kd.R_mono HO484.out (fun _ hk => ⟨hk.2, ⟨hk.1.1.1.2, ⟨hk.1.1.2, hk.1.2⟩⟩⟩)), (by (with_reducible repeat (first | apply Kd.R_alloc | apply Kd.R_drewN | apply Kd.R_drew)); exact Kd.R_mono HO490.out (fun _ hk => ⟨hk.2, ⟨hk.1.1.1.2, ⟨hk.1.1.2, hk.1.2⟩⟩⟩)), (by (with_reducible repeat (first | apply Kd.R_alloc | apply Kd.R_drewN | apply Kd.R_drew)); exact Kd.R_mono HO_456001.out (fun _ hk => ⟨hk.1.2, ⟨hk.2, ⟨hk.1.1.1, hk.1.1.2⟩⟩⟩)), (by (with_reducible repeat (first | apply Kd.R_alloc | apply Kd.R_drewN | apply Kd.R_drew)); exact Kd.R_mono HO_461001.out (fun _ hk => ⟨hk.1.2, ⟨hk.2, ⟨hk.1.1.1, hk.1.1.2⟩⟩⟩)), (by (with_reducible repeat (first | apply Kd.R_alloc | apply Kd.R_drewN | apply Kd.R_drew)); exact Kd.R_mono HO_469001.out (fun _ hk => ⟨hk.1.2, ⟨hk.2, ⟨hk.1.1.1, hk.1.1.2⟩⟩⟩)), (bK BK441.out), (bK BK442.out), (bK BK455.out), (bK BK460.out), (bK BK468.out), (bK BK492.out), GW492.out, GE492.out, NB441_492.out, NB492_441.out, NB442_492.out, NB492_442.out, NB455_492.out, NB492_455.out, NB460_492.out, NB492_460.out, NB468_492.out, NB492_468.out, (by repeat (first | (with_reducible first | exact HB.out | apply below_alloc | apply pw_below_drewN | apply below_drew1 | refine below_set ?_ GE441.out | refine below_set ?_ GE442.out | refine below_set ?_ GE455.out | refine below_set ?_ GE460.out | refine below_set ?_ GE468.out | refine below_set ?_ GE492.out) | exact HB.out))⟩)
            ·skip
             refine box_step ?hg (N := 16) ?hd (cs := #[.int .i64 0, .slice none 0 0]) (t := 29) ?hr ?_; (case hd => rfl); (case hg => rfl); (case hr => first | (go_simp; done) | (go_simp; rfl))
             intro gb492 hg w110 hbox hb
             have n0_ := Aside0.mk (Kd.R_below (kR HO_456001.out) hb)
             have n1_ := Aside0.mk (Kd.R_below (kR HO_461001.out) hb)
             have n2_ := Aside0.mk (Kd.R_below (kR HO_469001.out) hb)
             have n3_ := Aside0.mk (blk_below (bK BK441.out) hb)
             have n4_ := Aside0.mk (blk_below (bK BK442.out) hb)
             have n5_ := Aside0.mk (blk_below (bK BK455.out) hb)
             have n6_ := Aside0.mk (blk_below (bK BK460.out) hb)
             have n7_ := Aside0.mk (blk_below (bK BK468.out) hb)
             have n8_ := Aside0.mk (below_step (by repeat (first | (with_reducible first | exact HB.out | apply below_alloc | apply pw_below_drewN | apply below_drew1 | refine below_set ?_ GE441.out | refine below_set ?_ GE442.out | refine below_set ?_ GE455.out | refine below_set ?_ GE460.out | refine below_set ?_ GE468.out) | exact HB.out)) hb)
             have n9_ := Aside0.mk (hbox)
             have n10_ := Aside0.mk ((by rw [hg]; exact (below_size (by repeat (first | (with_reducible first | exact HB.out | apply below_alloc | apply pw_below_drewN | apply below_drew1 | refine below_set ?_ GE441.out | refine below_set ?_ GE442.out | refine below_set ?_ GE455.out | refine below_set ?_ GE460.out | refine below_set ?_ GE468.out) | exact HB.out))) : w.heap.size ≤ gb492))
             have n11_ := Aside0.mk ((by rw [hg]; exact (below_size (by repeat (first | (with_reducible first | exact HB.out | apply below_alloc | apply pw_below_drewN | apply below_drew1 | refine below_set ?_ GE441.out | refine below_set ?_ GE442.out | refine below_set ?_ GE455.out | refine below_set ?_ GE460.out | refine below_set ?_ GE468.out) | exact HB.out))) : w.heap.size ≤ gb492))
             have n12_ := Aside0.mk ((by rw [hg]; exact Nat.ne_of_lt (blk_lt (bK BK441.out)) : gb441 ≠ gb492))
             have n13_ := Aside0.mk ((by rw [hg]; exact Nat.ne_of_gt (blk_lt (bK BK441.out)) : gb492 ≠ gb441))
             have n14_ := Aside0.mk ((by rw [hg]; exact Nat.ne_of_lt (blk_lt (bK BK442.out)) : gb442 ≠ gb492))
             have n15_ := Aside0.mk ((by rw [hg]; exact Nat.ne_of_gt (blk_lt (bK BK442.out)) : gb492 ≠ gb442))
             have n16_ := Aside0.mk ((by rw [hg]; exact Nat.ne_of_lt (blk_lt (bK BK455.out)) : gb455 ≠ gb492))
             have n17_ := Aside0.mk ((by rw [hg]; exact Nat.ne_of_gt (blk_lt (bK BK455.out)) : gb492 ≠ gb455))
             have n18_ := Aside0.mk ((by rw [hg]; exact Nat.ne_of_lt (blk_lt (bK BK460.out)) : gb460 ≠ gb492))
             have n19_ := Aside0.mk ((by rw [hg]; exact Nat.ne_of_gt (blk_lt (bK BK460.out)) : gb492 ≠ gb460))
             have n20_ := Aside0.mk ((by rw [hg]; exact Nat.ne_of_lt (blk_lt (bK BK468.out)) : gb468 ≠ gb492))
             have n21_ := Aside0.mk ((by rw [hg]; exact Nat.ne_of_gt (blk_lt (bK BK468.out)) : gb492 ≠ gb468))
             clear HO_456001
             clear HO_461001
             clear HO_469001
             clear BK441
             clear BK442
             clear BK455
             clear BK460
             clear BK468
             clear HB
             have HO_456001 := n0_
             have HO_461001 := n1_
             have HO_469001 := n2_
             have BK441 := n3_
             have BK442 := n4_
             have BK455 := n5_
             have BK460 := n6_
             have BK468 := n7_
             have HB := n8_
             have BK492 := n9_
             have GW492 := n10_
             have GE492 := n11_
             have NB441_492 := n12_
             have NB492_441 := n13_
             have NB442_492 := n14_
             have NB492_442 := n15_
             have NB455_492 := n16_
             have NB492_455 := n17_
             have NB460_492 := n18_
             have NB492_460 := n19_
             have NB468_492 := n20_
             have NB492_468 := n21_
             clear n0_ n1_ n2_ n3_ n4_ n5_ n6_ n7_ n8_ n9_ n10_ n11_ n12_ n13_ n14_ n15_ n16_ n17_ n18_ n19_ n20_ n21_
             clear hb hbox hg
             refine hK.out _ _ ⟨(blk_cell BK441.out 0).trans rfl, (blk_cell BK441.out 1).trans rfl, (blk_cell BK442.out 0).trans rfl, (blk_cell BK442.out 1).trans rfl⟩ (fun hHeld => ?_)
             clear hK K
             refine norm_ (a' := ?_) ?_ ?_
             rotate_left
             ·show Act.put _ (some 16) _ = _
              simp only [Act.put, List.setIfInBounds_toArray, List.set_cons_zero, List.set_cons_succ, i64_w, i32_w]
              rfl
             refine one_ (i := 1) (N := some 85) #[true, true, true, true, false, false, false, false, false, true, false, false] rfl rfl (one_of HT_.out (by kernel_rfl)) (by decide) (fun K hK => ?_)
             refine goes_ Try.func17 (by kernel_rfl) rfl #[.agg #[.int .i64 a0_0, .slice A0_1 l0_1.length c0_1]] (by rfl) rfl rfl (by (try simp only [List.map_toArray, List.map_cons, List.map_nil]); first | done | rfl | (simp only [List.length_drop, List.length_take]; rfl)) ?_
             with_reducible refine (laws_toGrid.calls kj67 a0_0 _ _ l0_1 t481 t482 _ ?side1 ?side2 A97.out).mono ?_
             (case side1 => repeat (first | exact (Kd.C_below HR0_1.out HB.out) | (with_reducible refine Kd.C_alloc ?_ _) | (with_reducible refine Kd.C_drewN ?_ _) | (with_reducible refine Kd.C_drew ?_)))
             (case side2 => exact HC0_1.out)
             rintro e w111 ⟨v483, rfl, ho0, hb⟩
             refine ⟨_, rfl, ?_⟩
             have n0_ := Aside0.mk (Kd.R_elder' (kR HO_456001.out) (Kd.R_base ho0) hb)
             have n1_ := Aside0.mk (Kd.R_elder' (kR HO_461001.out) (Kd.R_base ho0) hb)
             have n2_ := Aside0.mk (Kd.R_elder' (kR HO_469001.out) (Kd.R_base ho0) hb)
             have n3_ := Aside0.mk (Kd.R_lower (Kd.R_new' (Kd.R_new' (Kd.R_new' ho0 (Kd.R_lt (kR HO_456001.out))) (Kd.R_lt (kR HO_461001.out))) (Kd.R_lt (kR HO_469001.out))) (below_size (by repeat (first | (with_reducible first | exact HB.out | apply below_alloc | apply pw_below_drewN | apply below_drew1 | refine below_set ?_ GE441.out | refine below_set ?_ GE442.out | refine below_set ?_ GE455.out | refine below_set ?_ GE460.out | refine below_set ?_ GE468.out | refine below_set ?_ GE492.out) | exact HB.out))))
             have n4_ := Aside0.mk (blk_below (bK BK441.out) hb)
             have n5_ := Aside0.mk (blk_below (bK BK442.out) hb)
             have n6_ := Aside0.mk (blk_below (bK BK455.out) hb)
             have n7_ := Aside0.mk (blk_below (bK BK460.out) hb)
             have n8_ := Aside0.mk (blk_below (bK BK468.out) hb)
             have n9_ := Aside0.mk (blk_below (bK BK492.out) hb)
             have n10_ := Aside0.mk (below_step (by repeat (first | (with_reducible first | exact HB.out | apply below_alloc | apply pw_below_drewN | apply below_drew1 | refine below_set ?_ GE441.out | refine below_set ?_ GE442.out | refine below_set ?_ GE455.out | refine below_set ?_ GE460.out | refine below_set ?_ GE468.out | refine below_set ?_ GE492.out) | exact HB.out)) hb)
             clear HO_456001
             clear HO_461001
             clear HO_469001
             clear BK441
             clear BK442
             clear BK455
             clear BK460
             clear BK468
             clear BK492
             clear HB
             have HO_456001 := n0_
             have HO_461001 := n1_
             have HO_469001 := n2_
             have HO484 := n3_
             have BK441 := n4_
             have BK442 := n5_
             have BK455 := n6_
             have BK460 := n7_
             have BK468 := n8_
             have BK492 := n9_
             have HB := n10_
             clear n0_ n1_ n2_ n3_ n4_ n5_ n6_ n7_ n8_ n9_ n10_
             (try clear hb)
             (try clear hb2)
             (try clear hk)
             (try clear hi)
             (try clear ho0)
             refine hK.out _ _ ⟨(blk_cell BK441.out 0).trans rfl, (blk_cell BK441.out 1).trans rfl, (blk_cell BK442.out 0).trans rfl, (blk_cell BK442.out 1).trans rfl⟩ (fun hHeld => ?_)
             clear hK K
             refine norm_ (a' := ?_) ?_ ?_
             rotate_left
             ·show Act.put _ (some 85) _ = _
              simp only [Act.put, List.setIfInBounds_toArray, List.set_cons_zero, List.set_cons_succ, i64_w, i32_w]
              rfl
             refine one_ (i := 4) (N := some 88) #[true, true, true, true, true, false, false, false, false, true, false, false] rfl rfl (one_of HT_.out (by kernel_rfl)) (by decide) (fun K hK => ?_)
             refine goes_ Try.func34 (by kernel_rfl) rfl #[.agg #[.int .i64 a2_0, .int .i64 a2_1]] (by rfl) rfl rfl (by (try simp only [List.map_toArray, List.map_cons, List.map_nil]); first | done | rfl | (simp only [List.length_drop, List.length_take]; rfl)) ?_
             with_reducible refine (laws_toCell.calls a2_0 a2_1 t485 t486 _ A98.out).mono ?_
             rintro e w112 ⟨rfl, hb⟩
             refine ⟨_, rfl, ?_⟩
             have n0_ := Aside0.mk (Kd.R_below (kR HO_456001.out) hb)
             have n1_ := Aside0.mk (Kd.R_below (kR HO_461001.out) hb)
             have n2_ := Aside0.mk (Kd.R_below (kR HO_469001.out) hb)
             have n3_ := Aside0.mk (Kd.R_below (kR HO484.out) hb)
             have n4_ := Aside0.mk (blk_below (bK BK441.out) hb)
             have n5_ := Aside0.mk (blk_below (bK BK442.out) hb)
             have n6_ := Aside0.mk (blk_below (bK BK455.out) hb)
             have n7_ := Aside0.mk (blk_below (bK BK460.out) hb)
             have n8_ := Aside0.mk (blk_below (bK BK468.out) hb)
             have n9_ := Aside0.mk (blk_below (bK BK492.out) hb)
             have n10_ := Aside0.mk (below_step (by repeat (first | (with_reducible first | exact HB.out | apply below_alloc | apply pw_below_drewN | apply below_drew1 | refine below_set ?_ GE441.out | refine below_set ?_ GE442.out | refine below_set ?_ GE455.out | refine below_set ?_ GE460.out | refine below_set ?_ GE468.out | refine below_set ?_ GE492.out) | exact HB.out)) hb)
             clear HO_456001
             clear HO_461001
             clear HO_469001
             clear HO484
             clear BK441
             clear BK442
             clear BK455
             clear BK460
             clear BK468
             clear BK492
             clear HB
             have HO_456001 := n0_
             have HO_461001 := n1_
             have HO_469001 := n2_
             have HO484 := n3_
             have BK441 := n4_
             have BK442 := n5_
             have BK455 := n6_
             have BK460 := n7_
             have BK468 := n8_
             have BK492 := n9_
             have HB := n10_
             clear n0_ n1_ n2_ n3_ n4_ n5_ n6_ n7_ n8_ n9_ n10_
             (try clear hb)
             (try clear hb2)
             (try clear hk)
             (try clear hi)
             obtain ⟨Ao113, co113, eo113⟩ := Kd.R_slice HO484.out
             (first | subst eo113 | (injection eo113 with f1_ f2_ f3_; have f4_ := f1_.symm; have f5_ := f3_.symm; clear f1_ f2_ f3_; subst f4_; subst f5_))
             refine hK.out _ _ ⟨(blk_cell BK441.out 0).trans rfl, (blk_cell BK441.out 1).trans rfl, (blk_cell BK442.out 0).trans rfl, (blk_cell BK442.out 1).trans rfl⟩ (fun hHeld => ?_)
             clear hK K
             refine norm_ (a' := ?_) ?_ ?_
             rotate_left
             ·show Act.put _ (some 88) _ = _
              simp only [Act.put, List.setIfInBounds_toArray, List.set_cons_zero, List.set_cons_succ, i64_w, i32_w]
              rfl
             refine one_ (i := 5) (N := some 89) #[true, true, true, true, true, true, false, false, false, true, false, false] rfl rfl (one_of HT_.out (by kernel_rfl)) (by decide) (fun K hK => ?_)
             refine goes_ Try.func35 (by kernel_rfl) rfl #[.agg #[.int .i64 t481, .slice Ao113 t482.length co113], .int .i64 a1, .agg #[.int .i64 t485, .int .i64 t486]] (by rfl) rfl rfl (by (try simp only [List.map_toArray, List.map_cons, List.map_nil]); first | done | rfl | (simp only [List.length_drop, List.length_take]; rfl)) ?_
             with_reducible refine (impl_GridPut.calls kj67 t481 _ _ t482 a1 t485 t486 t487 t488 t491 _ ?side1 ?side2 A99.out).mono ?_
             (case side1 => repeat (first | exact (Kd.R_reads' HO484.out).2.2 | (with_reducible refine Kd.C_alloc ?_ _) | (with_reducible refine Kd.C_drewN ?_ _) | (with_reducible refine Kd.C_drew ?_)))
             (case side2 => exact (Kd.R_reads' HO484.out).2.1)
             rintro e w114 ⟨v489, rfl, ho0, hb⟩
             refine ⟨_, rfl, ?_⟩
             have n0_ := Aside0.mk (Kd.R_elder' (kR HO_456001.out) (Kd.R_base ho0) hb)
             have n1_ := Aside0.mk (Kd.R_elder' (kR HO_461001.out) (Kd.R_base ho0) hb)
             have n2_ := Aside0.mk (Kd.R_elder' (kR HO_469001.out) (Kd.R_base ho0) hb)
             have n3_ := Aside0.mk (Kd.R_elder' (kR HO484.out) (Kd.R_base ho0) hb)
             have n4_ := Aside0.mk (Kd.R_lower (Kd.R_new' (Kd.R_new' (Kd.R_new' (Kd.R_new' ho0 (Kd.R_lt (kR HO_456001.out))) (Kd.R_lt (kR HO_461001.out))) (Kd.R_lt (kR HO_469001.out))) (Kd.R_lt (kR HO484.out))) (below_size (by repeat (first | (with_reducible first | exact HB.out | apply below_alloc | apply pw_below_drewN | apply below_drew1 | refine below_set ?_ GE441.out | refine below_set ?_ GE442.out | refine below_set ?_ GE455.out | refine below_set ?_ GE460.out | refine below_set ?_ GE468.out | refine below_set ?_ GE492.out) | exact HB.out))))
             have n5_ := Aside0.mk (blk_below (bK BK441.out) hb)
             have n6_ := Aside0.mk (blk_below (bK BK442.out) hb)
             have n7_ := Aside0.mk (blk_below (bK BK455.out) hb)
             have n8_ := Aside0.mk (blk_below (bK BK460.out) hb)
             have n9_ := Aside0.mk (blk_below (bK BK468.out) hb)
             have n10_ := Aside0.mk (blk_below (bK BK492.out) hb)
             have n11_ := Aside0.mk (below_step (by repeat (first | (with_reducible first | exact HB.out | apply below_alloc | apply pw_below_drewN | apply below_drew1 | refine below_set ?_ GE441.out | refine below_set ?_ GE442.out | refine below_set ?_ GE455.out | refine below_set ?_ GE460.out | refine below_set ?_ GE468.out | refine below_set ?_ GE492.out) | exact HB.out)) hb)
             clear HO_456001
             clear HO_461001
             clear HO_469001
             clear HO484
             clear BK441
             clear BK442
             clear BK455
             clear BK460
             clear BK468
             clear BK492
             clear HB
             have HO_456001 := n0_
             have HO_461001 := n1_
             have HO_469001 := n2_
             have HO484 := n3_
             have HO490 := n4_
             have BK441 := n5_
             have BK442 := n6_
             have BK455 := n7_
             have BK460 := n8_
             have BK468 := n9_
             have BK492 := n10_
             have HB := n11_
             clear n0_ n1_ n2_ n3_ n4_ n5_ n6_ n7_ n8_ n9_ n10_ n11_
             (try clear hb)
             (try clear hb2)
             (try clear hk)
             (try clear hi)
             (try clear ho0)
             refine hK.out _ _ ⟨(blk_cell BK441.out 0).trans rfl, (blk_cell BK441.out 1).trans rfl, (blk_cell BK442.out 0).trans rfl, (blk_cell BK442.out 1).trans rfl⟩ (fun hHeld => ?_)
             clear hK K
             refine norm_ (a' := ?_) ?_ ?_
             rotate_left
             ·show Act.put _ (some 89) _ = _
              simp only [Act.put, List.setIfInBounds_toArray, List.set_cons_zero, List.set_cons_succ, i64_w, i32_w]
              rfl
             refine pure_ (i := 6) (N := some 83) (v := ?_) (a' := ?_) #[true, true, true, true, true, true, true, false, false, true, false, false] rfl rfl (any_of HT_.out (by kernel_rfl)) (fun _ _ _ h => h) (Or.inl ⟨by rfl, ?_⟩) ?_ ?_
             rotate_left
             ·intro w'
              go_simp
              with_reducible rfl
             rotate_left
             ·simp only [Act.put, List.setIfInBounds_toArray, List.set_cons_zero, List.set_cons_succ, i64_w, i32_w]
              rfl
             refine pure_ (i := 7) (N := some 90) (v := ?_) (a' := ?_) #[true, true, true, true, true, true, true, true, false, true, false, false] rfl rfl (any_of HT_.out (by kernel_rfl)) (fun _ _ _ h => h) (Or.inl ⟨by rfl, ?_⟩) ?_ ?_
             rotate_left
             ·intro w'
              go_simp
              with_reducible rfl
             rotate_left
             ·simp only [Act.put, List.setIfInBounds_toArray, List.set_cons_zero, List.set_cons_succ, i64_w, i32_w]
              rfl
             refine pure_ (i := 8) (N := some 91) (v := ?_) (a' := ?_) #[true, true, true, true, true, true, true, true, true, true, false, false] rfl rfl (any_of HT_.out (by kernel_rfl)) (fun _ _ _ h => h) (Or.inl ⟨by rfl, ?_⟩) ?_ ?_
             rotate_left
             ·intro w'
              go_simp
              with_reducible rfl
             rotate_left
             ·simp only [Act.put, List.setIfInBounds_toArray, List.set_cons_zero, List.set_cons_succ, i64_w, i32_w]
              rfl
             exact norm_ (by simp only [putAll, Act.put, List.setIfInBounds_toArray, List.set_cons_zero, List.set_cons_succ]) (hCont (.slice Ao113 t482.length co113, v489, gb492) _ ⟨hHeld, (by (with_reducible repeat (first | apply Kd.R_alloc | apply Kd.R_drewN | apply Kd.R_drew)); exact Kd.R_mono HO484.out (fun _ hk => ⟨hk.2, ⟨hk.1.1.1.2, ⟨hk.1.1.2, hk.1.2⟩⟩⟩)), (by (with_reducible repeat (first | apply Kd.R_alloc | apply Kd.R_drewN | apply Kd.R_drew)); exact Kd.R_mono HO490.out (fun _ hk => ⟨hk.2, ⟨hk.1.1.1.2, ⟨hk.1.1.2, hk.1.2⟩⟩⟩)), (by (with_reducible repeat (first | apply Kd.R_alloc | apply Kd.R_drewN | apply Kd.R_drew)); exact Kd.R_mono HO_456001.out (fun _ hk => ⟨hk.1.2, ⟨hk.2, ⟨hk.1.1.1, hk.1.1.2⟩⟩⟩)), (by (with_reducible repeat (first | apply Kd.R_alloc | apply Kd.R_drewN | apply Kd.R_drew)); exact Kd.R_mono HO_461001.out (fun _ hk => ⟨hk.1.2, ⟨hk.2, ⟨hk.1.1.1, hk.1.1.2⟩⟩⟩)), (by (with_reducible repeat (first | apply Kd.R_alloc | apply Kd.R_drewN | apply Kd.R_drew)); exact Kd.R_mono HO_469001.out (fun _ hk => ⟨hk.1.2, ⟨hk.2, ⟨hk.1.1.1, hk.1.1.2⟩⟩⟩)), (bK BK441.out), (bK BK442.out), (bK BK455.out), (bK BK460.out), (bK BK468.out), (bK BK492.out), GW492.out, GE492.out, NB441_492.out, NB492_441.out, NB442_492.out, NB492_442.out, NB455_492.out, NB492_455.out, NB460_492.out, NB492_460.out, NB468_492.out, NB492_468.out, (by repeat (first | (with_reducible first | exact HB.out | apply below_alloc | apply pw_below_drewN | apply below_drew1 | refine below_set ?_ GE441.out | refine below_set ?_ GE442.out | refine below_set ?_ GE455.out | refine below_set ?_ GE460.out | refine below_set ?_ GE468.out | refine below_set ?_ GE492.out) | exact HB.out))⟩)
           rintro ⟨v483, v489, gb492⟩ w115 ⟨hS_, h0_, h1_, h2_, h3_, h4_, h5_, h6_, h7_, h8_, h9_, h10_, h11_, h12_, h13_, h14_, h15_, h16_, h17_, h18_, h19_, h20_, h21_, h22_, h23_⟩
           have n0_ : Aside0 (Kd.R k48 48 w115 w.heap.size (fun k_ => some k_ ≠ (v489 : Value).ownBlock ∧ some k_ ≠ (.slice Ao31 t451.length co31 : Value).ownBlock ∧ some k_ ≠ (.slice Ao41 t476.length co41 : Value).ownBlock ∧ some k_ ≠ (.slice Ao49 t464.length co49 : Value).ownBlock) v483 t482) := ⟨h0_⟩
           have n1_ : Aside0 (Kd.R k48 48 w115 w.heap.size (fun k_ => some k_ ≠ (v483 : Value).ownBlock ∧ some k_ ≠ (.slice Ao31 t451.length co31 : Value).ownBlock ∧ some k_ ≠ (.slice Ao41 t476.length co41 : Value).ownBlock ∧ some k_ ≠ (.slice Ao49 t464.length co49 : Value).ownBlock) v489 t488) := ⟨h1_⟩
           have n2_ : Aside0 (Kd.R k48 48 w115 w.heap.size (fun k_ => some k_ ≠ (v483 : Value).ownBlock ∧ some k_ ≠ (v489 : Value).ownBlock ∧ some k_ ≠ (.slice Ao41 t476.length co41 : Value).ownBlock ∧ some k_ ≠ (.slice Ao49 t464.length co49 : Value).ownBlock) (.slice Ao31 t451.length co31) t451) := ⟨h2_⟩
           have n3_ : Aside0 (Kd.R k48 48 w115 w.heap.size (fun k_ => some k_ ≠ (v483 : Value).ownBlock ∧ some k_ ≠ (v489 : Value).ownBlock ∧ some k_ ≠ (.slice Ao31 t451.length co31 : Value).ownBlock ∧ some k_ ≠ (.slice Ao49 t464.length co49 : Value).ownBlock) (.slice Ao41 t476.length co41) t476) := ⟨h3_⟩
           have n4_ : Aside0 (Kd.R k48 48 w115 w.heap.size (fun k_ => some k_ ≠ (v483 : Value).ownBlock ∧ some k_ ≠ (v489 : Value).ownBlock ∧ some k_ ≠ (.slice Ao31 t451.length co31 : Value).ownBlock ∧ some k_ ≠ (.slice Ao41 t476.length co41 : Value).ownBlock) (.slice Ao49 t464.length co49) t479) := ⟨h4_⟩
           have n5_ : Aside0 (w115.heap[gb441]? = some (.cells #[.int .i64 a0_0, .slice A0_1 l0_1.length c0_1] 24 (0, 0))) := ⟨h5_⟩
           have n6_ : Aside0 (w115.heap[gb442]? = some (.cells #[.int .i64 a2_0, .int .i64 a2_1] 45 (0, 0))) := ⟨h6_⟩
           have n7_ : Aside0 (w115.heap[gb455]? = some (.cells #[.int .i64 t450, .slice Ao31 t451.length co31] 29 (0, 0))) := ⟨h7_⟩
           have n8_ : Aside0 (w115.heap[gb460]? = some (.cells #[.int .i64 t456, .slice Ao41 t476.length co41] 29 (0, 0))) := ⟨h8_⟩
           have n9_ : Aside0 (w115.heap[gb468]? = some (.cells #[.int .i64 t463, .slice Ao49 t464.length co49] 29 (0, 0))) := ⟨h9_⟩
           have n10_ : Aside0 (w115.heap[gb492]? = some (.cells #[.int .i64 0, .slice none 0 0] 29 (0, 0))) := ⟨h10_⟩
           have n11_ : Aside0 (w.heap.size ≤ gb492) := ⟨h11_⟩
           have n12_ : Aside0 (w.heap.size ≤ gb492) := ⟨h12_⟩
           have n13_ : Aside0 (gb441 ≠ gb492) := ⟨h13_⟩
           have n14_ : Aside0 (gb492 ≠ gb441) := ⟨h14_⟩
           have n15_ : Aside0 (gb442 ≠ gb492) := ⟨h15_⟩
           have n16_ : Aside0 (gb492 ≠ gb442) := ⟨h16_⟩
           have n17_ : Aside0 (gb455 ≠ gb492) := ⟨h17_⟩
           have n18_ : Aside0 (gb492 ≠ gb455) := ⟨h18_⟩
           have n19_ : Aside0 (gb460 ≠ gb492) := ⟨h19_⟩
           have n20_ : Aside0 (gb492 ≠ gb460) := ⟨h20_⟩
           have n21_ : Aside0 (gb468 ≠ gb492) := ⟨h21_⟩
           have n22_ : Aside0 (gb492 ≠ gb468) := ⟨h22_⟩
           have n23_ : Aside0 (Below w.heap.size w w115) := ⟨h23_⟩
           clear HO_456001
           clear HO_461001
           clear HO_469001
           clear BK441
           clear BK442
           clear BK455
           clear BK460
           clear BK468
           clear HB
           clear h0_ h1_ h2_ h3_ h4_ h5_ h6_ h7_ h8_ h9_ h10_ h11_ h12_ h13_ h14_ h15_ h16_ h17_ h18_ h19_ h20_ h21_ h22_ h23_
           have HO484 := n0_
           have HO490 := n1_
           have HO_456001 := n2_
           have HO_461001 := n3_
           have HO_469001 := n4_
           have BK441 := n5_
           have BK442 := n6_
           have BK455 := n7_
           have BK460 := n8_
           have BK468 := n9_
           have BK492 := n10_
           have GW492 := n11_
           have GE492 := n12_
           have NB441_492 := n13_
           have NB492_441 := n14_
           have NB442_492 := n15_
           have NB492_442 := n16_
           have NB455_492 := n17_
           have NB492_455 := n18_
           have NB460_492 := n19_
           have NB492_460 := n20_
           have NB468_492 := n21_
           have NB492_468 := n22_
           have HB := n23_
           clear n0_ n1_ n2_ n3_ n4_ n5_ n6_ n7_ n8_ n9_ n10_ n11_ n12_ n13_ n14_ n15_ n16_ n17_ n18_ n19_ n20_ n21_ n22_ n23_
           have hHeld : w115.cell? ⟨gb441, 0, none⟩ = some (.int .i64 a0_0) ∧ w115.cell? ⟨gb441, 1, none⟩ = some (.slice A0_1 l0_1.length c0_1) ∧ w115.cell? ⟨gb442, 0, none⟩ = some (.int .i64 a2_0) ∧ w115.cell? ⟨gb442, 1, none⟩ = some (.int .i64 a2_1) := hS_
           obtain ⟨Ao117, co117, eo117⟩ := Kd.R_slice HO490.out
           (first | subst eo117 | (injection eo117 with f1_ f2_ f3_; have f4_ := f1_.symm; have f5_ := f3_.symm; clear f1_ f2_ f3_; subst f4_; subst f5_))
           refine norm_ (a' := ?_) ?_ ?_
           rotate_left
           ·simp only [putAll, Act.put, List.setIfInBounds_toArray, List.set_cons_zero, List.set_cons_succ]
            rfl
           refine one_ (i := 10) (N := none) #[true, true, true, true, true, true, true, true, true, true, true, false] rfl rfl (one_of HT_.out (by kernel_rfl)) (by decide) (fun K hK => ?_)
           have hs116 : w115.cell? ⟨gb492, 0, none⟩ = some (.int .i64 0) := (blk_cell BK492.out 0).trans rfl
           have hfs116 := blk_frozen BK492.out 0
           have hns116_0 := NB441_492.out
           have hns116_1 := NB442_492.out
           have hns116_2 := NB455_492.out
           have hns116_3 := NB460_492.out
           have hns116_4 := NB468_492.out
           have hms116_0 := NB492_441.out
           have hms116_1 := NB492_442.out
           have hms116_2 := NB492_455.out
           have hms116_3 := NB492_460.out
           have hms116_4 := NB492_468.out
           have hs118 : w115.cell? ⟨gb492, 1, none⟩ = some (.slice none 0 0) := (blk_cell BK492.out 1).trans rfl
           have hfs118 := blk_frozen BK492.out 1
           have hns118_0 := NB441_492.out
           have hns118_1 := NB442_492.out
           have hns118_2 := NB455_492.out
           have hns118_3 := NB460_492.out
           have hns118_4 := NB468_492.out
           have hms118_0 := NB492_441.out
           have hms118_1 := NB492_442.out
           have hms118_2 := NB492_455.out
           have hms118_3 := NB492_460.out
           have hms118_4 := NB492_468.out
           refine skip_ (w1 := ?_) (by rfl) rfl ?_ ?_
           rotate_left
           ·go_simp
            rfl
           refine hK.out _ _ ⟨((cell_far (p := ⟨gb492, _, none⟩) NB441_492.out _).trans (((cell_far (p := ⟨gb492, _, none⟩) NB441_492.out _).trans (hHeld.1)))), ((cell_far (p := ⟨gb492, _, none⟩) NB441_492.out _).trans (((cell_far (p := ⟨gb492, _, none⟩) NB441_492.out _).trans (hHeld.2.1)))), ((cell_far (p := ⟨gb492, _, none⟩) NB442_492.out _).trans (((cell_far (p := ⟨gb492, _, none⟩) NB442_492.out _).trans (hHeld.2.2.1)))), ((cell_far (p := ⟨gb492, _, none⟩) NB442_492.out _).trans (((cell_far (p := ⟨gb492, _, none⟩) NB442_492.out _).trans (hHeld.2.2.2))))⟩ (fun hHeld => ?_)
           clear hK K
           refine pure_ (i := 11) (N := some 17) (v := ?_) (a' := ?_) #[true, true, true, true, true, true, true, true, true, true, true, true] rfl rfl (any_of HT_.out (by kernel_rfl)) (fun _ _ _ h => h) (Or.inl ⟨by rfl, ?_⟩) ?_ ?_
           rotate_left
           ·intro w'
            go_simp
            with_reducible rfl
           rotate_left
           ·simp only [Act.put, List.setIfInBounds_toArray, List.set_cons_zero, List.set_cons_succ, i64_w, i32_w]
            rfl
           refine done_ (done_of HT_.out (by kernel_rfl)) ?_
           go_upto_region 25 with (fail)
           go_cut [100] (fun v100 wc => ∃ (kq : Nat) (x100_99 : Bool), v100 = .bool x100_99 ∧ Aside0 (laws_FnExactGridPut.j2 kq t478 x100_99 t463 t479 = some r) ∧ Aside0 (kq ≤ kj67) ∧ Aside0 (Kd.R k48 48 wc w.heap.size (fun k_ => some k_ ≠ ((.slice Ao41 t476.length co41) : Value).ownBlock ∧ some k_ ≠ ((.slice Ao49 t464.length co49) : Value).ownBlock ∧ some k_ ≠ ((.slice Ao117 t488.length co117) : Value).ownBlock) (.slice Ao31 t451.length co31) t451) ∧ Aside0 (Kd.R k48 48 wc w.heap.size (fun k_ => some k_ ≠ ((.slice Ao31 t451.length co31) : Value).ownBlock ∧ some k_ ≠ ((.slice Ao49 t464.length co49) : Value).ownBlock ∧ some k_ ≠ ((.slice Ao117 t488.length co117) : Value).ownBlock) (.slice Ao41 t476.length co41) t476) ∧ Aside0 (Kd.R k48 48 wc w.heap.size (fun k_ => some k_ ≠ ((.slice Ao31 t451.length co31) : Value).ownBlock ∧ some k_ ≠ ((.slice Ao41 t476.length co41) : Value).ownBlock ∧ some k_ ≠ ((.slice Ao117 t488.length co117) : Value).ownBlock) (.slice Ao49 t464.length co49) t479) ∧ Aside0 (Kd.R k48 48 wc w.heap.size (fun k_ => some k_ ≠ ((.slice Ao31 t451.length co31) : Value).ownBlock ∧ some k_ ≠ ((.slice Ao41 t476.length co41) : Value).ownBlock ∧ some k_ ≠ ((.slice Ao49 t464.length co49) : Value).ownBlock) (.slice Ao117 t488.length co117) t488) ∧ Aside0 (wc.heap[gb441]? = some (.cells #[.int .i64 a0_0, (.slice A0_1 l0_1.length c0_1)] 24 (0, 0))) ∧ Aside0 (wc.heap[gb442]? = some (.cells #[.int .i64 a2_0, .int .i64 a2_1] 45 (0, 0))) ∧ Aside0 (wc.heap[gb455]? = some (.cells #[.int .i64 t450, (.slice Ao31 t451.length co31)] 29 (0, 0))) ∧ Aside0 (wc.heap[gb460]? = some (.cells #[.int .i64 t456, (.slice Ao41 t476.length co41)] 29 (0, 0))) ∧ Aside0 (wc.heap[gb468]? = some (.cells #[.int .i64 t463, (.slice Ao49 t464.length co49)] 29 (0, 0))) ∧ Aside0 (wc.heap[gb492]? = some (.cells #[.int .i64 t487, (.slice Ao117 t488.length co117)] 29 (0, 0))) ∧ Aside0 (Below w.heap.size w wc))
           case first =>
            have H := HC100.out
            clear HC100
            replace H := Option.bind_eq_some_iff.mp H
            obtain ⟨t493, A1190, H⟩ := H
            replace H : (if t493 = true then (laws_FnExactGridPut.j2 kj67 t478 (t491 != t454) t463 t479) else (laws_FnExactGridPut.j2 kj67 t478 true t463 t479)) = some r := H
            have A119 := Aside0.mk A1190
            clear A1190
            by_cases c120 : t493 = true
            ·subst c120
             have H1 : (laws_FnExactGridPut.j2 kj67 t478 (t491 != t454) t463 t479) = some r := by rw [if_pos rfl] at H; exact H
             clear H
             have H := H1
             clear H1
             have H' := Aside0.mk H
             clear H
             have hnb121 := NB492_441.out
             have hnc121 := NB441_492.out
             have hnb122 := NB492_442.out
             have hnc122 := NB442_492.out
             have hnb123 := NB492_455.out
             have hnc123 := NB455_492.out
             have hnb124 := NB492_460.out
             have hnc124 := NB460_492.out
             have hnb125 := NB492_468.out
             have hnc125 := NB468_492.out
             have hcz126_0 : w115.cell? ⟨gb492, 0, none⟩ = some (.int .i64 0) := (blk_cell BK492.out 0).trans rfl
             have hcz126_1 : w115.cell? ⟨gb492, 1, none⟩ = some (.slice none 0 0) := (blk_cell BK492.out 1).trans rfl
             have hfz126_0 := blk_frozen BK492.out 0
             have hfz126_1 := blk_frozen BK492.out 1
             have hnb127 := NB455_441.out
             have hnc127 := NB441_455.out
             have hnb128 := NB455_442.out
             have hnc128 := NB442_455.out
             have hnb129 := NB455_460.out
             have hnc129 := NB460_455.out
             have hnb130 := NB455_468.out
             have hnc130 := NB468_455.out
             have hcz131_0 : w115.cell? ⟨gb455, 0, none⟩ = some (.int .i64 t450) := (blk_cell BK455.out 0).trans rfl
             have hcz131_1 : w115.cell? ⟨gb455, 1, none⟩ = some (.slice Ao31 t451.length co31) := (blk_cell BK455.out 1).trans rfl
             have hfz131_0 := blk_frozen BK455.out 0
             have hfz131_1 := blk_frozen BK455.out 1
             go_wp2_with (first | ((with_reducible refine gate_callee (f := 19) rfl ?_); refine goesL_ (some 94) rfl rfl Try.func19 (by kernel_rfl) rfl #[.agg #[.int .i64 t487, .slice Ao117 t488.length co117], .agg #[.int .i64 t450, .slice Ao31 t451.length co31]] rfl (by (try simp only [List.map_toArray, List.map_cons, List.map_nil]); first | done | rfl | (simp only [List.length_drop, List.length_take]; rfl)) ?_; (with_reducible refine (laws_eqGrid.calls kj67 t487 _ _ t488 t450 _ _ t451 true _ ?side1 ?side2 ?side3 ?side4 A119.out).mono ?_); (case side1 => refine (Kd.R_reads' (e := 48) (base := w.heap.size) (ok := fun k_ => (some k_ ≠ (v483 : Value).ownBlock ∧ (some k_ ≠ (.slice Ao31 t451.length co31 : Value).ownBlock ∧ (some k_ ≠ (.slice Ao41 t476.length co41 : Value).ownBlock ∧ some k_ ≠ (.slice Ao49 t464.length co49 : Value).ownBlock)))) (n := t488.length) (c := co117) ?_).2.2; exact (by (with_reducible repeat (first | apply Kd.R_alloc | apply Kd.R_drewN | apply Kd.R_drew)); exact (Kd.R_mono (Kd.R_far (p := ⟨gb492, 1, none⟩) (Kd.R_far (p := ⟨gb492, 0, none⟩) (Kd.R_types HO490.out BK492.out (by decide)) (fun _ hk => hk.2) (.int .i64 t487)) (fun _ hk => hk.2) (.slice Ao117 t488.length co117)) (fun _ h_ => h_.1)))); (case side2 => exact (Kd.R_reads' HO490.out).2.1); (case side3 => refine (Kd.R_reads' (e := 48) (base := w.heap.size) (ok := fun k_ => (some k_ ≠ (v483 : Value).ownBlock ∧ (some k_ ≠ (.slice Ao117 t488.length co117 : Value).ownBlock ∧ (some k_ ≠ (.slice Ao41 t476.length co41 : Value).ownBlock ∧ some k_ ≠ (.slice Ao49 t464.length co49 : Value).ownBlock)))) (n := t451.length) (c := co31) ?_).2.2; exact (by (with_reducible repeat (first | apply Kd.R_alloc | apply Kd.R_drewN | apply Kd.R_drew)); exact (Kd.R_mono (Kd.R_far (p := ⟨gb492, 1, none⟩) (Kd.R_far (p := ⟨gb492, 0, none⟩) (Kd.R_types HO_456001.out BK492.out (by decide)) (fun _ hk => hk.2) (.int .i64 t487)) (fun _ hk => hk.2) (.slice Ao117 t488.length co117)) (fun _ h_ => h_.1)))); (case side4 => exact (Kd.R_reads' HO_456001.out).2.1); rintro e w132 ⟨rfl, hb⟩; refine ⟨_, rfl, ?_⟩; have n0_ := Aside0.mk (Kd.R_below (by (with_reducible repeat (first | apply Kd.R_alloc | apply Kd.R_drewN | apply Kd.R_drew)); exact (Kd.R_mono (Kd.R_far (p := ⟨gb492, 1, none⟩) (Kd.R_far (p := ⟨gb492, 0, none⟩) (Kd.R_types HO_456001.out BK492.out (by decide)) (fun _ hk => hk.2) (.int .i64 t487)) (fun _ hk => hk.2) (.slice Ao117 t488.length co117)) (fun _ h_ => h_.1))) hb); have n1_ := Aside0.mk (Kd.R_below (by (with_reducible repeat (first | apply Kd.R_alloc | apply Kd.R_drewN | apply Kd.R_drew)); exact (Kd.R_mono (Kd.R_far (p := ⟨gb492, 1, none⟩) (Kd.R_far (p := ⟨gb492, 0, none⟩) (Kd.R_types HO_461001.out BK492.out (by decide)) (fun _ hk => hk.2) (.int .i64 t487)) (fun _ hk => hk.2) (.slice Ao117 t488.length co117)) (fun _ h_ => h_.1))) hb); have n2_ := Aside0.mk (Kd.R_below (by (with_reducible repeat (first | apply Kd.R_alloc | apply Kd.R_drewN | apply Kd.R_drew)); exact (Kd.R_mono (Kd.R_far (p := ⟨gb492, 1, none⟩) (Kd.R_far (p := ⟨gb492, 0, none⟩) (Kd.R_types HO_469001.out BK492.out (by decide)) (fun _ hk => hk.2) (.int .i64 t487)) (fun _ hk => hk.2) (.slice Ao117 t488.length co117)) (fun _ h_ => h_.1))) hb); have n3_ := Aside0.mk (Kd.R_below (by (with_reducible repeat (first | apply Kd.R_alloc | apply Kd.R_drewN | apply Kd.R_drew)); exact (Kd.R_mono (Kd.R_far (p := ⟨gb492, 1, none⟩) (Kd.R_far (p := ⟨gb492, 0, none⟩) (Kd.R_types HO484.out BK492.out (by decide)) (fun _ hk => hk.2) (.int .i64 t487)) (fun _ hk => hk.2) (.slice Ao117 t488.length co117)) (fun _ h_ => h_.1))) hb); have n4_ := Aside0.mk (Kd.R_below (by (with_reducible repeat (first | apply Kd.R_alloc | apply Kd.R_drewN | apply Kd.R_drew)); exact (Kd.R_mono (Kd.R_far (p := ⟨gb492, 1, none⟩) (Kd.R_far (p := ⟨gb492, 0, none⟩) (Kd.R_types HO490.out BK492.out (by decide)) (fun _ hk => hk.2) (.int .i64 t487)) (fun _ hk => hk.2) (.slice Ao117 t488.length co117)) (fun _ h_ => h_.1))) hb); have n5_ := Aside0.mk (blk_below (g := gb441) (o := .cells #[.int .i64 a0_0, .slice A0_1 l0_1.length c0_1] 24 (0, 0)) (by (with_reducible repeat (first | refine blk_drewN ?_ _ | refine blk_drew ?_ | refine blk_alloc ?_ _)); refine blk_far ?_ NB441_492.out _; (with_reducible repeat (first | refine blk_drewN ?_ _ | refine blk_drew ?_ | refine blk_alloc ?_ _)); refine blk_far ?_ NB441_492.out _; (with_reducible repeat (first | refine blk_drewN ?_ _ | refine blk_drew ?_ | refine blk_alloc ?_ _)); exact BK441.out) hb); have n6_ := Aside0.mk (blk_below (g := gb442) (o := .cells #[.int .i64 a2_0, .int .i64 a2_1] 45 (0, 0)) (by (with_reducible repeat (first | refine blk_drewN ?_ _ | refine blk_drew ?_ | refine blk_alloc ?_ _)); refine blk_far ?_ NB442_492.out _; (with_reducible repeat (first | refine blk_drewN ?_ _ | refine blk_drew ?_ | refine blk_alloc ?_ _)); refine blk_far ?_ NB442_492.out _; (with_reducible repeat (first | refine blk_drewN ?_ _ | refine blk_drew ?_ | refine blk_alloc ?_ _)); exact BK442.out) hb); have n7_ := Aside0.mk (blk_below (g := gb455) (o := .cells #[.int .i64 t450, .slice Ao31 t451.length co31] 29 (0, 0)) (by (with_reducible repeat (first | refine blk_drewN ?_ _ | refine blk_drew ?_ | refine blk_alloc ?_ _)); refine blk_far ?_ NB455_492.out _; (with_reducible repeat (first | refine blk_drewN ?_ _ | refine blk_drew ?_ | refine blk_alloc ?_ _)); refine blk_far ?_ NB455_492.out _; (with_reducible repeat (first | refine blk_drewN ?_ _ | refine blk_drew ?_ | refine blk_alloc ?_ _)); exact BK455.out) hb); have n8_ := Aside0.mk (blk_below (g := gb460) (o := .cells #[.int .i64 t456, .slice Ao41 t476.length co41] 29 (0, 0)) (by (with_reducible repeat (first | refine blk_drewN ?_ _ | refine blk_drew ?_ | refine blk_alloc ?_ _)); refine blk_far ?_ NB460_492.out _; (with_reducible repeat (first | refine blk_drewN ?_ _ | refine blk_drew ?_ | refine blk_alloc ?_ _)); refine blk_far ?_ NB460_492.out _; (with_reducible repeat (first | refine blk_drewN ?_ _ | refine blk_drew ?_ | refine blk_alloc ?_ _)); exact BK460.out) hb); have n9_ := Aside0.mk (blk_below (g := gb468) (o := .cells #[.int .i64 t463, .slice Ao49 t464.length co49] 29 (0, 0)) (by (with_reducible repeat (first | refine blk_drewN ?_ _ | refine blk_drew ?_ | refine blk_alloc ?_ _)); refine blk_far ?_ NB468_492.out _; (with_reducible repeat (first | refine blk_drewN ?_ _ | refine blk_drew ?_ | refine blk_alloc ?_ _)); refine blk_far ?_ NB468_492.out _; (with_reducible repeat (first | refine blk_drewN ?_ _ | refine blk_drew ?_ | refine blk_alloc ?_ _)); exact BK468.out) hb); have n10_ := Aside0.mk (blk_below (g := gb492) (o := .cells #[.int .i64 t487, .slice Ao117 t488.length co117] 29 (0, 0)) (by (with_reducible repeat (first | refine blk_drewN ?_ _ | refine blk_drew ?_ | refine blk_alloc ?_ _)); refine blk_put (cs := #[.int .i64 t487, .slice none 0 0]) ?_ 1 _ rfl; (with_reducible repeat (first | refine blk_drewN ?_ _ | refine blk_drew ?_ | refine blk_alloc ?_ _)); refine blk_put (cs := #[.int .i64 0, .slice none 0 0]) ?_ 0 _ rfl; (with_reducible repeat (first | refine blk_drewN ?_ _ | refine blk_drew ?_ | refine blk_alloc ?_ _)); exact BK492.out) hb); have n11_ := Aside0.mk (below_step (by repeat (first | (with_reducible first | exact HB.out | apply below_alloc | apply pw_below_drewN | apply below_drew1 | refine below_set ?_ GE441.out | refine below_set ?_ GE442.out | refine below_set ?_ GE455.out | refine below_set ?_ GE460.out | refine below_set ?_ GE468.out | refine below_set ?_ GE492.out) | exact HB.out)) hb); clear HO_456001; clear HO_461001; clear HO_469001; clear HO484; clear HO490; clear BK441; clear BK442; clear BK455; clear BK460; clear BK468; clear BK492; clear HB; have HO_456001 := n0_; have HO_461001 := n1_; have HO_469001 := n2_; have HO484 := n3_; have HO490 := n4_; have BK441 := n5_; have BK442 := n6_; have BK455 := n7_; have BK460 := n8_; have BK468 := n9_; have BK492 := n10_; have HB := n11_; clear n0_ n1_ n2_ n3_ n4_ n5_ n6_ n7_ n8_ n9_ n10_ n11_; (try clear hb); (try clear hb2); (try clear hk); (try clear hi)))
             go_meet
             case rel => exact ⟨_, ((t491 != t454)), (by first | rfl | (simp; done) | (simp [*]; done)), H', ⟨by have := HJ16.out; have := HJ67.out; first | omega | exact Nat.le_refl _⟩, ⟨by (try simp only [hl461001_67]); (with_reducible repeat (first | apply Kd.R_alloc | apply Kd.R_drewN | apply Kd.R_drew)); exact Kd.R_mono HO_456001.out (fun _ hk => ⟨hk.2.2.1, ⟨hk.2.2.2, hk.2.1⟩⟩)⟩, ⟨by (try simp only [hl461001_67]); (with_reducible repeat (first | apply Kd.R_alloc | apply Kd.R_drewN | apply Kd.R_drew)); exact Kd.R_mono HO_461001.out (fun _ hk => ⟨hk.2.2.1, ⟨hk.2.2.2, hk.2.1⟩⟩)⟩, ⟨by (try simp only [hl461001_67]); (with_reducible repeat (first | apply Kd.R_alloc | apply Kd.R_drewN | apply Kd.R_drew)); exact Kd.R_mono HO_469001.out (fun _ hk => ⟨hk.2.2.1, ⟨hk.2.2.2, hk.2.1⟩⟩)⟩, ⟨by (try simp only [hl461001_67]); (with_reducible repeat (first | apply Kd.R_alloc | apply Kd.R_drewN | apply Kd.R_drew)); exact Kd.R_mono HO490.out (fun _ hk => ⟨hk.2.1, ⟨hk.2.2.1, hk.2.2.2⟩⟩)⟩, ⟨by (try simp only [hl461001_67]); (with_reducible repeat (first | refine blk_drewN ?_ _ | refine blk_drew ?_ | refine blk_alloc ?_ _)); exact BK441.out⟩, ⟨by (try simp only [hl461001_67]); (with_reducible repeat (first | refine blk_drewN ?_ _ | refine blk_drew ?_ | refine blk_alloc ?_ _)); exact BK442.out⟩, ⟨by (try simp only [hl461001_67]); (with_reducible repeat (first | refine blk_drewN ?_ _ | refine blk_drew ?_ | refine blk_alloc ?_ _)); exact BK455.out⟩, ⟨by (try simp only [hl461001_67]); (with_reducible repeat (first | refine blk_drewN ?_ _ | refine blk_drew ?_ | refine blk_alloc ?_ _)); exact BK460.out⟩, ⟨by (try simp only [hl461001_67]); (with_reducible repeat (first | refine blk_drewN ?_ _ | refine blk_drew ?_ | refine blk_alloc ?_ _)); exact BK468.out⟩, ⟨by (try simp only [hl461001_67]); (with_reducible repeat (first | refine blk_drewN ?_ _ | refine blk_drew ?_ | refine blk_alloc ?_ _)); exact BK492.out⟩, ⟨by repeat (first | (with_reducible first | exact HB.out | apply below_alloc | apply pw_below_drewN | apply below_drew1 | refine below_set ?_ GE441.out | refine below_set ?_ GE442.out | refine below_set ?_ GE455.out | refine below_set ?_ GE460.out | refine below_set ?_ GE468.out | refine below_set ?_ GE492.out) | exact HB.out)⟩⟩
            ·replace c120 := Bool.eq_false_iff.mpr c120
             subst c120
             have H1 : (laws_FnExactGridPut.j2 kj67 t478 true t463 t479) = some r := by rw [if_neg (show ¬ (false = true) by decide)] at H; exact H
             clear H
             have H := H1
             clear H1
             cases kj67 with
             | zero => exact absurd H (by simp [laws_FnExactGridPut.j2])
             | succ k_ =>
              have hf_ := Option.some.inj (show (some false : Option Bool) = some r from H)
              rw [HRT.out] at hf_
              exact absurd hf_ (by decide)
           case rest =>
            clear HC100
            try clear c1
            try clear p2
            try clear c3
            try clear c12
            try clear c13
            try clear c17
            try clear c19
            try clear c34
            try clear c35
            try clear c120
            try clear c121
            try clear c122
            try clear c123
            try clear c124
            try clear c125
            try clear c127
            try clear c128
            try clear c129
            try clear c130
            try clear hcz126_0
            try clear hcz126_1
            try clear hcz131_0
            try clear hcz131_1
            try clear hfz126_0
            try clear hfz126_1
            try clear hfz131_0
            try clear hfz131_1
            obtain ⟨kq, x100_99, rfl, HA, HJ99, HO_456001, HO_461001, HO_469001, HO_493001, BK441, BK442, BK455, BK460, BK468, BK492, HB⟩ := hcut
            have hl469001_99 := (Kd.R_reads' HO_469001.out).1
            rw [hl469001_99] at HO_469001
            (try simp only [hl469001_99])
            (try simp only [hl469001_99] at BK441)
            (try simp only [hl469001_99] at BK442)
            (try simp only [hl469001_99] at BK455)
            (try simp only [hl469001_99] at BK460)
            (try simp only [hl469001_99] at BK468)
            (try simp only [hl469001_99] at BK492)
            (try simp only [hl469001_99] at HO_456001)
            (try simp only [hl469001_99] at HO_461001)
            (try simp only [hl469001_99] at HO_493001)
            cases kq with
            | zero => exact absurd HA.out (by simp [laws_FnExactGridPut.j2])
            | succ kj99 =>
             have H := HA.out
             clear HA
             simp only [laws_FnExactGridPut.j2] at H
             by_cases c133 : x100_99 = true
             ·subst c133
              have H1 : (some false) = some r := by rw [if_pos rfl] at H; exact H
              clear H
              have H := H1
              clear H1
              obtain rfl := Option.some.inj H
              exact absurd HRT.out (by decide)
             ·replace c133 := Bool.eq_false_iff.mpr c133
              subst c133
              have H1 : ((laws_heldGrid.f kj99 t463 t479 1).bind fun t494 => (if t494 < 0 then (some false) else (if t494 = t478 then (some true) else (some false)))) = some r := by rw [if_neg (show ¬ (false = true) by decide)] at H; exact H
              clear H
              have H := H1
              clear H1
              replace H := Option.bind_eq_some_iff.mp H
              obtain ⟨t494, A1340, H⟩ := H
              replace H : (if t494 < 0 then (some false) else (if t494 = t478 then (some true) else (some false))) = some r := H
              have A134 := Aside0.mk A1340
              clear A1340
              by_cases c135 : t494 < 0
              ·rw [if_pos c135] at H
               have c135b0 : decide (t494 < 0) = true := decide_eq_true c135
               clear c135
               obtain rfl := Option.some.inj H
               exact absurd HRT.out (by decide)
              ·rw [if_neg c135] at H
               have c135b0 : decide (t494 < 0) = false := decide_eq_false c135
               clear c135
               by_cases c136 : t494 = t478
               ·rw [if_pos c136] at H
                have c136b0 : (t494 == t478) = true := beq_iff_eq.mpr c136
                have c136b1 : (t494 != t478) = false := bne_eq_false_iff_eq.mpr c136
                clear c136
                obtain rfl := Option.some.inj H
                have hnb137 := NB468_441.out
                have hnc137 := NB441_468.out
                have hnb138 := NB468_442.out
                have hnc138 := NB442_468.out
                have hnb139 := NB468_455.out
                have hnc139 := NB455_468.out
                have hnb140 := NB468_460.out
                have hnc140 := NB460_468.out
                have hnb141 := NB468_492.out
                have hnc141 := NB492_468.out
                have hcz142_0 : wc.cell? ⟨gb468, 0, none⟩ = some (.int .i64 t463) := (blk_cell BK468.out 0).trans rfl
                have hcz142_1 : wc.cell? ⟨gb468, 1, none⟩ = some (.slice Ao49 t479.length co49) := (blk_cell BK468.out 1).trans rfl
                have hfz142_0 := blk_frozen BK468.out 0
                have hfz142_1 := blk_frozen BK468.out 1
                go_wp2_with (first | ((with_reducible refine gate_callee (f := 37) rfl ?_); refine goesL_ (some 103) rfl rfl Try.func37 (by kernel_rfl) rfl #[.agg #[.int .i64 t463, .slice Ao49 t479.length co49], .int .i64 1] rfl (by (try simp only [List.map_toArray, List.map_cons, List.map_nil]); first | done | rfl | (simp only [List.length_drop, List.length_take]; rfl)) ?_; (with_reducible refine (laws_heldGrid.calls kj99 t463 _ _ t479 1 t494 _ ?side1 ?side2 A134.out).mono ?_); (case side1 => repeat (first | exact (Kd.R_reads' HO_469001.out).2.2 | (with_reducible refine Kd.C_alloc ?_ _) | (with_reducible refine Kd.C_drewN ?_ _) | (with_reducible refine Kd.C_drew ?_))); (case side2 => exact (Kd.R_reads' HO_469001.out).2.1); rintro e w143 ⟨rfl, hb⟩; refine ⟨_, rfl, ?_⟩; have n0_ := Aside0.mk (Kd.R_below (kR HO_456001.out) hb); have n1_ := Aside0.mk (Kd.R_below (kR HO_461001.out) hb); have n2_ := Aside0.mk (Kd.R_below (kR HO_469001.out) hb); have n3_ := Aside0.mk (Kd.R_below (kR HO_493001.out) hb); have n4_ := Aside0.mk (blk_below (bK BK441.out) hb); have n5_ := Aside0.mk (blk_below (bK BK442.out) hb); have n6_ := Aside0.mk (blk_below (bK BK455.out) hb); have n7_ := Aside0.mk (blk_below (bK BK460.out) hb); have n8_ := Aside0.mk (blk_below (bK BK468.out) hb); have n9_ := Aside0.mk (blk_below (bK BK492.out) hb); have n10_ := Aside0.mk (below_step (by repeat (first | (with_reducible first | exact HB.out | apply below_alloc | apply pw_below_drewN | apply below_drew1 | refine below_set ?_ GE441.out | refine below_set ?_ GE442.out | refine below_set ?_ GE455.out | refine below_set ?_ GE460.out | refine below_set ?_ GE468.out | refine below_set ?_ GE492.out) | exact HB.out)) hb); clear HO_456001; clear HO_461001; clear HO_469001; clear HO_493001; clear BK441; clear BK442; clear BK455; clear BK460; clear BK468; clear BK492; clear HB; have HO_456001 := n0_; have HO_461001 := n1_; have HO_469001 := n2_; have HO_493001 := n3_; have BK441 := n4_; have BK442 := n5_; have BK455 := n6_; have BK460 := n7_; have BK468 := n8_; have BK492 := n9_; have HB := n10_; clear n0_ n1_ n2_ n3_ n4_ n5_ n6_ n7_ n8_ n9_ n10_; (try clear hb); (try clear hb2); (try clear hk); (try clear hi)))
                go_ret
                exact ⟨by first | rfl | (simp [errW_none, errW_some] <;> rfl) | (simp [*, errW_none, errW_some] <;> rfl), by repeat (first | (with_reducible first | exact HB.out | apply below_alloc | apply pw_below_drewN | apply below_drew1 | refine below_set ?_ GE441.out | refine below_set ?_ GE442.out | refine below_set ?_ GE455.out | refine below_set ?_ GE460.out | refine below_set ?_ GE468.out | refine below_set ?_ GE492.out) | exact HB.out)⟩
               ·rw [if_neg c136] at H
                have c136b0 : (t494 == t478) = false := beq_eq_false_iff_ne.mpr c136
                have c136b1 : (t494 != t478) = true := bne_iff_ne.mpr c136
                obtain rfl := Option.some.inj H
                exact absurd HRT.out (by decide)
          ·rw [if_neg c96] at H
           have c96b0 : (t480 == t478) = false := beq_eq_false_iff_ne.mpr c96
           have c96b1 : (t480 != t478) = true := bne_iff_ne.mpr c96
           obtain rfl := Option.some.inj H
           exact absurd HRT.out (by decide)
     ·replace c66 := Bool.eq_false_iff.mpr c66
      subst c66
      have H1 : (some false) = some r := by rw [if_neg (show ¬ (false = true) by decide)] at H; exact H
      clear H
      have H := H1
      clear H1
      obtain rfl := Option.some.inj H
      exact absurd HRT.out (by decide)

end Go.Proofs.Ytniaipoelaefnaa.P
