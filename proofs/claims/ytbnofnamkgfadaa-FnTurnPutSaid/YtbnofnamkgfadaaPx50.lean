/- PROVED: contracts of functions of the program, the reference and the statements; written by this session's driver (pk.py) through its own changed copy of the kit's print. No condition. -/
import Derived.Test.YtbnofnamkgfadaaPx0
import Derived.Test.YtbnofnamkgfadaaPx17
import Derived.Test.YtbnofnamkgfadaaPx34
import Derived.Test.YtbnofnamkgfadaaPx42
import Derived.Test.YtbnofnamkgfadaaPx45
import Derived.Test.YtbnofnamkgfadaaH3Flip
import Derived.Test.YtbnofnamkgfadaaH3Turn
namespace Go.Proofs.Ytbnofnamkgfadaa.P
open Go.RowKit Go.Proofs.YtbnofnamkgfadaaW.PrintWords Go.Proofs.YtbnofnamkgfadaaW.PrintLast Go.Proofs.YtbnofnamkgfadaaW.PrintMore
attribute [local go_sem] max2_int min2_int max_two min_two max_three min_three max_four min_four   -- for this text's walks alone
set_option linter.unusedVariables false
set_option linter.unusedSimpArgs false

/-! ### laws_FnTurnPut: function 8 -/
def laws_FnTurnPut.j0 : Nat → Int → Bool → Bool → Bool → Int → List (S24) → Int → Int → Int → List (S24) → Int → List (S24) → Option (Bool)
 | 0, _, _, _, _, _, _, _, _, _, _, _, _ => none
 | k + 1, x4, x7, x9, x67, x544000, x544001, x545000, x545001, x551000, x551001, x557000, x557001 => if x67 = true then (if (x9 == x7) = true then ((laws_llGrid.f k x557000 x557001 x551000 x551001).bind fun t558 => (some t558)) else (some false)) else (if x544000 = 0 then (none) else ((impl_GridTurn.f x544000 x544001).bind fun bt559 => ((impl_GridPut.f k bt559.1 bt559.2 (wrap64 ((wrap64 ((wrap64 ((wrap64 ((Int.tmod x4 x544000) * (wrap64 ((x544001.length : Int) / x544000)))) + (wrap64 ((x544001.length : Int) / x544000)))) - 1)) - (wrap64 (Int.tdiv x4 x544000)))) x545000 x545001).bind fun bt563 => ((impl_GridFlip.f x544000 x544001).bind fun bt569 => ((impl_GridPut.f k bt569.1 bt569.2 (wrap64 ((wrap64 ((wrap64 ((wrap64 ((wrap64 (Int.tdiv x4 x544000)) * x544000)) + x544000)) - 1)) - (Int.tmod x4 x544000))) x545000 x545001).bind fun bt573 => (if bt563.2.2 = true then (if bt573.2.2 = true then ((impl_GridTurn.f x557000 x557001).bind fun bt579 => ((laws_llGrid.f k bt579.1 bt579.2 bt563.1 bt563.2.1).bind fun t583 => (if t583 = true then ((impl_GridFlip.f x557000 x557001).bind fun bt584 => ((laws_llGrid.f k bt584.1 bt584.2 bt573.1 bt573.2.1).bind fun t588 => (some t588))) else (some false)))) else (some false)) else (some false)))))))
def laws_FnTurnPut.f (k : Nat) (l0 : List Int) : Option (Bool) := if (l0.length : Int) > 1048576 then (some true) else ((spec_DrawGridPut.f k l0).bind fun bt536 => ((spec_GridPut.f k bt536.1 bt536.2.1 bt536.2.2.1 bt536.2.2.2.1 bt536.2.2.2.2).bind fun bt545 => ((impl_GridPut.f k bt536.1 bt536.2.1 bt536.2.2.1 bt536.2.2.2.1 bt536.2.2.2.2).bind fun bt551 => (if (bt551.2.2 != bt545.2.2) = true then (laws_FnTurnPut.j0 k bt536.2.2.1 bt545.2.2 bt551.2.2 true bt536.1 bt536.2.1 bt536.2.2.2.1 bt536.2.2.2.2 bt545.1 bt545.2.1 bt551.1 bt551.2.1) else ((laws_llGrid.f k bt551.1 bt551.2.1 bt545.1 bt545.2.1).bind fun t557 => (if t557 = true then (if bt551.2.2 = true then (if bt536.2.2.2.1 = 0 then (laws_FnTurnPut.j0 k bt536.2.2.1 bt545.2.2 bt551.2.2 false bt536.1 bt536.2.1 bt536.2.2.2.1 bt536.2.2.2.2 bt545.1 bt545.2.1 bt551.1 bt551.2.1) else (if bt536.2.2.2.1 = 1 then (laws_FnTurnPut.j0 k bt536.2.2.1 bt545.2.2 bt551.2.2 false bt536.1 bt536.2.1 bt536.2.2.2.1 bt536.2.2.2.2 bt545.1 bt545.2.1 bt551.1 bt551.2.1) else (laws_FnTurnPut.j0 k bt536.2.2.1 bt545.2.2 bt551.2.2 (decide (bt536.2.2.2.1 < 6)) bt536.1 bt536.2.1 bt536.2.2.2.1 bt536.2.2.2.2 bt545.1 bt545.2.1 bt551.1 bt551.2.1))) else (laws_FnTurnPut.j0 k bt536.2.2.1 bt545.2.2 bt551.2.2 true bt536.1 bt536.2.1 bt536.2.2.2.1 bt536.2.2.2.2 bt545.1 bt545.2.1 bt551.1 bt551.2.1)) else (laws_FnTurnPut.j0 k bt536.2.2.1 bt545.2.2 bt551.2.2 true bt536.1 bt536.2.1 bt536.2.2.2.1 bt536.2.2.2.2 bt545.1 bt545.2.1 bt551.1 bt551.2.1)))))))
def laws_FnTurnPut.T11 : Bool × List (List Nat × List Nat) := (true, [([], []), ([0], [0]), ([], []), ([], []), ([2, 3], [2, 3]), ([], []), ([4, 5], [4, 5]), ([6], [6]), ([], []), ([7, 8], [7, 8]), ([], []), ([1, 9, 10, 1], [1, 9, 10]), ([11], [11]), ([12], [12]), ([12], [12]), ([], []), ([15, 13, 11, 0, 1, 2, 3, 4, 5, 6, 7, 8, 9, 10, 11, 12, 13, 15], [13, 15]), ([14, 16, 0, 1, 2, 3, 4, 5, 6, 7, 8, 9, 10, 11, 12, 13, 14, 15, 16], [14])])
def laws_FnTurnPut.B11 : List Nat := [0, 1, 0, 0, 12, 0, 60, 124, 0, 508, 0, 2047, 4095, 8191, 8191, 0, 49151, 131071]
theorem laws_FnTurnPut.tab11 : rtab .any (opsOf Try.f8 11) = laws_FnTurnPut.T11 := by kernel_rfl
theorem laws_FnTurnPut.bits11 : waitsOk laws_FnTurnPut.T11.2 laws_FnTurnPut.B11 = true := by kernel_rfl
def laws_FnTurnPut.T12 : Bool × List (List Nat × List Nat) := (true, [([], []), ([0], [0]), ([], []), ([], []), ([3], [3]), ([2, 4], [2, 4]), ([], []), ([6], [6]), ([5, 7], [5, 7]), ([8], [8]), ([], []), ([9, 10], [9, 10]), ([], []), ([1, 11, 12, 1], [1, 11, 12]), ([13], [13]), ([14], [14]), ([14], [14]), ([], []), ([17, 15, 13, 0, 1, 2, 3, 4, 5, 6, 7, 8, 9, 10, 11, 12, 13, 14, 15, 17], [15, 17]), ([16, 18, 0, 1, 2, 3, 4, 5, 6, 7, 8, 9, 10, 11, 12, 13, 14, 15, 16, 17, 18], [16])])
def laws_FnTurnPut.B12 : List Nat := [0, 1, 0, 0, 8, 28, 0, 64, 252, 508, 0, 2044, 0, 8191, 16383, 32767, 32767, 0, 196607, 524287]
theorem laws_FnTurnPut.tab12 : rtab .any (opsOf Try.f8 12) = laws_FnTurnPut.T12 := by kernel_rfl
theorem laws_FnTurnPut.bits12 : waitsOk laws_FnTurnPut.T12.2 laws_FnTurnPut.B12 = true := by kernel_rfl
def laws_FnTurnPut.T13 : Bool × List (List Nat × List Nat) := (true, [([], []), ([0], [0]), ([1], [1]), ([1, 2], [1, 2]), ([3, 1], [3]), ([4], [4]), ([5, 4, 4], [4, 5]), ([4], [4]), ([6, 7, 6, 4], [4, 6, 7]), ([4, 8], [4, 8]), ([9, 8], [9]), ([10], [10]), ([11, 10, 10], [10, 11]), ([10], [10]), ([12, 13, 12, 10], [10, 12, 13]), ([10, 14], [10, 14]), ([15, 14, 0, 1, 2, 3, 4, 5, 6, 7, 8, 9, 10, 11, 12, 13, 14, 15], [15])])
def laws_FnTurnPut.B13 : List Nat := [0, 1, 3, 7, 15, 31, 63, 31, 255, 511, 1023, 2047, 4095, 2047, 16383, 32767, 65535]
theorem laws_FnTurnPut.tab13 : rtab .any (opsOf Try.f8 13) = laws_FnTurnPut.T13 := by kernel_rfl
theorem laws_FnTurnPut.bits13 : waitsOk laws_FnTurnPut.T13.2 laws_FnTurnPut.B13 = true := by kernel_rfl
set_option maxHeartbeats 8000000 in
set_option maxRecDepth 100000 in
theorem laws_FnTurnPut.calls (k : Nat) (A0 : Option Addr) (c0 : Nat) (l0 : List Int) (r : Bool) (w : World) (hr0 : Kd.C (Kd.int .u8) w A0 l0.length l0) (hc0 : l0.length ≤ c0) (h : laws_FnTurnPut.f k l0 = some r) (hrt : r = true) :
  Calls Try.prog 8 #[.slice A0 l0.length c0] w fun e w' => e = .returned (.bool r) ∧ Below w.heap.size w w' := by
 have HRT := Aside0.mk hrt
 clear hrt
 have hu30 := Try.underlying30
 have hu24 := Try.underlying24
 have HR0 := Aside0.mk hr0
 have HC0 := Aside0.mk hc0
 clear hr0 hc0
 have HB := Aside0.mk (Below.refl w.heap.size w)
 have H : (if (l0.length : Int) > 1048576 then (some true) else ((spec_DrawGridPut.f k l0).bind fun bt536 => ((spec_GridPut.f k bt536.1 bt536.2.1 bt536.2.2.1 bt536.2.2.2.1 bt536.2.2.2.2).bind fun bt545 => ((impl_GridPut.f k bt536.1 bt536.2.1 bt536.2.2.1 bt536.2.2.2.1 bt536.2.2.2.2).bind fun bt551 => (if (bt551.2.2 != bt545.2.2) = true then (laws_FnTurnPut.j0 k bt536.2.2.1 bt545.2.2 bt551.2.2 true bt536.1 bt536.2.1 bt536.2.2.2.1 bt536.2.2.2.2 bt545.1 bt545.2.1 bt551.1 bt551.2.1) else ((laws_llGrid.f k bt551.1 bt551.2.1 bt545.1 bt545.2.1).bind fun t557 => (if t557 = true then (if bt551.2.2 = true then (if bt536.2.2.2.1 = 0 then (laws_FnTurnPut.j0 k bt536.2.2.1 bt545.2.2 bt551.2.2 false bt536.1 bt536.2.1 bt536.2.2.2.1 bt536.2.2.2.2 bt545.1 bt545.2.1 bt551.1 bt551.2.1) else (if bt536.2.2.2.1 = 1 then (laws_FnTurnPut.j0 k bt536.2.2.1 bt545.2.2 bt551.2.2 false bt536.1 bt536.2.1 bt536.2.2.2.1 bt536.2.2.2.2 bt545.1 bt545.2.1 bt551.1 bt551.2.1) else (laws_FnTurnPut.j0 k bt536.2.2.1 bt545.2.2 bt551.2.2 (decide (bt536.2.2.2.1 < 6)) bt536.1 bt536.2.1 bt536.2.2.2.1 bt536.2.2.2.2 bt545.1 bt545.2.1 bt551.1 bt551.2.1))) else (laws_FnTurnPut.j0 k bt536.2.2.1 bt545.2.2 bt551.2.2 true bt536.1 bt536.2.1 bt536.2.2.2.1 bt536.2.2.2.2 bt545.1 bt545.2.1 bt551.1 bt551.2.1)) else (laws_FnTurnPut.j0 k bt536.2.2.1 bt545.2.2 bt551.2.2 true bt536.1 bt536.2.1 bt536.2.2.2.1 bt536.2.2.2.2 bt545.1 bt545.2.1 bt551.1 bt551.2.1)))))))) = some r := h
 clear h
 by_cases c2 : (l0.length : Int) > 1048576
 ·rw [if_pos c2] at H
  have c2b0 : decide (1048576 < (l0.length : Int)) = true := decide_eq_true c2
  have c2b1 : decide (1048576 < l0.length) = true := decide_eq_true (by omega)
  clear c2
  obtain rfl := Option.some.inj H
  go_enter Try.func8, Try.ntmps8
  go_wp2
  go_ret
  exact ⟨by first | rfl | (simp [errW_none, errW_some] <;> rfl) | (simp [*, errW_none, errW_some] <;> rfl) | (exfalso; simp_all; done), by repeat first | exact HB.out | apply below_alloc | apply pw_below_drewN⟩
 ·rw [if_neg c2] at H
  have c2b0 : decide (1048576 < (l0.length : Int)) = false := decide_eq_false c2
  have c2b1 : decide (1048576 < l0.length) = false := decide_eq_false (by omega)
  clear c2
  replace H := Option.bind_eq_some_iff.mp H
  obtain ⟨⟨t536, t537, t540, t541, t542⟩, A30, H⟩ := H
  replace H : ((spec_GridPut.f k t536 t537 t540 t541 t542).bind fun bt545 => ((impl_GridPut.f k t536 t537 t540 t541 t542).bind fun bt551 => (if (bt551.2.2 != bt545.2.2) = true then (laws_FnTurnPut.j0 k t540 bt545.2.2 bt551.2.2 true t536 t537 t541 t542 bt545.1 bt545.2.1 bt551.1 bt551.2.1) else ((laws_llGrid.f k bt551.1 bt551.2.1 bt545.1 bt545.2.1).bind fun t557 => (if t557 = true then (if bt551.2.2 = true then (if t541 = 0 then (laws_FnTurnPut.j0 k t540 bt545.2.2 bt551.2.2 false t536 t537 t541 t542 bt545.1 bt545.2.1 bt551.1 bt551.2.1) else (if t541 = 1 then (laws_FnTurnPut.j0 k t540 bt545.2.2 bt551.2.2 false t536 t537 t541 t542 bt545.1 bt545.2.1 bt551.1 bt551.2.1) else (laws_FnTurnPut.j0 k t540 bt545.2.2 bt551.2.2 (decide (t541 < 6)) t536 t537 t541 t542 bt545.1 bt545.2.1 bt551.1 bt551.2.1))) else (laws_FnTurnPut.j0 k t540 bt545.2.2 bt551.2.2 true t536 t537 t541 t542 bt545.1 bt545.2.1 bt551.1 bt551.2.1)) else (laws_FnTurnPut.j0 k t540 bt545.2.2 bt551.2.2 true t536 t537 t541 t542 bt545.1 bt545.2.1 bt551.1 bt551.2.1)))))) = some r := H
  have A3 := Aside0.mk A30
  clear A30
  replace H := Option.bind_eq_some_iff.mp H
  obtain ⟨⟨t545, t546, t549⟩, A40, H⟩ := H
  replace H : ((impl_GridPut.f k t536 t537 t540 t541 t542).bind fun bt551 => (if (bt551.2.2 != t549) = true then (laws_FnTurnPut.j0 k t540 t549 bt551.2.2 true t536 t537 t541 t542 t545 t546 bt551.1 bt551.2.1) else ((laws_llGrid.f k bt551.1 bt551.2.1 t545 t546).bind fun t557 => (if t557 = true then (if bt551.2.2 = true then (if t541 = 0 then (laws_FnTurnPut.j0 k t540 t549 bt551.2.2 false t536 t537 t541 t542 t545 t546 bt551.1 bt551.2.1) else (if t541 = 1 then (laws_FnTurnPut.j0 k t540 t549 bt551.2.2 false t536 t537 t541 t542 t545 t546 bt551.1 bt551.2.1) else (laws_FnTurnPut.j0 k t540 t549 bt551.2.2 (decide (t541 < 6)) t536 t537 t541 t542 t545 t546 bt551.1 bt551.2.1))) else (laws_FnTurnPut.j0 k t540 t549 bt551.2.2 true t536 t537 t541 t542 t545 t546 bt551.1 bt551.2.1)) else (laws_FnTurnPut.j0 k t540 t549 bt551.2.2 true t536 t537 t541 t542 t545 t546 bt551.1 bt551.2.1))))) = some r := H
  have A4 := Aside0.mk A40
  clear A40
  replace H := Option.bind_eq_some_iff.mp H
  obtain ⟨⟨t551, t552, t555⟩, A50, H⟩ := H
  replace H : (if (t555 != t549) = true then (laws_FnTurnPut.j0 k t540 t549 t555 true t536 t537 t541 t542 t545 t546 t551 t552) else ((laws_llGrid.f k t551 t552 t545 t546).bind fun t557 => (if t557 = true then (if t555 = true then (if t541 = 0 then (laws_FnTurnPut.j0 k t540 t549 t555 false t536 t537 t541 t542 t545 t546 t551 t552) else (if t541 = 1 then (laws_FnTurnPut.j0 k t540 t549 t555 false t536 t537 t541 t542 t545 t546 t551 t552) else (laws_FnTurnPut.j0 k t540 t549 t555 (decide (t541 < 6)) t536 t537 t541 t542 t545 t546 t551 t552))) else (laws_FnTurnPut.j0 k t540 t549 t555 true t536 t537 t541 t542 t545 t546 t551 t552)) else (laws_FnTurnPut.j0 k t540 t549 t555 true t536 t537 t541 t542 t545 t546 t551 t552)))) = some r := H
  have A5 := Aside0.mk A50
  clear A50
  have HC6 := Aside0.mk H
  clear H
  go_enter Try.func8, Try.ntmps8
  go_upto_region 6 with (first | ((with_reducible refine gate_callee (f := 34) rfl ?_); refine goesL_ (some 22) rfl rfl Try.func34 (by kernel_rfl) rfl #[.slice A0 l0.length c0] rfl (by first | rfl | (simp only [List.map_toArray, List.map_cons, List.map_nil, List.length_drop, List.length_take]; try rfl)) ?_; (with_reducible refine (spec_DrawGridPut.calls k _ _ l0 t536 t537 t540 t541 t542 _ ?side1 ?side2 A3.out).mono ?_); (case side1 => repeat (first | exact HR0.out | (with_reducible refine Kd.C_alloc ?_ _) | (with_reducible refine Kd.C_drewN ?_ _) | (with_reducible refine Kd.C_drew ?_))); (case side2 => exact HC0.out); rintro e w7 ⟨v538, rfl, ho0, hb⟩; refine ⟨_, rfl, ?_⟩; have n0_ := Aside0.mk (Kd.Q_lower ho0 (below_size (by repeat first | exact HB.out | apply below_alloc | apply pw_below_drewN))); have n1_ := Aside0.mk (below_step (by repeat first | exact HB.out | apply below_alloc | apply pw_below_drewN) hb); clear HB; have HO539 := n0_; have HB := n1_; clear n0_ n1_; (try clear hb); (try clear hb2); (try clear hk); (try clear hi); (try clear ho0)) | ((with_reducible refine gate_dst (N := 3) rfl ?_); refine box_event rfl (N := 3) rfl (cs := #[.int .i64 0, .slice none 0 0]) (t := 30) ?hr ?_; (case hr => first | (go_simp; done) | (go_simp; rfl)); intro gb543 hg w8 hbox hb; have n0_ := Aside0.mk (Kd.Q_below (by (with_reducible repeat apply Kd.Q_alloc); exact HO539.out) hb); have n1_ := Aside0.mk (below_step (by repeat first | exact HB.out | apply below_alloc | apply pw_below_drewN) hb); have n2_ := Aside0.mk (hbox); have n3_ := Aside0.mk ((by rw [hg]; exact (below_size (by repeat first | exact HB.out | apply below_alloc | apply pw_below_drewN)) : w.heap.size ≤ gb543)); have n4_ := Aside0.mk ((by rw [hg]; exact (below_size (by repeat first | exact HB.out | apply below_alloc | apply pw_below_drewN)) : w.heap.size ≤ gb543)); clear HO539; clear HB; have HO539 := n0_; have HB := n1_; have BK543 := n2_; have GW543 := n3_; have GE543 := n4_; clear n0_ n1_ n2_ n3_ n4_; clear hb hbox hg) | ((with_reducible refine gate_dst (N := 5) rfl ?_); refine box_event rfl (N := 5) rfl (cs := #[.int .i64 0, .int .i64 0]) (t := 24) ?hr ?_; (case hr => first | (go_simp; done) | (go_simp; rfl)); intro gb544 hg w9 hbox hb; have n0_ := Aside0.mk (Kd.Q_below (Kd.Q_elderB (by (with_reducible repeat apply Kd.Q_alloc); exact HO539.out) gb544 (Nat.le_of_eq hg.symm)) hb); have n1_ := Aside0.mk (blk_below (bK BK543.out) hb); have n2_ := Aside0.mk (below_step (by repeat first | exact HB.out | with_reducible refine below_setA ?_ ‹_› | apply below_alloc | apply pw_below_drewN) hb); have n3_ := Aside0.mk (hbox); have n4_ := Aside0.mk ((by rw [hg]; exact (below_size (by repeat first | exact HB.out | with_reducible refine below_setA ?_ ‹_› | apply below_alloc | apply pw_below_drewN)) : w.heap.size ≤ gb544)); have n5_ := Aside0.mk ((by rw [hg]; exact (below_size (by repeat first | exact HB.out | with_reducible refine below_setA ?_ ‹_› | apply below_alloc | apply pw_below_drewN)) : w.heap.size ≤ gb544)); have n6_ := Aside0.mk ((by rw [hg]; exact Nat.ne_of_lt (blk_lt (bK BK543.out)) : gb543 ≠ gb544)); have n7_ := Aside0.mk ((by rw [hg]; exact Nat.ne_of_gt (blk_lt (bK BK543.out)) : gb544 ≠ gb543)); clear HO539; clear BK543; clear HB; have HO539 := n0_; have BK543 := n1_; have HB := n2_; have BK544 := n3_; have GW544 := n4_; have GE544 := n5_; have NB543_544 := n6_; have NB544_543 := n7_; clear n0_ n1_ n2_ n3_ n4_ n5_ n6_ n7_; clear hb hbox hg; have hnb10 := NB543_544.out; have hnc10 := NB544_543.out; have hcz11_0 : w9.cell? ⟨gb543, 0, none⟩ = some (.int .i64 0) := (blk_cell BK543.out 0).trans rfl; have hcz11_1 : w9.cell? ⟨gb543, 1, none⟩ = some (.slice none 0 0) := (blk_cell BK543.out 1).trans rfl; have hfz11_0 := blk_frozen BK543.out 0; have hfz11_1 := blk_frozen BK543.out 1; obtain ⟨Ao12, co12, eo12, _⟩ := Kd.Q_slice HO539.out; subst eo12; have hcz13_0 : w9.cell? ⟨gb544, 0, none⟩ = some (.int .i64 0) := (blk_cell BK544.out 0).trans rfl; have hcz13_1 : w9.cell? ⟨gb544, 1, none⟩ = some (.int .i64 0) := (blk_cell BK544.out 1).trans rfl; have hfz13_0 := blk_frozen BK544.out 0; have hfz13_1 := blk_frozen BK544.out 1) | ((with_reducible refine gate_callee (f := 35) rfl ?_); refine goesL_ (some 30) rfl rfl Try.func35 (by kernel_rfl) rfl #[.agg #[.int .i64 t536, .slice Ao12 t537.length co12], .int .i64 t540, .agg #[.int .i64 t541, .int .i64 t542]] rfl (by first | rfl | (simp only [List.map_toArray, List.map_cons, List.map_nil, List.length_drop, List.length_take]; try rfl)) ?_; (with_reducible refine (spec_GridPut.calls k t536 _ _ t537 t540 t541 t542 t545 t546 t549 _ ?side1 ?side2 A4.out).mono ?_); (case side1 => refine (Kd.Q_reads' (e := 24) (base := w.heap.size) (ok := fun k_ => (True ∧ k_ ≠ gb544)) (n := t537.length) (c := co12) ?_).2.2; exact (by (with_reducible repeat apply Kd.Q_alloc); exact (Kd.Q_mono (Kd.Q_mono (Kd.Q_far (p := ⟨gb544, 1, none⟩) (Kd.Q_far (p := ⟨gb544, 0, none⟩) (Kd.Q_far (p := ⟨gb543, 1, none⟩) (Kd.Q_far (p := ⟨gb543, 0, none⟩) (Kd.Q_mono (Kd.Q_types HO539.out BK543.out (by decide)) (fun k_ hk => (⟨hk, hk.1.2⟩ : _ ∧ k_ ≠ gb544))) (fun _ hk => hk.1.2) (.int .i64 t536)) (fun _ hk => hk.1.2) (.slice Ao12 t537.length co12)) (fun _ hk => hk.2) (.int .i64 t541)) (fun _ hk => hk.2) (.int .i64 t542)) (fun _ h_ => h_.1)) (fun _ h_ => h_.1)))); (case side2 => exact (Kd.Q_reads' HO539.out).2.1); rintro e w14 ⟨v547, rfl, ho0, hb⟩; refine ⟨_, rfl, ?_⟩; have n0_ := Aside0.mk (Kd.Q_elder' (by (with_reducible repeat apply Kd.Q_alloc); exact (Kd.Q_mono (Kd.Q_mono (Kd.Q_far (p := ⟨gb544, 1, none⟩) (Kd.Q_far (p := ⟨gb544, 0, none⟩) (Kd.Q_far (p := ⟨gb543, 1, none⟩) (Kd.Q_far (p := ⟨gb543, 0, none⟩) (Kd.Q_mono (Kd.Q_types HO539.out BK543.out (by decide)) (fun k_ hk => (⟨hk, hk.1.2⟩ : _ ∧ k_ ≠ gb544))) (fun _ hk => hk.1.2) (.int .i64 t536)) (fun _ hk => hk.1.2) (.slice Ao12 t537.length co12)) (fun _ hk => hk.2) (.int .i64 t541)) (fun _ hk => hk.2) (.int .i64 t542)) (fun _ h_ => h_.1)) (fun _ h_ => h_.1))) (Kd.R_base ho0) hb); have n1_ := Aside0.mk (Kd.R_lower (Kd.R_newB (Kd.R_new' ho0 (Kd.Q_lt (by (with_reducible repeat apply Kd.Q_alloc); exact (Kd.Q_mono (Kd.Q_mono (Kd.Q_far (p := ⟨gb544, 1, none⟩) (Kd.Q_far (p := ⟨gb544, 0, none⟩) (Kd.Q_far (p := ⟨gb543, 1, none⟩) (Kd.Q_far (p := ⟨gb543, 0, none⟩) (Kd.Q_mono (Kd.Q_types HO539.out BK543.out (by decide)) (fun k_ hk => (⟨hk, hk.1.2⟩ : _ ∧ k_ ≠ gb544))) (fun _ hk => hk.1.2) (.int .i64 t536)) (fun _ hk => hk.1.2) (.slice Ao12 t537.length co12)) (fun _ hk => hk.2) (.int .i64 t541)) (fun _ hk => hk.2) (.int .i64 t542)) (fun _ h_ => h_.1)) (fun _ h_ => h_.1))))) (g := gb544) (o := .cells #[.int .i64 t541, .int .i64 t542] 24 (0, 0)) (by (with_reducible repeat apply blk_alloc); refine blk_put (cs := #[.int .i64 t541, .int .i64 0]) ?_ 1 _ rfl; (with_reducible repeat apply blk_alloc); refine blk_put (cs := #[.int .i64 0, .int .i64 0]) ?_ 0 _ rfl; (with_reducible repeat apply blk_alloc); refine blk_far ?_ NB544_543.out _; (with_reducible repeat apply blk_alloc); refine blk_far ?_ NB544_543.out _; (with_reducible repeat apply blk_alloc); exact BK544.out)) (below_size (by repeat first | exact HB.out | with_reducible refine below_setA ?_ ‹_› | apply below_alloc | apply pw_below_drewN))); have n2_ := Aside0.mk (blk_below (g := gb543) (o := .cells #[.int .i64 t536, .slice Ao12 t537.length co12] 30 (0, 0)) (by (with_reducible repeat apply blk_alloc); refine blk_far ?_ NB543_544.out _; (with_reducible repeat apply blk_alloc); refine blk_far ?_ NB543_544.out _; (with_reducible repeat apply blk_alloc); refine blk_put (cs := #[.int .i64 t536, .slice none 0 0]) ?_ 1 _ rfl; (with_reducible repeat apply blk_alloc); refine blk_put (cs := #[.int .i64 0, .slice none 0 0]) ?_ 0 _ rfl; (with_reducible repeat apply blk_alloc); exact BK543.out) hb); have n3_ := Aside0.mk (blk_below (g := gb544) (o := .cells #[.int .i64 t541, .int .i64 t542] 24 (0, 0)) (by (with_reducible repeat apply blk_alloc); refine blk_put (cs := #[.int .i64 t541, .int .i64 0]) ?_ 1 _ rfl; (with_reducible repeat apply blk_alloc); refine blk_put (cs := #[.int .i64 0, .int .i64 0]) ?_ 0 _ rfl; (with_reducible repeat apply blk_alloc); refine blk_far ?_ NB544_543.out _; (with_reducible repeat apply blk_alloc); refine blk_far ?_ NB544_543.out _; (with_reducible repeat apply blk_alloc); exact BK544.out) hb); have n4_ := Aside0.mk (below_step (by repeat first | exact HB.out | with_reducible refine below_setA ?_ ‹_› | apply below_alloc | apply pw_below_drewN) hb); clear HO539; clear BK543; clear BK544; clear HB; have HO539 := n0_; have HO548 := n1_; have BK543 := n2_; have BK544 := n3_; have HB := n4_; clear n0_ n1_ n2_ n3_ n4_; (try clear hb); (try clear hb2); (try clear hk); (try clear hi); (try clear ho0)) | ((with_reducible refine gate_dst (N := 6) rfl ?_); refine box_event rfl (N := 6) rfl (cs := #[.int .i64 0, .slice none 0 0]) (t := 30) ?hr ?_; (case hr => first | (go_simp; done) | (go_simp; rfl)); intro gb550 hg w15 hbox hb; have n0_ := Aside0.mk (Kd.Q_below (by (with_reducible repeat apply Kd.Q_alloc); exact HO539.out) hb); have n1_ := Aside0.mk (Kd.R_below (kR HO548.out) hb); have n2_ := Aside0.mk (blk_below (bK BK543.out) hb); have n3_ := Aside0.mk (blk_below (bK BK544.out) hb); have n4_ := Aside0.mk (below_step (by repeat first | exact HB.out | with_reducible refine below_setA ?_ ‹_› | apply below_alloc | apply pw_below_drewN) hb); have n5_ := Aside0.mk (hbox); have n6_ := Aside0.mk ((by rw [hg]; exact (below_size (by repeat first | exact HB.out | with_reducible refine below_setA ?_ ‹_› | apply below_alloc | apply pw_below_drewN)) : w.heap.size ≤ gb550)); have n7_ := Aside0.mk ((by rw [hg]; exact (below_size (by repeat first | exact HB.out | with_reducible refine below_setA ?_ ‹_› | apply below_alloc | apply pw_below_drewN)) : w.heap.size ≤ gb550)); have n8_ := Aside0.mk ((by rw [hg]; exact Nat.ne_of_lt (blk_lt (bK BK543.out)) : gb543 ≠ gb550)); have n9_ := Aside0.mk ((by rw [hg]; exact Nat.ne_of_gt (blk_lt (bK BK543.out)) : gb550 ≠ gb543)); have n10_ := Aside0.mk ((by rw [hg]; exact Nat.ne_of_lt (blk_lt (bK BK544.out)) : gb544 ≠ gb550)); have n11_ := Aside0.mk ((by rw [hg]; exact Nat.ne_of_gt (blk_lt (bK BK544.out)) : gb550 ≠ gb544)); clear HO539; clear HO548; clear BK543; clear BK544; clear HB; have HO539 := n0_; have HO548 := n1_; have BK543 := n2_; have BK544 := n3_; have HB := n4_; have BK550 := n5_; have GW550 := n6_; have GE550 := n7_; have NB543_550 := n8_; have NB550_543 := n9_; have NB544_550 := n10_; have NB550_544 := n11_; clear n0_ n1_ n2_ n3_ n4_ n5_ n6_ n7_ n8_ n9_ n10_ n11_; clear hb hbox hg; have hnb16 := NB550_543.out; have hnc16 := NB543_550.out; have hnb17 := NB550_544.out; have hnc17 := NB544_550.out; have hcz18_0 : w15.cell? ⟨gb550, 0, none⟩ = some (.int .i64 0) := (blk_cell BK550.out 0).trans rfl; have hcz18_1 : w15.cell? ⟨gb550, 1, none⟩ = some (.slice none 0 0) := (blk_cell BK550.out 1).trans rfl; have hfz18_0 := blk_frozen BK550.out 0; have hfz18_1 := blk_frozen BK550.out 1; obtain ⟨Ao19, co19, eo19⟩ := Kd.R_slice HO548.out; subst eo19; have hcz20_0 : w15.cell? ⟨gb543, 0, none⟩ = some (.int .i64 t536) := (blk_cell BK543.out 0).trans rfl; have hcz20_1 : w15.cell? ⟨gb543, 1, none⟩ = some (.slice Ao12 t537.length co12) := (blk_cell BK543.out 1).trans rfl; have hfz20_0 := blk_frozen BK543.out 0; have hfz20_1 := blk_frozen BK543.out 1; have hcz21_0 : w15.cell? ⟨gb544, 0, none⟩ = some (.int .i64 t541) := (blk_cell BK544.out 0).trans rfl; have hcz21_1 : w15.cell? ⟨gb544, 1, none⟩ = some (.int .i64 t542) := (blk_cell BK544.out 1).trans rfl; have hfz21_0 := blk_frozen BK544.out 0; have hfz21_1 := blk_frozen BK544.out 1) | ((with_reducible refine gate_callee (f := 36) rfl ?_); refine goesL_ (some 37) rfl rfl Try.func36 (by kernel_rfl) rfl #[.agg #[.int .i64 t536, .slice Ao12 t537.length co12], .int .i64 t540, .agg #[.int .i64 t541, .int .i64 t542]] rfl (by first | rfl | (simp only [List.map_toArray, List.map_cons, List.map_nil, List.length_drop, List.length_take]; try rfl)) ?_; (with_reducible refine (impl_GridPut.calls k t536 _ _ t537 t540 t541 t542 t551 t552 t555 _ ?side1 ?side2 A5.out).mono ?_); (case side1 => refine (Kd.Q_reads' (e := 24) (base := w.heap.size) (ok := fun k_ => ((True ∧ k_ ≠ gb544) ∧ some k_ ≠ (.slice Ao19 t546.length co19 : Value).ownBlock)) (n := t537.length) (c := co12) ?_).2.2; exact (by (with_reducible repeat apply Kd.Q_alloc); exact (Kd.Q_mono (Kd.Q_far (p := ⟨gb550, 1, none⟩) (Kd.Q_far (p := ⟨gb550, 0, none⟩) (Kd.Q_types HO539.out BK550.out (by decide)) (fun _ hk => hk.2) (.int .i64 t545)) (fun _ hk => hk.2) (.slice Ao19 t546.length co19)) (fun _ h_ => h_.1)))); (case side2 => exact (Kd.Q_reads' HO539.out).2.1); rintro e w22 ⟨v553, rfl, ho0, hb⟩; refine ⟨_, rfl, ?_⟩; have n0_ := Aside0.mk (Kd.Q_elder' (by (with_reducible repeat apply Kd.Q_alloc); exact (Kd.Q_mono (Kd.Q_far (p := ⟨gb550, 1, none⟩) (Kd.Q_far (p := ⟨gb550, 0, none⟩) (Kd.Q_types HO539.out BK550.out (by decide)) (fun _ hk => hk.2) (.int .i64 t545)) (fun _ hk => hk.2) (.slice Ao19 t546.length co19)) (fun _ h_ => h_.1))) (Kd.R_base ho0) hb); have n1_ := Aside0.mk (Kd.R_elder' (by (with_reducible repeat apply Kd.R_alloc); exact (Kd.R_mono (Kd.R_far (p := ⟨gb550, 1, none⟩) (Kd.R_far (p := ⟨gb550, 0, none⟩) (Kd.R_types HO548.out BK550.out (by decide)) (fun _ hk => hk.2) (.int .i64 t545)) (fun _ hk => hk.2) (.slice Ao19 t546.length co19)) (fun _ h_ => h_.1))) (Kd.R_base ho0) hb); have n2_ := Aside0.mk (Kd.R_lower (Kd.R_newB (Kd.R_new' (Kd.R_new' ho0 (Kd.Q_lt (by (with_reducible repeat apply Kd.Q_alloc); exact (Kd.Q_mono (Kd.Q_far (p := ⟨gb550, 1, none⟩) (Kd.Q_far (p := ⟨gb550, 0, none⟩) (Kd.Q_types HO539.out BK550.out (by decide)) (fun _ hk => hk.2) (.int .i64 t545)) (fun _ hk => hk.2) (.slice Ao19 t546.length co19)) (fun _ h_ => h_.1))))) (Kd.R_lt (by (with_reducible repeat apply Kd.R_alloc); exact (Kd.R_mono (Kd.R_far (p := ⟨gb550, 1, none⟩) (Kd.R_far (p := ⟨gb550, 0, none⟩) (Kd.R_types HO548.out BK550.out (by decide)) (fun _ hk => hk.2) (.int .i64 t545)) (fun _ hk => hk.2) (.slice Ao19 t546.length co19)) (fun _ h_ => h_.1))))) (g := gb544) (o := .cells #[.int .i64 t541, .int .i64 t542] 24 (0, 0)) (by (with_reducible repeat apply blk_alloc); refine blk_far ?_ NB544_550.out _; (with_reducible repeat apply blk_alloc); refine blk_far ?_ NB544_550.out _; (with_reducible repeat apply blk_alloc); exact BK544.out)) (below_size (by repeat first | exact HB.out | with_reducible refine below_setA ?_ ‹_› | apply below_alloc | apply pw_below_drewN))); have n3_ := Aside0.mk (blk_below (g := gb543) (o := .cells #[.int .i64 t536, .slice Ao12 t537.length co12] 30 (0, 0)) (by (with_reducible repeat apply blk_alloc); refine blk_far ?_ NB543_550.out _; (with_reducible repeat apply blk_alloc); refine blk_far ?_ NB543_550.out _; (with_reducible repeat apply blk_alloc); exact BK543.out) hb); have n4_ := Aside0.mk (blk_below (g := gb544) (o := .cells #[.int .i64 t541, .int .i64 t542] 24 (0, 0)) (by (with_reducible repeat apply blk_alloc); refine blk_far ?_ NB544_550.out _; (with_reducible repeat apply blk_alloc); refine blk_far ?_ NB544_550.out _; (with_reducible repeat apply blk_alloc); exact BK544.out) hb); have n5_ := Aside0.mk (blk_below (g := gb550) (o := .cells #[.int .i64 t545, .slice Ao19 t546.length co19] 30 (0, 0)) (by (with_reducible repeat apply blk_alloc); refine blk_put (cs := #[.int .i64 t545, .slice none 0 0]) ?_ 1 _ rfl; (with_reducible repeat apply blk_alloc); refine blk_put (cs := #[.int .i64 0, .slice none 0 0]) ?_ 0 _ rfl; (with_reducible repeat apply blk_alloc); exact BK550.out) hb); have n6_ := Aside0.mk (below_step (by repeat first | exact HB.out | with_reducible refine below_setA ?_ ‹_› | apply below_alloc | apply pw_below_drewN) hb); clear HO539; clear HO548; clear BK543; clear BK544; clear BK550; clear HB; have HO539 := n0_; have HO548 := n1_; have HO554 := n2_; have BK543 := n3_; have BK544 := n4_; have BK550 := n5_; have HB := n6_; clear n0_ n1_ n2_ n3_ n4_ n5_ n6_; (try clear hb); (try clear hb2); (try clear hk); (try clear hi); (try clear ho0)) | ((with_reducible refine gate_dst (N := 8) rfl ?_); refine box_event rfl (N := 8) rfl (cs := #[.int .i64 0, .slice none 0 0]) (t := 30) ?hr ?_; (case hr => first | (go_simp; done) | (go_simp; rfl)); intro gb556 hg w23 hbox hb; have n0_ := Aside0.mk (Kd.Q_below (by (with_reducible repeat apply Kd.Q_alloc); exact HO539.out) hb); have n1_ := Aside0.mk (Kd.R_below (kR HO548.out) hb); have n2_ := Aside0.mk (Kd.R_below (kR HO554.out) hb); have n3_ := Aside0.mk (blk_below (bK BK543.out) hb); have n4_ := Aside0.mk (blk_below (bK BK544.out) hb); have n5_ := Aside0.mk (blk_below (bK BK550.out) hb); have n6_ := Aside0.mk (below_step (by repeat first | exact HB.out | with_reducible refine below_setA ?_ ‹_› | apply below_alloc | apply pw_below_drewN) hb); have n7_ := Aside0.mk (hbox); have n8_ := Aside0.mk ((by rw [hg]; exact (below_size (by repeat first | exact HB.out | with_reducible refine below_setA ?_ ‹_› | apply below_alloc | apply pw_below_drewN)) : w.heap.size ≤ gb556)); have n9_ := Aside0.mk ((by rw [hg]; exact (below_size (by repeat first | exact HB.out | with_reducible refine below_setA ?_ ‹_› | apply below_alloc | apply pw_below_drewN)) : w.heap.size ≤ gb556)); have n10_ := Aside0.mk ((by rw [hg]; exact Nat.ne_of_lt (blk_lt (bK BK543.out)) : gb543 ≠ gb556)); have n11_ := Aside0.mk ((by rw [hg]; exact Nat.ne_of_gt (blk_lt (bK BK543.out)) : gb556 ≠ gb543)); have n12_ := Aside0.mk ((by rw [hg]; exact Nat.ne_of_lt (blk_lt (bK BK544.out)) : gb544 ≠ gb556)); have n13_ := Aside0.mk ((by rw [hg]; exact Nat.ne_of_gt (blk_lt (bK BK544.out)) : gb556 ≠ gb544)); have n14_ := Aside0.mk ((by rw [hg]; exact Nat.ne_of_lt (blk_lt (bK BK550.out)) : gb550 ≠ gb556)); have n15_ := Aside0.mk ((by rw [hg]; exact Nat.ne_of_gt (blk_lt (bK BK550.out)) : gb556 ≠ gb550)); clear HO539; clear HO548; clear HO554; clear BK543; clear BK544; clear BK550; clear HB; have HO539 := n0_; have HO548 := n1_; have HO554 := n2_; have BK543 := n3_; have BK544 := n4_; have BK550 := n5_; have HB := n6_; have BK556 := n7_; have GW556 := n8_; have GE556 := n9_; have NB543_556 := n10_; have NB556_543 := n11_; have NB544_556 := n12_; have NB556_544 := n13_; have NB550_556 := n14_; have NB556_550 := n15_; clear n0_ n1_ n2_ n3_ n4_ n5_ n6_ n7_ n8_ n9_ n10_ n11_ n12_ n13_ n14_ n15_; clear hb hbox hg; have hnb24 := NB556_543.out; have hnc24 := NB543_556.out; have hnb25 := NB556_544.out; have hnc25 := NB544_556.out; have hnb26 := NB556_550.out; have hnc26 := NB550_556.out; have hcz27_0 : w23.cell? ⟨gb556, 0, none⟩ = some (.int .i64 0) := (blk_cell BK556.out 0).trans rfl; have hcz27_1 : w23.cell? ⟨gb556, 1, none⟩ = some (.slice none 0 0) := (blk_cell BK556.out 1).trans rfl; have hfz27_0 := blk_frozen BK556.out 0; have hfz27_1 := blk_frozen BK556.out 1; obtain ⟨Ao28, co28, eo28⟩ := Kd.R_slice HO554.out; subst eo28))
  (try simp only [Act.put, List.setIfInBounds_toArray, List.set_cons_zero, List.set_cons_succ])
  go_cut [67] (fun v67 wc => ∃ (kq : Nat) (x67_5 : Bool), v67 = .bool x67_5 ∧ Aside0 (laws_FnTurnPut.j0 kq t540 t549 t555 x67_5 t536 t537 t541 t542 t545 t546 t551 t552 = some r) ∧ Aside0 (kq ≤ k) ∧ Aside0 (Kd.Q k24 24 wc w.heap.size (fun k_ => some k_ ≠ ((.slice Ao19 t546.length co19) : Value).ownBlock ∧ some k_ ≠ ((.slice Ao28 t552.length co28) : Value).ownBlock ∧ k_ ≠ gb544) (.slice Ao12 t537.length co12) t537) ∧ Aside0 (Kd.Q k24 24 wc w.heap.size (fun k_ => some k_ ≠ ((.slice Ao12 t537.length co12) : Value).ownBlock ∧ some k_ ≠ ((.slice Ao28 t552.length co28) : Value).ownBlock ∧ k_ ≠ gb544) (.slice Ao19 t546.length co19) t546) ∧ Aside0 (Kd.Q k24 24 wc w.heap.size (fun k_ => some k_ ≠ ((.slice Ao12 t537.length co12) : Value).ownBlock ∧ some k_ ≠ ((.slice Ao19 t546.length co19) : Value).ownBlock ∧ k_ ≠ gb544) (.slice Ao28 t552.length co28) t552) ∧ Aside0 (wc.heap[gb543]? = some (.cells #[.int .i64 t536, (.slice Ao12 t537.length co12)] 30 (0, 0))) ∧ Aside0 (wc.heap[gb544]? = some (.cells #[.int .i64 t541, .int .i64 t542] 24 (0, 0))) ∧ Aside0 (wc.heap[gb550]? = some (.cells #[.int .i64 t545, (.slice Ao19 t546.length co19)] 30 (0, 0))) ∧ Aside0 (wc.heap[gb556]? = some (.cells #[.int .i64 t551, (.slice Ao28 t552.length co28)] 30 (0, 0))) ∧ Aside0 (Below w.heap.size w wc))
  case first =>
   have H := HC6.out
   clear HC6
   by_cases c29 : (t555 != t549) = true
   ·rw [if_pos c29] at H
    have c29b0 : (t555 != t549) = true := c29
    (try (have c29b1 : decide (t555 = t549) = false := by simpa using c29))
    (try (have c29b2 : (t555 == t549) = false := by simpa using c29))
    (try (have c29b3 : ¬ (t555 = t549) := by simpa using c29))
    clear c29
    (first | rw [c29b0] | (simp only [i64_w, i32_w]; rw [c29b0]) | skip)
    have H' := Aside0.mk H
    clear H
    go_wp2
    go_meet
    case rel => exact ⟨_, (true), (by first | rfl | (simp; done) | (simp [*]; done)), H', ⟨by first | omega | exact Nat.le_refl _⟩, ⟨by (with_reducible repeat apply Kd.Q_alloc); exact Kd.Q_mono (Kd.Q_far (p := ⟨gb556, 1, none⟩) (Kd.Q_far (p := ⟨gb556, 0, none⟩) (Kd.Q_types HO539.out BK556.out (by decide)) (fun _ hk => hk.2) (.int .i64 t551)) (fun _ hk => hk.2) (.slice Ao28 t552.length co28)) (fun _ hk => ⟨hk.1.1.2, ⟨hk.1.2, hk.1.1.1.2⟩⟩)⟩, ⟨Kd.Q_of_R (by (with_reducible repeat apply Kd.R_alloc); exact Kd.R_mono (Kd.R_far (p := ⟨gb556, 1, none⟩) (Kd.R_far (p := ⟨gb556, 0, none⟩) (Kd.R_types HO548.out BK556.out (by decide)) (fun _ hk => hk.2) (.int .i64 t551)) (fun _ hk => hk.2) (.slice Ao28 t552.length co28)) (fun _ hk => ⟨hk.1.1.1.2, ⟨hk.1.2, hk.1.1.2⟩⟩))⟩, ⟨Kd.Q_of_R (by (with_reducible repeat apply Kd.R_alloc); exact Kd.R_mono (Kd.R_far (p := ⟨gb556, 1, none⟩) (Kd.R_far (p := ⟨gb556, 0, none⟩) (Kd.R_types HO554.out BK556.out (by decide)) (fun _ hk => hk.2) (.int .i64 t551)) (fun _ hk => hk.2) (.slice Ao28 t552.length co28)) (fun _ hk => ⟨hk.1.1.1.2, ⟨hk.1.1.2, hk.1.2⟩⟩))⟩, ⟨by (with_reducible repeat apply blk_alloc); refine blk_far ?_ NB543_556.out _; (with_reducible repeat apply blk_alloc); refine blk_far ?_ NB543_556.out _; (with_reducible repeat apply blk_alloc); exact BK543.out⟩, ⟨by (with_reducible repeat apply blk_alloc); refine blk_far ?_ NB544_556.out _; (with_reducible repeat apply blk_alloc); refine blk_far ?_ NB544_556.out _; (with_reducible repeat apply blk_alloc); exact BK544.out⟩, ⟨by (with_reducible repeat apply blk_alloc); refine blk_far ?_ NB550_556.out _; (with_reducible repeat apply blk_alloc); refine blk_far ?_ NB550_556.out _; (with_reducible repeat apply blk_alloc); exact BK550.out⟩, ⟨by (with_reducible repeat apply blk_alloc); refine blk_put (cs := #[.int .i64 t551, .slice none 0 0]) ?_ 1 _ rfl; (with_reducible repeat apply blk_alloc); refine blk_put (cs := #[.int .i64 0, .slice none 0 0]) ?_ 0 _ rfl; (with_reducible repeat apply blk_alloc); exact BK556.out⟩, ⟨by repeat first | exact HB.out | with_reducible refine below_setA ?_ ‹_› | apply below_alloc | apply pw_below_drewN⟩⟩
   ·rw [if_neg c29] at H
    have c29b0 : (t555 != t549) = false := by simpa using c29
    (try (have c29b1 : decide (t555 = t549) = true := by simpa using c29))
    (try (have c29b2 : (t555 == t549) = true := by simpa using c29))
    clear c29
    (first | rw [c29b0] | (simp only [i64_w, i32_w]; rw [c29b0]) | skip)
    replace H := Option.bind_eq_some_iff.mp H
    obtain ⟨t557, A300, H⟩ := H
    replace H : (if t557 = true then (if t555 = true then (if t541 = 0 then (laws_FnTurnPut.j0 k t540 t549 t555 false t536 t537 t541 t542 t545 t546 t551 t552) else (if t541 = 1 then (laws_FnTurnPut.j0 k t540 t549 t555 false t536 t537 t541 t542 t545 t546 t551 t552) else (laws_FnTurnPut.j0 k t540 t549 t555 (decide (t541 < 6)) t536 t537 t541 t542 t545 t546 t551 t552))) else (laws_FnTurnPut.j0 k t540 t549 t555 true t536 t537 t541 t542 t545 t546 t551 t552)) else (laws_FnTurnPut.j0 k t540 t549 t555 true t536 t537 t541 t542 t545 t546 t551 t552)) = some r := H
    have A30 := Aside0.mk A300
    clear A300
    by_cases c31 : t557 = true
    ·subst c31
     have H1 : (if t555 = true then (if t541 = 0 then (laws_FnTurnPut.j0 k t540 t549 t555 false t536 t537 t541 t542 t545 t546 t551 t552) else (if t541 = 1 then (laws_FnTurnPut.j0 k t540 t549 t555 false t536 t537 t541 t542 t545 t546 t551 t552) else (laws_FnTurnPut.j0 k t540 t549 t555 (decide (t541 < 6)) t536 t537 t541 t542 t545 t546 t551 t552))) else (laws_FnTurnPut.j0 k t540 t549 t555 true t536 t537 t541 t542 t545 t546 t551 t552)) = some r := by rw [if_pos rfl] at H; exact H
     clear H
     have H := H1
     clear H1
     by_cases c32 : t555 = true
     ·subst c32
      have H1 : (if t541 = 0 then (laws_FnTurnPut.j0 k t540 t549 true false t536 t537 t541 t542 t545 t546 t551 t552) else (if t541 = 1 then (laws_FnTurnPut.j0 k t540 t549 true false t536 t537 t541 t542 t545 t546 t551 t552) else (laws_FnTurnPut.j0 k t540 t549 true (decide (t541 < 6)) t536 t537 t541 t542 t545 t546 t551 t552))) = some r := by rw [if_pos rfl] at H; exact H
      clear H
      have H := H1
      clear H1
      by_cases c33 : t541 = 0
      ·rw [if_pos c33] at H
       have c33b0 : (t541 == 0) = true := beq_iff_eq.mpr c33
       have c33b1 : (t541 != 0) = false := bne_eq_false_iff_eq.mpr c33
       clear c33
       have H' := Aside0.mk H
       clear H
       have hnb34 := NB556_543.out
       have hnc34 := NB543_556.out
       have hnb35 := NB556_544.out
       have hnc35 := NB544_556.out
       have hnb36 := NB556_550.out
       have hnc36 := NB550_556.out
       have hcz37_0 : w23.cell? ⟨gb556, 0, none⟩ = some (.int .i64 0) := (blk_cell BK556.out 0).trans rfl
       have hcz37_1 : w23.cell? ⟨gb556, 1, none⟩ = some (.slice none 0 0) := (blk_cell BK556.out 1).trans rfl
       have hfz37_0 := blk_frozen BK556.out 0
       have hfz37_1 := blk_frozen BK556.out 1
       have hnb38 := NB550_543.out
       have hnc38 := NB543_550.out
       have hnb39 := NB550_544.out
       have hnc39 := NB544_550.out
       have hcz40_0 : w23.cell? ⟨gb550, 0, none⟩ = some (.int .i64 t545) := (blk_cell BK550.out 0).trans rfl
       have hcz40_1 : w23.cell? ⟨gb550, 1, none⟩ = some (.slice Ao19 t546.length co19) := (blk_cell BK550.out 1).trans rfl
       have hfz40_0 := blk_frozen BK550.out 0
       have hfz40_1 := blk_frozen BK550.out 1
       go_wp2_with (first | (go_at_call 19; (with_reducible refine (laws_llGrid.calls k t551 _ _ t552 t545 _ _ t546 true _ ?side1 ?side2 ?side3 ?side4 A30.out).mono ?_); (case side1 => refine (Kd.R_reads' (e := 24) (base := w.heap.size) (ok := fun k_ => (((True ∧ some k_ ≠ (.slice Ao12 t537.length co12 : Value).ownBlock) ∧ some k_ ≠ (.slice Ao19 t546.length co19 : Value).ownBlock) ∧ k_ ≠ gb544)) (n := t552.length) (c := co28) ?_).2.2; exact (by (with_reducible repeat apply Kd.R_alloc); exact (Kd.R_mono (Kd.R_far (p := ⟨gb556, 1, none⟩) (Kd.R_far (p := ⟨gb556, 0, none⟩) (Kd.R_types HO554.out BK556.out (by decide)) (fun _ hk => hk.2) (.int .i64 t551)) (fun _ hk => hk.2) (.slice Ao28 t552.length co28)) (fun _ h_ => h_.1)))); (case side2 => exact (Kd.R_reads' HO554.out).2.1); (case side3 => refine (Kd.R_reads' (e := 24) (base := w.heap.size) (ok := fun k_ => (((True ∧ some k_ ≠ (.slice Ao12 t537.length co12 : Value).ownBlock) ∧ k_ ≠ gb544) ∧ some k_ ≠ (.slice Ao28 t552.length co28 : Value).ownBlock)) (n := t546.length) (c := co19) ?_).2.2; exact (by (with_reducible repeat apply Kd.R_alloc); exact (Kd.R_mono (Kd.R_far (p := ⟨gb556, 1, none⟩) (Kd.R_far (p := ⟨gb556, 0, none⟩) (Kd.R_types HO548.out BK556.out (by decide)) (fun _ hk => hk.2) (.int .i64 t551)) (fun _ hk => hk.2) (.slice Ao28 t552.length co28)) (fun _ h_ => h_.1)))); (case side4 => exact (Kd.R_reads' HO548.out).2.1); rintro e w41 ⟨rfl, hb⟩; have n0_ := Aside0.mk (Kd.Q_below (by (with_reducible repeat apply Kd.Q_alloc); exact (Kd.Q_mono (Kd.Q_far (p := ⟨gb556, 1, none⟩) (Kd.Q_far (p := ⟨gb556, 0, none⟩) (Kd.Q_types HO539.out BK556.out (by decide)) (fun _ hk => hk.2) (.int .i64 t551)) (fun _ hk => hk.2) (.slice Ao28 t552.length co28)) (fun _ h_ => h_.1))) hb); have n1_ := Aside0.mk (Kd.R_below (by (with_reducible repeat apply Kd.R_alloc); exact (Kd.R_mono (Kd.R_far (p := ⟨gb556, 1, none⟩) (Kd.R_far (p := ⟨gb556, 0, none⟩) (Kd.R_types HO548.out BK556.out (by decide)) (fun _ hk => hk.2) (.int .i64 t551)) (fun _ hk => hk.2) (.slice Ao28 t552.length co28)) (fun _ h_ => h_.1))) hb); have n2_ := Aside0.mk (Kd.R_below (by (with_reducible repeat apply Kd.R_alloc); exact (Kd.R_mono (Kd.R_far (p := ⟨gb556, 1, none⟩) (Kd.R_far (p := ⟨gb556, 0, none⟩) (Kd.R_types HO554.out BK556.out (by decide)) (fun _ hk => hk.2) (.int .i64 t551)) (fun _ hk => hk.2) (.slice Ao28 t552.length co28)) (fun _ h_ => h_.1))) hb); have n3_ := Aside0.mk (blk_below (g := gb543) (o := .cells #[.int .i64 t536, .slice Ao12 t537.length co12] 30 (0, 0)) (by (with_reducible repeat apply blk_alloc); refine blk_far ?_ NB543_556.out _; (with_reducible repeat apply blk_alloc); refine blk_far ?_ NB543_556.out _; (with_reducible repeat apply blk_alloc); exact BK543.out) hb); have n4_ := Aside0.mk (blk_below (g := gb544) (o := .cells #[.int .i64 t541, .int .i64 t542] 24 (0, 0)) (by (with_reducible repeat apply blk_alloc); refine blk_far ?_ NB544_556.out _; (with_reducible repeat apply blk_alloc); refine blk_far ?_ NB544_556.out _; (with_reducible repeat apply blk_alloc); exact BK544.out) hb); have n5_ := Aside0.mk (blk_below (g := gb550) (o := .cells #[.int .i64 t545, .slice Ao19 t546.length co19] 30 (0, 0)) (by (with_reducible repeat apply blk_alloc); refine blk_far ?_ NB550_556.out _; (with_reducible repeat apply blk_alloc); refine blk_far ?_ NB550_556.out _; (with_reducible repeat apply blk_alloc); exact BK550.out) hb); have n6_ := Aside0.mk (blk_below (g := gb556) (o := .cells #[.int .i64 t551, .slice Ao28 t552.length co28] 30 (0, 0)) (by (with_reducible repeat apply blk_alloc); refine blk_put (cs := #[.int .i64 t551, .slice none 0 0]) ?_ 1 _ rfl; (with_reducible repeat apply blk_alloc); refine blk_put (cs := #[.int .i64 0, .slice none 0 0]) ?_ 0 _ rfl; (with_reducible repeat apply blk_alloc); exact BK556.out) hb); have n7_ := Aside0.mk (below_step (by repeat first | exact HB.out | with_reducible refine below_setA ?_ ‹_› | apply below_alloc | apply pw_below_drewN) hb); clear HO539; clear HO548; clear HO554; clear BK543; clear BK544; clear BK550; clear BK556; clear HB; have HO539 := n0_; have HO548 := n1_; have HO554 := n2_; have BK543 := n3_; have BK544 := n4_; have BK550 := n5_; have BK556 := n6_; have HB := n7_; clear n0_ n1_ n2_ n3_ n4_ n5_ n6_ n7_; (try clear hb); (try clear hb2); (try clear hk); (try clear hi); have hnb42 := NB544_543.out; have hnc42 := NB543_544.out; have hcz43_0 : w41.cell? ⟨gb544, 0, none⟩ = some (.int .i64 t541) := (blk_cell BK544.out 0).trans rfl; have hcz43_1 : w41.cell? ⟨gb544, 1, none⟩ = some (.int .i64 t542) := (blk_cell BK544.out 1).trans rfl; have hfz43_0 := blk_frozen BK544.out 0; have hfz43_1 := blk_frozen BK544.out 1))
       go_meet
       case rel => exact ⟨_, (false), (by first | rfl | (simp; done) | (simp [*]; done)), H', ⟨by first | omega | exact Nat.le_refl _⟩, ⟨by (with_reducible repeat apply Kd.Q_alloc); exact Kd.Q_mono HO539.out (fun _ hk => ⟨hk.1.2, ⟨hk.2, hk.1.1.2⟩⟩)⟩, ⟨Kd.Q_of_R (by (with_reducible repeat apply Kd.R_alloc); exact Kd.R_mono HO548.out (fun _ hk => ⟨hk.1.1.2, ⟨hk.2, hk.1.2⟩⟩))⟩, ⟨Kd.Q_of_R (by (with_reducible repeat apply Kd.R_alloc); exact Kd.R_mono HO554.out (fun _ hk => ⟨hk.1.1.2, ⟨hk.1.2, hk.2⟩⟩))⟩, ⟨by (with_reducible repeat apply blk_alloc); exact BK543.out⟩, ⟨by (with_reducible repeat apply blk_alloc); exact BK544.out⟩, ⟨by (with_reducible repeat apply blk_alloc); exact BK550.out⟩, ⟨by (with_reducible repeat apply blk_alloc); exact BK556.out⟩, ⟨by repeat first | exact HB.out | with_reducible refine below_setA ?_ ‹_› | apply below_alloc | apply pw_below_drewN⟩⟩
      ·rw [if_neg c33] at H
       have c33b0 : (t541 == 0) = false := beq_eq_false_iff_ne.mpr c33
       have c33b1 : (t541 != 0) = true := bne_iff_ne.mpr c33
       by_cases c44 : t541 = 1
       ·rw [if_pos c44] at H
        have c44b0 : (t541 == 1) = true := beq_iff_eq.mpr c44
        have c44b1 : (t541 != 1) = false := bne_eq_false_iff_eq.mpr c44
        clear c44
        have H' := Aside0.mk H
        clear H
        have hnb45 := NB556_543.out
        have hnc45 := NB543_556.out
        have hnb46 := NB556_544.out
        have hnc46 := NB544_556.out
        have hnb47 := NB556_550.out
        have hnc47 := NB550_556.out
        have hcz48_0 : w23.cell? ⟨gb556, 0, none⟩ = some (.int .i64 0) := (blk_cell BK556.out 0).trans rfl
        have hcz48_1 : w23.cell? ⟨gb556, 1, none⟩ = some (.slice none 0 0) := (blk_cell BK556.out 1).trans rfl
        have hfz48_0 := blk_frozen BK556.out 0
        have hfz48_1 := blk_frozen BK556.out 1
        have hnb49 := NB550_543.out
        have hnc49 := NB543_550.out
        have hnb50 := NB550_544.out
        have hnc50 := NB544_550.out
        have hcz51_0 : w23.cell? ⟨gb550, 0, none⟩ = some (.int .i64 t545) := (blk_cell BK550.out 0).trans rfl
        have hcz51_1 : w23.cell? ⟨gb550, 1, none⟩ = some (.slice Ao19 t546.length co19) := (blk_cell BK550.out 1).trans rfl
        have hfz51_0 := blk_frozen BK550.out 0
        have hfz51_1 := blk_frozen BK550.out 1
        go_wp2_with (first | (go_at_call 19; (with_reducible refine (laws_llGrid.calls k t551 _ _ t552 t545 _ _ t546 true _ ?side1 ?side2 ?side3 ?side4 A30.out).mono ?_); (case side1 => refine (Kd.R_reads' (e := 24) (base := w.heap.size) (ok := fun k_ => (((True ∧ some k_ ≠ (.slice Ao12 t537.length co12 : Value).ownBlock) ∧ some k_ ≠ (.slice Ao19 t546.length co19 : Value).ownBlock) ∧ k_ ≠ gb544)) (n := t552.length) (c := co28) ?_).2.2; exact (by (with_reducible repeat apply Kd.R_alloc); exact (Kd.R_mono (Kd.R_far (p := ⟨gb556, 1, none⟩) (Kd.R_far (p := ⟨gb556, 0, none⟩) (Kd.R_types HO554.out BK556.out (by decide)) (fun _ hk => hk.2) (.int .i64 t551)) (fun _ hk => hk.2) (.slice Ao28 t552.length co28)) (fun _ h_ => h_.1)))); (case side2 => exact (Kd.R_reads' HO554.out).2.1); (case side3 => refine (Kd.R_reads' (e := 24) (base := w.heap.size) (ok := fun k_ => (((True ∧ some k_ ≠ (.slice Ao12 t537.length co12 : Value).ownBlock) ∧ k_ ≠ gb544) ∧ some k_ ≠ (.slice Ao28 t552.length co28 : Value).ownBlock)) (n := t546.length) (c := co19) ?_).2.2; exact (by (with_reducible repeat apply Kd.R_alloc); exact (Kd.R_mono (Kd.R_far (p := ⟨gb556, 1, none⟩) (Kd.R_far (p := ⟨gb556, 0, none⟩) (Kd.R_types HO548.out BK556.out (by decide)) (fun _ hk => hk.2) (.int .i64 t551)) (fun _ hk => hk.2) (.slice Ao28 t552.length co28)) (fun _ h_ => h_.1)))); (case side4 => exact (Kd.R_reads' HO548.out).2.1); rintro e w52 ⟨rfl, hb⟩; have n0_ := Aside0.mk (Kd.Q_below (by (with_reducible repeat apply Kd.Q_alloc); exact (Kd.Q_mono (Kd.Q_far (p := ⟨gb556, 1, none⟩) (Kd.Q_far (p := ⟨gb556, 0, none⟩) (Kd.Q_types HO539.out BK556.out (by decide)) (fun _ hk => hk.2) (.int .i64 t551)) (fun _ hk => hk.2) (.slice Ao28 t552.length co28)) (fun _ h_ => h_.1))) hb); have n1_ := Aside0.mk (Kd.R_below (by (with_reducible repeat apply Kd.R_alloc); exact (Kd.R_mono (Kd.R_far (p := ⟨gb556, 1, none⟩) (Kd.R_far (p := ⟨gb556, 0, none⟩) (Kd.R_types HO548.out BK556.out (by decide)) (fun _ hk => hk.2) (.int .i64 t551)) (fun _ hk => hk.2) (.slice Ao28 t552.length co28)) (fun _ h_ => h_.1))) hb); have n2_ := Aside0.mk (Kd.R_below (by (with_reducible repeat apply Kd.R_alloc); exact (Kd.R_mono (Kd.R_far (p := ⟨gb556, 1, none⟩) (Kd.R_far (p := ⟨gb556, 0, none⟩) (Kd.R_types HO554.out BK556.out (by decide)) (fun _ hk => hk.2) (.int .i64 t551)) (fun _ hk => hk.2) (.slice Ao28 t552.length co28)) (fun _ h_ => h_.1))) hb); have n3_ := Aside0.mk (blk_below (g := gb543) (o := .cells #[.int .i64 t536, .slice Ao12 t537.length co12] 30 (0, 0)) (by (with_reducible repeat apply blk_alloc); refine blk_far ?_ NB543_556.out _; (with_reducible repeat apply blk_alloc); refine blk_far ?_ NB543_556.out _; (with_reducible repeat apply blk_alloc); exact BK543.out) hb); have n4_ := Aside0.mk (blk_below (g := gb544) (o := .cells #[.int .i64 t541, .int .i64 t542] 24 (0, 0)) (by (with_reducible repeat apply blk_alloc); refine blk_far ?_ NB544_556.out _; (with_reducible repeat apply blk_alloc); refine blk_far ?_ NB544_556.out _; (with_reducible repeat apply blk_alloc); exact BK544.out) hb); have n5_ := Aside0.mk (blk_below (g := gb550) (o := .cells #[.int .i64 t545, .slice Ao19 t546.length co19] 30 (0, 0)) (by (with_reducible repeat apply blk_alloc); refine blk_far ?_ NB550_556.out _; (with_reducible repeat apply blk_alloc); refine blk_far ?_ NB550_556.out _; (with_reducible repeat apply blk_alloc); exact BK550.out) hb); have n6_ := Aside0.mk (blk_below (g := gb556) (o := .cells #[.int .i64 t551, .slice Ao28 t552.length co28] 30 (0, 0)) (by (with_reducible repeat apply blk_alloc); refine blk_put (cs := #[.int .i64 t551, .slice none 0 0]) ?_ 1 _ rfl; (with_reducible repeat apply blk_alloc); refine blk_put (cs := #[.int .i64 0, .slice none 0 0]) ?_ 0 _ rfl; (with_reducible repeat apply blk_alloc); exact BK556.out) hb); have n7_ := Aside0.mk (below_step (by repeat first | exact HB.out | with_reducible refine below_setA ?_ ‹_› | apply below_alloc | apply pw_below_drewN) hb); clear HO539; clear HO548; clear HO554; clear BK543; clear BK544; clear BK550; clear BK556; clear HB; have HO539 := n0_; have HO548 := n1_; have HO554 := n2_; have BK543 := n3_; have BK544 := n4_; have BK550 := n5_; have BK556 := n6_; have HB := n7_; clear n0_ n1_ n2_ n3_ n4_ n5_ n6_ n7_; (try clear hb); (try clear hb2); (try clear hk); (try clear hi); have hnb53 := NB544_543.out; have hnc53 := NB543_544.out; have hcz54_0 : w52.cell? ⟨gb544, 0, none⟩ = some (.int .i64 t541) := (blk_cell BK544.out 0).trans rfl; have hcz54_1 : w52.cell? ⟨gb544, 1, none⟩ = some (.int .i64 t542) := (blk_cell BK544.out 1).trans rfl; have hfz54_0 := blk_frozen BK544.out 0; have hfz54_1 := blk_frozen BK544.out 1))
        go_meet
        case rel => exact ⟨_, (false), (by first | rfl | (simp; done) | (simp [*]; done)), H', ⟨by first | omega | exact Nat.le_refl _⟩, ⟨by (with_reducible repeat apply Kd.Q_alloc); exact Kd.Q_mono HO539.out (fun _ hk => ⟨hk.1.2, ⟨hk.2, hk.1.1.2⟩⟩)⟩, ⟨Kd.Q_of_R (by (with_reducible repeat apply Kd.R_alloc); exact Kd.R_mono HO548.out (fun _ hk => ⟨hk.1.1.2, ⟨hk.2, hk.1.2⟩⟩))⟩, ⟨Kd.Q_of_R (by (with_reducible repeat apply Kd.R_alloc); exact Kd.R_mono HO554.out (fun _ hk => ⟨hk.1.1.2, ⟨hk.1.2, hk.2⟩⟩))⟩, ⟨by (with_reducible repeat apply blk_alloc); exact BK543.out⟩, ⟨by (with_reducible repeat apply blk_alloc); exact BK544.out⟩, ⟨by (with_reducible repeat apply blk_alloc); exact BK550.out⟩, ⟨by (with_reducible repeat apply blk_alloc); exact BK556.out⟩, ⟨by repeat first | exact HB.out | with_reducible refine below_setA ?_ ‹_› | apply below_alloc | apply pw_below_drewN⟩⟩
       ·rw [if_neg c44] at H
        have c44b0 : (t541 == 1) = false := beq_eq_false_iff_ne.mpr c44
        have c44b1 : (t541 != 1) = true := bne_iff_ne.mpr c44
        have H' := Aside0.mk H
        clear H
        have hnb55 := NB556_543.out
        have hnc55 := NB543_556.out
        have hnb56 := NB556_544.out
        have hnc56 := NB544_556.out
        have hnb57 := NB556_550.out
        have hnc57 := NB550_556.out
        have hcz58_0 : w23.cell? ⟨gb556, 0, none⟩ = some (.int .i64 0) := (blk_cell BK556.out 0).trans rfl
        have hcz58_1 : w23.cell? ⟨gb556, 1, none⟩ = some (.slice none 0 0) := (blk_cell BK556.out 1).trans rfl
        have hfz58_0 := blk_frozen BK556.out 0
        have hfz58_1 := blk_frozen BK556.out 1
        have hnb59 := NB550_543.out
        have hnc59 := NB543_550.out
        have hnb60 := NB550_544.out
        have hnc60 := NB544_550.out
        have hcz61_0 : w23.cell? ⟨gb550, 0, none⟩ = some (.int .i64 t545) := (blk_cell BK550.out 0).trans rfl
        have hcz61_1 : w23.cell? ⟨gb550, 1, none⟩ = some (.slice Ao19 t546.length co19) := (blk_cell BK550.out 1).trans rfl
        have hfz61_0 := blk_frozen BK550.out 0
        have hfz61_1 := blk_frozen BK550.out 1
        go_wp2_with (first | (go_at_call 19; (with_reducible refine (laws_llGrid.calls k t551 _ _ t552 t545 _ _ t546 true _ ?side1 ?side2 ?side3 ?side4 A30.out).mono ?_); (case side1 => refine (Kd.R_reads' (e := 24) (base := w.heap.size) (ok := fun k_ => (((True ∧ some k_ ≠ (.slice Ao12 t537.length co12 : Value).ownBlock) ∧ some k_ ≠ (.slice Ao19 t546.length co19 : Value).ownBlock) ∧ k_ ≠ gb544)) (n := t552.length) (c := co28) ?_).2.2; exact (by (with_reducible repeat apply Kd.R_alloc); exact (Kd.R_mono (Kd.R_far (p := ⟨gb556, 1, none⟩) (Kd.R_far (p := ⟨gb556, 0, none⟩) (Kd.R_types HO554.out BK556.out (by decide)) (fun _ hk => hk.2) (.int .i64 t551)) (fun _ hk => hk.2) (.slice Ao28 t552.length co28)) (fun _ h_ => h_.1)))); (case side2 => exact (Kd.R_reads' HO554.out).2.1); (case side3 => refine (Kd.R_reads' (e := 24) (base := w.heap.size) (ok := fun k_ => (((True ∧ some k_ ≠ (.slice Ao12 t537.length co12 : Value).ownBlock) ∧ k_ ≠ gb544) ∧ some k_ ≠ (.slice Ao28 t552.length co28 : Value).ownBlock)) (n := t546.length) (c := co19) ?_).2.2; exact (by (with_reducible repeat apply Kd.R_alloc); exact (Kd.R_mono (Kd.R_far (p := ⟨gb556, 1, none⟩) (Kd.R_far (p := ⟨gb556, 0, none⟩) (Kd.R_types HO548.out BK556.out (by decide)) (fun _ hk => hk.2) (.int .i64 t551)) (fun _ hk => hk.2) (.slice Ao28 t552.length co28)) (fun _ h_ => h_.1)))); (case side4 => exact (Kd.R_reads' HO548.out).2.1); rintro e w62 ⟨rfl, hb⟩; have n0_ := Aside0.mk (Kd.Q_below (by (with_reducible repeat apply Kd.Q_alloc); exact (Kd.Q_mono (Kd.Q_far (p := ⟨gb556, 1, none⟩) (Kd.Q_far (p := ⟨gb556, 0, none⟩) (Kd.Q_types HO539.out BK556.out (by decide)) (fun _ hk => hk.2) (.int .i64 t551)) (fun _ hk => hk.2) (.slice Ao28 t552.length co28)) (fun _ h_ => h_.1))) hb); have n1_ := Aside0.mk (Kd.R_below (by (with_reducible repeat apply Kd.R_alloc); exact (Kd.R_mono (Kd.R_far (p := ⟨gb556, 1, none⟩) (Kd.R_far (p := ⟨gb556, 0, none⟩) (Kd.R_types HO548.out BK556.out (by decide)) (fun _ hk => hk.2) (.int .i64 t551)) (fun _ hk => hk.2) (.slice Ao28 t552.length co28)) (fun _ h_ => h_.1))) hb); have n2_ := Aside0.mk (Kd.R_below (by (with_reducible repeat apply Kd.R_alloc); exact (Kd.R_mono (Kd.R_far (p := ⟨gb556, 1, none⟩) (Kd.R_far (p := ⟨gb556, 0, none⟩) (Kd.R_types HO554.out BK556.out (by decide)) (fun _ hk => hk.2) (.int .i64 t551)) (fun _ hk => hk.2) (.slice Ao28 t552.length co28)) (fun _ h_ => h_.1))) hb); have n3_ := Aside0.mk (blk_below (g := gb543) (o := .cells #[.int .i64 t536, .slice Ao12 t537.length co12] 30 (0, 0)) (by (with_reducible repeat apply blk_alloc); refine blk_far ?_ NB543_556.out _; (with_reducible repeat apply blk_alloc); refine blk_far ?_ NB543_556.out _; (with_reducible repeat apply blk_alloc); exact BK543.out) hb); have n4_ := Aside0.mk (blk_below (g := gb544) (o := .cells #[.int .i64 t541, .int .i64 t542] 24 (0, 0)) (by (with_reducible repeat apply blk_alloc); refine blk_far ?_ NB544_556.out _; (with_reducible repeat apply blk_alloc); refine blk_far ?_ NB544_556.out _; (with_reducible repeat apply blk_alloc); exact BK544.out) hb); have n5_ := Aside0.mk (blk_below (g := gb550) (o := .cells #[.int .i64 t545, .slice Ao19 t546.length co19] 30 (0, 0)) (by (with_reducible repeat apply blk_alloc); refine blk_far ?_ NB550_556.out _; (with_reducible repeat apply blk_alloc); refine blk_far ?_ NB550_556.out _; (with_reducible repeat apply blk_alloc); exact BK550.out) hb); have n6_ := Aside0.mk (blk_below (g := gb556) (o := .cells #[.int .i64 t551, .slice Ao28 t552.length co28] 30 (0, 0)) (by (with_reducible repeat apply blk_alloc); refine blk_put (cs := #[.int .i64 t551, .slice none 0 0]) ?_ 1 _ rfl; (with_reducible repeat apply blk_alloc); refine blk_put (cs := #[.int .i64 0, .slice none 0 0]) ?_ 0 _ rfl; (with_reducible repeat apply blk_alloc); exact BK556.out) hb); have n7_ := Aside0.mk (below_step (by repeat first | exact HB.out | with_reducible refine below_setA ?_ ‹_› | apply below_alloc | apply pw_below_drewN) hb); clear HO539; clear HO548; clear HO554; clear BK543; clear BK544; clear BK550; clear BK556; clear HB; have HO539 := n0_; have HO548 := n1_; have HO554 := n2_; have BK543 := n3_; have BK544 := n4_; have BK550 := n5_; have BK556 := n6_; have HB := n7_; clear n0_ n1_ n2_ n3_ n4_ n5_ n6_ n7_; (try clear hb); (try clear hb2); (try clear hk); (try clear hi); have hnb63 := NB544_543.out; have hnc63 := NB543_544.out; have hcz64_0 : w62.cell? ⟨gb544, 0, none⟩ = some (.int .i64 t541) := (blk_cell BK544.out 0).trans rfl; have hcz64_1 : w62.cell? ⟨gb544, 1, none⟩ = some (.int .i64 t542) := (blk_cell BK544.out 1).trans rfl; have hfz64_0 := blk_frozen BK544.out 0; have hfz64_1 := blk_frozen BK544.out 1))
        go_meet
        case rel => exact ⟨_, (decide (t541 < 6)), (by first | rfl | (simp; done) | (simp [*]; done)), H', ⟨by first | omega | exact Nat.le_refl _⟩, ⟨by (with_reducible repeat apply Kd.Q_alloc); exact Kd.Q_mono HO539.out (fun _ hk => ⟨hk.1.2, ⟨hk.2, hk.1.1.2⟩⟩)⟩, ⟨Kd.Q_of_R (by (with_reducible repeat apply Kd.R_alloc); exact Kd.R_mono HO548.out (fun _ hk => ⟨hk.1.1.2, ⟨hk.2, hk.1.2⟩⟩))⟩, ⟨Kd.Q_of_R (by (with_reducible repeat apply Kd.R_alloc); exact Kd.R_mono HO554.out (fun _ hk => ⟨hk.1.1.2, ⟨hk.1.2, hk.2⟩⟩))⟩, ⟨by (with_reducible repeat apply blk_alloc); exact BK543.out⟩, ⟨by (with_reducible repeat apply blk_alloc); exact BK544.out⟩, ⟨by (with_reducible repeat apply blk_alloc); exact BK550.out⟩, ⟨by (with_reducible repeat apply blk_alloc); exact BK556.out⟩, ⟨by repeat first | exact HB.out | with_reducible refine below_setA ?_ ‹_› | apply below_alloc | apply pw_below_drewN⟩⟩
     ·replace c32 := Bool.eq_false_iff.mpr c32
      subst c32
      have H1 : (laws_FnTurnPut.j0 k t540 t549 false true t536 t537 t541 t542 t545 t546 t551 t552) = some r := by rw [if_neg (show ¬ (false = true) by decide)] at H; exact H
      clear H
      have H := H1
      clear H1
      have H' := Aside0.mk H
      clear H
      have hnb65 := NB556_543.out
      have hnc65 := NB543_556.out
      have hnb66 := NB556_544.out
      have hnc66 := NB544_556.out
      have hnb67 := NB556_550.out
      have hnc67 := NB550_556.out
      have hcz68_0 : w23.cell? ⟨gb556, 0, none⟩ = some (.int .i64 0) := (blk_cell BK556.out 0).trans rfl
      have hcz68_1 : w23.cell? ⟨gb556, 1, none⟩ = some (.slice none 0 0) := (blk_cell BK556.out 1).trans rfl
      have hfz68_0 := blk_frozen BK556.out 0
      have hfz68_1 := blk_frozen BK556.out 1
      have hnb69 := NB550_543.out
      have hnc69 := NB543_550.out
      have hnb70 := NB550_544.out
      have hnc70 := NB544_550.out
      have hcz71_0 : w23.cell? ⟨gb550, 0, none⟩ = some (.int .i64 t545) := (blk_cell BK550.out 0).trans rfl
      have hcz71_1 : w23.cell? ⟨gb550, 1, none⟩ = some (.slice Ao19 t546.length co19) := (blk_cell BK550.out 1).trans rfl
      have hfz71_0 := blk_frozen BK550.out 0
      have hfz71_1 := blk_frozen BK550.out 1
      go_wp2_with (first | (go_at_call 19; (with_reducible refine (laws_llGrid.calls k t551 _ _ t552 t545 _ _ t546 true _ ?side1 ?side2 ?side3 ?side4 A30.out).mono ?_); (case side1 => refine (Kd.R_reads' (e := 24) (base := w.heap.size) (ok := fun k_ => (((True ∧ some k_ ≠ (.slice Ao12 t537.length co12 : Value).ownBlock) ∧ some k_ ≠ (.slice Ao19 t546.length co19 : Value).ownBlock) ∧ k_ ≠ gb544)) (n := t552.length) (c := co28) ?_).2.2; exact (by (with_reducible repeat apply Kd.R_alloc); exact (Kd.R_mono (Kd.R_far (p := ⟨gb556, 1, none⟩) (Kd.R_far (p := ⟨gb556, 0, none⟩) (Kd.R_types HO554.out BK556.out (by decide)) (fun _ hk => hk.2) (.int .i64 t551)) (fun _ hk => hk.2) (.slice Ao28 t552.length co28)) (fun _ h_ => h_.1)))); (case side2 => exact (Kd.R_reads' HO554.out).2.1); (case side3 => refine (Kd.R_reads' (e := 24) (base := w.heap.size) (ok := fun k_ => (((True ∧ some k_ ≠ (.slice Ao12 t537.length co12 : Value).ownBlock) ∧ k_ ≠ gb544) ∧ some k_ ≠ (.slice Ao28 t552.length co28 : Value).ownBlock)) (n := t546.length) (c := co19) ?_).2.2; exact (by (with_reducible repeat apply Kd.R_alloc); exact (Kd.R_mono (Kd.R_far (p := ⟨gb556, 1, none⟩) (Kd.R_far (p := ⟨gb556, 0, none⟩) (Kd.R_types HO548.out BK556.out (by decide)) (fun _ hk => hk.2) (.int .i64 t551)) (fun _ hk => hk.2) (.slice Ao28 t552.length co28)) (fun _ h_ => h_.1)))); (case side4 => exact (Kd.R_reads' HO548.out).2.1); rintro e w72 ⟨rfl, hb⟩; have n0_ := Aside0.mk (Kd.Q_below (by (with_reducible repeat apply Kd.Q_alloc); exact (Kd.Q_mono (Kd.Q_far (p := ⟨gb556, 1, none⟩) (Kd.Q_far (p := ⟨gb556, 0, none⟩) (Kd.Q_types HO539.out BK556.out (by decide)) (fun _ hk => hk.2) (.int .i64 t551)) (fun _ hk => hk.2) (.slice Ao28 t552.length co28)) (fun _ h_ => h_.1))) hb); have n1_ := Aside0.mk (Kd.R_below (by (with_reducible repeat apply Kd.R_alloc); exact (Kd.R_mono (Kd.R_far (p := ⟨gb556, 1, none⟩) (Kd.R_far (p := ⟨gb556, 0, none⟩) (Kd.R_types HO548.out BK556.out (by decide)) (fun _ hk => hk.2) (.int .i64 t551)) (fun _ hk => hk.2) (.slice Ao28 t552.length co28)) (fun _ h_ => h_.1))) hb); have n2_ := Aside0.mk (Kd.R_below (by (with_reducible repeat apply Kd.R_alloc); exact (Kd.R_mono (Kd.R_far (p := ⟨gb556, 1, none⟩) (Kd.R_far (p := ⟨gb556, 0, none⟩) (Kd.R_types HO554.out BK556.out (by decide)) (fun _ hk => hk.2) (.int .i64 t551)) (fun _ hk => hk.2) (.slice Ao28 t552.length co28)) (fun _ h_ => h_.1))) hb); have n3_ := Aside0.mk (blk_below (g := gb543) (o := .cells #[.int .i64 t536, .slice Ao12 t537.length co12] 30 (0, 0)) (by (with_reducible repeat apply blk_alloc); refine blk_far ?_ NB543_556.out _; (with_reducible repeat apply blk_alloc); refine blk_far ?_ NB543_556.out _; (with_reducible repeat apply blk_alloc); exact BK543.out) hb); have n4_ := Aside0.mk (blk_below (g := gb544) (o := .cells #[.int .i64 t541, .int .i64 t542] 24 (0, 0)) (by (with_reducible repeat apply blk_alloc); refine blk_far ?_ NB544_556.out _; (with_reducible repeat apply blk_alloc); refine blk_far ?_ NB544_556.out _; (with_reducible repeat apply blk_alloc); exact BK544.out) hb); have n5_ := Aside0.mk (blk_below (g := gb550) (o := .cells #[.int .i64 t545, .slice Ao19 t546.length co19] 30 (0, 0)) (by (with_reducible repeat apply blk_alloc); refine blk_far ?_ NB550_556.out _; (with_reducible repeat apply blk_alloc); refine blk_far ?_ NB550_556.out _; (with_reducible repeat apply blk_alloc); exact BK550.out) hb); have n6_ := Aside0.mk (blk_below (g := gb556) (o := .cells #[.int .i64 t551, .slice Ao28 t552.length co28] 30 (0, 0)) (by (with_reducible repeat apply blk_alloc); refine blk_put (cs := #[.int .i64 t551, .slice none 0 0]) ?_ 1 _ rfl; (with_reducible repeat apply blk_alloc); refine blk_put (cs := #[.int .i64 0, .slice none 0 0]) ?_ 0 _ rfl; (with_reducible repeat apply blk_alloc); exact BK556.out) hb); have n7_ := Aside0.mk (below_step (by repeat first | exact HB.out | with_reducible refine below_setA ?_ ‹_› | apply below_alloc | apply pw_below_drewN) hb); clear HO539; clear HO548; clear HO554; clear BK543; clear BK544; clear BK550; clear BK556; clear HB; have HO539 := n0_; have HO548 := n1_; have HO554 := n2_; have BK543 := n3_; have BK544 := n4_; have BK550 := n5_; have BK556 := n6_; have HB := n7_; clear n0_ n1_ n2_ n3_ n4_ n5_ n6_ n7_; (try clear hb); (try clear hb2); (try clear hk); (try clear hi)))
      go_meet
      case rel => exact ⟨_, (true), (by first | rfl | (simp; done) | (simp [*]; done)), H', ⟨by first | omega | exact Nat.le_refl _⟩, ⟨by (with_reducible repeat apply Kd.Q_alloc); exact Kd.Q_mono HO539.out (fun _ hk => ⟨hk.1.2, ⟨hk.2, hk.1.1.2⟩⟩)⟩, ⟨Kd.Q_of_R (by (with_reducible repeat apply Kd.R_alloc); exact Kd.R_mono HO548.out (fun _ hk => ⟨hk.1.1.2, ⟨hk.2, hk.1.2⟩⟩))⟩, ⟨Kd.Q_of_R (by (with_reducible repeat apply Kd.R_alloc); exact Kd.R_mono HO554.out (fun _ hk => ⟨hk.1.1.2, ⟨hk.1.2, hk.2⟩⟩))⟩, ⟨by (with_reducible repeat apply blk_alloc); exact BK543.out⟩, ⟨by (with_reducible repeat apply blk_alloc); exact BK544.out⟩, ⟨by (with_reducible repeat apply blk_alloc); exact BK550.out⟩, ⟨by (with_reducible repeat apply blk_alloc); exact BK556.out⟩, ⟨by repeat first | exact HB.out | with_reducible refine below_setA ?_ ‹_› | apply below_alloc | apply pw_below_drewN⟩⟩
    ·replace c31 := Bool.eq_false_iff.mpr c31
     subst c31
     have H1 : (laws_FnTurnPut.j0 k t540 t549 t555 true t536 t537 t541 t542 t545 t546 t551 t552) = some r := by rw [if_neg (show ¬ (false = true) by decide)] at H; exact H
     clear H
     have H := H1
     clear H1
     have H' := Aside0.mk H
     clear H
     have hnb73 := NB556_543.out
     have hnc73 := NB543_556.out
     have hnb74 := NB556_544.out
     have hnc74 := NB544_556.out
     have hnb75 := NB556_550.out
     have hnc75 := NB550_556.out
     have hcz76_0 : w23.cell? ⟨gb556, 0, none⟩ = some (.int .i64 0) := (blk_cell BK556.out 0).trans rfl
     have hcz76_1 : w23.cell? ⟨gb556, 1, none⟩ = some (.slice none 0 0) := (blk_cell BK556.out 1).trans rfl
     have hfz76_0 := blk_frozen BK556.out 0
     have hfz76_1 := blk_frozen BK556.out 1
     have hnb77 := NB550_543.out
     have hnc77 := NB543_550.out
     have hnb78 := NB550_544.out
     have hnc78 := NB544_550.out
     have hcz79_0 : w23.cell? ⟨gb550, 0, none⟩ = some (.int .i64 t545) := (blk_cell BK550.out 0).trans rfl
     have hcz79_1 : w23.cell? ⟨gb550, 1, none⟩ = some (.slice Ao19 t546.length co19) := (blk_cell BK550.out 1).trans rfl
     have hfz79_0 := blk_frozen BK550.out 0
     have hfz79_1 := blk_frozen BK550.out 1
     go_wp2_with (first | (go_at_call 19; (with_reducible refine (laws_llGrid.calls k t551 _ _ t552 t545 _ _ t546 false _ ?side1 ?side2 ?side3 ?side4 A30.out).mono ?_); (case side1 => refine (Kd.R_reads' (e := 24) (base := w.heap.size) (ok := fun k_ => (((True ∧ some k_ ≠ (.slice Ao12 t537.length co12 : Value).ownBlock) ∧ some k_ ≠ (.slice Ao19 t546.length co19 : Value).ownBlock) ∧ k_ ≠ gb544)) (n := t552.length) (c := co28) ?_).2.2; exact (by (with_reducible repeat apply Kd.R_alloc); exact (Kd.R_mono (Kd.R_far (p := ⟨gb556, 1, none⟩) (Kd.R_far (p := ⟨gb556, 0, none⟩) (Kd.R_types HO554.out BK556.out (by decide)) (fun _ hk => hk.2) (.int .i64 t551)) (fun _ hk => hk.2) (.slice Ao28 t552.length co28)) (fun _ h_ => h_.1)))); (case side2 => exact (Kd.R_reads' HO554.out).2.1); (case side3 => refine (Kd.R_reads' (e := 24) (base := w.heap.size) (ok := fun k_ => (((True ∧ some k_ ≠ (.slice Ao12 t537.length co12 : Value).ownBlock) ∧ k_ ≠ gb544) ∧ some k_ ≠ (.slice Ao28 t552.length co28 : Value).ownBlock)) (n := t546.length) (c := co19) ?_).2.2; exact (by (with_reducible repeat apply Kd.R_alloc); exact (Kd.R_mono (Kd.R_far (p := ⟨gb556, 1, none⟩) (Kd.R_far (p := ⟨gb556, 0, none⟩) (Kd.R_types HO548.out BK556.out (by decide)) (fun _ hk => hk.2) (.int .i64 t551)) (fun _ hk => hk.2) (.slice Ao28 t552.length co28)) (fun _ h_ => h_.1)))); (case side4 => exact (Kd.R_reads' HO548.out).2.1); rintro e w80 ⟨rfl, hb⟩; have n0_ := Aside0.mk (Kd.Q_below (by (with_reducible repeat apply Kd.Q_alloc); exact (Kd.Q_mono (Kd.Q_far (p := ⟨gb556, 1, none⟩) (Kd.Q_far (p := ⟨gb556, 0, none⟩) (Kd.Q_types HO539.out BK556.out (by decide)) (fun _ hk => hk.2) (.int .i64 t551)) (fun _ hk => hk.2) (.slice Ao28 t552.length co28)) (fun _ h_ => h_.1))) hb); have n1_ := Aside0.mk (Kd.R_below (by (with_reducible repeat apply Kd.R_alloc); exact (Kd.R_mono (Kd.R_far (p := ⟨gb556, 1, none⟩) (Kd.R_far (p := ⟨gb556, 0, none⟩) (Kd.R_types HO548.out BK556.out (by decide)) (fun _ hk => hk.2) (.int .i64 t551)) (fun _ hk => hk.2) (.slice Ao28 t552.length co28)) (fun _ h_ => h_.1))) hb); have n2_ := Aside0.mk (Kd.R_below (by (with_reducible repeat apply Kd.R_alloc); exact (Kd.R_mono (Kd.R_far (p := ⟨gb556, 1, none⟩) (Kd.R_far (p := ⟨gb556, 0, none⟩) (Kd.R_types HO554.out BK556.out (by decide)) (fun _ hk => hk.2) (.int .i64 t551)) (fun _ hk => hk.2) (.slice Ao28 t552.length co28)) (fun _ h_ => h_.1))) hb); have n3_ := Aside0.mk (blk_below (g := gb543) (o := .cells #[.int .i64 t536, .slice Ao12 t537.length co12] 30 (0, 0)) (by (with_reducible repeat apply blk_alloc); refine blk_far ?_ NB543_556.out _; (with_reducible repeat apply blk_alloc); refine blk_far ?_ NB543_556.out _; (with_reducible repeat apply blk_alloc); exact BK543.out) hb); have n4_ := Aside0.mk (blk_below (g := gb544) (o := .cells #[.int .i64 t541, .int .i64 t542] 24 (0, 0)) (by (with_reducible repeat apply blk_alloc); refine blk_far ?_ NB544_556.out _; (with_reducible repeat apply blk_alloc); refine blk_far ?_ NB544_556.out _; (with_reducible repeat apply blk_alloc); exact BK544.out) hb); have n5_ := Aside0.mk (blk_below (g := gb550) (o := .cells #[.int .i64 t545, .slice Ao19 t546.length co19] 30 (0, 0)) (by (with_reducible repeat apply blk_alloc); refine blk_far ?_ NB550_556.out _; (with_reducible repeat apply blk_alloc); refine blk_far ?_ NB550_556.out _; (with_reducible repeat apply blk_alloc); exact BK550.out) hb); have n6_ := Aside0.mk (blk_below (g := gb556) (o := .cells #[.int .i64 t551, .slice Ao28 t552.length co28] 30 (0, 0)) (by (with_reducible repeat apply blk_alloc); refine blk_put (cs := #[.int .i64 t551, .slice none 0 0]) ?_ 1 _ rfl; (with_reducible repeat apply blk_alloc); refine blk_put (cs := #[.int .i64 0, .slice none 0 0]) ?_ 0 _ rfl; (with_reducible repeat apply blk_alloc); exact BK556.out) hb); have n7_ := Aside0.mk (below_step (by repeat first | exact HB.out | with_reducible refine below_setA ?_ ‹_› | apply below_alloc | apply pw_below_drewN) hb); clear HO539; clear HO548; clear HO554; clear BK543; clear BK544; clear BK550; clear BK556; clear HB; have HO539 := n0_; have HO548 := n1_; have HO554 := n2_; have BK543 := n3_; have BK544 := n4_; have BK550 := n5_; have BK556 := n6_; have HB := n7_; clear n0_ n1_ n2_ n3_ n4_ n5_ n6_ n7_; (try clear hb); (try clear hb2); (try clear hk); (try clear hi)))
     go_meet
     case rel => exact ⟨_, (true), (by first | rfl | (simp; done) | (simp [*]; done)), H', ⟨by first | omega | exact Nat.le_refl _⟩, ⟨by (with_reducible repeat apply Kd.Q_alloc); exact Kd.Q_mono HO539.out (fun _ hk => ⟨hk.1.2, ⟨hk.2, hk.1.1.2⟩⟩)⟩, ⟨Kd.Q_of_R (by (with_reducible repeat apply Kd.R_alloc); exact Kd.R_mono HO548.out (fun _ hk => ⟨hk.1.1.2, ⟨hk.2, hk.1.2⟩⟩))⟩, ⟨Kd.Q_of_R (by (with_reducible repeat apply Kd.R_alloc); exact Kd.R_mono HO554.out (fun _ hk => ⟨hk.1.1.2, ⟨hk.1.2, hk.2⟩⟩))⟩, ⟨by (with_reducible repeat apply blk_alloc); exact BK543.out⟩, ⟨by (with_reducible repeat apply blk_alloc); exact BK544.out⟩, ⟨by (with_reducible repeat apply blk_alloc); exact BK550.out⟩, ⟨by (with_reducible repeat apply blk_alloc); exact BK556.out⟩, ⟨by repeat first | exact HB.out | with_reducible refine below_setA ?_ ‹_› | apply below_alloc | apply pw_below_drewN⟩⟩
  case rest =>
   clear HC6
   try clear c1
   try clear c2
   try clear c2b0
   try clear c2b1
   try clear p2
   try clear c3
   try clear c4
   try clear c5
   try clear c6
   try clear c7
   try clear c8
   try clear c10
   try clear c16
   try clear c17
   try clear c24
   try clear c25
   try clear c26
   try clear c29
   try clear c29b0
   try clear c29b1
   try clear c29b2
   try clear c31
   try clear c32
   try clear c33
   try clear c33b0
   try clear c33b1
   try clear c34
   try clear c35
   try clear c36
   try clear c38
   try clear c39
   try clear c42
   try clear c44
   try clear c44b0
   try clear c44b1
   try clear c45
   try clear c46
   try clear c47
   try clear c49
   try clear c50
   try clear c53
   try clear c55
   try clear c56
   try clear c57
   try clear c59
   try clear c60
   try clear c63
   try clear c65
   try clear c66
   try clear c67
   try clear c69
   try clear c70
   try clear c73
   try clear c74
   try clear c75
   try clear c77
   try clear c78
   try clear hcz11_0
   try clear hcz11_1
   try clear hcz13_0
   try clear hcz13_1
   try clear hcz18_0
   try clear hcz18_1
   try clear hcz20_0
   try clear hcz20_1
   try clear hcz21_0
   try clear hcz21_1
   try clear hcz27_0
   try clear hcz27_1
   try clear hcz37_0
   try clear hcz37_1
   try clear hcz40_0
   try clear hcz40_1
   try clear hcz43_0
   try clear hcz43_1
   try clear hcz48_0
   try clear hcz48_1
   try clear hcz51_0
   try clear hcz51_1
   try clear hcz54_0
   try clear hcz54_1
   try clear hcz58_0
   try clear hcz58_1
   try clear hcz61_0
   try clear hcz61_1
   try clear hcz64_0
   try clear hcz64_1
   try clear hcz68_0
   try clear hcz68_1
   try clear hcz71_0
   try clear hcz71_1
   try clear hcz76_0
   try clear hcz76_1
   try clear hcz79_0
   try clear hcz79_1
   try clear hfz11_0
   try clear hfz11_1
   try clear hfz13_0
   try clear hfz13_1
   try clear hfz18_0
   try clear hfz18_1
   try clear hfz20_0
   try clear hfz20_1
   try clear hfz21_0
   try clear hfz21_1
   try clear hfz27_0
   try clear hfz27_1
   try clear hfz37_0
   try clear hfz37_1
   try clear hfz40_0
   try clear hfz40_1
   try clear hfz43_0
   try clear hfz43_1
   try clear hfz48_0
   try clear hfz48_1
   try clear hfz51_0
   try clear hfz51_1
   try clear hfz54_0
   try clear hfz54_1
   try clear hfz58_0
   try clear hfz58_1
   try clear hfz61_0
   try clear hfz61_1
   try clear hfz64_0
   try clear hfz64_1
   try clear hfz68_0
   try clear hfz68_1
   try clear hfz71_0
   try clear hfz71_1
   try clear hfz76_0
   try clear hfz76_1
   try clear hfz79_0
   try clear hfz79_1
   obtain ⟨kq, x67_5, rfl, HA, HJ5, HO_544001, HO_551001, HO_557001, BK543, BK544, BK550, BK556, HB⟩ := hcut
   cases kq with
   | zero => exact absurd HA.out (by simp [laws_FnTurnPut.j0])
   | succ kj5 =>
    have H := HA.out
    clear HA
    simp only [laws_FnTurnPut.j0] at H
    by_cases c81 : x67_5 = true
    ·subst c81
     have H1 : (if (t555 == t549) = true then ((laws_llGrid.f kj5 t551 t552 t545 t546).bind fun t558 => (some t558)) else (some false)) = some r := by rw [if_pos rfl] at H; exact H
     clear H
     have H := H1
     clear H1
     by_cases c82 : (t555 == t549) = true
     ·rw [if_pos c82] at H
      have c82b0 : (t555 == t549) = true := c82
      (try (have c82b1 : decide (t555 = t549) = true := by simpa using c82))
      (try (have c82b2 : (t555 == t549) = true := by simpa using c82))
      clear c82
      replace H := Option.bind_eq_some_iff.mp H
      obtain ⟨t558, A830, H⟩ := H
      replace H : (some t558) = some r := H
      have A83 := Aside0.mk A830
      clear A830
      obtain rfl := Option.some.inj H
      have hnb84 := NB556_543.out
      have hnc84 := NB543_556.out
      have hnb85 := NB556_544.out
      have hnc85 := NB544_556.out
      have hnb86 := NB556_550.out
      have hnc86 := NB550_556.out
      have hcz87_0 : wc.cell? ⟨gb556, 0, none⟩ = some (.int .i64 t551) := (blk_cell BK556.out 0).trans rfl
      have hcz87_1 : wc.cell? ⟨gb556, 1, none⟩ = some (.slice Ao28 t552.length co28) := (blk_cell BK556.out 1).trans rfl
      have hfz87_0 := blk_frozen BK556.out 0
      have hfz87_1 := blk_frozen BK556.out 1
      have hnb88 := NB550_543.out
      have hnc88 := NB543_550.out
      have hnb89 := NB550_544.out
      have hnc89 := NB544_550.out
      have hcz90_0 : wc.cell? ⟨gb550, 0, none⟩ = some (.int .i64 t545) := (blk_cell BK550.out 0).trans rfl
      have hcz90_1 : wc.cell? ⟨gb550, 1, none⟩ = some (.slice Ao19 t546.length co19) := (blk_cell BK550.out 1).trans rfl
      have hfz90_0 := blk_frozen BK550.out 0
      have hfz90_1 := blk_frozen BK550.out 1
      go_wp2_with (first | (go_at_call 19; (with_reducible refine (laws_llGrid.calls kj5 t551 _ _ t552 t545 _ _ t546 t558 _ ?side1 ?side2 ?side3 ?side4 A83.out).mono ?_); (case side1 => repeat (first | exact (Kd.Q_reads' HO_557001.out).2.2 | (with_reducible refine Kd.C_alloc ?_ _) | (with_reducible refine Kd.C_drewN ?_ _) | (with_reducible refine Kd.C_drew ?_))); (case side2 => exact (Kd.Q_reads' HO_557001.out).2.1); (case side3 => repeat (first | exact (Kd.Q_reads' HO_551001.out).2.2 | (with_reducible refine Kd.C_alloc ?_ _) | (with_reducible refine Kd.C_drewN ?_ _) | (with_reducible refine Kd.C_drew ?_))); (case side4 => exact (Kd.Q_reads' HO_551001.out).2.1); rintro e w91 ⟨rfl, hb⟩; have n0_ := Aside0.mk (Kd.Q_below (by (with_reducible repeat apply Kd.Q_alloc); exact HO_544001.out) hb); have n1_ := Aside0.mk (Kd.Q_below (by (with_reducible repeat apply Kd.Q_alloc); exact HO_551001.out) hb); have n2_ := Aside0.mk (Kd.Q_below (by (with_reducible repeat apply Kd.Q_alloc); exact HO_557001.out) hb); have n3_ := Aside0.mk (blk_below (bK BK543.out) hb); have n4_ := Aside0.mk (blk_below (bK BK544.out) hb); have n5_ := Aside0.mk (blk_below (bK BK550.out) hb); have n6_ := Aside0.mk (blk_below (bK BK556.out) hb); have n7_ := Aside0.mk (below_step (by repeat first | exact HB.out | with_reducible refine below_setA ?_ ‹_› | apply below_alloc | apply pw_below_drewN) hb); clear HO_544001; clear HO_551001; clear HO_557001; clear BK543; clear BK544; clear BK550; clear BK556; clear HB; have HO_544001 := n0_; have HO_551001 := n1_; have HO_557001 := n2_; have BK543 := n3_; have BK544 := n4_; have BK550 := n5_; have BK556 := n6_; have HB := n7_; clear n0_ n1_ n2_ n3_ n4_ n5_ n6_ n7_; (try clear hb); (try clear hb2); (try clear hk); (try clear hi)))
      go_ret
      exact ⟨by first | rfl | (simp [errW_none, errW_some] <;> rfl) | (simp [*, errW_none, errW_some] <;> rfl) | (exfalso; simp_all; done), by repeat first | exact HB.out | with_reducible refine below_setA ?_ ‹_› | apply below_alloc | apply pw_below_drewN⟩
     ·rw [if_neg c82] at H
      have c82b0 : (t555 == t549) = false := by simpa using c82
      (try (have c82b1 : decide (t555 = t549) = false := by simpa using c82))
      (try (have c82b2 : (t555 == t549) = false := by simpa using c82))
      (try (have c82b3 : ¬ (t555 = t549) := by simpa using c82))
      clear c82
      obtain rfl := Option.some.inj H
      exact absurd HRT.out (by decide)
    ·replace c81 := Bool.eq_false_iff.mpr c81
     subst c81
     have H1 : (if t536 = 0 then (none) else ((impl_GridTurn.f t536 t537).bind fun bt559 => ((impl_GridPut.f kj5 bt559.1 bt559.2 (wrap64 ((wrap64 ((wrap64 ((wrap64 ((Int.tmod t540 t536) * (wrap64 ((t537.length : Int) / t536)))) + (wrap64 ((t537.length : Int) / t536)))) - 1)) - (wrap64 (Int.tdiv t540 t536)))) t541 t542).bind fun bt563 => ((impl_GridFlip.f t536 t537).bind fun bt569 => ((impl_GridPut.f kj5 bt569.1 bt569.2 (wrap64 ((wrap64 ((wrap64 ((wrap64 ((wrap64 (Int.tdiv t540 t536)) * t536)) + t536)) - 1)) - (Int.tmod t540 t536))) t541 t542).bind fun bt573 => (if bt563.2.2 = true then (if bt573.2.2 = true then ((impl_GridTurn.f t551 t552).bind fun bt579 => ((laws_llGrid.f kj5 bt579.1 bt579.2 bt563.1 bt563.2.1).bind fun t583 => (if t583 = true then ((impl_GridFlip.f t551 t552).bind fun bt584 => ((laws_llGrid.f kj5 bt584.1 bt584.2 bt573.1 bt573.2.1).bind fun t588 => (some t588))) else (some false)))) else (some false)) else (some false))))))) = some r := by rw [if_neg (show ¬ (false = true) by decide)] at H; exact H
     clear H
     have H := H1
     clear H1
     by_cases c92 : t536 = 0
     ·rw [if_pos c92] at H
      exact absurd H (by simp)
     ·rw [if_neg c92] at H
      have c92b0 : (t536 == 0) = false := beq_eq_false_iff_ne.mpr c92
      have c92b1 : (t536 != 0) = true := bne_iff_ne.mpr c92
      replace H := Option.bind_eq_some_iff.mp H
      obtain ⟨⟨t559, t560⟩, A930, H⟩ := H
      replace H : ((impl_GridPut.f kj5 t559 t560 (wrap64 ((wrap64 ((wrap64 ((wrap64 ((Int.tmod t540 t536) * (wrap64 ((t537.length : Int) / t536)))) + (wrap64 ((t537.length : Int) / t536)))) - 1)) - (wrap64 (Int.tdiv t540 t536)))) t541 t542).bind fun bt563 => ((impl_GridFlip.f t536 t537).bind fun bt569 => ((impl_GridPut.f kj5 bt569.1 bt569.2 (wrap64 ((wrap64 ((wrap64 ((wrap64 ((wrap64 (Int.tdiv t540 t536)) * t536)) + t536)) - 1)) - (Int.tmod t540 t536))) t541 t542).bind fun bt573 => (if bt563.2.2 = true then (if bt573.2.2 = true then ((impl_GridTurn.f t551 t552).bind fun bt579 => ((laws_llGrid.f kj5 bt579.1 bt579.2 bt563.1 bt563.2.1).bind fun t583 => (if t583 = true then ((impl_GridFlip.f t551 t552).bind fun bt584 => ((laws_llGrid.f kj5 bt584.1 bt584.2 bt573.1 bt573.2.1).bind fun t588 => (some t588))) else (some false)))) else (some false)) else (some false))))) = some r := H
      have A93 := Aside0.mk A930
      clear A930
      replace H := Option.bind_eq_some_iff.mp H
      obtain ⟨⟨t563, t564, t567⟩, A940, H⟩ := H
      replace H : ((impl_GridFlip.f t536 t537).bind fun bt569 => ((impl_GridPut.f kj5 bt569.1 bt569.2 (wrap64 ((wrap64 ((wrap64 ((wrap64 ((wrap64 (Int.tdiv t540 t536)) * t536)) + t536)) - 1)) - (Int.tmod t540 t536))) t541 t542).bind fun bt573 => (if t567 = true then (if bt573.2.2 = true then ((impl_GridTurn.f t551 t552).bind fun bt579 => ((laws_llGrid.f kj5 bt579.1 bt579.2 t563 t564).bind fun t583 => (if t583 = true then ((impl_GridFlip.f t551 t552).bind fun bt584 => ((laws_llGrid.f kj5 bt584.1 bt584.2 bt573.1 bt573.2.1).bind fun t588 => (some t588))) else (some false)))) else (some false)) else (some false)))) = some r := H
      have A94 := Aside0.mk A940
      clear A940
      replace H := Option.bind_eq_some_iff.mp H
      obtain ⟨⟨t569, t570⟩, A950, H⟩ := H
      replace H : ((impl_GridPut.f kj5 t569 t570 (wrap64 ((wrap64 ((wrap64 ((wrap64 ((wrap64 (Int.tdiv t540 t536)) * t536)) + t536)) - 1)) - (Int.tmod t540 t536))) t541 t542).bind fun bt573 => (if t567 = true then (if bt573.2.2 = true then ((impl_GridTurn.f t551 t552).bind fun bt579 => ((laws_llGrid.f kj5 bt579.1 bt579.2 t563 t564).bind fun t583 => (if t583 = true then ((impl_GridFlip.f t551 t552).bind fun bt584 => ((laws_llGrid.f kj5 bt584.1 bt584.2 bt573.1 bt573.2.1).bind fun t588 => (some t588))) else (some false)))) else (some false)) else (some false))) = some r := H
      have A95 := Aside0.mk A950
      clear A950
      replace H := Option.bind_eq_some_iff.mp H
      obtain ⟨⟨t573, t574, t577⟩, A960, H⟩ := H
      replace H : (if t567 = true then (if t577 = true then ((impl_GridTurn.f t551 t552).bind fun bt579 => ((laws_llGrid.f kj5 bt579.1 bt579.2 t563 t564).bind fun t583 => (if t583 = true then ((impl_GridFlip.f t551 t552).bind fun bt584 => ((laws_llGrid.f kj5 bt584.1 bt584.2 t573 t574).bind fun t588 => (some t588))) else (some false)))) else (some false)) else (some false)) = some r := H
      have A96 := Aside0.mk A960
      clear A960
      by_cases c97 : t567 = true
      ·subst c97
       have H1 : (if t577 = true then ((impl_GridTurn.f t551 t552).bind fun bt579 => ((laws_llGrid.f kj5 bt579.1 bt579.2 t563 t564).bind fun t583 => (if t583 = true then ((impl_GridFlip.f t551 t552).bind fun bt584 => ((laws_llGrid.f kj5 bt584.1 bt584.2 t573 t574).bind fun t588 => (some t588))) else (some false)))) else (some false)) = some r := by rw [if_pos rfl] at H; exact H
       clear H
       have H := H1
       clear H1
       by_cases c98 : t577 = true
       ·subst c98
        have H1 : ((impl_GridTurn.f t551 t552).bind fun bt579 => ((laws_llGrid.f kj5 bt579.1 bt579.2 t563 t564).bind fun t583 => (if t583 = true then ((impl_GridFlip.f t551 t552).bind fun bt584 => ((laws_llGrid.f kj5 bt584.1 bt584.2 t573 t574).bind fun t588 => (some t588))) else (some false)))) = some r := by rw [if_pos rfl] at H; exact H
        clear H
        have H := H1
        clear H1
        replace H := Option.bind_eq_some_iff.mp H
        obtain ⟨⟨t579, t580⟩, A990, H⟩ := H
        replace H : ((laws_llGrid.f kj5 t579 t580 t563 t564).bind fun t583 => (if t583 = true then ((impl_GridFlip.f t551 t552).bind fun bt584 => ((laws_llGrid.f kj5 bt584.1 bt584.2 t573 t574).bind fun t588 => (some t588))) else (some false))) = some r := H
        have A99 := Aside0.mk A990
        clear A990
        replace H := Option.bind_eq_some_iff.mp H
        obtain ⟨t583, A1000, H⟩ := H
        replace H : (if t583 = true then ((impl_GridFlip.f t551 t552).bind fun bt584 => ((laws_llGrid.f kj5 bt584.1 bt584.2 t573 t574).bind fun t588 => (some t588))) else (some false)) = some r := H
        have A100 := Aside0.mk A1000
        clear A1000
        by_cases c101 : t583 = true
        ·subst c101
         have H1 : ((impl_GridFlip.f t551 t552).bind fun bt584 => ((laws_llGrid.f kj5 bt584.1 bt584.2 t573 t574).bind fun t588 => (some t588))) = some r := by rw [if_pos rfl] at H; exact H
         clear H
         have H := H1
         clear H1
         replace H := Option.bind_eq_some_iff.mp H
         obtain ⟨⟨t584, t585⟩, A1020, H⟩ := H
         replace H : ((laws_llGrid.f kj5 t584 t585 t573 t574).bind fun t588 => (some t588)) = some r := H
         have A102 := Aside0.mk A1020
         clear A1020
         replace H := Option.bind_eq_some_iff.mp H
         obtain ⟨t588, A1030, H⟩ := H
         replace H : (some t588) = some r := H
         have A103 := Aside0.mk A1030
         clear A1030
         obtain rfl := Option.some.inj H
         have hnb104 := NB543_544.out
         have hnc104 := NB544_543.out
         have hnb105 := NB543_550.out
         have hnc105 := NB550_543.out
         have hnb106 := NB543_556.out
         have hnc106 := NB556_543.out
         have hcz107_0 : wc.cell? ⟨gb543, 0, none⟩ = some (.int .i64 t536) := (blk_cell BK543.out 0).trans rfl
         have hcz107_1 : wc.cell? ⟨gb543, 1, none⟩ = some (.slice Ao12 t537.length co12) := (blk_cell BK543.out 1).trans rfl
         have hfz107_0 := blk_frozen BK543.out 0
         have hfz107_1 := blk_frozen BK543.out 1
         try go_wp2
         have n0_ := Aside0.mk (Kd.Q_drew HO_544001.out)
         have n1_ := Aside0.mk (Kd.Q_drew HO_551001.out)
         have n2_ := Aside0.mk (Kd.Q_drew HO_557001.out)
         have n3_ := Aside0.mk (blk_drew BK543.out)
         have n4_ := Aside0.mk (blk_drew BK544.out)
         have n5_ := Aside0.mk (blk_drew BK550.out)
         have n6_ := Aside0.mk (blk_drew BK556.out)
         have n7_ := Aside0.mk (below_drew1 HB.out)
         clear HO_544001
         clear HO_551001
         clear HO_557001
         clear BK543
         clear BK544
         clear BK550
         clear BK556
         clear HB
         have HO_544001 := n0_
         have HO_551001 := n1_
         have HO_557001 := n2_
         have BK543 := n3_
         have BK544 := n4_
         have BK550 := n5_
         have BK556 := n6_
         have HB := n7_
         clear n0_ n1_ n2_ n3_ n4_ n5_ n6_ n7_
         refine start_ (n := 18) (S := fun w' => w'.cell? ⟨gb543, 0, none⟩ = some (.int .i64 t536) ∧ w'.cell? ⟨gb543, 1, none⟩ = some (.slice Ao12 t537.length co12) ∧ w'.cell? ⟨gb544, 0, none⟩ = some (.int .i64 t541) ∧ w'.cell? ⟨gb544, 1, none⟩ = some (.int .i64 t542)) (ds := []) #[false, false, false, false, false, false, false, false, false, false, false, false, false, false, false, false, false, false] (by kernel_rfl) rfl rfl ⟨(blk_cell BK543.out 0).trans rfl, (blk_cell BK543.out 1).trans rfl, (blk_cell BK544.out 0).trans rfl, (blk_cell BK544.out 1).trans rfl⟩ (fun hHeld => ?_); refine with_tabW laws_FnTurnPut.tab11 laws_FnTurnPut.bits11 (fun HT_ HW_ => ?_)
         generalize wc.drew = w108 at HO_544001 HO_551001 HO_557001 BK543 BK544 BK550 BK556 HB hHeld ⊢
         refine pure_ (i := 2) (N := some 93) (v := ?_) (a' := ?_) #[false, false, true, false, false, false, false, false, false, false, false, false, false, false, false, false, false, false] rfl rfl (any_of HT_.out (by kernel_rfl)) (fun _ _ _ h => h) (Or.inl ⟨by rfl, ?_⟩) ?_ ?_
         rotate_left
         ·intro w'
          go_simp
          with_reducible rfl
         rotate_left
         ·simp only [Act.put, List.setIfInBounds_toArray, List.set_cons_zero, List.set_cons_succ, i64_w, i32_w]
          rfl
         refine pure_ (i := 3) (N := some 94) (v := ?_) (a' := ?_) #[false, false, true, true, false, false, false, false, false, false, false, false, false, false, false, false, false, false] rfl rfl (any_of HT_.out (by kernel_rfl)) (fun _ _ _ h => h) (Or.inl ⟨by rfl, ?_⟩) ?_ ?_
         rotate_left
         ·intro w'
          go_simp
          with_reducible rfl
         rotate_left
         ·simp only [Act.put, List.setIfInBounds_toArray, List.set_cons_zero, List.set_cons_succ, i64_w, i32_w]
          rfl
         refine pure_ (i := 4) (N := some 95) (v := ?_) (a' := ?_) #[false, false, true, true, true, false, false, false, false, false, false, false, false, false, false, false, false, false] rfl rfl (any_of HT_.out (by kernel_rfl)) (fun _ _ _ h => h) (Or.inl ⟨by rfl, ?_⟩) ?_ ?_
         rotate_left
         ·intro w'
          go_simp
          with_reducible rfl
         rotate_left
         ·simp only [Act.put, List.setIfInBounds_toArray, List.set_cons_zero, List.set_cons_succ, i64_w, i32_w]
          rfl
         refine pure_ (i := 5) (N := some 96) (v := ?_) (a' := ?_) #[false, false, true, true, true, true, false, false, false, false, false, false, false, false, false, false, false, false] rfl rfl (any_of HT_.out (by kernel_rfl)) (fun _ _ _ h => h) (Or.inl ⟨by rfl, ?_⟩) ?_ ?_
         rotate_left
         ·intro w'
          go_simp
          with_reducible rfl
         rotate_left
         ·simp only [Act.put, List.setIfInBounds_toArray, List.set_cons_zero, List.set_cons_succ, i64_w, i32_w]
          rfl
         refine pure_ (i := 6) (N := some 97) (v := ?_) (a' := ?_) #[false, false, true, true, true, true, true, false, false, false, false, false, false, false, false, false, false, false] rfl rfl (any_of HT_.out (by kernel_rfl)) (fun _ _ _ h => h) (Or.inl ⟨by rfl, ?_⟩) ?_ ?_
         rotate_left
         ·intro w'
          go_simp
          with_reducible rfl
         rotate_left
         ·simp only [Act.put, List.setIfInBounds_toArray, List.set_cons_zero, List.set_cons_succ, i64_w, i32_w]
          rfl
         refine pure_ (i := 7) (N := some 98) (v := ?_) (a' := ?_) #[false, false, true, true, true, true, true, true, false, false, false, false, false, false, false, false, false, false] rfl rfl (any_of HT_.out (by kernel_rfl)) (fun _ _ _ h => h) (Or.inl ⟨by rfl, ?_⟩) ?_ ?_
         rotate_left
         ·intro w'
          go_simp
          with_reducible rfl
         rotate_left
         ·simp only [Act.put, List.setIfInBounds_toArray, List.set_cons_zero, List.set_cons_succ, i64_w, i32_w]
          rfl
         refine pure_ (i := 8) (N := some 99) (v := ?_) (a' := ?_) #[false, false, true, true, true, true, true, true, true, false, false, false, false, false, false, false, false, false] rfl rfl (any_of HT_.out (by kernel_rfl)) (fun _ _ _ h => h) (Or.inl ⟨by rfl, ?_⟩) ?_ ?_
         rotate_left
         ·intro w'
          go_simp
          with_reducible rfl
         rotate_left
         ·simp only [Act.put, List.setIfInBounds_toArray, List.set_cons_zero, List.set_cons_succ, i64_w, i32_w]
          rfl
         refine pure_ (i := 9) (N := some 100) (v := ?_) (a' := ?_) #[false, false, true, true, true, true, true, true, true, true, false, false, false, false, false, false, false, false] rfl rfl (any_of HT_.out (by kernel_rfl)) (fun _ _ _ h => h) (Or.inl ⟨by rfl, ?_⟩) ?_ ?_
         rotate_left
         ·intro w'
          go_simp
          with_reducible rfl
         rotate_left
         ·simp only [Act.put, List.setIfInBounds_toArray, List.set_cons_zero, List.set_cons_succ, i64_w, i32_w]
          rfl
         refine take_ (i := 0) (N := some 91) (v := ?_) (a' := ?_) #[true, false, true, true, true, true, true, true, true, true, false, false, false, false, false, false, false, false] rfl rfl (take_ofW HT_.out HW_.out (by kernel_rfl)) (fun _ _ _ h => h) (Or.inl ⟨by rfl, ?_⟩) hHeld ?_ ?_
         rotate_left
         ·rintro w' ⟨s0, s1, s2, s3⟩
          go_simp
          with_reducible rfl
         rotate_left
         ·simp only [Act.put, List.setIfInBounds_toArray, List.set_cons_zero, List.set_cons_succ, i64_w, i32_w]
          rfl
         refine take_ (i := 10) (N := some 101) (v := ?_) (a' := ?_) #[true, false, true, true, true, true, true, true, true, true, true, false, false, false, false, false, false, false] rfl rfl (take_ofW HT_.out HW_.out (by kernel_rfl)) (fun _ _ _ h => h) (Or.inl ⟨by rfl, ?_⟩) hHeld ?_ ?_
         rotate_left
         ·rintro w' ⟨s0, s1, s2, s3⟩
          go_simp
          with_reducible rfl
         rotate_left
         ·simp only [Act.put, List.setIfInBounds_toArray, List.set_cons_zero, List.set_cons_succ, i64_w, i32_w]
          rfl
         refine join_ (σ := Value × Value × Nat) 2 #[true, true, true, true, true, true, true, true, true, true, true, true, true, true, true, true, false, false] (fun s_ => [(92, .agg #[.int .i64 t559, s_.1]), (102, .tuple #[.agg #[.int .i64 t563, s_.2.1], .bool true]), (13, .pointer (some ⟨s_.2.2, 0, none⟩)), (90, .tuple #[.agg #[.int .i64 t563, s_.2.1], .bool true]), (103, .agg #[.int .i64 t563, s_.2.1]), (104, .bool true)]) (fun s_ w' => (w'.cell? ⟨gb543, 0, none⟩ = some (.int .i64 t536) ∧ w'.cell? ⟨gb543, 1, none⟩ = some (.slice Ao12 t537.length co12) ∧ w'.cell? ⟨gb544, 0, none⟩ = some (.int .i64 t541) ∧ w'.cell? ⟨gb544, 1, none⟩ = some (.int .i64 t542)) ∧ (Kd.R k24 24 w' w.heap.size (fun k_ => some k_ ≠ (s_.2.1 : Value).ownBlock ∧ some k_ ≠ (.slice Ao12 t537.length co12 : Value).ownBlock ∧ some k_ ≠ (.slice Ao19 t546.length co19 : Value).ownBlock ∧ some k_ ≠ (.slice Ao28 t552.length co28 : Value).ownBlock ∧ k_ ≠ gb544) s_.1 t560) ∧ (Kd.R k24 24 w' w.heap.size (fun k_ => some k_ ≠ (s_.1 : Value).ownBlock ∧ some k_ ≠ (.slice Ao12 t537.length co12 : Value).ownBlock ∧ some k_ ≠ (.slice Ao19 t546.length co19 : Value).ownBlock ∧ some k_ ≠ (.slice Ao28 t552.length co28 : Value).ownBlock ∧ k_ ≠ gb544) s_.2.1 t564) ∧ (Kd.Q k24 24 w' w.heap.size (fun k_ => some k_ ≠ (s_.1 : Value).ownBlock ∧ some k_ ≠ (s_.2.1 : Value).ownBlock ∧ some k_ ≠ (.slice Ao19 t546.length co19 : Value).ownBlock ∧ some k_ ≠ (.slice Ao28 t552.length co28 : Value).ownBlock ∧ k_ ≠ gb544) (.slice Ao12 t537.length co12) t537) ∧ (Kd.Q k24 24 w' w.heap.size (fun k_ => some k_ ≠ (s_.1 : Value).ownBlock ∧ some k_ ≠ (s_.2.1 : Value).ownBlock ∧ some k_ ≠ (.slice Ao12 t537.length co12 : Value).ownBlock ∧ some k_ ≠ (.slice Ao28 t552.length co28 : Value).ownBlock ∧ k_ ≠ gb544) (.slice Ao19 t546.length co19) t546) ∧ (Kd.Q k24 24 w' w.heap.size (fun k_ => some k_ ≠ (s_.1 : Value).ownBlock ∧ some k_ ≠ (s_.2.1 : Value).ownBlock ∧ some k_ ≠ (.slice Ao12 t537.length co12 : Value).ownBlock ∧ some k_ ≠ (.slice Ao19 t546.length co19 : Value).ownBlock ∧ k_ ≠ gb544) (.slice Ao28 t552.length co28) t552) ∧ (w'.heap[gb543]? = some (.cells #[.int .i64 t536, .slice Ao12 t537.length co12] 30 (0, 0))) ∧ (w'.heap[gb544]? = some (.cells #[.int .i64 t541, .int .i64 t542] 24 (0, 0))) ∧ (w'.heap[gb550]? = some (.cells #[.int .i64 t545, .slice Ao19 t546.length co19] 30 (0, 0))) ∧ (w'.heap[gb556]? = some (.cells #[.int .i64 t551, .slice Ao28 t552.length co28] 30 (0, 0))) ∧ (w'.heap[s_.2.2]? = some (.cells #[.int .i64 0, .slice none 0 0] 30 (0, 0))) ∧ (w.heap.size ≤ s_.2.2) ∧ (w.heap.size ≤ s_.2.2) ∧ (gb543 ≠ s_.2.2) ∧ (s_.2.2 ≠ gb543) ∧ (gb544 ≠ s_.2.2) ∧ (s_.2.2 ≠ gb544) ∧ (gb550 ≠ s_.2.2) ∧ (s_.2.2 ≠ gb550) ∧ (gb556 ≠ s_.2.2) ∧ (s_.2.2 ≠ gb556) ∧ (Below w.heap.size w w')) ?_ ?_
         rotate_left
         ·intro hCont
          refine two_ (i := 1) (j := 15) (Ni := some 92) (Nj := some 13) #[true, true, true, true, true, true, true, true, true, true, true, false, false, false, false, false, false, false] #[true, false, true, true, true, true, true, true, true, true, true, false, false, false, false, true, false, false] rfl rfl rfl rfl (two_of HT_.out (by kernel_rfl)) (by decide) (by decide) (fun K hK => ?_) (fun K hK => ?_)
          ·skip
           refine goes_ Try.func18 (by kernel_rfl) rfl #[.agg #[.int .i64 t536, .slice Ao12 t537.length co12]] (by rfl) rfl rfl (by first | rfl | (simp only [List.map_toArray, List.map_cons, List.map_nil, List.length_drop, List.length_take]; try rfl)) ?_
           with_reducible refine (impl_GridTurn.calls t536 _ _ t537 t559 t560 _ ?side1 ?side2 A93.out).mono ?_
           (case side1 => repeat (first | exact (Kd.Q_reads' HO_544001.out).2.2 | (with_reducible refine Kd.C_alloc ?_ _) | (with_reducible refine Kd.C_drewN ?_ _) | (with_reducible refine Kd.C_drew ?_)))
           (case side2 => exact (Kd.Q_reads' HO_544001.out).2.1)
           rintro e w109 ⟨v561, rfl, ho0, hb⟩
           refine ⟨_, rfl, ?_⟩
           have n0_ := Aside0.mk (Kd.Q_elder' (by (with_reducible repeat apply Kd.Q_alloc); exact HO_544001.out) (Kd.R_base ho0) hb)
           have n1_ := Aside0.mk (Kd.Q_elder' (by (with_reducible repeat apply Kd.Q_alloc); exact HO_551001.out) (Kd.R_base ho0) hb)
           have n2_ := Aside0.mk (Kd.Q_elder' (by (with_reducible repeat apply Kd.Q_alloc); exact HO_557001.out) (Kd.R_base ho0) hb)
           have n3_ := Aside0.mk (Kd.R_lower (Kd.R_newB (Kd.R_new' (Kd.R_new' (Kd.R_new' ho0 (Kd.Q_lt (by (with_reducible repeat apply Kd.Q_alloc); exact HO_544001.out))) (Kd.Q_lt (by (with_reducible repeat apply Kd.Q_alloc); exact HO_551001.out))) (Kd.Q_lt (by (with_reducible repeat apply Kd.Q_alloc); exact HO_557001.out))) (g := gb544) (o := .cells #[.int .i64 t541, .int .i64 t542] 24 (0, 0)) (bK BK544.out)) (below_size (by repeat first | exact HB.out | with_reducible refine below_setA ?_ ‹_› | apply below_alloc | apply pw_below_drewN)))
           have n4_ := Aside0.mk (blk_below (bK BK543.out) hb)
           have n5_ := Aside0.mk (blk_below (bK BK544.out) hb)
           have n6_ := Aside0.mk (blk_below (bK BK550.out) hb)
           have n7_ := Aside0.mk (blk_below (bK BK556.out) hb)
           have n8_ := Aside0.mk (below_step (by repeat first | exact HB.out | with_reducible refine below_setA ?_ ‹_› | apply below_alloc | apply pw_below_drewN) hb)
           clear HO_544001
           clear HO_551001
           clear HO_557001
           clear BK543
           clear BK544
           clear BK550
           clear BK556
           clear HB
           have HO_544001 := n0_
           have HO_551001 := n1_
           have HO_557001 := n2_
           have HO562 := n3_
           have BK543 := n4_
           have BK544 := n5_
           have BK550 := n6_
           have BK556 := n7_
           have HB := n8_
           clear n0_ n1_ n2_ n3_ n4_ n5_ n6_ n7_ n8_
           (try clear hb)
           (try clear hb2)
           (try clear hk)
           (try clear hi)
           (try clear ho0)
           obtain ⟨Ao110, co110, eo110⟩ := Kd.R_slice HO562.out
           (first | subst eo110 | (injection eo110 with f1_ f2_ f3_; have f4_ := f1_.symm; have f5_ := f3_.symm; clear f1_ f2_ f3_; subst f4_; subst f5_))
           refine hK.out _ _ ⟨(blk_cell BK543.out 0).trans rfl, (blk_cell BK543.out 1).trans rfl, (blk_cell BK544.out 0).trans rfl, (blk_cell BK544.out 1).trans rfl⟩ (fun hHeld => ?_)
           clear hK K
           refine norm_ (a' := ?_) ?_ ?_
           rotate_left
           ·show Act.put _ (some 92) _ = _
            simp only [Act.put, List.setIfInBounds_toArray, List.set_cons_zero, List.set_cons_succ, i64_w, i32_w]
            rfl
           refine two_ (i := 11) (j := 15) (Ni := some 102) (Nj := some 13) #[true, true, true, true, true, true, true, true, true, true, true, true, false, false, false, false, false, false] #[true, true, true, true, true, true, true, true, true, true, true, false, false, false, false, true, false, false] rfl rfl rfl rfl (two_of HT_.out (by kernel_rfl)) (by decide) (by decide) (fun K hK => ?_) (fun K hK => ?_)
           ·skip
            refine goes_ Try.func36 (by kernel_rfl) rfl #[.agg #[.int .i64 t559, .slice Ao110 t560.length co110], .int .i64 (wrap64 ((wrap64 ((wrap64 ((wrap64 ((Int.tmod t540 t536) * (wrap64 ((t537.length : Int) / t536)))) + (wrap64 ((t537.length : Int) / t536)))) - 1)) - (wrap64 (Int.tdiv t540 t536)))), .agg #[.int .i64 t541, .int .i64 t542]] (by rfl) rfl rfl (by first | rfl | (simp only [List.map_toArray, List.map_cons, List.map_nil, List.length_drop, List.length_take]; try rfl)) ?_
            with_reducible refine (impl_GridPut.calls kj5 t559 _ _ t560 (wrap64 ((wrap64 ((wrap64 ((wrap64 ((Int.tmod t540 t536) * (wrap64 ((t537.length : Int) / t536)))) + (wrap64 ((t537.length : Int) / t536)))) - 1)) - (wrap64 (Int.tdiv t540 t536)))) t541 t542 t563 t564 true _ ?side1 ?side2 A94.out).mono ?_
            (case side1 => repeat (first | exact (Kd.R_reads' HO562.out).2.2 | (with_reducible refine Kd.C_alloc ?_ _) | (with_reducible refine Kd.C_drewN ?_ _) | (with_reducible refine Kd.C_drew ?_)))
            (case side2 => exact (Kd.R_reads' HO562.out).2.1)
            rintro e w111 ⟨v565, rfl, ho0, hb⟩
            refine ⟨_, rfl, ?_⟩
            have n0_ := Aside0.mk (Kd.Q_elder' (by (with_reducible repeat apply Kd.Q_alloc); exact HO_544001.out) (Kd.R_base ho0) hb)
            have n1_ := Aside0.mk (Kd.Q_elder' (by (with_reducible repeat apply Kd.Q_alloc); exact HO_551001.out) (Kd.R_base ho0) hb)
            have n2_ := Aside0.mk (Kd.Q_elder' (by (with_reducible repeat apply Kd.Q_alloc); exact HO_557001.out) (Kd.R_base ho0) hb)
            have n3_ := Aside0.mk (Kd.R_elder' (kR HO562.out) (Kd.R_base ho0) hb)
            have n4_ := Aside0.mk (Kd.R_lower (Kd.R_newB (Kd.R_new' (Kd.R_new' (Kd.R_new' (Kd.R_new' ho0 (Kd.Q_lt (by (with_reducible repeat apply Kd.Q_alloc); exact HO_544001.out))) (Kd.Q_lt (by (with_reducible repeat apply Kd.Q_alloc); exact HO_551001.out))) (Kd.Q_lt (by (with_reducible repeat apply Kd.Q_alloc); exact HO_557001.out))) (Kd.R_lt (kR HO562.out))) (g := gb544) (o := .cells #[.int .i64 t541, .int .i64 t542] 24 (0, 0)) (bK BK544.out)) (below_size (by repeat first | exact HB.out | with_reducible refine below_setA ?_ ‹_› | apply below_alloc | apply pw_below_drewN)))
            have n5_ := Aside0.mk (blk_below (bK BK543.out) hb)
            have n6_ := Aside0.mk (blk_below (bK BK544.out) hb)
            have n7_ := Aside0.mk (blk_below (bK BK550.out) hb)
            have n8_ := Aside0.mk (blk_below (bK BK556.out) hb)
            have n9_ := Aside0.mk (below_step (by repeat first | exact HB.out | with_reducible refine below_setA ?_ ‹_› | apply below_alloc | apply pw_below_drewN) hb)
            clear HO_544001
            clear HO_551001
            clear HO_557001
            clear HO562
            clear BK543
            clear BK544
            clear BK550
            clear BK556
            clear HB
            have HO_544001 := n0_
            have HO_551001 := n1_
            have HO_557001 := n2_
            have HO562 := n3_
            have HO566 := n4_
            have BK543 := n5_
            have BK544 := n6_
            have BK550 := n7_
            have BK556 := n8_
            have HB := n9_
            clear n0_ n1_ n2_ n3_ n4_ n5_ n6_ n7_ n8_ n9_
            (try clear hb)
            (try clear hb2)
            (try clear hk)
            (try clear hi)
            (try clear ho0)
            refine hK.out _ _ ⟨(blk_cell BK543.out 0).trans rfl, (blk_cell BK543.out 1).trans rfl, (blk_cell BK544.out 0).trans rfl, (blk_cell BK544.out 1).trans rfl⟩ (fun hHeld => ?_)
            clear hK K
            refine norm_ (a' := ?_) ?_ ?_
            rotate_left
            ·show Act.put _ (some 102) _ = _
             simp only [Act.put, List.setIfInBounds_toArray, List.set_cons_zero, List.set_cons_succ, i64_w, i32_w]
             rfl
            refine pure_ (i := 12) (N := some 90) (v := ?_) (a' := ?_) #[true, true, true, true, true, true, true, true, true, true, true, true, true, false, false, false, false, false] rfl rfl (any_of HT_.out (by kernel_rfl)) (fun _ _ _ h => h) (Or.inl ⟨by rfl, ?_⟩) ?_ ?_
            rotate_left
            ·intro w'
             go_simp
             with_reducible rfl
            rotate_left
            ·simp only [Act.put, List.setIfInBounds_toArray, List.set_cons_zero, List.set_cons_succ, i64_w, i32_w]
             rfl
            refine pure_ (i := 13) (N := some 103) (v := ?_) (a' := ?_) #[true, true, true, true, true, true, true, true, true, true, true, true, true, true, false, false, false, false] rfl rfl (any_of HT_.out (by kernel_rfl)) (fun _ _ _ h => h) (Or.inl ⟨by rfl, ?_⟩) ?_ ?_
            rotate_left
            ·intro w'
             go_simp
             with_reducible rfl
            rotate_left
            ·simp only [Act.put, List.setIfInBounds_toArray, List.set_cons_zero, List.set_cons_succ, i64_w, i32_w]
             rfl
            refine pure_ (i := 14) (N := some 104) (v := ?_) (a' := ?_) #[true, true, true, true, true, true, true, true, true, true, true, true, true, true, true, false, false, false] rfl rfl (any_of HT_.out (by kernel_rfl)) (fun _ _ _ h => h) (Or.inl ⟨by rfl, ?_⟩) ?_ ?_
            rotate_left
            ·intro w'
             go_simp
             with_reducible rfl
            rotate_left
            ·simp only [Act.put, List.setIfInBounds_toArray, List.set_cons_zero, List.set_cons_succ, i64_w, i32_w]
             rfl
            refine one_ (i := 15) (N := some 13) #[true, true, true, true, true, true, true, true, true, true, true, true, true, true, true, true, false, false] rfl rfl (one_of HT_.out (by kernel_rfl)) (by decide) (fun K hK => ?_)
            refine box_step ?hg (N := 13) ?hd (cs := #[.int .i64 0, .slice none 0 0]) (t := 30) ?hr ?_; (case hd => rfl); (case hg => rfl); (case hr => first | (go_simp; done) | (go_simp; rfl))
            intro gb568 hg w112 hbox hb
            have n0_ := Aside0.mk (Kd.Q_below (by (with_reducible repeat apply Kd.Q_alloc); exact HO_544001.out) hb)
            have n1_ := Aside0.mk (Kd.Q_below (by (with_reducible repeat apply Kd.Q_alloc); exact HO_551001.out) hb)
            have n2_ := Aside0.mk (Kd.Q_below (by (with_reducible repeat apply Kd.Q_alloc); exact HO_557001.out) hb)
            have n3_ := Aside0.mk (Kd.R_below (kR HO562.out) hb)
            have n4_ := Aside0.mk (Kd.R_below (kR HO566.out) hb)
            have n5_ := Aside0.mk (blk_below (bK BK543.out) hb)
            have n6_ := Aside0.mk (blk_below (bK BK544.out) hb)
            have n7_ := Aside0.mk (blk_below (bK BK550.out) hb)
            have n8_ := Aside0.mk (blk_below (bK BK556.out) hb)
            have n9_ := Aside0.mk (below_step (by repeat first | exact HB.out | with_reducible refine below_setA ?_ ‹_› | apply below_alloc | apply pw_below_drewN) hb)
            have n10_ := Aside0.mk (hbox)
            have n11_ := Aside0.mk ((by rw [hg]; exact (below_size (by repeat first | exact HB.out | with_reducible refine below_setA ?_ ‹_› | apply below_alloc | apply pw_below_drewN)) : w.heap.size ≤ gb568))
            have n12_ := Aside0.mk ((by rw [hg]; exact (below_size (by repeat first | exact HB.out | with_reducible refine below_setA ?_ ‹_› | apply below_alloc | apply pw_below_drewN)) : w.heap.size ≤ gb568))
            have n13_ := Aside0.mk ((by rw [hg]; exact Nat.ne_of_lt (blk_lt (bK BK543.out)) : gb543 ≠ gb568))
            have n14_ := Aside0.mk ((by rw [hg]; exact Nat.ne_of_gt (blk_lt (bK BK543.out)) : gb568 ≠ gb543))
            have n15_ := Aside0.mk ((by rw [hg]; exact Nat.ne_of_lt (blk_lt (bK BK544.out)) : gb544 ≠ gb568))
            have n16_ := Aside0.mk ((by rw [hg]; exact Nat.ne_of_gt (blk_lt (bK BK544.out)) : gb568 ≠ gb544))
            have n17_ := Aside0.mk ((by rw [hg]; exact Nat.ne_of_lt (blk_lt (bK BK550.out)) : gb550 ≠ gb568))
            have n18_ := Aside0.mk ((by rw [hg]; exact Nat.ne_of_gt (blk_lt (bK BK550.out)) : gb568 ≠ gb550))
            have n19_ := Aside0.mk ((by rw [hg]; exact Nat.ne_of_lt (blk_lt (bK BK556.out)) : gb556 ≠ gb568))
            have n20_ := Aside0.mk ((by rw [hg]; exact Nat.ne_of_gt (blk_lt (bK BK556.out)) : gb568 ≠ gb556))
            clear HO_544001
            clear HO_551001
            clear HO_557001
            clear HO562
            clear HO566
            clear BK543
            clear BK544
            clear BK550
            clear BK556
            clear HB
            have HO_544001 := n0_
            have HO_551001 := n1_
            have HO_557001 := n2_
            have HO562 := n3_
            have HO566 := n4_
            have BK543 := n5_
            have BK544 := n6_
            have BK550 := n7_
            have BK556 := n8_
            have HB := n9_
            have BK568 := n10_
            have GW568 := n11_
            have GE568 := n12_
            have NB543_568 := n13_
            have NB568_543 := n14_
            have NB544_568 := n15_
            have NB568_544 := n16_
            have NB550_568 := n17_
            have NB568_550 := n18_
            have NB556_568 := n19_
            have NB568_556 := n20_
            clear n0_ n1_ n2_ n3_ n4_ n5_ n6_ n7_ n8_ n9_ n10_ n11_ n12_ n13_ n14_ n15_ n16_ n17_ n18_ n19_ n20_
            clear hb hbox hg
            refine hK.out _ _ ⟨(blk_cell BK543.out 0).trans rfl, (blk_cell BK543.out 1).trans rfl, (blk_cell BK544.out 0).trans rfl, (blk_cell BK544.out 1).trans rfl⟩ (fun hHeld => ?_)
            clear hK K
            refine norm_ (a' := ?_) ?_ ?_
            rotate_left
            ·show Act.put _ (some 13) _ = _
             simp only [Act.put, List.setIfInBounds_toArray, List.set_cons_zero, List.set_cons_succ, i64_w, i32_w]
             rfl
            exact norm_ (by simp only [putAll, Act.put, List.setIfInBounds_toArray, List.set_cons_zero, List.set_cons_succ]) (hCont (.slice Ao110 t560.length co110, v565, gb568) _ ⟨hHeld, (by (with_reducible repeat apply Kd.R_alloc); exact Kd.R_mono HO562.out (fun _ hk => ⟨hk.2, ⟨hk.1.1.1.1.2, ⟨hk.1.1.1.2, ⟨hk.1.1.2, hk.1.2⟩⟩⟩⟩)), (by (with_reducible repeat apply Kd.R_alloc); exact Kd.R_mono HO566.out (fun _ hk => ⟨hk.1.2, ⟨hk.1.1.1.1.2, ⟨hk.1.1.1.2, ⟨hk.1.1.2, hk.2⟩⟩⟩⟩)), (by (with_reducible repeat apply Kd.Q_alloc); exact Kd.Q_mono HO_544001.out (fun _ hk => ⟨hk.1.2, ⟨hk.2, ⟨hk.1.1.1, ⟨hk.1.1.2.1, hk.1.1.2.2⟩⟩⟩⟩)), (by (with_reducible repeat apply Kd.Q_alloc); exact Kd.Q_mono HO_551001.out (fun _ hk => ⟨hk.1.2, ⟨hk.2, ⟨hk.1.1.1, ⟨hk.1.1.2.1, hk.1.1.2.2⟩⟩⟩⟩)), (by (with_reducible repeat apply Kd.Q_alloc); exact Kd.Q_mono HO_557001.out (fun _ hk => ⟨hk.1.2, ⟨hk.2, ⟨hk.1.1.1, ⟨hk.1.1.2.1, hk.1.1.2.2⟩⟩⟩⟩)), (bK BK543.out), (bK BK544.out), (bK BK550.out), (bK BK556.out), (bK BK568.out), GW568.out, GE568.out, NB543_568.out, NB568_543.out, NB544_568.out, NB568_544.out, NB550_568.out, NB568_550.out, NB556_568.out, NB568_556.out, (by repeat first | exact HB.out | with_reducible refine below_setA ?_ ‹_› | apply below_alloc | apply pw_below_drewN)⟩)
           ·skip
            refine box_step ?hg (N := 13) ?hd (cs := #[.int .i64 0, .slice none 0 0]) (t := 30) ?hr ?_; (case hd => rfl); (case hg => rfl); (case hr => first | (go_simp; done) | (go_simp; rfl))
            intro gb568 hg w110 hbox hb
            have n0_ := Aside0.mk (Kd.Q_below (by (with_reducible repeat apply Kd.Q_alloc); exact HO_544001.out) hb)
            have n1_ := Aside0.mk (Kd.Q_below (by (with_reducible repeat apply Kd.Q_alloc); exact HO_551001.out) hb)
            have n2_ := Aside0.mk (Kd.Q_below (by (with_reducible repeat apply Kd.Q_alloc); exact HO_557001.out) hb)
            have n3_ := Aside0.mk (Kd.R_below (kR HO562.out) hb)
            have n4_ := Aside0.mk (blk_below (bK BK543.out) hb)
            have n5_ := Aside0.mk (blk_below (bK BK544.out) hb)
            have n6_ := Aside0.mk (blk_below (bK BK550.out) hb)
            have n7_ := Aside0.mk (blk_below (bK BK556.out) hb)
            have n8_ := Aside0.mk (below_step (by repeat first | exact HB.out | with_reducible refine below_setA ?_ ‹_› | apply below_alloc | apply pw_below_drewN) hb)
            have n9_ := Aside0.mk (hbox)
            have n10_ := Aside0.mk ((by rw [hg]; exact (below_size (by repeat first | exact HB.out | with_reducible refine below_setA ?_ ‹_› | apply below_alloc | apply pw_below_drewN)) : w.heap.size ≤ gb568))
            have n11_ := Aside0.mk ((by rw [hg]; exact (below_size (by repeat first | exact HB.out | with_reducible refine below_setA ?_ ‹_› | apply below_alloc | apply pw_below_drewN)) : w.heap.size ≤ gb568))
            have n12_ := Aside0.mk ((by rw [hg]; exact Nat.ne_of_lt (blk_lt (bK BK543.out)) : gb543 ≠ gb568))
            have n13_ := Aside0.mk ((by rw [hg]; exact Nat.ne_of_gt (blk_lt (bK BK543.out)) : gb568 ≠ gb543))
            have n14_ := Aside0.mk ((by rw [hg]; exact Nat.ne_of_lt (blk_lt (bK BK544.out)) : gb544 ≠ gb568))
            have n15_ := Aside0.mk ((by rw [hg]; exact Nat.ne_of_gt (blk_lt (bK BK544.out)) : gb568 ≠ gb544))
            have n16_ := Aside0.mk ((by rw [hg]; exact Nat.ne_of_lt (blk_lt (bK BK550.out)) : gb550 ≠ gb568))
            have n17_ := Aside0.mk ((by rw [hg]; exact Nat.ne_of_gt (blk_lt (bK BK550.out)) : gb568 ≠ gb550))
            have n18_ := Aside0.mk ((by rw [hg]; exact Nat.ne_of_lt (blk_lt (bK BK556.out)) : gb556 ≠ gb568))
            have n19_ := Aside0.mk ((by rw [hg]; exact Nat.ne_of_gt (blk_lt (bK BK556.out)) : gb568 ≠ gb556))
            clear HO_544001
            clear HO_551001
            clear HO_557001
            clear HO562
            clear BK543
            clear BK544
            clear BK550
            clear BK556
            clear HB
            have HO_544001 := n0_
            have HO_551001 := n1_
            have HO_557001 := n2_
            have HO562 := n3_
            have BK543 := n4_
            have BK544 := n5_
            have BK550 := n6_
            have BK556 := n7_
            have HB := n8_
            have BK568 := n9_
            have GW568 := n10_
            have GE568 := n11_
            have NB543_568 := n12_
            have NB568_543 := n13_
            have NB544_568 := n14_
            have NB568_544 := n15_
            have NB550_568 := n16_
            have NB568_550 := n17_
            have NB556_568 := n18_
            have NB568_556 := n19_
            clear n0_ n1_ n2_ n3_ n4_ n5_ n6_ n7_ n8_ n9_ n10_ n11_ n12_ n13_ n14_ n15_ n16_ n17_ n18_ n19_
            clear hb hbox hg
            obtain ⟨Ao111, co111, eo111⟩ := Kd.R_slice HO562.out
            (first | subst eo111 | (injection eo111 with f1_ f2_ f3_; have f4_ := f1_.symm; have f5_ := f3_.symm; clear f1_ f2_ f3_; subst f4_; subst f5_))
            refine hK.out _ _ ⟨(blk_cell BK543.out 0).trans rfl, (blk_cell BK543.out 1).trans rfl, (blk_cell BK544.out 0).trans rfl, (blk_cell BK544.out 1).trans rfl⟩ (fun hHeld => ?_)
            clear hK K
            refine norm_ (a' := ?_) ?_ ?_
            rotate_left
            ·show Act.put _ (some 13) _ = _
             simp only [Act.put, List.setIfInBounds_toArray, List.set_cons_zero, List.set_cons_succ, i64_w, i32_w]
             rfl
            refine one_ (i := 11) (N := some 102) #[true, true, true, true, true, true, true, true, true, true, true, true, false, false, false, true, false, false] rfl rfl (one_of HT_.out (by kernel_rfl)) (by decide) (fun K hK => ?_)
            refine goes_ Try.func36 (by kernel_rfl) rfl #[.agg #[.int .i64 t559, .slice Ao111 t560.length co111], .int .i64 (wrap64 ((wrap64 ((wrap64 ((wrap64 ((Int.tmod t540 t536) * (wrap64 ((t537.length : Int) / t536)))) + (wrap64 ((t537.length : Int) / t536)))) - 1)) - (wrap64 (Int.tdiv t540 t536)))), .agg #[.int .i64 t541, .int .i64 t542]] (by rfl) rfl rfl (by first | rfl | (simp only [List.map_toArray, List.map_cons, List.map_nil, List.length_drop, List.length_take]; try rfl)) ?_
            with_reducible refine (impl_GridPut.calls kj5 t559 _ _ t560 (wrap64 ((wrap64 ((wrap64 ((wrap64 ((Int.tmod t540 t536) * (wrap64 ((t537.length : Int) / t536)))) + (wrap64 ((t537.length : Int) / t536)))) - 1)) - (wrap64 (Int.tdiv t540 t536)))) t541 t542 t563 t564 true _ ?side1 ?side2 A94.out).mono ?_
            (case side1 => repeat (first | exact (Kd.R_reads' HO562.out).2.2 | (with_reducible refine Kd.C_alloc ?_ _) | (with_reducible refine Kd.C_drewN ?_ _) | (with_reducible refine Kd.C_drew ?_)))
            (case side2 => exact (Kd.R_reads' HO562.out).2.1)
            rintro e w112 ⟨v565, rfl, ho0, hb⟩
            refine ⟨_, rfl, ?_⟩
            have n0_ := Aside0.mk (Kd.Q_elder' (by (with_reducible repeat apply Kd.Q_alloc); exact HO_544001.out) (Kd.R_base ho0) hb)
            have n1_ := Aside0.mk (Kd.Q_elder' (by (with_reducible repeat apply Kd.Q_alloc); exact HO_551001.out) (Kd.R_base ho0) hb)
            have n2_ := Aside0.mk (Kd.Q_elder' (by (with_reducible repeat apply Kd.Q_alloc); exact HO_557001.out) (Kd.R_base ho0) hb)
            have n3_ := Aside0.mk (Kd.R_elder' (kR HO562.out) (Kd.R_base ho0) hb)
            have n4_ := Aside0.mk (Kd.R_lower (Kd.R_newB (Kd.R_new' (Kd.R_new' (Kd.R_new' (Kd.R_new' ho0 (Kd.Q_lt (by (with_reducible repeat apply Kd.Q_alloc); exact HO_544001.out))) (Kd.Q_lt (by (with_reducible repeat apply Kd.Q_alloc); exact HO_551001.out))) (Kd.Q_lt (by (with_reducible repeat apply Kd.Q_alloc); exact HO_557001.out))) (Kd.R_lt (kR HO562.out))) (g := gb544) (o := .cells #[.int .i64 t541, .int .i64 t542] 24 (0, 0)) (bK BK544.out)) (below_size (by repeat first | exact HB.out | with_reducible refine below_setA ?_ ‹_› | apply below_alloc | apply pw_below_drewN)))
            have n5_ := Aside0.mk (blk_below (bK BK543.out) hb)
            have n6_ := Aside0.mk (blk_below (bK BK544.out) hb)
            have n7_ := Aside0.mk (blk_below (bK BK550.out) hb)
            have n8_ := Aside0.mk (blk_below (bK BK556.out) hb)
            have n9_ := Aside0.mk (blk_below (bK BK568.out) hb)
            have n10_ := Aside0.mk (below_step (by repeat first | exact HB.out | with_reducible refine below_setA ?_ ‹_› | apply below_alloc | apply pw_below_drewN) hb)
            clear HO_544001
            clear HO_551001
            clear HO_557001
            clear HO562
            clear BK543
            clear BK544
            clear BK550
            clear BK556
            clear BK568
            clear HB
            have HO_544001 := n0_
            have HO_551001 := n1_
            have HO_557001 := n2_
            have HO562 := n3_
            have HO566 := n4_
            have BK543 := n5_
            have BK544 := n6_
            have BK550 := n7_
            have BK556 := n8_
            have BK568 := n9_
            have HB := n10_
            clear n0_ n1_ n2_ n3_ n4_ n5_ n6_ n7_ n8_ n9_ n10_
            (try clear hb)
            (try clear hb2)
            (try clear hk)
            (try clear hi)
            (try clear ho0)
            refine hK.out _ _ ⟨(blk_cell BK543.out 0).trans rfl, (blk_cell BK543.out 1).trans rfl, (blk_cell BK544.out 0).trans rfl, (blk_cell BK544.out 1).trans rfl⟩ (fun hHeld => ?_)
            clear hK K
            refine norm_ (a' := ?_) ?_ ?_
            rotate_left
            ·show Act.put _ (some 102) _ = _
             simp only [Act.put, List.setIfInBounds_toArray, List.set_cons_zero, List.set_cons_succ, i64_w, i32_w]
             rfl
            refine pure_ (i := 12) (N := some 90) (v := ?_) (a' := ?_) #[true, true, true, true, true, true, true, true, true, true, true, true, true, false, false, true, false, false] rfl rfl (any_of HT_.out (by kernel_rfl)) (fun _ _ _ h => h) (Or.inl ⟨by rfl, ?_⟩) ?_ ?_
            rotate_left
            ·intro w'
             go_simp
             with_reducible rfl
            rotate_left
            ·simp only [Act.put, List.setIfInBounds_toArray, List.set_cons_zero, List.set_cons_succ, i64_w, i32_w]
             rfl
            refine pure_ (i := 13) (N := some 103) (v := ?_) (a' := ?_) #[true, true, true, true, true, true, true, true, true, true, true, true, true, true, false, true, false, false] rfl rfl (any_of HT_.out (by kernel_rfl)) (fun _ _ _ h => h) (Or.inl ⟨by rfl, ?_⟩) ?_ ?_
            rotate_left
            ·intro w'
             go_simp
             with_reducible rfl
            rotate_left
            ·simp only [Act.put, List.setIfInBounds_toArray, List.set_cons_zero, List.set_cons_succ, i64_w, i32_w]
             rfl
            refine pure_ (i := 14) (N := some 104) (v := ?_) (a' := ?_) #[true, true, true, true, true, true, true, true, true, true, true, true, true, true, true, true, false, false] rfl rfl (any_of HT_.out (by kernel_rfl)) (fun _ _ _ h => h) (Or.inl ⟨by rfl, ?_⟩) ?_ ?_
            rotate_left
            ·intro w'
             go_simp
             with_reducible rfl
            rotate_left
            ·simp only [Act.put, List.setIfInBounds_toArray, List.set_cons_zero, List.set_cons_succ, i64_w, i32_w]
             rfl
            exact norm_ (by simp only [putAll, Act.put, List.setIfInBounds_toArray, List.set_cons_zero, List.set_cons_succ]) (hCont (.slice Ao111 t560.length co111, v565, gb568) _ ⟨hHeld, (by (with_reducible repeat apply Kd.R_alloc); exact Kd.R_mono HO562.out (fun _ hk => ⟨hk.2, ⟨hk.1.1.1.1.2, ⟨hk.1.1.1.2, ⟨hk.1.1.2, hk.1.2⟩⟩⟩⟩)), (by (with_reducible repeat apply Kd.R_alloc); exact Kd.R_mono HO566.out (fun _ hk => ⟨hk.1.2, ⟨hk.1.1.1.1.2, ⟨hk.1.1.1.2, ⟨hk.1.1.2, hk.2⟩⟩⟩⟩)), (by (with_reducible repeat apply Kd.Q_alloc); exact Kd.Q_mono HO_544001.out (fun _ hk => ⟨hk.1.2, ⟨hk.2, ⟨hk.1.1.1, ⟨hk.1.1.2.1, hk.1.1.2.2⟩⟩⟩⟩)), (by (with_reducible repeat apply Kd.Q_alloc); exact Kd.Q_mono HO_551001.out (fun _ hk => ⟨hk.1.2, ⟨hk.2, ⟨hk.1.1.1, ⟨hk.1.1.2.1, hk.1.1.2.2⟩⟩⟩⟩)), (by (with_reducible repeat apply Kd.Q_alloc); exact Kd.Q_mono HO_557001.out (fun _ hk => ⟨hk.1.2, ⟨hk.2, ⟨hk.1.1.1, ⟨hk.1.1.2.1, hk.1.1.2.2⟩⟩⟩⟩)), (bK BK543.out), (bK BK544.out), (bK BK550.out), (bK BK556.out), (bK BK568.out), GW568.out, GE568.out, NB543_568.out, NB568_543.out, NB544_568.out, NB568_544.out, NB550_568.out, NB568_550.out, NB556_568.out, NB568_556.out, (by repeat first | exact HB.out | with_reducible refine below_setA ?_ ‹_› | apply below_alloc | apply pw_below_drewN)⟩)
          ·skip
           refine box_step ?hg (N := 13) ?hd (cs := #[.int .i64 0, .slice none 0 0]) (t := 30) ?hr ?_; (case hd => rfl); (case hg => rfl); (case hr => first | (go_simp; done) | (go_simp; rfl))
           intro gb568 hg w109 hbox hb
           have n0_ := Aside0.mk (Kd.Q_below (by (with_reducible repeat apply Kd.Q_alloc); exact HO_544001.out) hb)
           have n1_ := Aside0.mk (Kd.Q_below (by (with_reducible repeat apply Kd.Q_alloc); exact HO_551001.out) hb)
           have n2_ := Aside0.mk (Kd.Q_below (by (with_reducible repeat apply Kd.Q_alloc); exact HO_557001.out) hb)
           have n3_ := Aside0.mk (blk_below (bK BK543.out) hb)
           have n4_ := Aside0.mk (blk_below (bK BK544.out) hb)
           have n5_ := Aside0.mk (blk_below (bK BK550.out) hb)
           have n6_ := Aside0.mk (blk_below (bK BK556.out) hb)
           have n7_ := Aside0.mk (below_step (by repeat first | exact HB.out | with_reducible refine below_setA ?_ ‹_› | apply below_alloc | apply pw_below_drewN) hb)
           have n8_ := Aside0.mk (hbox)
           have n9_ := Aside0.mk ((by rw [hg]; exact (below_size (by repeat first | exact HB.out | with_reducible refine below_setA ?_ ‹_› | apply below_alloc | apply pw_below_drewN)) : w.heap.size ≤ gb568))
           have n10_ := Aside0.mk ((by rw [hg]; exact (below_size (by repeat first | exact HB.out | with_reducible refine below_setA ?_ ‹_› | apply below_alloc | apply pw_below_drewN)) : w.heap.size ≤ gb568))
           have n11_ := Aside0.mk ((by rw [hg]; exact Nat.ne_of_lt (blk_lt (bK BK543.out)) : gb543 ≠ gb568))
           have n12_ := Aside0.mk ((by rw [hg]; exact Nat.ne_of_gt (blk_lt (bK BK543.out)) : gb568 ≠ gb543))
           have n13_ := Aside0.mk ((by rw [hg]; exact Nat.ne_of_lt (blk_lt (bK BK544.out)) : gb544 ≠ gb568))
           have n14_ := Aside0.mk ((by rw [hg]; exact Nat.ne_of_gt (blk_lt (bK BK544.out)) : gb568 ≠ gb544))
           have n15_ := Aside0.mk ((by rw [hg]; exact Nat.ne_of_lt (blk_lt (bK BK550.out)) : gb550 ≠ gb568))
           have n16_ := Aside0.mk ((by rw [hg]; exact Nat.ne_of_gt (blk_lt (bK BK550.out)) : gb568 ≠ gb550))
           have n17_ := Aside0.mk ((by rw [hg]; exact Nat.ne_of_lt (blk_lt (bK BK556.out)) : gb556 ≠ gb568))
           have n18_ := Aside0.mk ((by rw [hg]; exact Nat.ne_of_gt (blk_lt (bK BK556.out)) : gb568 ≠ gb556))
           clear HO_544001
           clear HO_551001
           clear HO_557001
           clear BK543
           clear BK544
           clear BK550
           clear BK556
           clear HB
           have HO_544001 := n0_
           have HO_551001 := n1_
           have HO_557001 := n2_
           have BK543 := n3_
           have BK544 := n4_
           have BK550 := n5_
           have BK556 := n6_
           have HB := n7_
           have BK568 := n8_
           have GW568 := n9_
           have GE568 := n10_
           have NB543_568 := n11_
           have NB568_543 := n12_
           have NB544_568 := n13_
           have NB568_544 := n14_
           have NB550_568 := n15_
           have NB568_550 := n16_
           have NB556_568 := n17_
           have NB568_556 := n18_
           clear n0_ n1_ n2_ n3_ n4_ n5_ n6_ n7_ n8_ n9_ n10_ n11_ n12_ n13_ n14_ n15_ n16_ n17_ n18_
           clear hb hbox hg
           refine hK.out _ _ ⟨(blk_cell BK543.out 0).trans rfl, (blk_cell BK543.out 1).trans rfl, (blk_cell BK544.out 0).trans rfl, (blk_cell BK544.out 1).trans rfl⟩ (fun hHeld => ?_)
           clear hK K
           refine norm_ (a' := ?_) ?_ ?_
           rotate_left
           ·show Act.put _ (some 13) _ = _
            simp only [Act.put, List.setIfInBounds_toArray, List.set_cons_zero, List.set_cons_succ, i64_w, i32_w]
            rfl
           refine one_ (i := 1) (N := some 92) #[true, true, true, true, true, true, true, true, true, true, true, false, false, false, false, true, false, false] rfl rfl (one_of HT_.out (by kernel_rfl)) (by decide) (fun K hK => ?_)
           refine goes_ Try.func18 (by kernel_rfl) rfl #[.agg #[.int .i64 t536, .slice Ao12 t537.length co12]] (by rfl) rfl rfl (by first | rfl | (simp only [List.map_toArray, List.map_cons, List.map_nil, List.length_drop, List.length_take]; try rfl)) ?_
           with_reducible refine (impl_GridTurn.calls t536 _ _ t537 t559 t560 _ ?side1 ?side2 A93.out).mono ?_
           (case side1 => repeat (first | exact (Kd.Q_reads' HO_544001.out).2.2 | (with_reducible refine Kd.C_alloc ?_ _) | (with_reducible refine Kd.C_drewN ?_ _) | (with_reducible refine Kd.C_drew ?_)))
           (case side2 => exact (Kd.Q_reads' HO_544001.out).2.1)
           rintro e w110 ⟨v561, rfl, ho0, hb⟩
           refine ⟨_, rfl, ?_⟩
           have n0_ := Aside0.mk (Kd.Q_elder' (by (with_reducible repeat apply Kd.Q_alloc); exact HO_544001.out) (Kd.R_base ho0) hb)
           have n1_ := Aside0.mk (Kd.Q_elder' (by (with_reducible repeat apply Kd.Q_alloc); exact HO_551001.out) (Kd.R_base ho0) hb)
           have n2_ := Aside0.mk (Kd.Q_elder' (by (with_reducible repeat apply Kd.Q_alloc); exact HO_557001.out) (Kd.R_base ho0) hb)
           have n3_ := Aside0.mk (Kd.R_lower (Kd.R_newB (Kd.R_new' (Kd.R_new' (Kd.R_new' ho0 (Kd.Q_lt (by (with_reducible repeat apply Kd.Q_alloc); exact HO_544001.out))) (Kd.Q_lt (by (with_reducible repeat apply Kd.Q_alloc); exact HO_551001.out))) (Kd.Q_lt (by (with_reducible repeat apply Kd.Q_alloc); exact HO_557001.out))) (g := gb544) (o := .cells #[.int .i64 t541, .int .i64 t542] 24 (0, 0)) (bK BK544.out)) (below_size (by repeat first | exact HB.out | with_reducible refine below_setA ?_ ‹_› | apply below_alloc | apply pw_below_drewN)))
           have n4_ := Aside0.mk (blk_below (bK BK543.out) hb)
           have n5_ := Aside0.mk (blk_below (bK BK544.out) hb)
           have n6_ := Aside0.mk (blk_below (bK BK550.out) hb)
           have n7_ := Aside0.mk (blk_below (bK BK556.out) hb)
           have n8_ := Aside0.mk (blk_below (bK BK568.out) hb)
           have n9_ := Aside0.mk (below_step (by repeat first | exact HB.out | with_reducible refine below_setA ?_ ‹_› | apply below_alloc | apply pw_below_drewN) hb)
           clear HO_544001
           clear HO_551001
           clear HO_557001
           clear BK543
           clear BK544
           clear BK550
           clear BK556
           clear BK568
           clear HB
           have HO_544001 := n0_
           have HO_551001 := n1_
           have HO_557001 := n2_
           have HO562 := n3_
           have BK543 := n4_
           have BK544 := n5_
           have BK550 := n6_
           have BK556 := n7_
           have BK568 := n8_
           have HB := n9_
           clear n0_ n1_ n2_ n3_ n4_ n5_ n6_ n7_ n8_ n9_
           (try clear hb)
           (try clear hb2)
           (try clear hk)
           (try clear hi)
           (try clear ho0)
           obtain ⟨Ao111, co111, eo111⟩ := Kd.R_slice HO562.out
           (first | subst eo111 | (injection eo111 with f1_ f2_ f3_; have f4_ := f1_.symm; have f5_ := f3_.symm; clear f1_ f2_ f3_; subst f4_; subst f5_))
           refine hK.out _ _ ⟨(blk_cell BK543.out 0).trans rfl, (blk_cell BK543.out 1).trans rfl, (blk_cell BK544.out 0).trans rfl, (blk_cell BK544.out 1).trans rfl⟩ (fun hHeld => ?_)
           clear hK K
           refine norm_ (a' := ?_) ?_ ?_
           rotate_left
           ·show Act.put _ (some 92) _ = _
            simp only [Act.put, List.setIfInBounds_toArray, List.set_cons_zero, List.set_cons_succ, i64_w, i32_w]
            rfl
           refine one_ (i := 11) (N := some 102) #[true, true, true, true, true, true, true, true, true, true, true, true, false, false, false, true, false, false] rfl rfl (one_of HT_.out (by kernel_rfl)) (by decide) (fun K hK => ?_)
           refine goes_ Try.func36 (by kernel_rfl) rfl #[.agg #[.int .i64 t559, .slice Ao111 t560.length co111], .int .i64 (wrap64 ((wrap64 ((wrap64 ((wrap64 ((Int.tmod t540 t536) * (wrap64 ((t537.length : Int) / t536)))) + (wrap64 ((t537.length : Int) / t536)))) - 1)) - (wrap64 (Int.tdiv t540 t536)))), .agg #[.int .i64 t541, .int .i64 t542]] (by rfl) rfl rfl (by first | rfl | (simp only [List.map_toArray, List.map_cons, List.map_nil, List.length_drop, List.length_take]; try rfl)) ?_
           with_reducible refine (impl_GridPut.calls kj5 t559 _ _ t560 (wrap64 ((wrap64 ((wrap64 ((wrap64 ((Int.tmod t540 t536) * (wrap64 ((t537.length : Int) / t536)))) + (wrap64 ((t537.length : Int) / t536)))) - 1)) - (wrap64 (Int.tdiv t540 t536)))) t541 t542 t563 t564 true _ ?side1 ?side2 A94.out).mono ?_
           (case side1 => repeat (first | exact (Kd.R_reads' HO562.out).2.2 | (with_reducible refine Kd.C_alloc ?_ _) | (with_reducible refine Kd.C_drewN ?_ _) | (with_reducible refine Kd.C_drew ?_)))
           (case side2 => exact (Kd.R_reads' HO562.out).2.1)
           rintro e w112 ⟨v565, rfl, ho0, hb⟩
           refine ⟨_, rfl, ?_⟩
           have n0_ := Aside0.mk (Kd.Q_elder' (by (with_reducible repeat apply Kd.Q_alloc); exact HO_544001.out) (Kd.R_base ho0) hb)
           have n1_ := Aside0.mk (Kd.Q_elder' (by (with_reducible repeat apply Kd.Q_alloc); exact HO_551001.out) (Kd.R_base ho0) hb)
           have n2_ := Aside0.mk (Kd.Q_elder' (by (with_reducible repeat apply Kd.Q_alloc); exact HO_557001.out) (Kd.R_base ho0) hb)
           have n3_ := Aside0.mk (Kd.R_elder' (kR HO562.out) (Kd.R_base ho0) hb)
           have n4_ := Aside0.mk (Kd.R_lower (Kd.R_newB (Kd.R_new' (Kd.R_new' (Kd.R_new' (Kd.R_new' ho0 (Kd.Q_lt (by (with_reducible repeat apply Kd.Q_alloc); exact HO_544001.out))) (Kd.Q_lt (by (with_reducible repeat apply Kd.Q_alloc); exact HO_551001.out))) (Kd.Q_lt (by (with_reducible repeat apply Kd.Q_alloc); exact HO_557001.out))) (Kd.R_lt (kR HO562.out))) (g := gb544) (o := .cells #[.int .i64 t541, .int .i64 t542] 24 (0, 0)) (bK BK544.out)) (below_size (by repeat first | exact HB.out | with_reducible refine below_setA ?_ ‹_› | apply below_alloc | apply pw_below_drewN)))
           have n5_ := Aside0.mk (blk_below (bK BK543.out) hb)
           have n6_ := Aside0.mk (blk_below (bK BK544.out) hb)
           have n7_ := Aside0.mk (blk_below (bK BK550.out) hb)
           have n8_ := Aside0.mk (blk_below (bK BK556.out) hb)
           have n9_ := Aside0.mk (blk_below (bK BK568.out) hb)
           have n10_ := Aside0.mk (below_step (by repeat first | exact HB.out | with_reducible refine below_setA ?_ ‹_› | apply below_alloc | apply pw_below_drewN) hb)
           clear HO_544001
           clear HO_551001
           clear HO_557001
           clear HO562
           clear BK543
           clear BK544
           clear BK550
           clear BK556
           clear BK568
           clear HB
           have HO_544001 := n0_
           have HO_551001 := n1_
           have HO_557001 := n2_
           have HO562 := n3_
           have HO566 := n4_
           have BK543 := n5_
           have BK544 := n6_
           have BK550 := n7_
           have BK556 := n8_
           have BK568 := n9_
           have HB := n10_
           clear n0_ n1_ n2_ n3_ n4_ n5_ n6_ n7_ n8_ n9_ n10_
           (try clear hb)
           (try clear hb2)
           (try clear hk)
           (try clear hi)
           (try clear ho0)
           refine hK.out _ _ ⟨(blk_cell BK543.out 0).trans rfl, (blk_cell BK543.out 1).trans rfl, (blk_cell BK544.out 0).trans rfl, (blk_cell BK544.out 1).trans rfl⟩ (fun hHeld => ?_)
           clear hK K
           refine norm_ (a' := ?_) ?_ ?_
           rotate_left
           ·show Act.put _ (some 102) _ = _
            simp only [Act.put, List.setIfInBounds_toArray, List.set_cons_zero, List.set_cons_succ, i64_w, i32_w]
            rfl
           refine pure_ (i := 12) (N := some 90) (v := ?_) (a' := ?_) #[true, true, true, true, true, true, true, true, true, true, true, true, true, false, false, true, false, false] rfl rfl (any_of HT_.out (by kernel_rfl)) (fun _ _ _ h => h) (Or.inl ⟨by rfl, ?_⟩) ?_ ?_
           rotate_left
           ·intro w'
            go_simp
            with_reducible rfl
           rotate_left
           ·simp only [Act.put, List.setIfInBounds_toArray, List.set_cons_zero, List.set_cons_succ, i64_w, i32_w]
            rfl
           refine pure_ (i := 13) (N := some 103) (v := ?_) (a' := ?_) #[true, true, true, true, true, true, true, true, true, true, true, true, true, true, false, true, false, false] rfl rfl (any_of HT_.out (by kernel_rfl)) (fun _ _ _ h => h) (Or.inl ⟨by rfl, ?_⟩) ?_ ?_
           rotate_left
           ·intro w'
            go_simp
            with_reducible rfl
           rotate_left
           ·simp only [Act.put, List.setIfInBounds_toArray, List.set_cons_zero, List.set_cons_succ, i64_w, i32_w]
            rfl
           refine pure_ (i := 14) (N := some 104) (v := ?_) (a' := ?_) #[true, true, true, true, true, true, true, true, true, true, true, true, true, true, true, true, false, false] rfl rfl (any_of HT_.out (by kernel_rfl)) (fun _ _ _ h => h) (Or.inl ⟨by rfl, ?_⟩) ?_ ?_
           rotate_left
           ·intro w'
            go_simp
            with_reducible rfl
           rotate_left
           ·simp only [Act.put, List.setIfInBounds_toArray, List.set_cons_zero, List.set_cons_succ, i64_w, i32_w]
            rfl
           exact norm_ (by simp only [putAll, Act.put, List.setIfInBounds_toArray, List.set_cons_zero, List.set_cons_succ]) (hCont (.slice Ao111 t560.length co111, v565, gb568) _ ⟨hHeld, (by (with_reducible repeat apply Kd.R_alloc); exact Kd.R_mono HO562.out (fun _ hk => ⟨hk.2, ⟨hk.1.1.1.1.2, ⟨hk.1.1.1.2, ⟨hk.1.1.2, hk.1.2⟩⟩⟩⟩)), (by (with_reducible repeat apply Kd.R_alloc); exact Kd.R_mono HO566.out (fun _ hk => ⟨hk.1.2, ⟨hk.1.1.1.1.2, ⟨hk.1.1.1.2, ⟨hk.1.1.2, hk.2⟩⟩⟩⟩)), (by (with_reducible repeat apply Kd.Q_alloc); exact Kd.Q_mono HO_544001.out (fun _ hk => ⟨hk.1.2, ⟨hk.2, ⟨hk.1.1.1, ⟨hk.1.1.2.1, hk.1.1.2.2⟩⟩⟩⟩)), (by (with_reducible repeat apply Kd.Q_alloc); exact Kd.Q_mono HO_551001.out (fun _ hk => ⟨hk.1.2, ⟨hk.2, ⟨hk.1.1.1, ⟨hk.1.1.2.1, hk.1.1.2.2⟩⟩⟩⟩)), (by (with_reducible repeat apply Kd.Q_alloc); exact Kd.Q_mono HO_557001.out (fun _ hk => ⟨hk.1.2, ⟨hk.2, ⟨hk.1.1.1, ⟨hk.1.1.2.1, hk.1.1.2.2⟩⟩⟩⟩)), (bK BK543.out), (bK BK544.out), (bK BK550.out), (bK BK556.out), (bK BK568.out), GW568.out, GE568.out, NB543_568.out, NB568_543.out, NB544_568.out, NB568_544.out, NB550_568.out, NB568_550.out, NB556_568.out, NB568_556.out, (by repeat first | exact HB.out | with_reducible refine below_setA ?_ ‹_› | apply below_alloc | apply pw_below_drewN)⟩)
         rintro ⟨v561, v565, gb568⟩ w113 ⟨hS_, h0_, h1_, h2_, h3_, h4_, h5_, h6_, h7_, h8_, h9_, h10_, h11_, h12_, h13_, h14_, h15_, h16_, h17_, h18_, h19_, h20_⟩
         have n0_ : Aside0 (Kd.R k24 24 w113 w.heap.size (fun k_ => some k_ ≠ (v565 : Value).ownBlock ∧ some k_ ≠ (.slice Ao12 t537.length co12 : Value).ownBlock ∧ some k_ ≠ (.slice Ao19 t546.length co19 : Value).ownBlock ∧ some k_ ≠ (.slice Ao28 t552.length co28 : Value).ownBlock ∧ k_ ≠ gb544) v561 t560) := ⟨h0_⟩
         have n1_ : Aside0 (Kd.R k24 24 w113 w.heap.size (fun k_ => some k_ ≠ (v561 : Value).ownBlock ∧ some k_ ≠ (.slice Ao12 t537.length co12 : Value).ownBlock ∧ some k_ ≠ (.slice Ao19 t546.length co19 : Value).ownBlock ∧ some k_ ≠ (.slice Ao28 t552.length co28 : Value).ownBlock ∧ k_ ≠ gb544) v565 t564) := ⟨h1_⟩
         have n2_ : Aside0 (Kd.Q k24 24 w113 w.heap.size (fun k_ => some k_ ≠ (v561 : Value).ownBlock ∧ some k_ ≠ (v565 : Value).ownBlock ∧ some k_ ≠ (.slice Ao19 t546.length co19 : Value).ownBlock ∧ some k_ ≠ (.slice Ao28 t552.length co28 : Value).ownBlock ∧ k_ ≠ gb544) (.slice Ao12 t537.length co12) t537) := ⟨h2_⟩
         have n3_ : Aside0 (Kd.Q k24 24 w113 w.heap.size (fun k_ => some k_ ≠ (v561 : Value).ownBlock ∧ some k_ ≠ (v565 : Value).ownBlock ∧ some k_ ≠ (.slice Ao12 t537.length co12 : Value).ownBlock ∧ some k_ ≠ (.slice Ao28 t552.length co28 : Value).ownBlock ∧ k_ ≠ gb544) (.slice Ao19 t546.length co19) t546) := ⟨h3_⟩
         have n4_ : Aside0 (Kd.Q k24 24 w113 w.heap.size (fun k_ => some k_ ≠ (v561 : Value).ownBlock ∧ some k_ ≠ (v565 : Value).ownBlock ∧ some k_ ≠ (.slice Ao12 t537.length co12 : Value).ownBlock ∧ some k_ ≠ (.slice Ao19 t546.length co19 : Value).ownBlock ∧ k_ ≠ gb544) (.slice Ao28 t552.length co28) t552) := ⟨h4_⟩
         have n5_ : Aside0 (w113.heap[gb543]? = some (.cells #[.int .i64 t536, .slice Ao12 t537.length co12] 30 (0, 0))) := ⟨h5_⟩
         have n6_ : Aside0 (w113.heap[gb544]? = some (.cells #[.int .i64 t541, .int .i64 t542] 24 (0, 0))) := ⟨h6_⟩
         have n7_ : Aside0 (w113.heap[gb550]? = some (.cells #[.int .i64 t545, .slice Ao19 t546.length co19] 30 (0, 0))) := ⟨h7_⟩
         have n8_ : Aside0 (w113.heap[gb556]? = some (.cells #[.int .i64 t551, .slice Ao28 t552.length co28] 30 (0, 0))) := ⟨h8_⟩
         have n9_ : Aside0 (w113.heap[gb568]? = some (.cells #[.int .i64 0, .slice none 0 0] 30 (0, 0))) := ⟨h9_⟩
         have n10_ : Aside0 (w.heap.size ≤ gb568) := ⟨h10_⟩
         have n11_ : Aside0 (w.heap.size ≤ gb568) := ⟨h11_⟩
         have n12_ : Aside0 (gb543 ≠ gb568) := ⟨h12_⟩
         have n13_ : Aside0 (gb568 ≠ gb543) := ⟨h13_⟩
         have n14_ : Aside0 (gb544 ≠ gb568) := ⟨h14_⟩
         have n15_ : Aside0 (gb568 ≠ gb544) := ⟨h15_⟩
         have n16_ : Aside0 (gb550 ≠ gb568) := ⟨h16_⟩
         have n17_ : Aside0 (gb568 ≠ gb550) := ⟨h17_⟩
         have n18_ : Aside0 (gb556 ≠ gb568) := ⟨h18_⟩
         have n19_ : Aside0 (gb568 ≠ gb556) := ⟨h19_⟩
         have n20_ : Aside0 (Below w.heap.size w w113) := ⟨h20_⟩
         clear HO_544001
         clear HO_551001
         clear HO_557001
         clear BK543
         clear BK544
         clear BK550
         clear BK556
         clear HB
         clear h0_ h1_ h2_ h3_ h4_ h5_ h6_ h7_ h8_ h9_ h10_ h11_ h12_ h13_ h14_ h15_ h16_ h17_ h18_ h19_ h20_
         have HO562 := n0_
         have HO566 := n1_
         have HO_544001 := n2_
         have HO_551001 := n3_
         have HO_557001 := n4_
         have BK543 := n5_
         have BK544 := n6_
         have BK550 := n7_
         have BK556 := n8_
         have BK568 := n9_
         have GW568 := n10_
         have GE568 := n11_
         have NB543_568 := n12_
         have NB568_543 := n13_
         have NB544_568 := n14_
         have NB568_544 := n15_
         have NB550_568 := n16_
         have NB568_550 := n17_
         have NB556_568 := n18_
         have NB568_556 := n19_
         have HB := n20_
         clear n0_ n1_ n2_ n3_ n4_ n5_ n6_ n7_ n8_ n9_ n10_ n11_ n12_ n13_ n14_ n15_ n16_ n17_ n18_ n19_ n20_
         have hHeld : w113.cell? ⟨gb543, 0, none⟩ = some (.int .i64 t536) ∧ w113.cell? ⟨gb543, 1, none⟩ = some (.slice Ao12 t537.length co12) ∧ w113.cell? ⟨gb544, 0, none⟩ = some (.int .i64 t541) ∧ w113.cell? ⟨gb544, 1, none⟩ = some (.int .i64 t542) := hS_
         obtain ⟨Ao115, co115, eo115⟩ := Kd.R_slice HO566.out
         (first | subst eo115 | (injection eo115 with f1_ f2_ f3_; have f4_ := f1_.symm; have f5_ := f3_.symm; clear f1_ f2_ f3_; subst f4_; subst f5_))
         refine norm_ (a' := ?_) ?_ ?_
         rotate_left
         ·simp only [putAll, Act.put, List.setIfInBounds_toArray, List.set_cons_zero, List.set_cons_succ]
          rfl
         refine one_ (i := 16) (N := none) #[true, true, true, true, true, true, true, true, true, true, true, true, true, true, true, true, true, false] rfl rfl (one_of HT_.out (by kernel_rfl)) (by decide) (fun K hK => ?_)
         have hs114 : w113.cell? ⟨gb568, 0, none⟩ = some (.int .i64 0) := (blk_cell BK568.out 0).trans rfl
         have hfs114 := blk_frozen BK568.out 0
         have hns114_0 := NB543_568.out
         have hns114_1 := NB544_568.out
         have hns114_2 := NB550_568.out
         have hns114_3 := NB556_568.out
         have hms114_0 := NB568_543.out
         have hms114_1 := NB568_544.out
         have hms114_2 := NB568_550.out
         have hms114_3 := NB568_556.out
         have hs116 : w113.cell? ⟨gb568, 1, none⟩ = some (.slice none 0 0) := (blk_cell BK568.out 1).trans rfl
         have hfs116 := blk_frozen BK568.out 1
         have hns116_0 := NB543_568.out
         have hns116_1 := NB544_568.out
         have hns116_2 := NB550_568.out
         have hns116_3 := NB556_568.out
         have hms116_0 := NB568_543.out
         have hms116_1 := NB568_544.out
         have hms116_2 := NB568_550.out
         have hms116_3 := NB568_556.out
         refine skip_ (w1 := ?_) (by rfl) rfl ?_ ?_
         rotate_left
         ·go_simp
          rfl
         refine hK.out _ _ ⟨((cell_far (p := ⟨gb568, _, none⟩) NB543_568.out _).trans (((cell_far (p := ⟨gb568, _, none⟩) NB543_568.out _).trans (hHeld.1)))), ((cell_far (p := ⟨gb568, _, none⟩) NB543_568.out _).trans (((cell_far (p := ⟨gb568, _, none⟩) NB543_568.out _).trans (hHeld.2.1)))), ((cell_far (p := ⟨gb568, _, none⟩) NB544_568.out _).trans (((cell_far (p := ⟨gb568, _, none⟩) NB544_568.out _).trans (hHeld.2.2.1)))), ((cell_far (p := ⟨gb568, _, none⟩) NB544_568.out _).trans (((cell_far (p := ⟨gb568, _, none⟩) NB544_568.out _).trans (hHeld.2.2.2))))⟩ (fun hHeld => ?_)
         clear hK K
         refine pure_ (i := 17) (N := some 14) (v := ?_) (a' := ?_) #[true, true, true, true, true, true, true, true, true, true, true, true, true, true, true, true, true, true] rfl rfl (any_of HT_.out (by kernel_rfl)) (fun _ _ _ h => h) (Or.inl ⟨by rfl, ?_⟩) ?_ ?_
         rotate_left
         ·intro w'
          go_simp
          with_reducible rfl
         rotate_left
         ·simp only [Act.put, List.setIfInBounds_toArray, List.set_cons_zero, List.set_cons_succ, i64_w, i32_w]
          rfl
         refine done_ (done_of HT_.out (by kernel_rfl)) ?_
         try go_wp2
         have n0_ : Aside0 (Kd.Q k24 24 ((w113.setCell ⟨gb568, 0, none⟩ (.int .i64 t563)).setCell ⟨gb568, 1, none⟩ (.slice Ao115 t564.length co115)) w.heap.size (fun k_ => some k_ ≠ (.slice Ao19 t546.length co19 : Value).ownBlock ∧ some k_ ≠ (.slice Ao28 t552.length co28 : Value).ownBlock ∧ some k_ ≠ (v561 : Value).ownBlock ∧ some k_ ≠ (.slice Ao115 t564.length co115 : Value).ownBlock ∧ k_ ≠ gb544) (.slice Ao12 t537.length co12) t537) := ⟨by (with_reducible repeat apply Kd.Q_alloc); exact Kd.Q_mono (Kd.Q_far (p := ⟨gb568, 1, none⟩) (Kd.Q_far (p := ⟨gb568, 0, none⟩) (Kd.Q_types HO_544001.out BK568.out (by decide)) (fun _ hk => hk.2) (.int .i64 t563)) (fun _ hk => hk.2) (.slice Ao115 t564.length co115)) (fun _ hk => ⟨hk.1.2.2.1, ⟨hk.1.2.2.2.1, ⟨hk.1.1, ⟨hk.1.2.1, hk.1.2.2.2.2⟩⟩⟩⟩)⟩
         have n1_ : Aside0 (Kd.Q k24 24 ((w113.setCell ⟨gb568, 0, none⟩ (.int .i64 t563)).setCell ⟨gb568, 1, none⟩ (.slice Ao115 t564.length co115)) w.heap.size (fun k_ => some k_ ≠ (.slice Ao12 t537.length co12 : Value).ownBlock ∧ some k_ ≠ (.slice Ao28 t552.length co28 : Value).ownBlock ∧ some k_ ≠ (v561 : Value).ownBlock ∧ some k_ ≠ (.slice Ao115 t564.length co115 : Value).ownBlock ∧ k_ ≠ gb544) (.slice Ao19 t546.length co19) t546) := ⟨by (with_reducible repeat apply Kd.Q_alloc); exact Kd.Q_mono (Kd.Q_far (p := ⟨gb568, 1, none⟩) (Kd.Q_far (p := ⟨gb568, 0, none⟩) (Kd.Q_types HO_551001.out BK568.out (by decide)) (fun _ hk => hk.2) (.int .i64 t563)) (fun _ hk => hk.2) (.slice Ao115 t564.length co115)) (fun _ hk => ⟨hk.1.2.2.1, ⟨hk.1.2.2.2.1, ⟨hk.1.1, ⟨hk.1.2.1, hk.1.2.2.2.2⟩⟩⟩⟩)⟩
         have n2_ : Aside0 (Kd.Q k24 24 ((w113.setCell ⟨gb568, 0, none⟩ (.int .i64 t563)).setCell ⟨gb568, 1, none⟩ (.slice Ao115 t564.length co115)) w.heap.size (fun k_ => some k_ ≠ (.slice Ao12 t537.length co12 : Value).ownBlock ∧ some k_ ≠ (.slice Ao19 t546.length co19 : Value).ownBlock ∧ some k_ ≠ (v561 : Value).ownBlock ∧ some k_ ≠ (.slice Ao115 t564.length co115 : Value).ownBlock ∧ k_ ≠ gb544) (.slice Ao28 t552.length co28) t552) := ⟨by (with_reducible repeat apply Kd.Q_alloc); exact Kd.Q_mono (Kd.Q_far (p := ⟨gb568, 1, none⟩) (Kd.Q_far (p := ⟨gb568, 0, none⟩) (Kd.Q_types HO_557001.out BK568.out (by decide)) (fun _ hk => hk.2) (.int .i64 t563)) (fun _ hk => hk.2) (.slice Ao115 t564.length co115)) (fun _ hk => ⟨hk.1.2.2.1, ⟨hk.1.2.2.2.1, ⟨hk.1.1, ⟨hk.1.2.1, hk.1.2.2.2.2⟩⟩⟩⟩)⟩
         have n3_ : Aside0 (Kd.R k24 24 ((w113.setCell ⟨gb568, 0, none⟩ (.int .i64 t563)).setCell ⟨gb568, 1, none⟩ (.slice Ao115 t564.length co115)) w.heap.size (fun k_ => some k_ ≠ (.slice Ao12 t537.length co12 : Value).ownBlock ∧ some k_ ≠ (.slice Ao19 t546.length co19 : Value).ownBlock ∧ some k_ ≠ (.slice Ao28 t552.length co28 : Value).ownBlock ∧ some k_ ≠ (.slice Ao115 t564.length co115 : Value).ownBlock ∧ k_ ≠ gb544) v561 t560) := ⟨by (with_reducible repeat apply Kd.R_alloc); exact Kd.R_mono (Kd.R_far (p := ⟨gb568, 1, none⟩) (Kd.R_far (p := ⟨gb568, 0, none⟩) (Kd.R_types HO562.out BK568.out (by decide)) (fun _ hk => hk.2) (.int .i64 t563)) (fun _ hk => hk.2) (.slice Ao115 t564.length co115)) (fun _ hk => ⟨hk.1.2.1, ⟨hk.1.2.2.1, ⟨hk.1.2.2.2.1, ⟨hk.1.1, hk.1.2.2.2.2⟩⟩⟩⟩)⟩
         have n4_ : Aside0 (Kd.R k24 24 ((w113.setCell ⟨gb568, 0, none⟩ (.int .i64 t563)).setCell ⟨gb568, 1, none⟩ (.slice Ao115 t564.length co115)) w.heap.size (fun k_ => some k_ ≠ (.slice Ao12 t537.length co12 : Value).ownBlock ∧ some k_ ≠ (.slice Ao19 t546.length co19 : Value).ownBlock ∧ some k_ ≠ (.slice Ao28 t552.length co28 : Value).ownBlock ∧ some k_ ≠ (v561 : Value).ownBlock ∧ k_ ≠ gb544) (.slice Ao115 t564.length co115) t564) := ⟨by (with_reducible repeat apply Kd.R_alloc); exact Kd.R_mono (Kd.R_far (p := ⟨gb568, 1, none⟩) (Kd.R_far (p := ⟨gb568, 0, none⟩) (Kd.R_types HO566.out BK568.out (by decide)) (fun _ hk => hk.2) (.int .i64 t563)) (fun _ hk => hk.2) (.slice Ao115 t564.length co115)) (fun _ hk => ⟨hk.1.2.1, ⟨hk.1.2.2.1, ⟨hk.1.2.2.2.1, ⟨hk.1.1, hk.1.2.2.2.2⟩⟩⟩⟩)⟩
         have n5_ : Aside0 (((w113.setCell ⟨gb568, 0, none⟩ (.int .i64 t563)).setCell ⟨gb568, 1, none⟩ (.slice Ao115 t564.length co115)).heap[gb543]? = some (.cells #[.int .i64 t536, .slice Ao12 t537.length co12] 30 (0, 0))) := ⟨by (with_reducible repeat apply blk_alloc); refine blk_far ?_ NB543_568.out _; (with_reducible repeat apply blk_alloc); refine blk_far ?_ NB543_568.out _; (with_reducible repeat apply blk_alloc); exact BK543.out⟩
         have n6_ : Aside0 (((w113.setCell ⟨gb568, 0, none⟩ (.int .i64 t563)).setCell ⟨gb568, 1, none⟩ (.slice Ao115 t564.length co115)).heap[gb544]? = some (.cells #[.int .i64 t541, .int .i64 t542] 24 (0, 0))) := ⟨by (with_reducible repeat apply blk_alloc); refine blk_far ?_ NB544_568.out _; (with_reducible repeat apply blk_alloc); refine blk_far ?_ NB544_568.out _; (with_reducible repeat apply blk_alloc); exact BK544.out⟩
         have n7_ : Aside0 (((w113.setCell ⟨gb568, 0, none⟩ (.int .i64 t563)).setCell ⟨gb568, 1, none⟩ (.slice Ao115 t564.length co115)).heap[gb550]? = some (.cells #[.int .i64 t545, .slice Ao19 t546.length co19] 30 (0, 0))) := ⟨by (with_reducible repeat apply blk_alloc); refine blk_far ?_ NB550_568.out _; (with_reducible repeat apply blk_alloc); refine blk_far ?_ NB550_568.out _; (with_reducible repeat apply blk_alloc); exact BK550.out⟩
         have n8_ : Aside0 (((w113.setCell ⟨gb568, 0, none⟩ (.int .i64 t563)).setCell ⟨gb568, 1, none⟩ (.slice Ao115 t564.length co115)).heap[gb556]? = some (.cells #[.int .i64 t551, .slice Ao28 t552.length co28] 30 (0, 0))) := ⟨by (with_reducible repeat apply blk_alloc); refine blk_far ?_ NB556_568.out _; (with_reducible repeat apply blk_alloc); refine blk_far ?_ NB556_568.out _; (with_reducible repeat apply blk_alloc); exact BK556.out⟩
         have n9_ : Aside0 (((w113.setCell ⟨gb568, 0, none⟩ (.int .i64 t563)).setCell ⟨gb568, 1, none⟩ (.slice Ao115 t564.length co115)).heap[gb568]? = some (.cells #[.int .i64 t563, .slice Ao115 t564.length co115] 30 (0, 0))) := ⟨by (with_reducible repeat apply blk_alloc); refine blk_put (cs := #[.int .i64 t563, .slice none 0 0]) ?_ 1 _ rfl; (with_reducible repeat apply blk_alloc); refine blk_put (cs := #[.int .i64 0, .slice none 0 0]) ?_ 0 _ rfl; (with_reducible repeat apply blk_alloc); exact BK568.out⟩
         have n10_ : Aside0 (Below w.heap.size w ((w113.setCell ⟨gb568, 0, none⟩ (.int .i64 t563)).setCell ⟨gb568, 1, none⟩ (.slice Ao115 t564.length co115))) := ⟨by repeat first | exact HB.out | with_reducible refine below_setA ?_ ‹_› | apply below_alloc | apply pw_below_drewN⟩
         (try clear HO_544001)
         (try clear HO_551001)
         (try clear HO_557001)
         (try clear HO562)
         (try clear HO566)
         (try clear BK543)
         (try clear BK544)
         (try clear BK550)
         (try clear BK556)
         (try clear BK568)
         (try clear HB)
         generalize ((w113.setCell ⟨gb568, 0, none⟩ (.int .i64 t563)).setCell ⟨gb568, 1, none⟩ (.slice Ao115 t564.length co115)) = w117 at n0_ n1_ n2_ n3_ n4_ n5_ n6_ n7_ n8_ n9_ n10_ ⊢
         have HO_544001 := n0_
         have HO_551001 := n1_
         have HO_557001 := n2_
         have HO562 := n3_
         have HO566 := n4_
         have BK543 := n5_
         have BK544 := n6_
         have BK550 := n7_
         have BK556 := n8_
         have BK568 := n9_
         have HB := n10_
         clear n0_ n1_ n2_ n3_ n4_ n5_ n6_ n7_ n8_ n9_ n10_
         have n0_ := Aside0.mk (Kd.Q_drew HO_544001.out)
         have n1_ := Aside0.mk (Kd.Q_drew HO_551001.out)
         have n2_ := Aside0.mk (Kd.Q_drew HO_557001.out)
         have n3_ := Aside0.mk (Kd.R_drew HO562.out)
         have n4_ := Aside0.mk (Kd.R_drew HO566.out)
         have n5_ := Aside0.mk (blk_drew BK543.out)
         have n6_ := Aside0.mk (blk_drew BK544.out)
         have n7_ := Aside0.mk (blk_drew BK550.out)
         have n8_ := Aside0.mk (blk_drew BK556.out)
         have n9_ := Aside0.mk (blk_drew BK568.out)
         have n10_ := Aside0.mk (below_drew1 HB.out)
         clear HO_544001
         clear HO_551001
         clear HO_557001
         clear HO562
         clear HO566
         clear BK543
         clear BK544
         clear BK550
         clear BK556
         clear BK568
         clear HB
         have HO_544001 := n0_
         have HO_551001 := n1_
         have HO_557001 := n2_
         have HO562 := n3_
         have HO566 := n4_
         have BK543 := n5_
         have BK544 := n6_
         have BK550 := n7_
         have BK556 := n8_
         have BK568 := n9_
         have HB := n10_
         clear n0_ n1_ n2_ n3_ n4_ n5_ n6_ n7_ n8_ n9_ n10_
         refine start_ (n := 20) (S := fun w' => w'.cell? ⟨gb543, 0, none⟩ = some (.int .i64 t536) ∧ w'.cell? ⟨gb543, 1, none⟩ = some (.slice Ao12 t537.length co12) ∧ w'.cell? ⟨gb544, 0, none⟩ = some (.int .i64 t541) ∧ w'.cell? ⟨gb544, 1, none⟩ = some (.int .i64 t542)) (ds := []) #[false, false, false, false, false, false, false, false, false, false, false, false, false, false, false, false, false, false, false, false] (by kernel_rfl) rfl rfl ⟨(blk_cell BK543.out 0).trans rfl, (blk_cell BK543.out 1).trans rfl, (blk_cell BK544.out 0).trans rfl, (blk_cell BK544.out 1).trans rfl⟩ (fun hHeld => ?_); refine with_tabW laws_FnTurnPut.tab12 laws_FnTurnPut.bits12 (fun HT_ HW_ => ?_)
         generalize w117.drew = w118 at HO_544001 HO_551001 HO_557001 HO562 HO566 BK543 BK544 BK550 BK556 BK568 HB hHeld ⊢
         refine pure_ (i := 2) (N := some 108) (v := ?_) (a' := ?_) #[false, false, true, false, false, false, false, false, false, false, false, false, false, false, false, false, false, false, false, false] rfl rfl (any_of HT_.out (by kernel_rfl)) (fun _ _ _ h => h) (Or.inl ⟨by rfl, ?_⟩) ?_ ?_
         rotate_left
         ·intro w'
          go_simp
          with_reducible rfl
         rotate_left
         ·simp only [Act.put, List.setIfInBounds_toArray, List.set_cons_zero, List.set_cons_succ, i64_w, i32_w]
          rfl
         refine pure_ (i := 3) (N := some 109) (v := ?_) (a' := ?_) #[false, false, true, true, false, false, false, false, false, false, false, false, false, false, false, false, false, false, false, false] rfl rfl (any_of HT_.out (by kernel_rfl)) (fun _ _ _ h => h) (Or.inl ⟨by rfl, ?_⟩) ?_ ?_
         rotate_left
         ·intro w'
          go_simp
          with_reducible rfl
         rotate_left
         ·simp only [Act.put, List.setIfInBounds_toArray, List.set_cons_zero, List.set_cons_succ, i64_w, i32_w]
          rfl
         refine pure_ (i := 6) (N := some 112) (v := ?_) (a' := ?_) #[false, false, true, true, false, false, true, false, false, false, false, false, false, false, false, false, false, false, false, false] rfl rfl (any_of HT_.out (by kernel_rfl)) (fun _ _ _ h => h) (Or.inl ⟨by rfl, ?_⟩) ?_ ?_
         rotate_left
         ·intro w'
          go_simp
          with_reducible rfl
         rotate_left
         ·simp only [Act.put, List.setIfInBounds_toArray, List.set_cons_zero, List.set_cons_succ, i64_w, i32_w]
          rfl
         refine pure_ (i := 10) (N := some 116) (v := ?_) (a' := ?_) #[false, false, true, true, false, false, true, false, false, false, true, false, false, false, false, false, false, false, false, false] rfl rfl (any_of HT_.out (by kernel_rfl)) (fun _ _ _ h => h) (Or.inl ⟨by rfl, ?_⟩) ?_ ?_
         rotate_left
         ·intro w'
          go_simp
          with_reducible rfl
         rotate_left
         ·simp only [Act.put, List.setIfInBounds_toArray, List.set_cons_zero, List.set_cons_succ, i64_w, i32_w]
          rfl
         refine take_ (i := 0) (N := some 106) (v := ?_) (a' := ?_) #[true, false, true, true, false, false, true, false, false, false, true, false, false, false, false, false, false, false, false, false] rfl rfl (take_ofW HT_.out HW_.out (by kernel_rfl)) (fun _ _ _ h => h) (Or.inl ⟨by rfl, ?_⟩) hHeld ?_ ?_
         rotate_left
         ·rintro w' ⟨s0, s1, s2, s3⟩
          go_simp
          with_reducible rfl
         rotate_left
         ·simp only [Act.put, List.setIfInBounds_toArray, List.set_cons_zero, List.set_cons_succ, i64_w, i32_w]
          rfl
         refine take_ (i := 4) (N := some 110) (v := ?_) (a' := ?_) #[true, false, true, true, true, false, true, false, false, false, true, false, false, false, false, false, false, false, false, false] rfl rfl (take_ofW HT_.out HW_.out (by kernel_rfl)) (fun _ _ _ h => h) (Or.inl ⟨by rfl, ?_⟩) hHeld ?_ ?_
         rotate_left
         ·rintro w' ⟨s0, s1, s2, s3⟩
          go_simp
          with_reducible rfl
         rotate_left
         ·simp only [Act.put, List.setIfInBounds_toArray, List.set_cons_zero, List.set_cons_succ, i64_w, i32_w]
          rfl
         refine pure_ (i := 5) (N := some 111) (v := ?_) (a' := ?_) #[true, false, true, true, true, true, true, false, false, false, true, false, false, false, false, false, false, false, false, false] rfl rfl (any_of HT_.out (by kernel_rfl)) (fun _ _ _ h => h) (Or.inl ⟨by rfl, ?_⟩) ?_ ?_
         rotate_left
         ·intro w'
          go_simp
          with_reducible rfl
         rotate_left
         ·simp only [Act.put, List.setIfInBounds_toArray, List.set_cons_zero, List.set_cons_succ, i64_w, i32_w]
          rfl
         refine take_ (i := 7) (N := some 113) (v := ?_) (a' := ?_) #[true, false, true, true, true, true, true, true, false, false, true, false, false, false, false, false, false, false, false, false] rfl rfl (take_ofW HT_.out HW_.out (by kernel_rfl)) (fun _ _ _ h => h) (Or.inl ⟨by rfl, ?_⟩) hHeld ?_ ?_
         rotate_left
         ·rintro w' ⟨s0, s1, s2, s3⟩
          go_simp
          with_reducible rfl
         rotate_left
         ·simp only [Act.put, List.setIfInBounds_toArray, List.set_cons_zero, List.set_cons_succ, i64_w, i32_w]
          rfl
         refine pure_ (i := 8) (N := some 114) (v := ?_) (a' := ?_) #[true, false, true, true, true, true, true, true, true, false, true, false, false, false, false, false, false, false, false, false] rfl rfl (any_of HT_.out (by kernel_rfl)) (fun _ _ _ h => h) (Or.inl ⟨by rfl, ?_⟩) ?_ ?_
         rotate_left
         ·intro w'
          go_simp
          with_reducible rfl
         rotate_left
         ·simp only [Act.put, List.setIfInBounds_toArray, List.set_cons_zero, List.set_cons_succ, i64_w, i32_w]
          rfl
         refine pure_ (i := 9) (N := some 115) (v := ?_) (a' := ?_) #[true, false, true, true, true, true, true, true, true, true, true, false, false, false, false, false, false, false, false, false] rfl rfl (any_of HT_.out (by kernel_rfl)) (fun _ _ _ h => h) (Or.inl ⟨by rfl, ?_⟩) ?_ ?_
         rotate_left
         ·intro w'
          go_simp
          with_reducible rfl
         rotate_left
         ·simp only [Act.put, List.setIfInBounds_toArray, List.set_cons_zero, List.set_cons_succ, i64_w, i32_w]
          rfl
         refine pure_ (i := 11) (N := some 117) (v := ?_) (a' := ?_) #[true, false, true, true, true, true, true, true, true, true, true, true, false, false, false, false, false, false, false, false] rfl rfl (any_of HT_.out (by kernel_rfl)) (fun _ _ _ h => h) (Or.inl ⟨by rfl, ?_⟩) ?_ ?_
         rotate_left
         ·intro w'
          go_simp
          with_reducible rfl
         rotate_left
         ·simp only [Act.put, List.setIfInBounds_toArray, List.set_cons_zero, List.set_cons_succ, i64_w, i32_w]
          rfl
         refine take_ (i := 12) (N := some 118) (v := ?_) (a' := ?_) #[true, false, true, true, true, true, true, true, true, true, true, true, true, false, false, false, false, false, false, false] rfl rfl (take_ofW HT_.out HW_.out (by kernel_rfl)) (fun _ _ _ h => h) (Or.inl ⟨by rfl, ?_⟩) hHeld ?_ ?_
         rotate_left
         ·rintro w' ⟨s0, s1, s2, s3⟩
          go_simp
          with_reducible rfl
         rotate_left
         ·simp only [Act.put, List.setIfInBounds_toArray, List.set_cons_zero, List.set_cons_succ, i64_w, i32_w]
          rfl
         refine join_ (σ := Value × Value × Nat) 2 #[true, true, true, true, true, true, true, true, true, true, true, true, true, true, true, true, true, true, false, false] (fun s_ => [(107, .agg #[.int .i64 t569, s_.1]), (119, .tuple #[.agg #[.int .i64 t573, s_.2.1], .bool true]), (15, .pointer (some ⟨s_.2.2, 0, none⟩)), (105, .tuple #[.agg #[.int .i64 t573, s_.2.1], .bool true]), (120, .agg #[.int .i64 t573, s_.2.1]), (121, .bool true)]) (fun s_ w' => (w'.cell? ⟨gb543, 0, none⟩ = some (.int .i64 t536) ∧ w'.cell? ⟨gb543, 1, none⟩ = some (.slice Ao12 t537.length co12) ∧ w'.cell? ⟨gb544, 0, none⟩ = some (.int .i64 t541) ∧ w'.cell? ⟨gb544, 1, none⟩ = some (.int .i64 t542)) ∧ (Kd.R k24 24 w' w.heap.size (fun k_ => some k_ ≠ (.slice Ao115 t564.length co115 : Value).ownBlock ∧ some k_ ≠ (s_.1 : Value).ownBlock ∧ some k_ ≠ (s_.2.1 : Value).ownBlock ∧ some k_ ≠ (.slice Ao12 t537.length co12 : Value).ownBlock ∧ some k_ ≠ (.slice Ao19 t546.length co19 : Value).ownBlock ∧ some k_ ≠ (.slice Ao28 t552.length co28 : Value).ownBlock ∧ k_ ≠ gb544) v561 t560) ∧ (Kd.R k24 24 w' w.heap.size (fun k_ => some k_ ≠ (v561 : Value).ownBlock ∧ some k_ ≠ (s_.1 : Value).ownBlock ∧ some k_ ≠ (s_.2.1 : Value).ownBlock ∧ some k_ ≠ (.slice Ao12 t537.length co12 : Value).ownBlock ∧ some k_ ≠ (.slice Ao19 t546.length co19 : Value).ownBlock ∧ some k_ ≠ (.slice Ao28 t552.length co28 : Value).ownBlock ∧ k_ ≠ gb544) (.slice Ao115 t564.length co115) t564) ∧ (Kd.R k24 24 w' w.heap.size (fun k_ => some k_ ≠ (v561 : Value).ownBlock ∧ some k_ ≠ (.slice Ao115 t564.length co115 : Value).ownBlock ∧ some k_ ≠ (s_.2.1 : Value).ownBlock ∧ some k_ ≠ (.slice Ao12 t537.length co12 : Value).ownBlock ∧ some k_ ≠ (.slice Ao19 t546.length co19 : Value).ownBlock ∧ some k_ ≠ (.slice Ao28 t552.length co28 : Value).ownBlock ∧ k_ ≠ gb544) s_.1 t570) ∧ (Kd.R k24 24 w' w.heap.size (fun k_ => some k_ ≠ (v561 : Value).ownBlock ∧ some k_ ≠ (.slice Ao115 t564.length co115 : Value).ownBlock ∧ some k_ ≠ (s_.1 : Value).ownBlock ∧ some k_ ≠ (.slice Ao12 t537.length co12 : Value).ownBlock ∧ some k_ ≠ (.slice Ao19 t546.length co19 : Value).ownBlock ∧ some k_ ≠ (.slice Ao28 t552.length co28 : Value).ownBlock ∧ k_ ≠ gb544) s_.2.1 t574) ∧ (Kd.Q k24 24 w' w.heap.size (fun k_ => some k_ ≠ (v561 : Value).ownBlock ∧ some k_ ≠ (.slice Ao115 t564.length co115 : Value).ownBlock ∧ some k_ ≠ (s_.1 : Value).ownBlock ∧ some k_ ≠ (s_.2.1 : Value).ownBlock ∧ some k_ ≠ (.slice Ao19 t546.length co19 : Value).ownBlock ∧ some k_ ≠ (.slice Ao28 t552.length co28 : Value).ownBlock ∧ k_ ≠ gb544) (.slice Ao12 t537.length co12) t537) ∧ (Kd.Q k24 24 w' w.heap.size (fun k_ => some k_ ≠ (v561 : Value).ownBlock ∧ some k_ ≠ (.slice Ao115 t564.length co115 : Value).ownBlock ∧ some k_ ≠ (s_.1 : Value).ownBlock ∧ some k_ ≠ (s_.2.1 : Value).ownBlock ∧ some k_ ≠ (.slice Ao12 t537.length co12 : Value).ownBlock ∧ some k_ ≠ (.slice Ao28 t552.length co28 : Value).ownBlock ∧ k_ ≠ gb544) (.slice Ao19 t546.length co19) t546) ∧ (Kd.Q k24 24 w' w.heap.size (fun k_ => some k_ ≠ (v561 : Value).ownBlock ∧ some k_ ≠ (.slice Ao115 t564.length co115 : Value).ownBlock ∧ some k_ ≠ (s_.1 : Value).ownBlock ∧ some k_ ≠ (s_.2.1 : Value).ownBlock ∧ some k_ ≠ (.slice Ao12 t537.length co12 : Value).ownBlock ∧ some k_ ≠ (.slice Ao19 t546.length co19 : Value).ownBlock ∧ k_ ≠ gb544) (.slice Ao28 t552.length co28) t552) ∧ (w'.heap[gb543]? = some (.cells #[.int .i64 t536, .slice Ao12 t537.length co12] 30 (0, 0))) ∧ (w'.heap[gb544]? = some (.cells #[.int .i64 t541, .int .i64 t542] 24 (0, 0))) ∧ (w'.heap[gb550]? = some (.cells #[.int .i64 t545, .slice Ao19 t546.length co19] 30 (0, 0))) ∧ (w'.heap[gb556]? = some (.cells #[.int .i64 t551, .slice Ao28 t552.length co28] 30 (0, 0))) ∧ (w'.heap[gb568]? = some (.cells #[.int .i64 t563, .slice Ao115 t564.length co115] 30 (0, 0))) ∧ (w'.heap[s_.2.2]? = some (.cells #[.int .i64 0, .slice none 0 0] 30 (0, 0))) ∧ (w.heap.size ≤ s_.2.2) ∧ (w.heap.size ≤ s_.2.2) ∧ (gb543 ≠ s_.2.2) ∧ (s_.2.2 ≠ gb543) ∧ (gb544 ≠ s_.2.2) ∧ (s_.2.2 ≠ gb544) ∧ (gb550 ≠ s_.2.2) ∧ (s_.2.2 ≠ gb550) ∧ (gb556 ≠ s_.2.2) ∧ (s_.2.2 ≠ gb556) ∧ (gb568 ≠ s_.2.2) ∧ (s_.2.2 ≠ gb568) ∧ (Below w.heap.size w w')) ?_ ?_
         rotate_left
         ·intro hCont
          refine two_ (i := 1) (j := 17) (Ni := some 107) (Nj := some 15) #[true, true, true, true, true, true, true, true, true, true, true, true, true, false, false, false, false, false, false, false] #[true, false, true, true, true, true, true, true, true, true, true, true, true, false, false, false, false, true, false, false] rfl rfl rfl rfl (two_of HT_.out (by kernel_rfl)) (by decide) (by decide) (fun K hK => ?_) (fun K hK => ?_)
          ·skip
           refine goes_ Try.func26 (by kernel_rfl) rfl #[.agg #[.int .i64 t536, .slice Ao12 t537.length co12]] (by rfl) rfl rfl (by first | rfl | (simp only [List.map_toArray, List.map_cons, List.map_nil, List.length_drop, List.length_take]; try rfl)) ?_
           with_reducible refine (impl_GridFlip.calls t536 _ _ t537 t569 t570 _ ?side1 ?side2 A95.out).mono ?_
           (case side1 => repeat (first | exact (Kd.Q_reads' HO_544001.out).2.2 | (with_reducible refine Kd.C_alloc ?_ _) | (with_reducible refine Kd.C_drewN ?_ _) | (with_reducible refine Kd.C_drew ?_)))
           (case side2 => exact (Kd.Q_reads' HO_544001.out).2.1)
           rintro e w119 ⟨v571, rfl, ho0, hb⟩
           refine ⟨_, rfl, ?_⟩
           have n0_ := Aside0.mk (Kd.Q_elder' (by (with_reducible repeat apply Kd.Q_alloc); exact HO_544001.out) (Kd.R_base ho0) hb)
           have n1_ := Aside0.mk (Kd.Q_elder' (by (with_reducible repeat apply Kd.Q_alloc); exact HO_551001.out) (Kd.R_base ho0) hb)
           have n2_ := Aside0.mk (Kd.Q_elder' (by (with_reducible repeat apply Kd.Q_alloc); exact HO_557001.out) (Kd.R_base ho0) hb)
           have n3_ := Aside0.mk (Kd.R_elder' (kR HO562.out) (Kd.R_base ho0) hb)
           have n4_ := Aside0.mk (Kd.R_elder' (kR HO566.out) (Kd.R_base ho0) hb)
           have n5_ := Aside0.mk (Kd.R_lower (Kd.R_newB (Kd.R_new' (Kd.R_new' (Kd.R_new' (Kd.R_new' (Kd.R_new' ho0 (Kd.Q_lt (by (with_reducible repeat apply Kd.Q_alloc); exact HO_544001.out))) (Kd.Q_lt (by (with_reducible repeat apply Kd.Q_alloc); exact HO_551001.out))) (Kd.Q_lt (by (with_reducible repeat apply Kd.Q_alloc); exact HO_557001.out))) (Kd.R_lt (kR HO562.out))) (Kd.R_lt (kR HO566.out))) (g := gb544) (o := .cells #[.int .i64 t541, .int .i64 t542] 24 (0, 0)) (bK BK544.out)) (below_size (by repeat first | exact HB.out | with_reducible refine below_setA ?_ ‹_› | apply below_alloc | apply pw_below_drewN)))
           have n6_ := Aside0.mk (blk_below (bK BK543.out) hb)
           have n7_ := Aside0.mk (blk_below (bK BK544.out) hb)
           have n8_ := Aside0.mk (blk_below (bK BK550.out) hb)
           have n9_ := Aside0.mk (blk_below (bK BK556.out) hb)
           have n10_ := Aside0.mk (blk_below (bK BK568.out) hb)
           have n11_ := Aside0.mk (below_step (by repeat first | exact HB.out | with_reducible refine below_setA ?_ ‹_› | apply below_alloc | apply pw_below_drewN) hb)
           clear HO_544001
           clear HO_551001
           clear HO_557001
           clear HO562
           clear HO566
           clear BK543
           clear BK544
           clear BK550
           clear BK556
           clear BK568
           clear HB
           have HO_544001 := n0_
           have HO_551001 := n1_
           have HO_557001 := n2_
           have HO562 := n3_
           have HO566 := n4_
           have HO572 := n5_
           have BK543 := n6_
           have BK544 := n7_
           have BK550 := n8_
           have BK556 := n9_
           have BK568 := n10_
           have HB := n11_
           clear n0_ n1_ n2_ n3_ n4_ n5_ n6_ n7_ n8_ n9_ n10_ n11_
           (try clear hb)
           (try clear hb2)
           (try clear hk)
           (try clear hi)
           (try clear ho0)
           obtain ⟨Ao120, co120, eo120⟩ := Kd.R_slice HO572.out
           (first | subst eo120 | (injection eo120 with f1_ f2_ f3_; have f4_ := f1_.symm; have f5_ := f3_.symm; clear f1_ f2_ f3_; subst f4_; subst f5_))
           refine hK.out _ _ ⟨(blk_cell BK543.out 0).trans rfl, (blk_cell BK543.out 1).trans rfl, (blk_cell BK544.out 0).trans rfl, (blk_cell BK544.out 1).trans rfl⟩ (fun hHeld => ?_)
           clear hK K
           refine norm_ (a' := ?_) ?_ ?_
           rotate_left
           ·show Act.put _ (some 107) _ = _
            simp only [Act.put, List.setIfInBounds_toArray, List.set_cons_zero, List.set_cons_succ, i64_w, i32_w]
            rfl
           refine two_ (i := 13) (j := 17) (Ni := some 119) (Nj := some 15) #[true, true, true, true, true, true, true, true, true, true, true, true, true, true, false, false, false, false, false, false] #[true, true, true, true, true, true, true, true, true, true, true, true, true, false, false, false, false, true, false, false] rfl rfl rfl rfl (two_of HT_.out (by kernel_rfl)) (by decide) (by decide) (fun K hK => ?_) (fun K hK => ?_)
           ·skip
            refine goes_ Try.func36 (by kernel_rfl) rfl #[.agg #[.int .i64 t569, .slice Ao120 t570.length co120], .int .i64 (wrap64 ((wrap64 ((wrap64 ((wrap64 ((wrap64 (Int.tdiv t540 t536)) * t536)) + t536)) - 1)) - (Int.tmod t540 t536))), .agg #[.int .i64 t541, .int .i64 t542]] (by rfl) rfl rfl (by first | rfl | (simp only [List.map_toArray, List.map_cons, List.map_nil, List.length_drop, List.length_take]; try rfl)) ?_
            with_reducible refine (impl_GridPut.calls kj5 t569 _ _ t570 (wrap64 ((wrap64 ((wrap64 ((wrap64 ((wrap64 (Int.tdiv t540 t536)) * t536)) + t536)) - 1)) - (Int.tmod t540 t536))) t541 t542 t573 t574 true _ ?side1 ?side2 A96.out).mono ?_
            (case side1 => repeat (first | exact (Kd.R_reads' HO572.out).2.2 | (with_reducible refine Kd.C_alloc ?_ _) | (with_reducible refine Kd.C_drewN ?_ _) | (with_reducible refine Kd.C_drew ?_)))
            (case side2 => exact (Kd.R_reads' HO572.out).2.1)
            rintro e w121 ⟨v575, rfl, ho0, hb⟩
            refine ⟨_, rfl, ?_⟩
            have n0_ := Aside0.mk (Kd.Q_elder' (by (with_reducible repeat apply Kd.Q_alloc); exact HO_544001.out) (Kd.R_base ho0) hb)
            have n1_ := Aside0.mk (Kd.Q_elder' (by (with_reducible repeat apply Kd.Q_alloc); exact HO_551001.out) (Kd.R_base ho0) hb)
            have n2_ := Aside0.mk (Kd.Q_elder' (by (with_reducible repeat apply Kd.Q_alloc); exact HO_557001.out) (Kd.R_base ho0) hb)
            have n3_ := Aside0.mk (Kd.R_elder' (kR HO562.out) (Kd.R_base ho0) hb)
            have n4_ := Aside0.mk (Kd.R_elder' (kR HO566.out) (Kd.R_base ho0) hb)
            have n5_ := Aside0.mk (Kd.R_elder' (kR HO572.out) (Kd.R_base ho0) hb)
            have n6_ := Aside0.mk (Kd.R_lower (Kd.R_newB (Kd.R_new' (Kd.R_new' (Kd.R_new' (Kd.R_new' (Kd.R_new' (Kd.R_new' ho0 (Kd.Q_lt (by (with_reducible repeat apply Kd.Q_alloc); exact HO_544001.out))) (Kd.Q_lt (by (with_reducible repeat apply Kd.Q_alloc); exact HO_551001.out))) (Kd.Q_lt (by (with_reducible repeat apply Kd.Q_alloc); exact HO_557001.out))) (Kd.R_lt (kR HO562.out))) (Kd.R_lt (kR HO566.out))) (Kd.R_lt (kR HO572.out))) (g := gb544) (o := .cells #[.int .i64 t541, .int .i64 t542] 24 (0, 0)) (bK BK544.out)) (below_size (by repeat first | exact HB.out | with_reducible refine below_setA ?_ ‹_› | apply below_alloc | apply pw_below_drewN)))
            have n7_ := Aside0.mk (blk_below (bK BK543.out) hb)
            have n8_ := Aside0.mk (blk_below (bK BK544.out) hb)
            have n9_ := Aside0.mk (blk_below (bK BK550.out) hb)
            have n10_ := Aside0.mk (blk_below (bK BK556.out) hb)
            have n11_ := Aside0.mk (blk_below (bK BK568.out) hb)
            have n12_ := Aside0.mk (below_step (by repeat first | exact HB.out | with_reducible refine below_setA ?_ ‹_› | apply below_alloc | apply pw_below_drewN) hb)
            clear HO_544001
            clear HO_551001
            clear HO_557001
            clear HO562
            clear HO566
            clear HO572
            clear BK543
            clear BK544
            clear BK550
            clear BK556
            clear BK568
            clear HB
            have HO_544001 := n0_
            have HO_551001 := n1_
            have HO_557001 := n2_
            have HO562 := n3_
            have HO566 := n4_
            have HO572 := n5_
            have HO576 := n6_
            have BK543 := n7_
            have BK544 := n8_
            have BK550 := n9_
            have BK556 := n10_
            have BK568 := n11_
            have HB := n12_
            clear n0_ n1_ n2_ n3_ n4_ n5_ n6_ n7_ n8_ n9_ n10_ n11_ n12_
            (try clear hb)
            (try clear hb2)
            (try clear hk)
            (try clear hi)
            (try clear ho0)
            refine hK.out _ _ ⟨(blk_cell BK543.out 0).trans rfl, (blk_cell BK543.out 1).trans rfl, (blk_cell BK544.out 0).trans rfl, (blk_cell BK544.out 1).trans rfl⟩ (fun hHeld => ?_)
            clear hK K
            refine norm_ (a' := ?_) ?_ ?_
            rotate_left
            ·show Act.put _ (some 119) _ = _
             simp only [Act.put, List.setIfInBounds_toArray, List.set_cons_zero, List.set_cons_succ, i64_w, i32_w]
             rfl
            refine pure_ (i := 14) (N := some 105) (v := ?_) (a' := ?_) #[true, true, true, true, true, true, true, true, true, true, true, true, true, true, true, false, false, false, false, false] rfl rfl (any_of HT_.out (by kernel_rfl)) (fun _ _ _ h => h) (Or.inl ⟨by rfl, ?_⟩) ?_ ?_
            rotate_left
            ·intro w'
             go_simp
             with_reducible rfl
            rotate_left
            ·simp only [Act.put, List.setIfInBounds_toArray, List.set_cons_zero, List.set_cons_succ, i64_w, i32_w]
             rfl
            refine pure_ (i := 15) (N := some 120) (v := ?_) (a' := ?_) #[true, true, true, true, true, true, true, true, true, true, true, true, true, true, true, true, false, false, false, false] rfl rfl (any_of HT_.out (by kernel_rfl)) (fun _ _ _ h => h) (Or.inl ⟨by rfl, ?_⟩) ?_ ?_
            rotate_left
            ·intro w'
             go_simp
             with_reducible rfl
            rotate_left
            ·simp only [Act.put, List.setIfInBounds_toArray, List.set_cons_zero, List.set_cons_succ, i64_w, i32_w]
             rfl
            refine pure_ (i := 16) (N := some 121) (v := ?_) (a' := ?_) #[true, true, true, true, true, true, true, true, true, true, true, true, true, true, true, true, true, false, false, false] rfl rfl (any_of HT_.out (by kernel_rfl)) (fun _ _ _ h => h) (Or.inl ⟨by rfl, ?_⟩) ?_ ?_
            rotate_left
            ·intro w'
             go_simp
             with_reducible rfl
            rotate_left
            ·simp only [Act.put, List.setIfInBounds_toArray, List.set_cons_zero, List.set_cons_succ, i64_w, i32_w]
             rfl
            refine one_ (i := 17) (N := some 15) #[true, true, true, true, true, true, true, true, true, true, true, true, true, true, true, true, true, true, false, false] rfl rfl (one_of HT_.out (by kernel_rfl)) (by decide) (fun K hK => ?_)
            refine box_step ?hg (N := 15) ?hd (cs := #[.int .i64 0, .slice none 0 0]) (t := 30) ?hr ?_; (case hd => rfl); (case hg => rfl); (case hr => first | (go_simp; done) | (go_simp; rfl))
            intro gb578 hg w122 hbox hb
            have n0_ := Aside0.mk (Kd.Q_below (by (with_reducible repeat apply Kd.Q_alloc); exact HO_544001.out) hb)
            have n1_ := Aside0.mk (Kd.Q_below (by (with_reducible repeat apply Kd.Q_alloc); exact HO_551001.out) hb)
            have n2_ := Aside0.mk (Kd.Q_below (by (with_reducible repeat apply Kd.Q_alloc); exact HO_557001.out) hb)
            have n3_ := Aside0.mk (Kd.R_below (kR HO562.out) hb)
            have n4_ := Aside0.mk (Kd.R_below (kR HO566.out) hb)
            have n5_ := Aside0.mk (Kd.R_below (kR HO572.out) hb)
            have n6_ := Aside0.mk (Kd.R_below (kR HO576.out) hb)
            have n7_ := Aside0.mk (blk_below (bK BK543.out) hb)
            have n8_ := Aside0.mk (blk_below (bK BK544.out) hb)
            have n9_ := Aside0.mk (blk_below (bK BK550.out) hb)
            have n10_ := Aside0.mk (blk_below (bK BK556.out) hb)
            have n11_ := Aside0.mk (blk_below (bK BK568.out) hb)
            have n12_ := Aside0.mk (below_step (by repeat first | exact HB.out | with_reducible refine below_setA ?_ ‹_› | apply below_alloc | apply pw_below_drewN) hb)
            have n13_ := Aside0.mk (hbox)
            have n14_ := Aside0.mk ((by rw [hg]; exact (below_size (by repeat first | exact HB.out | with_reducible refine below_setA ?_ ‹_› | apply below_alloc | apply pw_below_drewN)) : w.heap.size ≤ gb578))
            have n15_ := Aside0.mk ((by rw [hg]; exact (below_size (by repeat first | exact HB.out | with_reducible refine below_setA ?_ ‹_› | apply below_alloc | apply pw_below_drewN)) : w.heap.size ≤ gb578))
            have n16_ := Aside0.mk ((by rw [hg]; exact Nat.ne_of_lt (blk_lt (bK BK543.out)) : gb543 ≠ gb578))
            have n17_ := Aside0.mk ((by rw [hg]; exact Nat.ne_of_gt (blk_lt (bK BK543.out)) : gb578 ≠ gb543))
            have n18_ := Aside0.mk ((by rw [hg]; exact Nat.ne_of_lt (blk_lt (bK BK544.out)) : gb544 ≠ gb578))
            have n19_ := Aside0.mk ((by rw [hg]; exact Nat.ne_of_gt (blk_lt (bK BK544.out)) : gb578 ≠ gb544))
            have n20_ := Aside0.mk ((by rw [hg]; exact Nat.ne_of_lt (blk_lt (bK BK550.out)) : gb550 ≠ gb578))
            have n21_ := Aside0.mk ((by rw [hg]; exact Nat.ne_of_gt (blk_lt (bK BK550.out)) : gb578 ≠ gb550))
            have n22_ := Aside0.mk ((by rw [hg]; exact Nat.ne_of_lt (blk_lt (bK BK556.out)) : gb556 ≠ gb578))
            have n23_ := Aside0.mk ((by rw [hg]; exact Nat.ne_of_gt (blk_lt (bK BK556.out)) : gb578 ≠ gb556))
            have n24_ := Aside0.mk ((by rw [hg]; exact Nat.ne_of_lt (blk_lt (bK BK568.out)) : gb568 ≠ gb578))
            have n25_ := Aside0.mk ((by rw [hg]; exact Nat.ne_of_gt (blk_lt (bK BK568.out)) : gb578 ≠ gb568))
            clear HO_544001
            clear HO_551001
            clear HO_557001
            clear HO562
            clear HO566
            clear HO572
            clear HO576
            clear BK543
            clear BK544
            clear BK550
            clear BK556
            clear BK568
            clear HB
            have HO_544001 := n0_
            have HO_551001 := n1_
            have HO_557001 := n2_
            have HO562 := n3_
            have HO566 := n4_
            have HO572 := n5_
            have HO576 := n6_
            have BK543 := n7_
            have BK544 := n8_
            have BK550 := n9_
            have BK556 := n10_
            have BK568 := n11_
            have HB := n12_
            have BK578 := n13_
            have GW578 := n14_
            have GE578 := n15_
            have NB543_578 := n16_
            have NB578_543 := n17_
            have NB544_578 := n18_
            have NB578_544 := n19_
            have NB550_578 := n20_
            have NB578_550 := n21_
            have NB556_578 := n22_
            have NB578_556 := n23_
            have NB568_578 := n24_
            have NB578_568 := n25_
            clear n0_ n1_ n2_ n3_ n4_ n5_ n6_ n7_ n8_ n9_ n10_ n11_ n12_ n13_ n14_ n15_ n16_ n17_ n18_ n19_ n20_ n21_ n22_ n23_ n24_ n25_
            clear hb hbox hg
            refine hK.out _ _ ⟨(blk_cell BK543.out 0).trans rfl, (blk_cell BK543.out 1).trans rfl, (blk_cell BK544.out 0).trans rfl, (blk_cell BK544.out 1).trans rfl⟩ (fun hHeld => ?_)
            clear hK K
            refine norm_ (a' := ?_) ?_ ?_
            rotate_left
            ·show Act.put _ (some 15) _ = _
             simp only [Act.put, List.setIfInBounds_toArray, List.set_cons_zero, List.set_cons_succ, i64_w, i32_w]
             rfl
            exact norm_ (by simp only [putAll, Act.put, List.setIfInBounds_toArray, List.set_cons_zero, List.set_cons_succ]) (hCont (.slice Ao120 t570.length co120, v575, gb578) _ ⟨hHeld, (by (with_reducible repeat apply Kd.R_alloc); exact Kd.R_mono HO562.out (fun _ hk => ⟨hk.1.1.2.2.2.1, ⟨hk.1.2, ⟨hk.2, ⟨hk.1.1.1, ⟨hk.1.1.2.1, ⟨hk.1.1.2.2.1, hk.1.1.2.2.2.2⟩⟩⟩⟩⟩⟩)), (by (with_reducible repeat apply Kd.R_alloc); exact Kd.R_mono HO566.out (fun _ hk => ⟨hk.1.1.2.2.2.1, ⟨hk.1.2, ⟨hk.2, ⟨hk.1.1.1, ⟨hk.1.1.2.1, ⟨hk.1.1.2.2.1, hk.1.1.2.2.2.2⟩⟩⟩⟩⟩⟩)), (by (with_reducible repeat apply Kd.R_alloc); exact Kd.R_mono HO572.out (fun _ hk => ⟨hk.1.1.1.2, ⟨hk.1.1.2, ⟨hk.2, ⟨hk.1.1.1.1.1.1.2, ⟨hk.1.1.1.1.1.2, ⟨hk.1.1.1.1.2, hk.1.2⟩⟩⟩⟩⟩⟩)), (by (with_reducible repeat apply Kd.R_alloc); exact Kd.R_mono HO576.out (fun _ hk => ⟨hk.1.1.1.2, ⟨hk.1.1.2, ⟨hk.1.2, ⟨hk.1.1.1.1.1.1.2, ⟨hk.1.1.1.1.1.2, ⟨hk.1.1.1.1.2, hk.2⟩⟩⟩⟩⟩⟩)), (by (with_reducible repeat apply Kd.Q_alloc); exact Kd.Q_mono HO_544001.out (fun _ hk => ⟨hk.1.1.2.2.1, ⟨hk.1.1.2.2.2.1, ⟨hk.1.2, ⟨hk.2, ⟨hk.1.1.1, ⟨hk.1.1.2.1, hk.1.1.2.2.2.2⟩⟩⟩⟩⟩⟩)), (by (with_reducible repeat apply Kd.Q_alloc); exact Kd.Q_mono HO_551001.out (fun _ hk => ⟨hk.1.1.2.2.1, ⟨hk.1.1.2.2.2.1, ⟨hk.1.2, ⟨hk.2, ⟨hk.1.1.1, ⟨hk.1.1.2.1, hk.1.1.2.2.2.2⟩⟩⟩⟩⟩⟩)), (by (with_reducible repeat apply Kd.Q_alloc); exact Kd.Q_mono HO_557001.out (fun _ hk => ⟨hk.1.1.2.2.1, ⟨hk.1.1.2.2.2.1, ⟨hk.1.2, ⟨hk.2, ⟨hk.1.1.1, ⟨hk.1.1.2.1, hk.1.1.2.2.2.2⟩⟩⟩⟩⟩⟩)), (bK BK543.out), (bK BK544.out), (bK BK550.out), (bK BK556.out), (bK BK568.out), (bK BK578.out), GW578.out, GE578.out, NB543_578.out, NB578_543.out, NB544_578.out, NB578_544.out, NB550_578.out, NB578_550.out, NB556_578.out, NB578_556.out, NB568_578.out, NB578_568.out, (by repeat first | exact HB.out | with_reducible refine below_setA ?_ ‹_› | apply below_alloc | apply pw_below_drewN)⟩)
           ·skip
            refine box_step ?hg (N := 15) ?hd (cs := #[.int .i64 0, .slice none 0 0]) (t := 30) ?hr ?_; (case hd => rfl); (case hg => rfl); (case hr => first | (go_simp; done) | (go_simp; rfl))
            intro gb578 hg w120 hbox hb
            have n0_ := Aside0.mk (Kd.Q_below (by (with_reducible repeat apply Kd.Q_alloc); exact HO_544001.out) hb)
            have n1_ := Aside0.mk (Kd.Q_below (by (with_reducible repeat apply Kd.Q_alloc); exact HO_551001.out) hb)
            have n2_ := Aside0.mk (Kd.Q_below (by (with_reducible repeat apply Kd.Q_alloc); exact HO_557001.out) hb)
            have n3_ := Aside0.mk (Kd.R_below (kR HO562.out) hb)
            have n4_ := Aside0.mk (Kd.R_below (kR HO566.out) hb)
            have n5_ := Aside0.mk (Kd.R_below (kR HO572.out) hb)
            have n6_ := Aside0.mk (blk_below (bK BK543.out) hb)
            have n7_ := Aside0.mk (blk_below (bK BK544.out) hb)
            have n8_ := Aside0.mk (blk_below (bK BK550.out) hb)
            have n9_ := Aside0.mk (blk_below (bK BK556.out) hb)
            have n10_ := Aside0.mk (blk_below (bK BK568.out) hb)
            have n11_ := Aside0.mk (below_step (by repeat first | exact HB.out | with_reducible refine below_setA ?_ ‹_› | apply below_alloc | apply pw_below_drewN) hb)
            have n12_ := Aside0.mk (hbox)
            have n13_ := Aside0.mk ((by rw [hg]; exact (below_size (by repeat first | exact HB.out | with_reducible refine below_setA ?_ ‹_› | apply below_alloc | apply pw_below_drewN)) : w.heap.size ≤ gb578))
            have n14_ := Aside0.mk ((by rw [hg]; exact (below_size (by repeat first | exact HB.out | with_reducible refine below_setA ?_ ‹_› | apply below_alloc | apply pw_below_drewN)) : w.heap.size ≤ gb578))
            have n15_ := Aside0.mk ((by rw [hg]; exact Nat.ne_of_lt (blk_lt (bK BK543.out)) : gb543 ≠ gb578))
            have n16_ := Aside0.mk ((by rw [hg]; exact Nat.ne_of_gt (blk_lt (bK BK543.out)) : gb578 ≠ gb543))
            have n17_ := Aside0.mk ((by rw [hg]; exact Nat.ne_of_lt (blk_lt (bK BK544.out)) : gb544 ≠ gb578))
            have n18_ := Aside0.mk ((by rw [hg]; exact Nat.ne_of_gt (blk_lt (bK BK544.out)) : gb578 ≠ gb544))
            have n19_ := Aside0.mk ((by rw [hg]; exact Nat.ne_of_lt (blk_lt (bK BK550.out)) : gb550 ≠ gb578))
            have n20_ := Aside0.mk ((by rw [hg]; exact Nat.ne_of_gt (blk_lt (bK BK550.out)) : gb578 ≠ gb550))
            have n21_ := Aside0.mk ((by rw [hg]; exact Nat.ne_of_lt (blk_lt (bK BK556.out)) : gb556 ≠ gb578))
            have n22_ := Aside0.mk ((by rw [hg]; exact Nat.ne_of_gt (blk_lt (bK BK556.out)) : gb578 ≠ gb556))
            have n23_ := Aside0.mk ((by rw [hg]; exact Nat.ne_of_lt (blk_lt (bK BK568.out)) : gb568 ≠ gb578))
            have n24_ := Aside0.mk ((by rw [hg]; exact Nat.ne_of_gt (blk_lt (bK BK568.out)) : gb578 ≠ gb568))
            clear HO_544001
            clear HO_551001
            clear HO_557001
            clear HO562
            clear HO566
            clear HO572
            clear BK543
            clear BK544
            clear BK550
            clear BK556
            clear BK568
            clear HB
            have HO_544001 := n0_
            have HO_551001 := n1_
            have HO_557001 := n2_
            have HO562 := n3_
            have HO566 := n4_
            have HO572 := n5_
            have BK543 := n6_
            have BK544 := n7_
            have BK550 := n8_
            have BK556 := n9_
            have BK568 := n10_
            have HB := n11_
            have BK578 := n12_
            have GW578 := n13_
            have GE578 := n14_
            have NB543_578 := n15_
            have NB578_543 := n16_
            have NB544_578 := n17_
            have NB578_544 := n18_
            have NB550_578 := n19_
            have NB578_550 := n20_
            have NB556_578 := n21_
            have NB578_556 := n22_
            have NB568_578 := n23_
            have NB578_568 := n24_
            clear n0_ n1_ n2_ n3_ n4_ n5_ n6_ n7_ n8_ n9_ n10_ n11_ n12_ n13_ n14_ n15_ n16_ n17_ n18_ n19_ n20_ n21_ n22_ n23_ n24_
            clear hb hbox hg
            obtain ⟨Ao121, co121, eo121⟩ := Kd.R_slice HO572.out
            (first | subst eo121 | (injection eo121 with f1_ f2_ f3_; have f4_ := f1_.symm; have f5_ := f3_.symm; clear f1_ f2_ f3_; subst f4_; subst f5_))
            refine hK.out _ _ ⟨(blk_cell BK543.out 0).trans rfl, (blk_cell BK543.out 1).trans rfl, (blk_cell BK544.out 0).trans rfl, (blk_cell BK544.out 1).trans rfl⟩ (fun hHeld => ?_)
            clear hK K
            refine norm_ (a' := ?_) ?_ ?_
            rotate_left
            ·show Act.put _ (some 15) _ = _
             simp only [Act.put, List.setIfInBounds_toArray, List.set_cons_zero, List.set_cons_succ, i64_w, i32_w]
             rfl
            refine one_ (i := 13) (N := some 119) #[true, true, true, true, true, true, true, true, true, true, true, true, true, true, false, false, false, true, false, false] rfl rfl (one_of HT_.out (by kernel_rfl)) (by decide) (fun K hK => ?_)
            refine goes_ Try.func36 (by kernel_rfl) rfl #[.agg #[.int .i64 t569, .slice Ao121 t570.length co121], .int .i64 (wrap64 ((wrap64 ((wrap64 ((wrap64 ((wrap64 (Int.tdiv t540 t536)) * t536)) + t536)) - 1)) - (Int.tmod t540 t536))), .agg #[.int .i64 t541, .int .i64 t542]] (by rfl) rfl rfl (by first | rfl | (simp only [List.map_toArray, List.map_cons, List.map_nil, List.length_drop, List.length_take]; try rfl)) ?_
            with_reducible refine (impl_GridPut.calls kj5 t569 _ _ t570 (wrap64 ((wrap64 ((wrap64 ((wrap64 ((wrap64 (Int.tdiv t540 t536)) * t536)) + t536)) - 1)) - (Int.tmod t540 t536))) t541 t542 t573 t574 true _ ?side1 ?side2 A96.out).mono ?_
            (case side1 => repeat (first | exact (Kd.R_reads' HO572.out).2.2 | (with_reducible refine Kd.C_alloc ?_ _) | (with_reducible refine Kd.C_drewN ?_ _) | (with_reducible refine Kd.C_drew ?_)))
            (case side2 => exact (Kd.R_reads' HO572.out).2.1)
            rintro e w122 ⟨v575, rfl, ho0, hb⟩
            refine ⟨_, rfl, ?_⟩
            have n0_ := Aside0.mk (Kd.Q_elder' (by (with_reducible repeat apply Kd.Q_alloc); exact HO_544001.out) (Kd.R_base ho0) hb)
            have n1_ := Aside0.mk (Kd.Q_elder' (by (with_reducible repeat apply Kd.Q_alloc); exact HO_551001.out) (Kd.R_base ho0) hb)
            have n2_ := Aside0.mk (Kd.Q_elder' (by (with_reducible repeat apply Kd.Q_alloc); exact HO_557001.out) (Kd.R_base ho0) hb)
            have n3_ := Aside0.mk (Kd.R_elder' (kR HO562.out) (Kd.R_base ho0) hb)
            have n4_ := Aside0.mk (Kd.R_elder' (kR HO566.out) (Kd.R_base ho0) hb)
            have n5_ := Aside0.mk (Kd.R_elder' (kR HO572.out) (Kd.R_base ho0) hb)
            have n6_ := Aside0.mk (Kd.R_lower (Kd.R_newB (Kd.R_new' (Kd.R_new' (Kd.R_new' (Kd.R_new' (Kd.R_new' (Kd.R_new' ho0 (Kd.Q_lt (by (with_reducible repeat apply Kd.Q_alloc); exact HO_544001.out))) (Kd.Q_lt (by (with_reducible repeat apply Kd.Q_alloc); exact HO_551001.out))) (Kd.Q_lt (by (with_reducible repeat apply Kd.Q_alloc); exact HO_557001.out))) (Kd.R_lt (kR HO562.out))) (Kd.R_lt (kR HO566.out))) (Kd.R_lt (kR HO572.out))) (g := gb544) (o := .cells #[.int .i64 t541, .int .i64 t542] 24 (0, 0)) (bK BK544.out)) (below_size (by repeat first | exact HB.out | with_reducible refine below_setA ?_ ‹_› | apply below_alloc | apply pw_below_drewN)))
            have n7_ := Aside0.mk (blk_below (bK BK543.out) hb)
            have n8_ := Aside0.mk (blk_below (bK BK544.out) hb)
            have n9_ := Aside0.mk (blk_below (bK BK550.out) hb)
            have n10_ := Aside0.mk (blk_below (bK BK556.out) hb)
            have n11_ := Aside0.mk (blk_below (bK BK568.out) hb)
            have n12_ := Aside0.mk (blk_below (bK BK578.out) hb)
            have n13_ := Aside0.mk (below_step (by repeat first | exact HB.out | with_reducible refine below_setA ?_ ‹_› | apply below_alloc | apply pw_below_drewN) hb)
            clear HO_544001
            clear HO_551001
            clear HO_557001
            clear HO562
            clear HO566
            clear HO572
            clear BK543
            clear BK544
            clear BK550
            clear BK556
            clear BK568
            clear BK578
            clear HB
            have HO_544001 := n0_
            have HO_551001 := n1_
            have HO_557001 := n2_
            have HO562 := n3_
            have HO566 := n4_
            have HO572 := n5_
            have HO576 := n6_
            have BK543 := n7_
            have BK544 := n8_
            have BK550 := n9_
            have BK556 := n10_
            have BK568 := n11_
            have BK578 := n12_
            have HB := n13_
            clear n0_ n1_ n2_ n3_ n4_ n5_ n6_ n7_ n8_ n9_ n10_ n11_ n12_ n13_
            (try clear hb)
            (try clear hb2)
            (try clear hk)
            (try clear hi)
            (try clear ho0)
            refine hK.out _ _ ⟨(blk_cell BK543.out 0).trans rfl, (blk_cell BK543.out 1).trans rfl, (blk_cell BK544.out 0).trans rfl, (blk_cell BK544.out 1).trans rfl⟩ (fun hHeld => ?_)
            clear hK K
            refine norm_ (a' := ?_) ?_ ?_
            rotate_left
            ·show Act.put _ (some 119) _ = _
             simp only [Act.put, List.setIfInBounds_toArray, List.set_cons_zero, List.set_cons_succ, i64_w, i32_w]
             rfl
            refine pure_ (i := 14) (N := some 105) (v := ?_) (a' := ?_) #[true, true, true, true, true, true, true, true, true, true, true, true, true, true, true, false, false, true, false, false] rfl rfl (any_of HT_.out (by kernel_rfl)) (fun _ _ _ h => h) (Or.inl ⟨by rfl, ?_⟩) ?_ ?_
            rotate_left
            ·intro w'
             go_simp
             with_reducible rfl
            rotate_left
            ·simp only [Act.put, List.setIfInBounds_toArray, List.set_cons_zero, List.set_cons_succ, i64_w, i32_w]
             rfl
            refine pure_ (i := 15) (N := some 120) (v := ?_) (a' := ?_) #[true, true, true, true, true, true, true, true, true, true, true, true, true, true, true, true, false, true, false, false] rfl rfl (any_of HT_.out (by kernel_rfl)) (fun _ _ _ h => h) (Or.inl ⟨by rfl, ?_⟩) ?_ ?_
            rotate_left
            ·intro w'
             go_simp
             with_reducible rfl
            rotate_left
            ·simp only [Act.put, List.setIfInBounds_toArray, List.set_cons_zero, List.set_cons_succ, i64_w, i32_w]
             rfl
            refine pure_ (i := 16) (N := some 121) (v := ?_) (a' := ?_) #[true, true, true, true, true, true, true, true, true, true, true, true, true, true, true, true, true, true, false, false] rfl rfl (any_of HT_.out (by kernel_rfl)) (fun _ _ _ h => h) (Or.inl ⟨by rfl, ?_⟩) ?_ ?_
            rotate_left
            ·intro w'
             go_simp
             with_reducible rfl
            rotate_left
            ·simp only [Act.put, List.setIfInBounds_toArray, List.set_cons_zero, List.set_cons_succ, i64_w, i32_w]
             rfl
            exact norm_ (by simp only [putAll, Act.put, List.setIfInBounds_toArray, List.set_cons_zero, List.set_cons_succ]) (hCont (.slice Ao121 t570.length co121, v575, gb578) _ ⟨hHeld, (by (with_reducible repeat apply Kd.R_alloc); exact Kd.R_mono HO562.out (fun _ hk => ⟨hk.1.1.2.2.2.1, ⟨hk.1.2, ⟨hk.2, ⟨hk.1.1.1, ⟨hk.1.1.2.1, ⟨hk.1.1.2.2.1, hk.1.1.2.2.2.2⟩⟩⟩⟩⟩⟩)), (by (with_reducible repeat apply Kd.R_alloc); exact Kd.R_mono HO566.out (fun _ hk => ⟨hk.1.1.2.2.2.1, ⟨hk.1.2, ⟨hk.2, ⟨hk.1.1.1, ⟨hk.1.1.2.1, ⟨hk.1.1.2.2.1, hk.1.1.2.2.2.2⟩⟩⟩⟩⟩⟩)), (by (with_reducible repeat apply Kd.R_alloc); exact Kd.R_mono HO572.out (fun _ hk => ⟨hk.1.1.1.2, ⟨hk.1.1.2, ⟨hk.2, ⟨hk.1.1.1.1.1.1.2, ⟨hk.1.1.1.1.1.2, ⟨hk.1.1.1.1.2, hk.1.2⟩⟩⟩⟩⟩⟩)), (by (with_reducible repeat apply Kd.R_alloc); exact Kd.R_mono HO576.out (fun _ hk => ⟨hk.1.1.1.2, ⟨hk.1.1.2, ⟨hk.1.2, ⟨hk.1.1.1.1.1.1.2, ⟨hk.1.1.1.1.1.2, ⟨hk.1.1.1.1.2, hk.2⟩⟩⟩⟩⟩⟩)), (by (with_reducible repeat apply Kd.Q_alloc); exact Kd.Q_mono HO_544001.out (fun _ hk => ⟨hk.1.1.2.2.1, ⟨hk.1.1.2.2.2.1, ⟨hk.1.2, ⟨hk.2, ⟨hk.1.1.1, ⟨hk.1.1.2.1, hk.1.1.2.2.2.2⟩⟩⟩⟩⟩⟩)), (by (with_reducible repeat apply Kd.Q_alloc); exact Kd.Q_mono HO_551001.out (fun _ hk => ⟨hk.1.1.2.2.1, ⟨hk.1.1.2.2.2.1, ⟨hk.1.2, ⟨hk.2, ⟨hk.1.1.1, ⟨hk.1.1.2.1, hk.1.1.2.2.2.2⟩⟩⟩⟩⟩⟩)), (by (with_reducible repeat apply Kd.Q_alloc); exact Kd.Q_mono HO_557001.out (fun _ hk => ⟨hk.1.1.2.2.1, ⟨hk.1.1.2.2.2.1, ⟨hk.1.2, ⟨hk.2, ⟨hk.1.1.1, ⟨hk.1.1.2.1, hk.1.1.2.2.2.2⟩⟩⟩⟩⟩⟩)), (bK BK543.out), (bK BK544.out), (bK BK550.out), (bK BK556.out), (bK BK568.out), (bK BK578.out), GW578.out, GE578.out, NB543_578.out, NB578_543.out, NB544_578.out, NB578_544.out, NB550_578.out, NB578_550.out, NB556_578.out, NB578_556.out, NB568_578.out, NB578_568.out, (by repeat first | exact HB.out | with_reducible refine below_setA ?_ ‹_› | apply below_alloc | apply pw_below_drewN)⟩)
          ·skip
           refine box_step ?hg (N := 15) ?hd (cs := #[.int .i64 0, .slice none 0 0]) (t := 30) ?hr ?_; (case hd => rfl); (case hg => rfl); (case hr => first | (go_simp; done) | (go_simp; rfl))
           intro gb578 hg w119 hbox hb
           have n0_ := Aside0.mk (Kd.Q_below (by (with_reducible repeat apply Kd.Q_alloc); exact HO_544001.out) hb)
           have n1_ := Aside0.mk (Kd.Q_below (by (with_reducible repeat apply Kd.Q_alloc); exact HO_551001.out) hb)
           have n2_ := Aside0.mk (Kd.Q_below (by (with_reducible repeat apply Kd.Q_alloc); exact HO_557001.out) hb)
           have n3_ := Aside0.mk (Kd.R_below (kR HO562.out) hb)
           have n4_ := Aside0.mk (Kd.R_below (kR HO566.out) hb)
           have n5_ := Aside0.mk (blk_below (bK BK543.out) hb)
           have n6_ := Aside0.mk (blk_below (bK BK544.out) hb)
           have n7_ := Aside0.mk (blk_below (bK BK550.out) hb)
           have n8_ := Aside0.mk (blk_below (bK BK556.out) hb)
           have n9_ := Aside0.mk (blk_below (bK BK568.out) hb)
           have n10_ := Aside0.mk (below_step (by repeat first | exact HB.out | with_reducible refine below_setA ?_ ‹_› | apply below_alloc | apply pw_below_drewN) hb)
           have n11_ := Aside0.mk (hbox)
           have n12_ := Aside0.mk ((by rw [hg]; exact (below_size (by repeat first | exact HB.out | with_reducible refine below_setA ?_ ‹_› | apply below_alloc | apply pw_below_drewN)) : w.heap.size ≤ gb578))
           have n13_ := Aside0.mk ((by rw [hg]; exact (below_size (by repeat first | exact HB.out | with_reducible refine below_setA ?_ ‹_› | apply below_alloc | apply pw_below_drewN)) : w.heap.size ≤ gb578))
           have n14_ := Aside0.mk ((by rw [hg]; exact Nat.ne_of_lt (blk_lt (bK BK543.out)) : gb543 ≠ gb578))
           have n15_ := Aside0.mk ((by rw [hg]; exact Nat.ne_of_gt (blk_lt (bK BK543.out)) : gb578 ≠ gb543))
           have n16_ := Aside0.mk ((by rw [hg]; exact Nat.ne_of_lt (blk_lt (bK BK544.out)) : gb544 ≠ gb578))
           have n17_ := Aside0.mk ((by rw [hg]; exact Nat.ne_of_gt (blk_lt (bK BK544.out)) : gb578 ≠ gb544))
           have n18_ := Aside0.mk ((by rw [hg]; exact Nat.ne_of_lt (blk_lt (bK BK550.out)) : gb550 ≠ gb578))
           have n19_ := Aside0.mk ((by rw [hg]; exact Nat.ne_of_gt (blk_lt (bK BK550.out)) : gb578 ≠ gb550))
           have n20_ := Aside0.mk ((by rw [hg]; exact Nat.ne_of_lt (blk_lt (bK BK556.out)) : gb556 ≠ gb578))
           have n21_ := Aside0.mk ((by rw [hg]; exact Nat.ne_of_gt (blk_lt (bK BK556.out)) : gb578 ≠ gb556))
           have n22_ := Aside0.mk ((by rw [hg]; exact Nat.ne_of_lt (blk_lt (bK BK568.out)) : gb568 ≠ gb578))
           have n23_ := Aside0.mk ((by rw [hg]; exact Nat.ne_of_gt (blk_lt (bK BK568.out)) : gb578 ≠ gb568))
           clear HO_544001
           clear HO_551001
           clear HO_557001
           clear HO562
           clear HO566
           clear BK543
           clear BK544
           clear BK550
           clear BK556
           clear BK568
           clear HB
           have HO_544001 := n0_
           have HO_551001 := n1_
           have HO_557001 := n2_
           have HO562 := n3_
           have HO566 := n4_
           have BK543 := n5_
           have BK544 := n6_
           have BK550 := n7_
           have BK556 := n8_
           have BK568 := n9_
           have HB := n10_
           have BK578 := n11_
           have GW578 := n12_
           have GE578 := n13_
           have NB543_578 := n14_
           have NB578_543 := n15_
           have NB544_578 := n16_
           have NB578_544 := n17_
           have NB550_578 := n18_
           have NB578_550 := n19_
           have NB556_578 := n20_
           have NB578_556 := n21_
           have NB568_578 := n22_
           have NB578_568 := n23_
           clear n0_ n1_ n2_ n3_ n4_ n5_ n6_ n7_ n8_ n9_ n10_ n11_ n12_ n13_ n14_ n15_ n16_ n17_ n18_ n19_ n20_ n21_ n22_ n23_
           clear hb hbox hg
           refine hK.out _ _ ⟨(blk_cell BK543.out 0).trans rfl, (blk_cell BK543.out 1).trans rfl, (blk_cell BK544.out 0).trans rfl, (blk_cell BK544.out 1).trans rfl⟩ (fun hHeld => ?_)
           clear hK K
           refine norm_ (a' := ?_) ?_ ?_
           rotate_left
           ·show Act.put _ (some 15) _ = _
            simp only [Act.put, List.setIfInBounds_toArray, List.set_cons_zero, List.set_cons_succ, i64_w, i32_w]
            rfl
           refine one_ (i := 1) (N := some 107) #[true, true, true, true, true, true, true, true, true, true, true, true, true, false, false, false, false, true, false, false] rfl rfl (one_of HT_.out (by kernel_rfl)) (by decide) (fun K hK => ?_)
           refine goes_ Try.func26 (by kernel_rfl) rfl #[.agg #[.int .i64 t536, .slice Ao12 t537.length co12]] (by rfl) rfl rfl (by first | rfl | (simp only [List.map_toArray, List.map_cons, List.map_nil, List.length_drop, List.length_take]; try rfl)) ?_
           with_reducible refine (impl_GridFlip.calls t536 _ _ t537 t569 t570 _ ?side1 ?side2 A95.out).mono ?_
           (case side1 => repeat (first | exact (Kd.Q_reads' HO_544001.out).2.2 | (with_reducible refine Kd.C_alloc ?_ _) | (with_reducible refine Kd.C_drewN ?_ _) | (with_reducible refine Kd.C_drew ?_)))
           (case side2 => exact (Kd.Q_reads' HO_544001.out).2.1)
           rintro e w120 ⟨v571, rfl, ho0, hb⟩
           refine ⟨_, rfl, ?_⟩
           have n0_ := Aside0.mk (Kd.Q_elder' (by (with_reducible repeat apply Kd.Q_alloc); exact HO_544001.out) (Kd.R_base ho0) hb)
           have n1_ := Aside0.mk (Kd.Q_elder' (by (with_reducible repeat apply Kd.Q_alloc); exact HO_551001.out) (Kd.R_base ho0) hb)
           have n2_ := Aside0.mk (Kd.Q_elder' (by (with_reducible repeat apply Kd.Q_alloc); exact HO_557001.out) (Kd.R_base ho0) hb)
           have n3_ := Aside0.mk (Kd.R_elder' (kR HO562.out) (Kd.R_base ho0) hb)
           have n4_ := Aside0.mk (Kd.R_elder' (kR HO566.out) (Kd.R_base ho0) hb)
           have n5_ := Aside0.mk (Kd.R_lower (Kd.R_newB (Kd.R_new' (Kd.R_new' (Kd.R_new' (Kd.R_new' (Kd.R_new' ho0 (Kd.Q_lt (by (with_reducible repeat apply Kd.Q_alloc); exact HO_544001.out))) (Kd.Q_lt (by (with_reducible repeat apply Kd.Q_alloc); exact HO_551001.out))) (Kd.Q_lt (by (with_reducible repeat apply Kd.Q_alloc); exact HO_557001.out))) (Kd.R_lt (kR HO562.out))) (Kd.R_lt (kR HO566.out))) (g := gb544) (o := .cells #[.int .i64 t541, .int .i64 t542] 24 (0, 0)) (bK BK544.out)) (below_size (by repeat first | exact HB.out | with_reducible refine below_setA ?_ ‹_› | apply below_alloc | apply pw_below_drewN)))
           have n6_ := Aside0.mk (blk_below (bK BK543.out) hb)
           have n7_ := Aside0.mk (blk_below (bK BK544.out) hb)
           have n8_ := Aside0.mk (blk_below (bK BK550.out) hb)
           have n9_ := Aside0.mk (blk_below (bK BK556.out) hb)
           have n10_ := Aside0.mk (blk_below (bK BK568.out) hb)
           have n11_ := Aside0.mk (blk_below (bK BK578.out) hb)
           have n12_ := Aside0.mk (below_step (by repeat first | exact HB.out | with_reducible refine below_setA ?_ ‹_› | apply below_alloc | apply pw_below_drewN) hb)
           clear HO_544001
           clear HO_551001
           clear HO_557001
           clear HO562
           clear HO566
           clear BK543
           clear BK544
           clear BK550
           clear BK556
           clear BK568
           clear BK578
           clear HB
           have HO_544001 := n0_
           have HO_551001 := n1_
           have HO_557001 := n2_
           have HO562 := n3_
           have HO566 := n4_
           have HO572 := n5_
           have BK543 := n6_
           have BK544 := n7_
           have BK550 := n8_
           have BK556 := n9_
           have BK568 := n10_
           have BK578 := n11_
           have HB := n12_
           clear n0_ n1_ n2_ n3_ n4_ n5_ n6_ n7_ n8_ n9_ n10_ n11_ n12_
           (try clear hb)
           (try clear hb2)
           (try clear hk)
           (try clear hi)
           (try clear ho0)
           obtain ⟨Ao121, co121, eo121⟩ := Kd.R_slice HO572.out
           (first | subst eo121 | (injection eo121 with f1_ f2_ f3_; have f4_ := f1_.symm; have f5_ := f3_.symm; clear f1_ f2_ f3_; subst f4_; subst f5_))
           refine hK.out _ _ ⟨(blk_cell BK543.out 0).trans rfl, (blk_cell BK543.out 1).trans rfl, (blk_cell BK544.out 0).trans rfl, (blk_cell BK544.out 1).trans rfl⟩ (fun hHeld => ?_)
           clear hK K
           refine norm_ (a' := ?_) ?_ ?_
           rotate_left
           ·show Act.put _ (some 107) _ = _
            simp only [Act.put, List.setIfInBounds_toArray, List.set_cons_zero, List.set_cons_succ, i64_w, i32_w]
            rfl
           refine one_ (i := 13) (N := some 119) #[true, true, true, true, true, true, true, true, true, true, true, true, true, true, false, false, false, true, false, false] rfl rfl (one_of HT_.out (by kernel_rfl)) (by decide) (fun K hK => ?_)
           refine goes_ Try.func36 (by kernel_rfl) rfl #[.agg #[.int .i64 t569, .slice Ao121 t570.length co121], .int .i64 (wrap64 ((wrap64 ((wrap64 ((wrap64 ((wrap64 (Int.tdiv t540 t536)) * t536)) + t536)) - 1)) - (Int.tmod t540 t536))), .agg #[.int .i64 t541, .int .i64 t542]] (by rfl) rfl rfl (by first | rfl | (simp only [List.map_toArray, List.map_cons, List.map_nil, List.length_drop, List.length_take]; try rfl)) ?_
           with_reducible refine (impl_GridPut.calls kj5 t569 _ _ t570 (wrap64 ((wrap64 ((wrap64 ((wrap64 ((wrap64 (Int.tdiv t540 t536)) * t536)) + t536)) - 1)) - (Int.tmod t540 t536))) t541 t542 t573 t574 true _ ?side1 ?side2 A96.out).mono ?_
           (case side1 => repeat (first | exact (Kd.R_reads' HO572.out).2.2 | (with_reducible refine Kd.C_alloc ?_ _) | (with_reducible refine Kd.C_drewN ?_ _) | (with_reducible refine Kd.C_drew ?_)))
           (case side2 => exact (Kd.R_reads' HO572.out).2.1)
           rintro e w122 ⟨v575, rfl, ho0, hb⟩
           refine ⟨_, rfl, ?_⟩
           have n0_ := Aside0.mk (Kd.Q_elder' (by (with_reducible repeat apply Kd.Q_alloc); exact HO_544001.out) (Kd.R_base ho0) hb)
           have n1_ := Aside0.mk (Kd.Q_elder' (by (with_reducible repeat apply Kd.Q_alloc); exact HO_551001.out) (Kd.R_base ho0) hb)
           have n2_ := Aside0.mk (Kd.Q_elder' (by (with_reducible repeat apply Kd.Q_alloc); exact HO_557001.out) (Kd.R_base ho0) hb)
           have n3_ := Aside0.mk (Kd.R_elder' (kR HO562.out) (Kd.R_base ho0) hb)
           have n4_ := Aside0.mk (Kd.R_elder' (kR HO566.out) (Kd.R_base ho0) hb)
           have n5_ := Aside0.mk (Kd.R_elder' (kR HO572.out) (Kd.R_base ho0) hb)
           have n6_ := Aside0.mk (Kd.R_lower (Kd.R_newB (Kd.R_new' (Kd.R_new' (Kd.R_new' (Kd.R_new' (Kd.R_new' (Kd.R_new' ho0 (Kd.Q_lt (by (with_reducible repeat apply Kd.Q_alloc); exact HO_544001.out))) (Kd.Q_lt (by (with_reducible repeat apply Kd.Q_alloc); exact HO_551001.out))) (Kd.Q_lt (by (with_reducible repeat apply Kd.Q_alloc); exact HO_557001.out))) (Kd.R_lt (kR HO562.out))) (Kd.R_lt (kR HO566.out))) (Kd.R_lt (kR HO572.out))) (g := gb544) (o := .cells #[.int .i64 t541, .int .i64 t542] 24 (0, 0)) (bK BK544.out)) (below_size (by repeat first | exact HB.out | with_reducible refine below_setA ?_ ‹_› | apply below_alloc | apply pw_below_drewN)))
           have n7_ := Aside0.mk (blk_below (bK BK543.out) hb)
           have n8_ := Aside0.mk (blk_below (bK BK544.out) hb)
           have n9_ := Aside0.mk (blk_below (bK BK550.out) hb)
           have n10_ := Aside0.mk (blk_below (bK BK556.out) hb)
           have n11_ := Aside0.mk (blk_below (bK BK568.out) hb)
           have n12_ := Aside0.mk (blk_below (bK BK578.out) hb)
           have n13_ := Aside0.mk (below_step (by repeat first | exact HB.out | with_reducible refine below_setA ?_ ‹_› | apply below_alloc | apply pw_below_drewN) hb)
           clear HO_544001
           clear HO_551001
           clear HO_557001
           clear HO562
           clear HO566
           clear HO572
           clear BK543
           clear BK544
           clear BK550
           clear BK556
           clear BK568
           clear BK578
           clear HB
           have HO_544001 := n0_
           have HO_551001 := n1_
           have HO_557001 := n2_
           have HO562 := n3_
           have HO566 := n4_
           have HO572 := n5_
           have HO576 := n6_
           have BK543 := n7_
           have BK544 := n8_
           have BK550 := n9_
           have BK556 := n10_
           have BK568 := n11_
           have BK578 := n12_
           have HB := n13_
           clear n0_ n1_ n2_ n3_ n4_ n5_ n6_ n7_ n8_ n9_ n10_ n11_ n12_ n13_
           (try clear hb)
           (try clear hb2)
           (try clear hk)
           (try clear hi)
           (try clear ho0)
           refine hK.out _ _ ⟨(blk_cell BK543.out 0).trans rfl, (blk_cell BK543.out 1).trans rfl, (blk_cell BK544.out 0).trans rfl, (blk_cell BK544.out 1).trans rfl⟩ (fun hHeld => ?_)
           clear hK K
           refine norm_ (a' := ?_) ?_ ?_
           rotate_left
           ·show Act.put _ (some 119) _ = _
            simp only [Act.put, List.setIfInBounds_toArray, List.set_cons_zero, List.set_cons_succ, i64_w, i32_w]
            rfl
           refine pure_ (i := 14) (N := some 105) (v := ?_) (a' := ?_) #[true, true, true, true, true, true, true, true, true, true, true, true, true, true, true, false, false, true, false, false] rfl rfl (any_of HT_.out (by kernel_rfl)) (fun _ _ _ h => h) (Or.inl ⟨by rfl, ?_⟩) ?_ ?_
           rotate_left
           ·intro w'
            go_simp
            with_reducible rfl
           rotate_left
           ·simp only [Act.put, List.setIfInBounds_toArray, List.set_cons_zero, List.set_cons_succ, i64_w, i32_w]
            rfl
           refine pure_ (i := 15) (N := some 120) (v := ?_) (a' := ?_) #[true, true, true, true, true, true, true, true, true, true, true, true, true, true, true, true, false, true, false, false] rfl rfl (any_of HT_.out (by kernel_rfl)) (fun _ _ _ h => h) (Or.inl ⟨by rfl, ?_⟩) ?_ ?_
           rotate_left
           ·intro w'
            go_simp
            with_reducible rfl
           rotate_left
           ·simp only [Act.put, List.setIfInBounds_toArray, List.set_cons_zero, List.set_cons_succ, i64_w, i32_w]
            rfl
           refine pure_ (i := 16) (N := some 121) (v := ?_) (a' := ?_) #[true, true, true, true, true, true, true, true, true, true, true, true, true, true, true, true, true, true, false, false] rfl rfl (any_of HT_.out (by kernel_rfl)) (fun _ _ _ h => h) (Or.inl ⟨by rfl, ?_⟩) ?_ ?_
           rotate_left
           ·intro w'
            go_simp
            with_reducible rfl
           rotate_left
           ·simp only [Act.put, List.setIfInBounds_toArray, List.set_cons_zero, List.set_cons_succ, i64_w, i32_w]
            rfl
           exact norm_ (by simp only [putAll, Act.put, List.setIfInBounds_toArray, List.set_cons_zero, List.set_cons_succ]) (hCont (.slice Ao121 t570.length co121, v575, gb578) _ ⟨hHeld, (by (with_reducible repeat apply Kd.R_alloc); exact Kd.R_mono HO562.out (fun _ hk => ⟨hk.1.1.2.2.2.1, ⟨hk.1.2, ⟨hk.2, ⟨hk.1.1.1, ⟨hk.1.1.2.1, ⟨hk.1.1.2.2.1, hk.1.1.2.2.2.2⟩⟩⟩⟩⟩⟩)), (by (with_reducible repeat apply Kd.R_alloc); exact Kd.R_mono HO566.out (fun _ hk => ⟨hk.1.1.2.2.2.1, ⟨hk.1.2, ⟨hk.2, ⟨hk.1.1.1, ⟨hk.1.1.2.1, ⟨hk.1.1.2.2.1, hk.1.1.2.2.2.2⟩⟩⟩⟩⟩⟩)), (by (with_reducible repeat apply Kd.R_alloc); exact Kd.R_mono HO572.out (fun _ hk => ⟨hk.1.1.1.2, ⟨hk.1.1.2, ⟨hk.2, ⟨hk.1.1.1.1.1.1.2, ⟨hk.1.1.1.1.1.2, ⟨hk.1.1.1.1.2, hk.1.2⟩⟩⟩⟩⟩⟩)), (by (with_reducible repeat apply Kd.R_alloc); exact Kd.R_mono HO576.out (fun _ hk => ⟨hk.1.1.1.2, ⟨hk.1.1.2, ⟨hk.1.2, ⟨hk.1.1.1.1.1.1.2, ⟨hk.1.1.1.1.1.2, ⟨hk.1.1.1.1.2, hk.2⟩⟩⟩⟩⟩⟩)), (by (with_reducible repeat apply Kd.Q_alloc); exact Kd.Q_mono HO_544001.out (fun _ hk => ⟨hk.1.1.2.2.1, ⟨hk.1.1.2.2.2.1, ⟨hk.1.2, ⟨hk.2, ⟨hk.1.1.1, ⟨hk.1.1.2.1, hk.1.1.2.2.2.2⟩⟩⟩⟩⟩⟩)), (by (with_reducible repeat apply Kd.Q_alloc); exact Kd.Q_mono HO_551001.out (fun _ hk => ⟨hk.1.1.2.2.1, ⟨hk.1.1.2.2.2.1, ⟨hk.1.2, ⟨hk.2, ⟨hk.1.1.1, ⟨hk.1.1.2.1, hk.1.1.2.2.2.2⟩⟩⟩⟩⟩⟩)), (by (with_reducible repeat apply Kd.Q_alloc); exact Kd.Q_mono HO_557001.out (fun _ hk => ⟨hk.1.1.2.2.1, ⟨hk.1.1.2.2.2.1, ⟨hk.1.2, ⟨hk.2, ⟨hk.1.1.1, ⟨hk.1.1.2.1, hk.1.1.2.2.2.2⟩⟩⟩⟩⟩⟩)), (bK BK543.out), (bK BK544.out), (bK BK550.out), (bK BK556.out), (bK BK568.out), (bK BK578.out), GW578.out, GE578.out, NB543_578.out, NB578_543.out, NB544_578.out, NB578_544.out, NB550_578.out, NB578_550.out, NB556_578.out, NB578_556.out, NB568_578.out, NB578_568.out, (by repeat first | exact HB.out | with_reducible refine below_setA ?_ ‹_› | apply below_alloc | apply pw_below_drewN)⟩)
         rintro ⟨v571, v575, gb578⟩ w123 ⟨hS_, h0_, h1_, h2_, h3_, h4_, h5_, h6_, h7_, h8_, h9_, h10_, h11_, h12_, h13_, h14_, h15_, h16_, h17_, h18_, h19_, h20_, h21_, h22_, h23_, h24_, h25_⟩
         have n0_ : Aside0 (Kd.R k24 24 w123 w.heap.size (fun k_ => some k_ ≠ (.slice Ao115 t564.length co115 : Value).ownBlock ∧ some k_ ≠ (v571 : Value).ownBlock ∧ some k_ ≠ (v575 : Value).ownBlock ∧ some k_ ≠ (.slice Ao12 t537.length co12 : Value).ownBlock ∧ some k_ ≠ (.slice Ao19 t546.length co19 : Value).ownBlock ∧ some k_ ≠ (.slice Ao28 t552.length co28 : Value).ownBlock ∧ k_ ≠ gb544) v561 t560) := ⟨h0_⟩
         have n1_ : Aside0 (Kd.R k24 24 w123 w.heap.size (fun k_ => some k_ ≠ (v561 : Value).ownBlock ∧ some k_ ≠ (v571 : Value).ownBlock ∧ some k_ ≠ (v575 : Value).ownBlock ∧ some k_ ≠ (.slice Ao12 t537.length co12 : Value).ownBlock ∧ some k_ ≠ (.slice Ao19 t546.length co19 : Value).ownBlock ∧ some k_ ≠ (.slice Ao28 t552.length co28 : Value).ownBlock ∧ k_ ≠ gb544) (.slice Ao115 t564.length co115) t564) := ⟨h1_⟩
         have n2_ : Aside0 (Kd.R k24 24 w123 w.heap.size (fun k_ => some k_ ≠ (v561 : Value).ownBlock ∧ some k_ ≠ (.slice Ao115 t564.length co115 : Value).ownBlock ∧ some k_ ≠ (v575 : Value).ownBlock ∧ some k_ ≠ (.slice Ao12 t537.length co12 : Value).ownBlock ∧ some k_ ≠ (.slice Ao19 t546.length co19 : Value).ownBlock ∧ some k_ ≠ (.slice Ao28 t552.length co28 : Value).ownBlock ∧ k_ ≠ gb544) v571 t570) := ⟨h2_⟩
         have n3_ : Aside0 (Kd.R k24 24 w123 w.heap.size (fun k_ => some k_ ≠ (v561 : Value).ownBlock ∧ some k_ ≠ (.slice Ao115 t564.length co115 : Value).ownBlock ∧ some k_ ≠ (v571 : Value).ownBlock ∧ some k_ ≠ (.slice Ao12 t537.length co12 : Value).ownBlock ∧ some k_ ≠ (.slice Ao19 t546.length co19 : Value).ownBlock ∧ some k_ ≠ (.slice Ao28 t552.length co28 : Value).ownBlock ∧ k_ ≠ gb544) v575 t574) := ⟨h3_⟩
         have n4_ : Aside0 (Kd.Q k24 24 w123 w.heap.size (fun k_ => some k_ ≠ (v561 : Value).ownBlock ∧ some k_ ≠ (.slice Ao115 t564.length co115 : Value).ownBlock ∧ some k_ ≠ (v571 : Value).ownBlock ∧ some k_ ≠ (v575 : Value).ownBlock ∧ some k_ ≠ (.slice Ao19 t546.length co19 : Value).ownBlock ∧ some k_ ≠ (.slice Ao28 t552.length co28 : Value).ownBlock ∧ k_ ≠ gb544) (.slice Ao12 t537.length co12) t537) := ⟨h4_⟩
         have n5_ : Aside0 (Kd.Q k24 24 w123 w.heap.size (fun k_ => some k_ ≠ (v561 : Value).ownBlock ∧ some k_ ≠ (.slice Ao115 t564.length co115 : Value).ownBlock ∧ some k_ ≠ (v571 : Value).ownBlock ∧ some k_ ≠ (v575 : Value).ownBlock ∧ some k_ ≠ (.slice Ao12 t537.length co12 : Value).ownBlock ∧ some k_ ≠ (.slice Ao28 t552.length co28 : Value).ownBlock ∧ k_ ≠ gb544) (.slice Ao19 t546.length co19) t546) := ⟨h5_⟩
         have n6_ : Aside0 (Kd.Q k24 24 w123 w.heap.size (fun k_ => some k_ ≠ (v561 : Value).ownBlock ∧ some k_ ≠ (.slice Ao115 t564.length co115 : Value).ownBlock ∧ some k_ ≠ (v571 : Value).ownBlock ∧ some k_ ≠ (v575 : Value).ownBlock ∧ some k_ ≠ (.slice Ao12 t537.length co12 : Value).ownBlock ∧ some k_ ≠ (.slice Ao19 t546.length co19 : Value).ownBlock ∧ k_ ≠ gb544) (.slice Ao28 t552.length co28) t552) := ⟨h6_⟩
         have n7_ : Aside0 (w123.heap[gb543]? = some (.cells #[.int .i64 t536, .slice Ao12 t537.length co12] 30 (0, 0))) := ⟨h7_⟩
         have n8_ : Aside0 (w123.heap[gb544]? = some (.cells #[.int .i64 t541, .int .i64 t542] 24 (0, 0))) := ⟨h8_⟩
         have n9_ : Aside0 (w123.heap[gb550]? = some (.cells #[.int .i64 t545, .slice Ao19 t546.length co19] 30 (0, 0))) := ⟨h9_⟩
         have n10_ : Aside0 (w123.heap[gb556]? = some (.cells #[.int .i64 t551, .slice Ao28 t552.length co28] 30 (0, 0))) := ⟨h10_⟩
         have n11_ : Aside0 (w123.heap[gb568]? = some (.cells #[.int .i64 t563, .slice Ao115 t564.length co115] 30 (0, 0))) := ⟨h11_⟩
         have n12_ : Aside0 (w123.heap[gb578]? = some (.cells #[.int .i64 0, .slice none 0 0] 30 (0, 0))) := ⟨h12_⟩
         have n13_ : Aside0 (w.heap.size ≤ gb578) := ⟨h13_⟩
         have n14_ : Aside0 (w.heap.size ≤ gb578) := ⟨h14_⟩
         have n15_ : Aside0 (gb543 ≠ gb578) := ⟨h15_⟩
         have n16_ : Aside0 (gb578 ≠ gb543) := ⟨h16_⟩
         have n17_ : Aside0 (gb544 ≠ gb578) := ⟨h17_⟩
         have n18_ : Aside0 (gb578 ≠ gb544) := ⟨h18_⟩
         have n19_ : Aside0 (gb550 ≠ gb578) := ⟨h19_⟩
         have n20_ : Aside0 (gb578 ≠ gb550) := ⟨h20_⟩
         have n21_ : Aside0 (gb556 ≠ gb578) := ⟨h21_⟩
         have n22_ : Aside0 (gb578 ≠ gb556) := ⟨h22_⟩
         have n23_ : Aside0 (gb568 ≠ gb578) := ⟨h23_⟩
         have n24_ : Aside0 (gb578 ≠ gb568) := ⟨h24_⟩
         have n25_ : Aside0 (Below w.heap.size w w123) := ⟨h25_⟩
         clear HO_544001
         clear HO_551001
         clear HO_557001
         clear HO562
         clear HO566
         clear BK543
         clear BK544
         clear BK550
         clear BK556
         clear BK568
         clear HB
         clear h0_ h1_ h2_ h3_ h4_ h5_ h6_ h7_ h8_ h9_ h10_ h11_ h12_ h13_ h14_ h15_ h16_ h17_ h18_ h19_ h20_ h21_ h22_ h23_ h24_ h25_
         have HO562 := n0_
         have HO566 := n1_
         have HO572 := n2_
         have HO576 := n3_
         have HO_544001 := n4_
         have HO_551001 := n5_
         have HO_557001 := n6_
         have BK543 := n7_
         have BK544 := n8_
         have BK550 := n9_
         have BK556 := n10_
         have BK568 := n11_
         have BK578 := n12_
         have GW578 := n13_
         have GE578 := n14_
         have NB543_578 := n15_
         have NB578_543 := n16_
         have NB544_578 := n17_
         have NB578_544 := n18_
         have NB550_578 := n19_
         have NB578_550 := n20_
         have NB556_578 := n21_
         have NB578_556 := n22_
         have NB568_578 := n23_
         have NB578_568 := n24_
         have HB := n25_
         clear n0_ n1_ n2_ n3_ n4_ n5_ n6_ n7_ n8_ n9_ n10_ n11_ n12_ n13_ n14_ n15_ n16_ n17_ n18_ n19_ n20_ n21_ n22_ n23_ n24_ n25_
         have hHeld : w123.cell? ⟨gb543, 0, none⟩ = some (.int .i64 t536) ∧ w123.cell? ⟨gb543, 1, none⟩ = some (.slice Ao12 t537.length co12) ∧ w123.cell? ⟨gb544, 0, none⟩ = some (.int .i64 t541) ∧ w123.cell? ⟨gb544, 1, none⟩ = some (.int .i64 t542) := hS_
         obtain ⟨Ao125, co125, eo125⟩ := Kd.R_slice HO576.out
         (first | subst eo125 | (injection eo125 with f1_ f2_ f3_; have f4_ := f1_.symm; have f5_ := f3_.symm; clear f1_ f2_ f3_; subst f4_; subst f5_))
         refine norm_ (a' := ?_) ?_ ?_
         rotate_left
         ·simp only [putAll, Act.put, List.setIfInBounds_toArray, List.set_cons_zero, List.set_cons_succ]
          rfl
         refine one_ (i := 18) (N := none) #[true, true, true, true, true, true, true, true, true, true, true, true, true, true, true, true, true, true, true, false] rfl rfl (one_of HT_.out (by kernel_rfl)) (by decide) (fun K hK => ?_)
         have hs124 : w123.cell? ⟨gb578, 0, none⟩ = some (.int .i64 0) := (blk_cell BK578.out 0).trans rfl
         have hfs124 := blk_frozen BK578.out 0
         have hns124_0 := NB543_578.out
         have hns124_1 := NB544_578.out
         have hns124_2 := NB550_578.out
         have hns124_3 := NB556_578.out
         have hns124_4 := NB568_578.out
         have hms124_0 := NB578_543.out
         have hms124_1 := NB578_544.out
         have hms124_2 := NB578_550.out
         have hms124_3 := NB578_556.out
         have hms124_4 := NB578_568.out
         have hs126 : w123.cell? ⟨gb578, 1, none⟩ = some (.slice none 0 0) := (blk_cell BK578.out 1).trans rfl
         have hfs126 := blk_frozen BK578.out 1
         have hns126_0 := NB543_578.out
         have hns126_1 := NB544_578.out
         have hns126_2 := NB550_578.out
         have hns126_3 := NB556_578.out
         have hns126_4 := NB568_578.out
         have hms126_0 := NB578_543.out
         have hms126_1 := NB578_544.out
         have hms126_2 := NB578_550.out
         have hms126_3 := NB578_556.out
         have hms126_4 := NB578_568.out
         refine skip_ (w1 := ?_) (by rfl) rfl ?_ ?_
         rotate_left
         ·go_simp
          rfl
         refine hK.out _ _ ⟨((cell_far (p := ⟨gb578, _, none⟩) NB543_578.out _).trans (((cell_far (p := ⟨gb578, _, none⟩) NB543_578.out _).trans (hHeld.1)))), ((cell_far (p := ⟨gb578, _, none⟩) NB543_578.out _).trans (((cell_far (p := ⟨gb578, _, none⟩) NB543_578.out _).trans (hHeld.2.1)))), ((cell_far (p := ⟨gb578, _, none⟩) NB544_578.out _).trans (((cell_far (p := ⟨gb578, _, none⟩) NB544_578.out _).trans (hHeld.2.2.1)))), ((cell_far (p := ⟨gb578, _, none⟩) NB544_578.out _).trans (((cell_far (p := ⟨gb578, _, none⟩) NB544_578.out _).trans (hHeld.2.2.2))))⟩ (fun hHeld => ?_)
         clear hK K
         refine pure_ (i := 19) (N := some 16) (v := ?_) (a' := ?_) #[true, true, true, true, true, true, true, true, true, true, true, true, true, true, true, true, true, true, true, true] rfl rfl (any_of HT_.out (by kernel_rfl)) (fun _ _ _ h => h) (Or.inl ⟨by rfl, ?_⟩) ?_ ?_
         rotate_left
         ·intro w'
          go_simp
          with_reducible rfl
         rotate_left
         ·simp only [Act.put, List.setIfInBounds_toArray, List.set_cons_zero, List.set_cons_succ, i64_w, i32_w]
          rfl
         refine done_ (done_of HT_.out (by kernel_rfl)) ?_
         try go_wp2
         have n0_ : Aside0 (Kd.Q k24 24 ((w123.setCell ⟨gb578, 0, none⟩ (.int .i64 t573)).setCell ⟨gb578, 1, none⟩ (.slice Ao125 t574.length co125)) w.heap.size (fun k_ => some k_ ≠ (.slice Ao19 t546.length co19 : Value).ownBlock ∧ some k_ ≠ (.slice Ao28 t552.length co28 : Value).ownBlock ∧ some k_ ≠ (v561 : Value).ownBlock ∧ some k_ ≠ (.slice Ao115 t564.length co115 : Value).ownBlock ∧ some k_ ≠ (v571 : Value).ownBlock ∧ some k_ ≠ (.slice Ao125 t574.length co125 : Value).ownBlock ∧ k_ ≠ gb544) (.slice Ao12 t537.length co12) t537) := ⟨by (with_reducible repeat apply Kd.Q_alloc); exact Kd.Q_mono (Kd.Q_far (p := ⟨gb578, 1, none⟩) (Kd.Q_far (p := ⟨gb578, 0, none⟩) (Kd.Q_types HO_544001.out BK578.out (by decide)) (fun _ hk => hk.2) (.int .i64 t573)) (fun _ hk => hk.2) (.slice Ao125 t574.length co125)) (fun _ hk => ⟨hk.1.2.2.2.2.1, ⟨hk.1.2.2.2.2.2.1, ⟨hk.1.1, ⟨hk.1.2.1, ⟨hk.1.2.2.1, ⟨hk.1.2.2.2.1, hk.1.2.2.2.2.2.2⟩⟩⟩⟩⟩⟩)⟩
         have n1_ : Aside0 (Kd.Q k24 24 ((w123.setCell ⟨gb578, 0, none⟩ (.int .i64 t573)).setCell ⟨gb578, 1, none⟩ (.slice Ao125 t574.length co125)) w.heap.size (fun k_ => some k_ ≠ (.slice Ao12 t537.length co12 : Value).ownBlock ∧ some k_ ≠ (.slice Ao28 t552.length co28 : Value).ownBlock ∧ some k_ ≠ (v561 : Value).ownBlock ∧ some k_ ≠ (.slice Ao115 t564.length co115 : Value).ownBlock ∧ some k_ ≠ (v571 : Value).ownBlock ∧ some k_ ≠ (.slice Ao125 t574.length co125 : Value).ownBlock ∧ k_ ≠ gb544) (.slice Ao19 t546.length co19) t546) := ⟨by (with_reducible repeat apply Kd.Q_alloc); exact Kd.Q_mono (Kd.Q_far (p := ⟨gb578, 1, none⟩) (Kd.Q_far (p := ⟨gb578, 0, none⟩) (Kd.Q_types HO_551001.out BK578.out (by decide)) (fun _ hk => hk.2) (.int .i64 t573)) (fun _ hk => hk.2) (.slice Ao125 t574.length co125)) (fun _ hk => ⟨hk.1.2.2.2.2.1, ⟨hk.1.2.2.2.2.2.1, ⟨hk.1.1, ⟨hk.1.2.1, ⟨hk.1.2.2.1, ⟨hk.1.2.2.2.1, hk.1.2.2.2.2.2.2⟩⟩⟩⟩⟩⟩)⟩
         have n2_ : Aside0 (Kd.Q k24 24 ((w123.setCell ⟨gb578, 0, none⟩ (.int .i64 t573)).setCell ⟨gb578, 1, none⟩ (.slice Ao125 t574.length co125)) w.heap.size (fun k_ => some k_ ≠ (.slice Ao12 t537.length co12 : Value).ownBlock ∧ some k_ ≠ (.slice Ao19 t546.length co19 : Value).ownBlock ∧ some k_ ≠ (v561 : Value).ownBlock ∧ some k_ ≠ (.slice Ao115 t564.length co115 : Value).ownBlock ∧ some k_ ≠ (v571 : Value).ownBlock ∧ some k_ ≠ (.slice Ao125 t574.length co125 : Value).ownBlock ∧ k_ ≠ gb544) (.slice Ao28 t552.length co28) t552) := ⟨by (with_reducible repeat apply Kd.Q_alloc); exact Kd.Q_mono (Kd.Q_far (p := ⟨gb578, 1, none⟩) (Kd.Q_far (p := ⟨gb578, 0, none⟩) (Kd.Q_types HO_557001.out BK578.out (by decide)) (fun _ hk => hk.2) (.int .i64 t573)) (fun _ hk => hk.2) (.slice Ao125 t574.length co125)) (fun _ hk => ⟨hk.1.2.2.2.2.1, ⟨hk.1.2.2.2.2.2.1, ⟨hk.1.1, ⟨hk.1.2.1, ⟨hk.1.2.2.1, ⟨hk.1.2.2.2.1, hk.1.2.2.2.2.2.2⟩⟩⟩⟩⟩⟩)⟩
         have n3_ : Aside0 (Kd.R k24 24 ((w123.setCell ⟨gb578, 0, none⟩ (.int .i64 t573)).setCell ⟨gb578, 1, none⟩ (.slice Ao125 t574.length co125)) w.heap.size (fun k_ => some k_ ≠ (.slice Ao12 t537.length co12 : Value).ownBlock ∧ some k_ ≠ (.slice Ao19 t546.length co19 : Value).ownBlock ∧ some k_ ≠ (.slice Ao28 t552.length co28 : Value).ownBlock ∧ some k_ ≠ (.slice Ao115 t564.length co115 : Value).ownBlock ∧ some k_ ≠ (v571 : Value).ownBlock ∧ some k_ ≠ (.slice Ao125 t574.length co125 : Value).ownBlock ∧ k_ ≠ gb544) v561 t560) := ⟨by (with_reducible repeat apply Kd.R_alloc); exact Kd.R_mono (Kd.R_far (p := ⟨gb578, 1, none⟩) (Kd.R_far (p := ⟨gb578, 0, none⟩) (Kd.R_types HO562.out BK578.out (by decide)) (fun _ hk => hk.2) (.int .i64 t573)) (fun _ hk => hk.2) (.slice Ao125 t574.length co125)) (fun _ hk => ⟨hk.1.2.2.2.1, ⟨hk.1.2.2.2.2.1, ⟨hk.1.2.2.2.2.2.1, ⟨hk.1.1, ⟨hk.1.2.1, ⟨hk.1.2.2.1, hk.1.2.2.2.2.2.2⟩⟩⟩⟩⟩⟩)⟩
         have n4_ : Aside0 (Kd.R k24 24 ((w123.setCell ⟨gb578, 0, none⟩ (.int .i64 t573)).setCell ⟨gb578, 1, none⟩ (.slice Ao125 t574.length co125)) w.heap.size (fun k_ => some k_ ≠ (.slice Ao12 t537.length co12 : Value).ownBlock ∧ some k_ ≠ (.slice Ao19 t546.length co19 : Value).ownBlock ∧ some k_ ≠ (.slice Ao28 t552.length co28 : Value).ownBlock ∧ some k_ ≠ (v561 : Value).ownBlock ∧ some k_ ≠ (v571 : Value).ownBlock ∧ some k_ ≠ (.slice Ao125 t574.length co125 : Value).ownBlock ∧ k_ ≠ gb544) (.slice Ao115 t564.length co115) t564) := ⟨by (with_reducible repeat apply Kd.R_alloc); exact Kd.R_mono (Kd.R_far (p := ⟨gb578, 1, none⟩) (Kd.R_far (p := ⟨gb578, 0, none⟩) (Kd.R_types HO566.out BK578.out (by decide)) (fun _ hk => hk.2) (.int .i64 t573)) (fun _ hk => hk.2) (.slice Ao125 t574.length co125)) (fun _ hk => ⟨hk.1.2.2.2.1, ⟨hk.1.2.2.2.2.1, ⟨hk.1.2.2.2.2.2.1, ⟨hk.1.1, ⟨hk.1.2.1, ⟨hk.1.2.2.1, hk.1.2.2.2.2.2.2⟩⟩⟩⟩⟩⟩)⟩
         have n5_ : Aside0 (Kd.R k24 24 ((w123.setCell ⟨gb578, 0, none⟩ (.int .i64 t573)).setCell ⟨gb578, 1, none⟩ (.slice Ao125 t574.length co125)) w.heap.size (fun k_ => some k_ ≠ (.slice Ao12 t537.length co12 : Value).ownBlock ∧ some k_ ≠ (.slice Ao19 t546.length co19 : Value).ownBlock ∧ some k_ ≠ (.slice Ao28 t552.length co28 : Value).ownBlock ∧ some k_ ≠ (v561 : Value).ownBlock ∧ some k_ ≠ (.slice Ao115 t564.length co115 : Value).ownBlock ∧ some k_ ≠ (.slice Ao125 t574.length co125 : Value).ownBlock ∧ k_ ≠ gb544) v571 t570) := ⟨by (with_reducible repeat apply Kd.R_alloc); exact Kd.R_mono (Kd.R_far (p := ⟨gb578, 1, none⟩) (Kd.R_far (p := ⟨gb578, 0, none⟩) (Kd.R_types HO572.out BK578.out (by decide)) (fun _ hk => hk.2) (.int .i64 t573)) (fun _ hk => hk.2) (.slice Ao125 t574.length co125)) (fun _ hk => ⟨hk.1.2.2.2.1, ⟨hk.1.2.2.2.2.1, ⟨hk.1.2.2.2.2.2.1, ⟨hk.1.1, ⟨hk.1.2.1, ⟨hk.1.2.2.1, hk.1.2.2.2.2.2.2⟩⟩⟩⟩⟩⟩)⟩
         have n6_ : Aside0 (Kd.R k24 24 ((w123.setCell ⟨gb578, 0, none⟩ (.int .i64 t573)).setCell ⟨gb578, 1, none⟩ (.slice Ao125 t574.length co125)) w.heap.size (fun k_ => some k_ ≠ (.slice Ao12 t537.length co12 : Value).ownBlock ∧ some k_ ≠ (.slice Ao19 t546.length co19 : Value).ownBlock ∧ some k_ ≠ (.slice Ao28 t552.length co28 : Value).ownBlock ∧ some k_ ≠ (v561 : Value).ownBlock ∧ some k_ ≠ (.slice Ao115 t564.length co115 : Value).ownBlock ∧ some k_ ≠ (v571 : Value).ownBlock ∧ k_ ≠ gb544) (.slice Ao125 t574.length co125) t574) := ⟨by (with_reducible repeat apply Kd.R_alloc); exact Kd.R_mono (Kd.R_far (p := ⟨gb578, 1, none⟩) (Kd.R_far (p := ⟨gb578, 0, none⟩) (Kd.R_types HO576.out BK578.out (by decide)) (fun _ hk => hk.2) (.int .i64 t573)) (fun _ hk => hk.2) (.slice Ao125 t574.length co125)) (fun _ hk => ⟨hk.1.2.2.2.1, ⟨hk.1.2.2.2.2.1, ⟨hk.1.2.2.2.2.2.1, ⟨hk.1.1, ⟨hk.1.2.1, ⟨hk.1.2.2.1, hk.1.2.2.2.2.2.2⟩⟩⟩⟩⟩⟩)⟩
         have n7_ : Aside0 (((w123.setCell ⟨gb578, 0, none⟩ (.int .i64 t573)).setCell ⟨gb578, 1, none⟩ (.slice Ao125 t574.length co125)).heap[gb543]? = some (.cells #[.int .i64 t536, .slice Ao12 t537.length co12] 30 (0, 0))) := ⟨by (with_reducible repeat apply blk_alloc); refine blk_far ?_ NB543_578.out _; (with_reducible repeat apply blk_alloc); refine blk_far ?_ NB543_578.out _; (with_reducible repeat apply blk_alloc); exact BK543.out⟩
         have n8_ : Aside0 (((w123.setCell ⟨gb578, 0, none⟩ (.int .i64 t573)).setCell ⟨gb578, 1, none⟩ (.slice Ao125 t574.length co125)).heap[gb544]? = some (.cells #[.int .i64 t541, .int .i64 t542] 24 (0, 0))) := ⟨by (with_reducible repeat apply blk_alloc); refine blk_far ?_ NB544_578.out _; (with_reducible repeat apply blk_alloc); refine blk_far ?_ NB544_578.out _; (with_reducible repeat apply blk_alloc); exact BK544.out⟩
         have n9_ : Aside0 (((w123.setCell ⟨gb578, 0, none⟩ (.int .i64 t573)).setCell ⟨gb578, 1, none⟩ (.slice Ao125 t574.length co125)).heap[gb550]? = some (.cells #[.int .i64 t545, .slice Ao19 t546.length co19] 30 (0, 0))) := ⟨by (with_reducible repeat apply blk_alloc); refine blk_far ?_ NB550_578.out _; (with_reducible repeat apply blk_alloc); refine blk_far ?_ NB550_578.out _; (with_reducible repeat apply blk_alloc); exact BK550.out⟩
         have n10_ : Aside0 (((w123.setCell ⟨gb578, 0, none⟩ (.int .i64 t573)).setCell ⟨gb578, 1, none⟩ (.slice Ao125 t574.length co125)).heap[gb556]? = some (.cells #[.int .i64 t551, .slice Ao28 t552.length co28] 30 (0, 0))) := ⟨by (with_reducible repeat apply blk_alloc); refine blk_far ?_ NB556_578.out _; (with_reducible repeat apply blk_alloc); refine blk_far ?_ NB556_578.out _; (with_reducible repeat apply blk_alloc); exact BK556.out⟩
         have n11_ : Aside0 (((w123.setCell ⟨gb578, 0, none⟩ (.int .i64 t573)).setCell ⟨gb578, 1, none⟩ (.slice Ao125 t574.length co125)).heap[gb568]? = some (.cells #[.int .i64 t563, .slice Ao115 t564.length co115] 30 (0, 0))) := ⟨by (with_reducible repeat apply blk_alloc); refine blk_far ?_ NB568_578.out _; (with_reducible repeat apply blk_alloc); refine blk_far ?_ NB568_578.out _; (with_reducible repeat apply blk_alloc); exact BK568.out⟩
         have n12_ : Aside0 (((w123.setCell ⟨gb578, 0, none⟩ (.int .i64 t573)).setCell ⟨gb578, 1, none⟩ (.slice Ao125 t574.length co125)).heap[gb578]? = some (.cells #[.int .i64 t573, .slice Ao125 t574.length co125] 30 (0, 0))) := ⟨by (with_reducible repeat apply blk_alloc); refine blk_put (cs := #[.int .i64 t573, .slice none 0 0]) ?_ 1 _ rfl; (with_reducible repeat apply blk_alloc); refine blk_put (cs := #[.int .i64 0, .slice none 0 0]) ?_ 0 _ rfl; (with_reducible repeat apply blk_alloc); exact BK578.out⟩
         have n13_ : Aside0 (Below w.heap.size w ((w123.setCell ⟨gb578, 0, none⟩ (.int .i64 t573)).setCell ⟨gb578, 1, none⟩ (.slice Ao125 t574.length co125))) := ⟨by repeat first | exact HB.out | with_reducible refine below_setA ?_ ‹_› | apply below_alloc | apply pw_below_drewN⟩
         (try clear HO_544001)
         (try clear HO_551001)
         (try clear HO_557001)
         (try clear HO562)
         (try clear HO566)
         (try clear HO572)
         (try clear HO576)
         (try clear BK543)
         (try clear BK544)
         (try clear BK550)
         (try clear BK556)
         (try clear BK568)
         (try clear BK578)
         (try clear HB)
         generalize ((w123.setCell ⟨gb578, 0, none⟩ (.int .i64 t573)).setCell ⟨gb578, 1, none⟩ (.slice Ao125 t574.length co125)) = w127 at n0_ n1_ n2_ n3_ n4_ n5_ n6_ n7_ n8_ n9_ n10_ n11_ n12_ n13_ ⊢
         have HO_544001 := n0_
         have HO_551001 := n1_
         have HO_557001 := n2_
         have HO562 := n3_
         have HO566 := n4_
         have HO572 := n5_
         have HO576 := n6_
         have BK543 := n7_
         have BK544 := n8_
         have BK550 := n9_
         have BK556 := n10_
         have BK568 := n11_
         have BK578 := n12_
         have HB := n13_
         clear n0_ n1_ n2_ n3_ n4_ n5_ n6_ n7_ n8_ n9_ n10_ n11_ n12_ n13_
         have n0_ := Aside0.mk (Kd.Q_drew HO_544001.out)
         have n1_ := Aside0.mk (Kd.Q_drew HO_551001.out)
         have n2_ := Aside0.mk (Kd.Q_drew HO_557001.out)
         have n3_ := Aside0.mk (Kd.R_drew HO562.out)
         have n4_ := Aside0.mk (Kd.R_drew HO566.out)
         have n5_ := Aside0.mk (Kd.R_drew HO572.out)
         have n6_ := Aside0.mk (Kd.R_drew HO576.out)
         have n7_ := Aside0.mk (blk_drew BK543.out)
         have n8_ := Aside0.mk (blk_drew BK544.out)
         have n9_ := Aside0.mk (blk_drew BK550.out)
         have n10_ := Aside0.mk (blk_drew BK556.out)
         have n11_ := Aside0.mk (blk_drew BK568.out)
         have n12_ := Aside0.mk (blk_drew BK578.out)
         have n13_ := Aside0.mk (below_drew1 HB.out)
         clear HO_544001
         clear HO_551001
         clear HO_557001
         clear HO562
         clear HO566
         clear HO572
         clear HO576
         clear BK543
         clear BK544
         clear BK550
         clear BK556
         clear BK568
         clear BK578
         clear HB
         have HO_544001 := n0_
         have HO_551001 := n1_
         have HO_557001 := n2_
         have HO562 := n3_
         have HO566 := n4_
         have HO572 := n5_
         have HO576 := n6_
         have BK543 := n7_
         have BK544 := n8_
         have BK550 := n9_
         have BK556 := n10_
         have BK568 := n11_
         have BK578 := n12_
         have HB := n13_
         clear n0_ n1_ n2_ n3_ n4_ n5_ n6_ n7_ n8_ n9_ n10_ n11_ n12_ n13_
         refine start_ (n := 17) (S := fun w' => w'.cell? ⟨gb556, 0, none⟩ = some (.int .i64 t551) ∧ w'.cell? ⟨gb556, 1, none⟩ = some (.slice Ao28 t552.length co28) ∧ w'.cell? ⟨gb568, 0, none⟩ = some (.int .i64 t563) ∧ w'.cell? ⟨gb568, 1, none⟩ = some (.slice Ao115 t564.length co115) ∧ w'.cell? ⟨gb578, 0, none⟩ = some (.int .i64 t573) ∧ w'.cell? ⟨gb578, 1, none⟩ = some (.slice Ao125 t574.length co125)) (ds := []) #[false, false, false, false, false, false, false, false, false, false, false, false, false, false, false, false, false] (by kernel_rfl) rfl rfl ⟨(blk_cell BK556.out 0).trans rfl, (blk_cell BK556.out 1).trans rfl, (blk_cell BK568.out 0).trans rfl, (blk_cell BK568.out 1).trans rfl, (blk_cell BK578.out 0).trans rfl, (blk_cell BK578.out 1).trans rfl⟩ (fun hHeld => ?_); refine with_tabW laws_FnTurnPut.tab13 laws_FnTurnPut.bits13 (fun HT_ HW_ => ?_)
         generalize w127.drew = w128 at HO_544001 HO_551001 HO_557001 HO562 HO566 HO572 HO576 BK543 BK544 BK550 BK556 BK568 BK578 HB hHeld ⊢
         refine pure_ (i := 0) (N := some 122) (v := ?_) (a' := ?_) #[true, false, false, false, false, false, false, false, false, false, false, false, false, false, false, false, false] rfl rfl (any_of HT_.out (by kernel_rfl)) (fun _ _ _ h => h) (Or.inl ⟨by rfl, ?_⟩) ?_ ?_
         rotate_left
         ·intro w'
          go_simp
          with_reducible rfl
         rotate_left
         ·simp only [Act.put, List.setIfInBounds_toArray, List.set_cons_zero, List.set_cons_succ, i64_w, i32_w]
          rfl
         refine pure_ (i := 1) (N := some 123) (v := ?_) (a' := ?_) #[true, true, false, false, false, false, false, false, false, false, false, false, false, false, false, false, false] rfl rfl (any_of HT_.out (by kernel_rfl)) (fun _ _ _ h => h) (Or.inl ⟨by rfl, ?_⟩) ?_ ?_
         rotate_left
         ·intro w'
          go_simp
          with_reducible rfl
         rotate_left
         ·simp only [Act.put, List.setIfInBounds_toArray, List.set_cons_zero, List.set_cons_succ, i64_w, i32_w]
          rfl
         refine pure_ (i := 2) (N := some 124) (v := ?_) (a' := ?_) #[true, true, true, false, false, false, false, false, false, false, false, false, false, false, false, false, false] rfl rfl (any_of HT_.out (by kernel_rfl)) (fun _ _ _ h => h) (Or.inl ⟨by rfl, ?_⟩) ?_ ?_
         rotate_left
         ·intro w'
          go_simp
          with_reducible rfl
         rotate_left
         ·simp only [Act.put, List.setIfInBounds_toArray, List.set_cons_zero, List.set_cons_succ, i64_w, i32_w]
          rfl
         refine pure_ (i := 3) (N := some 125) (v := ?_) (a' := ?_) #[true, true, true, true, false, false, false, false, false, false, false, false, false, false, false, false, false] rfl rfl (any_of HT_.out (by kernel_rfl)) (fun _ _ _ h => h) (Or.inl ⟨by rfl, ?_⟩) ?_ ?_
         rotate_left
         ·intro w'
          go_simp
          with_reducible rfl
         rotate_left
         ·simp only [Act.put, List.setIfInBounds_toArray, List.set_cons_zero, List.set_cons_succ, i64_w, i32_w]
          rfl
         refine pure_ (i := 4) (N := some 126) (v := ?_) (a' := ?_) #[true, true, true, true, true, false, false, false, false, false, false, false, false, false, false, false, false] rfl rfl (any_of HT_.out (by kernel_rfl)) (fun _ _ _ h => h) (Or.inl ⟨by rfl, ?_⟩) ?_ ?_
         rotate_left
         ·intro w'
          go_simp
          with_reducible rfl
         rotate_left
         ·simp only [Act.put, List.setIfInBounds_toArray, List.set_cons_zero, List.set_cons_succ, i64_w, i32_w]
          rfl
         refine take_ (i := 5) (N := some 127) (v := ?_) (a' := ?_) #[true, true, true, true, true, true, false, false, false, false, false, false, false, false, false, false, false] rfl rfl (take_ofW HT_.out HW_.out (by kernel_rfl)) (fun _ _ _ h => h) (Or.inl ⟨by rfl, ?_⟩) hHeld ?_ ?_
         rotate_left
         ·rintro w' ⟨s0, s1, s2, s3, s4, s5⟩
          go_simp
          with_reducible rfl
         rotate_left
         ·simp only [Act.put, List.setIfInBounds_toArray, List.set_cons_zero, List.set_cons_succ, i64_w, i32_w]
          rfl
         refine take_ (i := 7) (N := some 129) (v := ?_) (a' := ?_) #[true, true, true, true, true, true, false, true, false, false, false, false, false, false, false, false, false] rfl rfl (take_ofW HT_.out HW_.out (by kernel_rfl)) (fun _ _ _ h => h) (Or.inl ⟨by rfl, ?_⟩) hHeld ?_ ?_
         rotate_left
         ·rintro w' ⟨s0, s1, s2, s3, s4, s5⟩
          go_simp
          with_reducible rfl
         rotate_left
         ·simp only [Act.put, List.setIfInBounds_toArray, List.set_cons_zero, List.set_cons_succ, i64_w, i32_w]
          rfl
         refine one_ (i := 6) (N := some 128) #[true, true, true, true, true, true, true, true, false, false, false, false, false, false, false, false, false] rfl rfl (one_of HT_.out (by kernel_rfl)) (by decide) (fun K hK => ?_)
         refine goes_ Try.func18 (by kernel_rfl) rfl #[.agg #[.int .i64 t551, .slice Ao28 t552.length co28]] (by rfl) rfl rfl (by first | rfl | (simp only [List.map_toArray, List.map_cons, List.map_nil, List.length_drop, List.length_take]; try rfl)) ?_
         with_reducible refine (impl_GridTurn.calls t551 _ _ t552 t579 t580 _ ?side1 ?side2 A99.out).mono ?_
         (case side1 => repeat (first | exact (Kd.Q_reads' HO_557001.out).2.2 | (with_reducible refine Kd.C_alloc ?_ _) | (with_reducible refine Kd.C_drewN ?_ _) | (with_reducible refine Kd.C_drew ?_)))
         (case side2 => exact (Kd.Q_reads' HO_557001.out).2.1)
         rintro e w129 ⟨v581, rfl, ho0, hb⟩
         refine ⟨_, rfl, ?_⟩
         have n0_ := Aside0.mk (Kd.Q_elder' (by (with_reducible repeat apply Kd.Q_alloc); exact HO_544001.out) (Kd.R_base ho0) hb)
         have n1_ := Aside0.mk (Kd.Q_elder' (by (with_reducible repeat apply Kd.Q_alloc); exact HO_551001.out) (Kd.R_base ho0) hb)
         have n2_ := Aside0.mk (Kd.Q_elder' (by (with_reducible repeat apply Kd.Q_alloc); exact HO_557001.out) (Kd.R_base ho0) hb)
         have n3_ := Aside0.mk (Kd.R_elder' (kR HO562.out) (Kd.R_base ho0) hb)
         have n4_ := Aside0.mk (Kd.R_elder' (kR HO566.out) (Kd.R_base ho0) hb)
         have n5_ := Aside0.mk (Kd.R_elder' (kR HO572.out) (Kd.R_base ho0) hb)
         have n6_ := Aside0.mk (Kd.R_elder' (kR HO576.out) (Kd.R_base ho0) hb)
         have n7_ := Aside0.mk (Kd.R_lower (Kd.R_newB (Kd.R_new' (Kd.R_new' (Kd.R_new' (Kd.R_new' (Kd.R_new' (Kd.R_new' (Kd.R_new' ho0 (Kd.Q_lt (by (with_reducible repeat apply Kd.Q_alloc); exact HO_544001.out))) (Kd.Q_lt (by (with_reducible repeat apply Kd.Q_alloc); exact HO_551001.out))) (Kd.Q_lt (by (with_reducible repeat apply Kd.Q_alloc); exact HO_557001.out))) (Kd.R_lt (kR HO562.out))) (Kd.R_lt (kR HO566.out))) (Kd.R_lt (kR HO572.out))) (Kd.R_lt (kR HO576.out))) (g := gb544) (o := .cells #[.int .i64 t541, .int .i64 t542] 24 (0, 0)) (bK BK544.out)) (below_size (by repeat first | exact HB.out | with_reducible refine below_setA ?_ ‹_› | apply below_alloc | apply pw_below_drewN)))
         have n8_ := Aside0.mk (blk_below (bK BK543.out) hb)
         have n9_ := Aside0.mk (blk_below (bK BK544.out) hb)
         have n10_ := Aside0.mk (blk_below (bK BK550.out) hb)
         have n11_ := Aside0.mk (blk_below (bK BK556.out) hb)
         have n12_ := Aside0.mk (blk_below (bK BK568.out) hb)
         have n13_ := Aside0.mk (blk_below (bK BK578.out) hb)
         have n14_ := Aside0.mk (below_step (by repeat first | exact HB.out | with_reducible refine below_setA ?_ ‹_› | apply below_alloc | apply pw_below_drewN) hb)
         clear HO_544001
         clear HO_551001
         clear HO_557001
         clear HO562
         clear HO566
         clear HO572
         clear HO576
         clear BK543
         clear BK544
         clear BK550
         clear BK556
         clear BK568
         clear BK578
         clear HB
         have HO_544001 := n0_
         have HO_551001 := n1_
         have HO_557001 := n2_
         have HO562 := n3_
         have HO566 := n4_
         have HO572 := n5_
         have HO576 := n6_
         have HO582 := n7_
         have BK543 := n8_
         have BK544 := n9_
         have BK550 := n10_
         have BK556 := n11_
         have BK568 := n12_
         have BK578 := n13_
         have HB := n14_
         clear n0_ n1_ n2_ n3_ n4_ n5_ n6_ n7_ n8_ n9_ n10_ n11_ n12_ n13_ n14_
         (try clear hb)
         (try clear hb2)
         (try clear hk)
         (try clear hi)
         (try clear ho0)
         obtain ⟨Ao130, co130, eo130⟩ := Kd.R_slice HO582.out
         (first | subst eo130 | (injection eo130 with f1_ f2_ f3_; have f4_ := f1_.symm; have f5_ := f3_.symm; clear f1_ f2_ f3_; subst f4_; subst f5_))
         refine hK.out _ _ ⟨(blk_cell BK556.out 0).trans rfl, (blk_cell BK556.out 1).trans rfl, (blk_cell BK568.out 0).trans rfl, (blk_cell BK568.out 1).trans rfl, (blk_cell BK578.out 0).trans rfl, (blk_cell BK578.out 1).trans rfl⟩ (fun hHeld => ?_)
         clear hK K
         refine norm_ (a' := ?_) ?_ ?_
         rotate_left
         ·show Act.put _ (some 128) _ = _
          simp only [Act.put, List.setIfInBounds_toArray, List.set_cons_zero, List.set_cons_succ, i64_w, i32_w]
          rfl
         refine one_ (i := 8) (N := some 130) #[true, true, true, true, true, true, true, true, true, false, false, false, false, false, false, false, false] rfl rfl (one_of HT_.out (by kernel_rfl)) (by decide) (fun K hK => ?_)
         refine goes_ Try.func19 (by kernel_rfl) rfl #[.agg #[.int .i64 t579, .slice Ao130 t580.length co130], .agg #[.int .i64 t563, .slice Ao115 t564.length co115]] (by rfl) rfl rfl (by first | rfl | (simp only [List.map_toArray, List.map_cons, List.map_nil, List.length_drop, List.length_take]; try rfl)) ?_
         with_reducible refine (laws_llGrid.calls kj5 t579 _ _ t580 t563 _ _ t564 true _ ?side1 ?side2 ?side3 ?side4 A100.out).mono ?_
         (case side1 => repeat (first | exact (Kd.R_reads' HO582.out).2.2 | (with_reducible refine Kd.C_alloc ?_ _) | (with_reducible refine Kd.C_drewN ?_ _) | (with_reducible refine Kd.C_drew ?_)))
         (case side2 => exact (Kd.R_reads' HO582.out).2.1)
         (case side3 => repeat (first | exact (Kd.R_reads' HO566.out).2.2 | (with_reducible refine Kd.C_alloc ?_ _) | (with_reducible refine Kd.C_drewN ?_ _) | (with_reducible refine Kd.C_drew ?_)))
         (case side4 => exact (Kd.R_reads' HO566.out).2.1)
         rintro e w131 ⟨rfl, hb⟩
         refine ⟨_, rfl, ?_⟩
         have n0_ := Aside0.mk (Kd.Q_below (by (with_reducible repeat apply Kd.Q_alloc); exact HO_544001.out) hb)
         have n1_ := Aside0.mk (Kd.Q_below (by (with_reducible repeat apply Kd.Q_alloc); exact HO_551001.out) hb)
         have n2_ := Aside0.mk (Kd.Q_below (by (with_reducible repeat apply Kd.Q_alloc); exact HO_557001.out) hb)
         have n3_ := Aside0.mk (Kd.R_below (kR HO562.out) hb)
         have n4_ := Aside0.mk (Kd.R_below (kR HO566.out) hb)
         have n5_ := Aside0.mk (Kd.R_below (kR HO572.out) hb)
         have n6_ := Aside0.mk (Kd.R_below (kR HO576.out) hb)
         have n7_ := Aside0.mk (Kd.R_below (kR HO582.out) hb)
         have n8_ := Aside0.mk (blk_below (bK BK543.out) hb)
         have n9_ := Aside0.mk (blk_below (bK BK544.out) hb)
         have n10_ := Aside0.mk (blk_below (bK BK550.out) hb)
         have n11_ := Aside0.mk (blk_below (bK BK556.out) hb)
         have n12_ := Aside0.mk (blk_below (bK BK568.out) hb)
         have n13_ := Aside0.mk (blk_below (bK BK578.out) hb)
         have n14_ := Aside0.mk (below_step (by repeat first | exact HB.out | with_reducible refine below_setA ?_ ‹_› | apply below_alloc | apply pw_below_drewN) hb)
         clear HO_544001
         clear HO_551001
         clear HO_557001
         clear HO562
         clear HO566
         clear HO572
         clear HO576
         clear HO582
         clear BK543
         clear BK544
         clear BK550
         clear BK556
         clear BK568
         clear BK578
         clear HB
         have HO_544001 := n0_
         have HO_551001 := n1_
         have HO_557001 := n2_
         have HO562 := n3_
         have HO566 := n4_
         have HO572 := n5_
         have HO576 := n6_
         have HO582 := n7_
         have BK543 := n8_
         have BK544 := n9_
         have BK550 := n10_
         have BK556 := n11_
         have BK568 := n12_
         have BK578 := n13_
         have HB := n14_
         clear n0_ n1_ n2_ n3_ n4_ n5_ n6_ n7_ n8_ n9_ n10_ n11_ n12_ n13_ n14_
         (try clear hb)
         (try clear hb2)
         (try clear hk)
         (try clear hi)
         refine hK.out _ _ ⟨(blk_cell BK556.out 0).trans rfl, (blk_cell BK556.out 1).trans rfl, (blk_cell BK568.out 0).trans rfl, (blk_cell BK568.out 1).trans rfl, (blk_cell BK578.out 0).trans rfl, (blk_cell BK578.out 1).trans rfl⟩ (fun hHeld => ?_)
         clear hK K
         refine norm_ (a' := ?_) ?_ ?_
         rotate_left
         ·show Act.put _ (some 130) _ = _
          simp only [Act.put, List.setIfInBounds_toArray, List.set_cons_zero, List.set_cons_succ, i64_w, i32_w]
          rfl
         refine pure_ (i := 9) (N := some 131) (v := ?_) (a' := ?_) #[true, true, true, true, true, true, true, true, true, true, false, false, false, false, false, false, false] rfl rfl (any_of HT_.out (by kernel_rfl)) (fun _ _ _ h => h) (Or.inl ⟨by rfl, ?_⟩) ?_ ?_
         rotate_left
         ·intro w'
          go_simp
          with_reducible rfl
         rotate_left
         ·simp only [Act.put, List.setIfInBounds_toArray, List.set_cons_zero, List.set_cons_succ, i64_w, i32_w]
          rfl
         refine pure_ (i := 10) (N := some 132) (v := ?_) (a' := ?_) #[true, true, true, true, true, true, true, true, true, true, true, false, false, false, false, false, false] rfl rfl (any_of HT_.out (by kernel_rfl)) (fun _ _ _ h => h) (Or.inl ⟨by rfl, ?_⟩) ?_ ?_
         rotate_left
         ·intro w'
          go_simp
          with_reducible rfl
         rotate_left
         ·simp only [Act.put, List.setIfInBounds_toArray, List.set_cons_zero, List.set_cons_succ, i64_w, i32_w]
          rfl
         refine take_ (i := 11) (N := some 133) (v := ?_) (a' := ?_) #[true, true, true, true, true, true, true, true, true, true, true, true, false, false, false, false, false] rfl rfl (take_ofW HT_.out HW_.out (by kernel_rfl)) (fun _ _ _ h => h) (Or.inl ⟨by rfl, ?_⟩) hHeld ?_ ?_
         rotate_left
         ·rintro w' ⟨s0, s1, s2, s3, s4, s5⟩
          go_simp
          with_reducible rfl
         rotate_left
         ·simp only [Act.put, List.setIfInBounds_toArray, List.set_cons_zero, List.set_cons_succ, i64_w, i32_w]
          rfl
         refine take_ (i := 13) (N := some 135) (v := ?_) (a' := ?_) #[true, true, true, true, true, true, true, true, true, true, true, true, false, true, false, false, false] rfl rfl (take_ofW HT_.out HW_.out (by kernel_rfl)) (fun _ _ _ h => h) (Or.inl ⟨by rfl, ?_⟩) hHeld ?_ ?_
         rotate_left
         ·rintro w' ⟨s0, s1, s2, s3, s4, s5⟩
          go_simp
          with_reducible rfl
         rotate_left
         ·simp only [Act.put, List.setIfInBounds_toArray, List.set_cons_zero, List.set_cons_succ, i64_w, i32_w]
          rfl
         refine one_ (i := 12) (N := some 134) #[true, true, true, true, true, true, true, true, true, true, true, true, true, true, false, false, false] rfl rfl (one_of HT_.out (by kernel_rfl)) (by decide) (fun K hK => ?_)
         refine goes_ Try.func26 (by kernel_rfl) rfl #[.agg #[.int .i64 t551, .slice Ao28 t552.length co28]] (by rfl) rfl rfl (by first | rfl | (simp only [List.map_toArray, List.map_cons, List.map_nil, List.length_drop, List.length_take]; try rfl)) ?_
         with_reducible refine (impl_GridFlip.calls t551 _ _ t552 t584 t585 _ ?side1 ?side2 A102.out).mono ?_
         (case side1 => repeat (first | exact (Kd.Q_reads' HO_557001.out).2.2 | (with_reducible refine Kd.C_alloc ?_ _) | (with_reducible refine Kd.C_drewN ?_ _) | (with_reducible refine Kd.C_drew ?_)))
         (case side2 => exact (Kd.Q_reads' HO_557001.out).2.1)
         rintro e w132 ⟨v586, rfl, ho0, hb⟩
         refine ⟨_, rfl, ?_⟩
         have n0_ := Aside0.mk (Kd.Q_elder' (by (with_reducible repeat apply Kd.Q_alloc); exact HO_544001.out) (Kd.R_base ho0) hb)
         have n1_ := Aside0.mk (Kd.Q_elder' (by (with_reducible repeat apply Kd.Q_alloc); exact HO_551001.out) (Kd.R_base ho0) hb)
         have n2_ := Aside0.mk (Kd.Q_elder' (by (with_reducible repeat apply Kd.Q_alloc); exact HO_557001.out) (Kd.R_base ho0) hb)
         have n3_ := Aside0.mk (Kd.R_elder' (kR HO562.out) (Kd.R_base ho0) hb)
         have n4_ := Aside0.mk (Kd.R_elder' (kR HO566.out) (Kd.R_base ho0) hb)
         have n5_ := Aside0.mk (Kd.R_elder' (kR HO572.out) (Kd.R_base ho0) hb)
         have n6_ := Aside0.mk (Kd.R_elder' (kR HO576.out) (Kd.R_base ho0) hb)
         have n7_ := Aside0.mk (Kd.R_elder' (kR HO582.out) (Kd.R_base ho0) hb)
         have n8_ := Aside0.mk (Kd.R_lower (Kd.R_newB (Kd.R_new' (Kd.R_new' (Kd.R_new' (Kd.R_new' (Kd.R_new' (Kd.R_new' (Kd.R_new' (Kd.R_new' ho0 (Kd.Q_lt (by (with_reducible repeat apply Kd.Q_alloc); exact HO_544001.out))) (Kd.Q_lt (by (with_reducible repeat apply Kd.Q_alloc); exact HO_551001.out))) (Kd.Q_lt (by (with_reducible repeat apply Kd.Q_alloc); exact HO_557001.out))) (Kd.R_lt (kR HO562.out))) (Kd.R_lt (kR HO566.out))) (Kd.R_lt (kR HO572.out))) (Kd.R_lt (kR HO576.out))) (Kd.R_lt (kR HO582.out))) (g := gb544) (o := .cells #[.int .i64 t541, .int .i64 t542] 24 (0, 0)) (bK BK544.out)) (below_size (by repeat first | exact HB.out | with_reducible refine below_setA ?_ ‹_› | apply below_alloc | apply pw_below_drewN)))
         have n9_ := Aside0.mk (blk_below (bK BK543.out) hb)
         have n10_ := Aside0.mk (blk_below (bK BK544.out) hb)
         have n11_ := Aside0.mk (blk_below (bK BK550.out) hb)
         have n12_ := Aside0.mk (blk_below (bK BK556.out) hb)
         have n13_ := Aside0.mk (blk_below (bK BK568.out) hb)
         have n14_ := Aside0.mk (blk_below (bK BK578.out) hb)
         have n15_ := Aside0.mk (below_step (by repeat first | exact HB.out | with_reducible refine below_setA ?_ ‹_› | apply below_alloc | apply pw_below_drewN) hb)
         clear HO_544001
         clear HO_551001
         clear HO_557001
         clear HO562
         clear HO566
         clear HO572
         clear HO576
         clear HO582
         clear BK543
         clear BK544
         clear BK550
         clear BK556
         clear BK568
         clear BK578
         clear HB
         have HO_544001 := n0_
         have HO_551001 := n1_
         have HO_557001 := n2_
         have HO562 := n3_
         have HO566 := n4_
         have HO572 := n5_
         have HO576 := n6_
         have HO582 := n7_
         have HO587 := n8_
         have BK543 := n9_
         have BK544 := n10_
         have BK550 := n11_
         have BK556 := n12_
         have BK568 := n13_
         have BK578 := n14_
         have HB := n15_
         clear n0_ n1_ n2_ n3_ n4_ n5_ n6_ n7_ n8_ n9_ n10_ n11_ n12_ n13_ n14_ n15_
         (try clear hb)
         (try clear hb2)
         (try clear hk)
         (try clear hi)
         (try clear ho0)
         obtain ⟨Ao133, co133, eo133⟩ := Kd.R_slice HO587.out
         (first | subst eo133 | (injection eo133 with f1_ f2_ f3_; have f4_ := f1_.symm; have f5_ := f3_.symm; clear f1_ f2_ f3_; subst f4_; subst f5_))
         refine hK.out _ _ ⟨(blk_cell BK556.out 0).trans rfl, (blk_cell BK556.out 1).trans rfl, (blk_cell BK568.out 0).trans rfl, (blk_cell BK568.out 1).trans rfl, (blk_cell BK578.out 0).trans rfl, (blk_cell BK578.out 1).trans rfl⟩ (fun hHeld => ?_)
         clear hK K
         refine norm_ (a' := ?_) ?_ ?_
         rotate_left
         ·show Act.put _ (some 134) _ = _
          simp only [Act.put, List.setIfInBounds_toArray, List.set_cons_zero, List.set_cons_succ, i64_w, i32_w]
          rfl
         refine one_ (i := 14) (N := some 136) #[true, true, true, true, true, true, true, true, true, true, true, true, true, true, true, false, false] rfl rfl (one_of HT_.out (by kernel_rfl)) (by decide) (fun K hK => ?_)
         refine goes_ Try.func19 (by kernel_rfl) rfl #[.agg #[.int .i64 t584, .slice Ao133 t585.length co133], .agg #[.int .i64 t573, .slice Ao125 t574.length co125]] (by rfl) rfl rfl (by first | rfl | (simp only [List.map_toArray, List.map_cons, List.map_nil, List.length_drop, List.length_take]; try rfl)) ?_
         with_reducible refine (laws_llGrid.calls kj5 t584 _ _ t585 t573 _ _ t574 t588 _ ?side1 ?side2 ?side3 ?side4 A103.out).mono ?_
         (case side1 => repeat (first | exact (Kd.R_reads' HO587.out).2.2 | (with_reducible refine Kd.C_alloc ?_ _) | (with_reducible refine Kd.C_drewN ?_ _) | (with_reducible refine Kd.C_drew ?_)))
         (case side2 => exact (Kd.R_reads' HO587.out).2.1)
         (case side3 => repeat (first | exact (Kd.R_reads' HO576.out).2.2 | (with_reducible refine Kd.C_alloc ?_ _) | (with_reducible refine Kd.C_drewN ?_ _) | (with_reducible refine Kd.C_drew ?_)))
         (case side4 => exact (Kd.R_reads' HO576.out).2.1)
         rintro e w134 ⟨rfl, hb⟩
         refine ⟨_, rfl, ?_⟩
         have n0_ := Aside0.mk (Kd.Q_below (by (with_reducible repeat apply Kd.Q_alloc); exact HO_544001.out) hb)
         have n1_ := Aside0.mk (Kd.Q_below (by (with_reducible repeat apply Kd.Q_alloc); exact HO_551001.out) hb)
         have n2_ := Aside0.mk (Kd.Q_below (by (with_reducible repeat apply Kd.Q_alloc); exact HO_557001.out) hb)
         have n3_ := Aside0.mk (Kd.R_below (kR HO562.out) hb)
         have n4_ := Aside0.mk (Kd.R_below (kR HO566.out) hb)
         have n5_ := Aside0.mk (Kd.R_below (kR HO572.out) hb)
         have n6_ := Aside0.mk (Kd.R_below (kR HO576.out) hb)
         have n7_ := Aside0.mk (Kd.R_below (kR HO582.out) hb)
         have n8_ := Aside0.mk (Kd.R_below (kR HO587.out) hb)
         have n9_ := Aside0.mk (blk_below (bK BK543.out) hb)
         have n10_ := Aside0.mk (blk_below (bK BK544.out) hb)
         have n11_ := Aside0.mk (blk_below (bK BK550.out) hb)
         have n12_ := Aside0.mk (blk_below (bK BK556.out) hb)
         have n13_ := Aside0.mk (blk_below (bK BK568.out) hb)
         have n14_ := Aside0.mk (blk_below (bK BK578.out) hb)
         have n15_ := Aside0.mk (below_step (by repeat first | exact HB.out | with_reducible refine below_setA ?_ ‹_› | apply below_alloc | apply pw_below_drewN) hb)
         clear HO_544001
         clear HO_551001
         clear HO_557001
         clear HO562
         clear HO566
         clear HO572
         clear HO576
         clear HO582
         clear HO587
         clear BK543
         clear BK544
         clear BK550
         clear BK556
         clear BK568
         clear BK578
         clear HB
         have HO_544001 := n0_
         have HO_551001 := n1_
         have HO_557001 := n2_
         have HO562 := n3_
         have HO566 := n4_
         have HO572 := n5_
         have HO576 := n6_
         have HO582 := n7_
         have HO587 := n8_
         have BK543 := n9_
         have BK544 := n10_
         have BK550 := n11_
         have BK556 := n12_
         have BK568 := n13_
         have BK578 := n14_
         have HB := n15_
         clear n0_ n1_ n2_ n3_ n4_ n5_ n6_ n7_ n8_ n9_ n10_ n11_ n12_ n13_ n14_ n15_
         (try clear hb)
         (try clear hb2)
         (try clear hk)
         (try clear hi)
         refine hK.out _ _ ⟨(blk_cell BK556.out 0).trans rfl, (blk_cell BK556.out 1).trans rfl, (blk_cell BK568.out 0).trans rfl, (blk_cell BK568.out 1).trans rfl, (blk_cell BK578.out 0).trans rfl, (blk_cell BK578.out 1).trans rfl⟩ (fun hHeld => ?_)
         clear hK K
         refine norm_ (a' := ?_) ?_ ?_
         rotate_left
         ·show Act.put _ (some 136) _ = _
          simp only [Act.put, List.setIfInBounds_toArray, List.set_cons_zero, List.set_cons_succ, i64_w, i32_w]
          rfl
         refine pure_ (i := 15) (N := some 137) (v := ?_) (a' := ?_) #[true, true, true, true, true, true, true, true, true, true, true, true, true, true, true, true, false] rfl rfl (any_of HT_.out (by kernel_rfl)) (fun _ _ _ h => h) (Or.inl ⟨by rfl, ?_⟩) ?_ ?_
         rotate_left
         ·intro w'
          go_simp
          with_reducible rfl
         rotate_left
         ·simp only [Act.put, List.setIfInBounds_toArray, List.set_cons_zero, List.set_cons_succ, i64_w, i32_w]
          rfl
         refine pure_ (i := 16) (N := some 2) (v := ?_) (a' := ?_) #[true, true, true, true, true, true, true, true, true, true, true, true, true, true, true, true, true] rfl rfl (any_of HT_.out (by kernel_rfl)) (fun _ _ _ h => h) (Or.inl ⟨by rfl, ?_⟩) ?_ ?_
         rotate_left
         ·intro w'
          go_simp
          with_reducible rfl
         rotate_left
         ·simp only [Act.put, List.setIfInBounds_toArray, List.set_cons_zero, List.set_cons_succ, i64_w, i32_w]
          rfl
         refine done_ (done_of HT_.out (by kernel_rfl)) ?_
         try go_wp2
         go_ret
         exact ⟨by first | rfl | (simp [errW_none, errW_some] <;> rfl) | (simp [*, errW_none, errW_some] <;> rfl) | (exfalso; simp_all; done), by repeat first | exact HB.out | with_reducible refine below_setA ?_ ‹_› | apply below_alloc | apply pw_below_drewN⟩
        ·replace c101 := Bool.eq_false_iff.mpr c101
         subst c101
         have H1 : (some false) = some r := by rw [if_neg (show ¬ (false = true) by decide)] at H; exact H
         clear H
         have H := H1
         clear H1
         obtain rfl := Option.some.inj H
         exact absurd HRT.out (by decide)
       ·replace c98 := Bool.eq_false_iff.mpr c98
        subst c98
        have H1 : (some false) = some r := by rw [if_neg (show ¬ (false = true) by decide)] at H; exact H
        clear H
        have H := H1
        clear H1
        obtain rfl := Option.some.inj H
        exact absurd HRT.out (by decide)
      ·replace c97 := Bool.eq_false_iff.mpr c97
       subst c97
       have H1 : (some false) = some r := by rw [if_neg (show ¬ (false = true) by decide)] at H; exact H
       clear H
       have H := H1
       clear H1
       obtain rfl := Option.some.inj H
       exact absurd HRT.out (by decide)

/-- THE ONE PURE STATEMENT of laws_FnTurnPut: yours. -/
def laws_FnTurnPut.Pure : Prop := ∀ (l0 : List Int), l0.length ≤ maxLen → l0.length * 1 ≤ 140737488351232 → (∀ x ∈ l0, (Lit.int .u8 x).wf = true) → ∃ k, laws_FnTurnPut.f k l0 = some true
theorem laws_FnTurnPut.walk (P : laws_FnTurnPut.Pure) (a0 : Option Addr) (len0 cap0 : Nat) (z0 : List Int) (w : World) (w0 : (a0 = none ∧ len0 = 0 ∧ cap0 = 0 ∧ z0 = []) ∨ ∃ x, a0 = some x ∧ len0 ≤ cap0 ∧ cap0 ≤ maxLen ∧ z0.length = cap0 ∧ (∀ i, i < z0.length → w.cell? (x.add i) = some (.int .u8 (z0.getD i 0))) ∧ ∀ n ∈ z0, (Lit.int .u8 n).wf = true) (y0 : len0 * 1 ≤ 140737488351232) :
  Calls Try.prog 8 #[.slice a0 len0 cap0] w fun e w' => e = .returned (.bool true) ∧ Below w.heap.size w w' := by
 obtain ⟨l0, rfl, hr0, hm0, hw0, hc0⟩ := ReadsInt.ofRowC w0
 obtain ⟨k, h⟩ := P l0 hm0 y0 hw0
 refine (laws_FnTurnPut.calls k _ _ l0 true w (Kd.C_of_reads (d := (0 : Int)) (h1 := fun _ => rfl) hr0) hc0 h rfl).mono ?_
 rintro e w' ⟨rfl, hd⟩
 exact ⟨rfl, hd⟩

end Go.Proofs.Ytbnofnamkgfadaa.P
