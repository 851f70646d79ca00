/- PROVED: contracts of functions of the program, the reference and the statements; written by this session's driver (pk.py) through its own changed copy of the kit's print. No condition. -/
import Derived.Test.YtbomeogcgefddaaPx0
import Derived.Test.YtbomeogcgefddaaPx2
import Derived.Test.YtbomeogcgefddaaPx14
import Derived.Test.YtbomeogcgefddaaPx15
import Derived.Test.YtbomeogcgefddaaPx18
import Derived.Test.YtbomeogcgefddaaPx28
import Derived.Test.YtbomeogcgefddaaPx36
namespace Go.Proofs.Ytbomeogcgefddaa.P
open Go.RowKit Go.Proofs.YtbomeogcgefddaaW.PrintWords Go.Proofs.YtbomeogcgefddaaW.PrintLast Go.Proofs.YtbomeogcgefddaaW.PrintMore
attribute [local go_sem] max2_int min2_int max_two min_two max_three min_three max_four min_four   -- for this text's walks alone
set_option linter.unusedVariables false
set_option linter.unusedSimpArgs false

attribute [local go_sem high] eqA42
/-! ### laws_FnPutThere: function 10 -/
mutual
def laws_FnPutThere.j0 : Nat → Int → Bool → Bool → Bool → Int → List (S42) → Int → Int → Int → List (S42) → Int → List (S42) → Option (Bool)
 | 0, _, _, _, _, _, _, _, _, _, _, _, _ => none
 | k + 1, x4, x7, x9, x48, x577000, x577001, x578000, x578001, x584000, x584001, x590000, x590001 => if x48 = true then (if (x9 == x7) = true then ((laws_llGrid.f k x590000 x590001 x584000 x584001).bind fun t591 => (some t591)) else (some false)) else (laws_FnPutThere.l0 k x4 0 x577000 x577001 x578000 x578001 x590000 x590001)
def laws_FnPutThere.l0 : Nat → Int → Int → Int → List (S42) → Int → Int → Int → List (S42) → Option (Bool)
 | 0, _, _, _, _, _, _, _, _ => none
 | k + 1, x4, x10, x577000, x577001, x578000, x578001, x590000, x590001 => if x10 < (x577001.length : Int) then (if x10 = x4 then (if 0 ≤ x10 then (if x10 < (x590001.length : Int) then (if (!(((rd_T42 x590001 x10).f0) == x578000) || (!(((rd_T42 x590001 x10).f1) == x578001))) = true then (some false) else (laws_FnPutThere.l0 k x4 (wrap64 (x10 + 1)) x577000 x577001 x578000 x578001 x590000 x590001)) else (none)) else (none)) else (if 0 ≤ x10 then (if x10 < (x590001.length : Int) then (if (!(((rd_T42 x590001 x10).f0) == ((rd_T42 x577001 x10).f0)) || (!(((rd_T42 x590001 x10).f1) == ((rd_T42 x577001 x10).f1)))) = true then (some false) else (laws_FnPutThere.l0 k x4 (wrap64 (x10 + 1)) x577000 x577001 x578000 x578001 x590000 x590001)) else (none)) else (none))) else (if 0 ≤ x4 then (if x4 < (x577001.length : Int) then ((impl_GridPut.f k x590000 x590001 x4 ((rd_T42 x577001 x4).f0) ((rd_T42 x577001 x4).f1)).bind fun bt596 => (if bt596.2.2 = true then ((laws_llGrid.f k bt596.1 bt596.2.1 x577000 x577001).bind fun t602 => (if t602 = true then ((impl_GridOk.f k x590000 x590001).bind fun t603 => (some t603)) else (some false))) else (some false))) else (none)) else (none))
end
def laws_FnPutThere.f (k : Nat) (l0 : List Int) : Option (Bool) := if (l0.length : Int) > 1048576 then (some true) else ((spec_DrawGridPut.f k l0).bind fun bt569 => ((spec_GridPut.f k bt569.1 bt569.2.1 bt569.2.2.1 bt569.2.2.2.1 bt569.2.2.2.2).bind fun bt578 => ((impl_GridPut.f k bt569.1 bt569.2.1 bt569.2.2.1 bt569.2.2.2.1 bt569.2.2.2.2).bind fun bt584 => (if (bt584.2.2 != bt578.2.2) = true then (laws_FnPutThere.j0 k bt569.2.2.1 bt578.2.2 bt584.2.2 true bt569.1 bt569.2.1 bt569.2.2.2.1 bt569.2.2.2.2 bt578.1 bt578.2.1 bt584.1 bt584.2.1) else ((laws_llGrid.f k bt584.1 bt584.2.1 bt578.1 bt578.2.1).bind fun t590 => (if t590 = true then (laws_FnPutThere.j0 k bt569.2.2.1 bt578.2.2 bt584.2.2 (!bt584.2.2) bt569.1 bt569.2.1 bt569.2.2.2.1 bt569.2.2.2.2 bt578.1 bt578.2.1 bt584.1 bt584.2.1) else (laws_FnPutThere.j0 k bt569.2.2.1 bt578.2.2 bt584.2.2 true bt569.1 bt569.2.1 bt569.2.2.2.1 bt569.2.2.2.2 bt578.1 bt578.2.1 bt584.1 bt584.2.1)))))))
theorem laws_FnPutThere.mono_l : ∀ k, (∀ y0 y1 y2 y3 y4 y5 y6 y7 y8 y9 y10 y11, LeO (laws_FnPutThere.j0 k y0 y1 y2 y3 y4 y5 y6 y7 y8 y9 y10 y11) (laws_FnPutThere.j0 (k + 1) y0 y1 y2 y3 y4 y5 y6 y7 y8 y9 y10 y11)) ∧ (∀ y0 y1 y2 y3 y4 y5 y6 y7, LeO (laws_FnPutThere.l0 k y0 y1 y2 y3 y4 y5 y6 y7) (laws_FnPutThere.l0 (k + 1) y0 y1 y2 y3 y4 y5 y6 y7))
 | 0 => ⟨fun _ _ _ _ _ _ _ _ _ _ _ _ r h => by simp [laws_FnPutThere.j0] at h, fun _ _ _ _ _ _ _ _ r h => by simp [laws_FnPutThere.l0] at h⟩
 | k + 1 => by
  obtain ⟨ih0, ih1⟩ := laws_FnPutThere.mono_l k
  refine ⟨?_, ?_⟩
  ·intro y0 y1 y2 y3 y4 y5 y6 y7 y8 y9 y10 y11
   unfold laws_FnPutThere.j0
   repeat' first
   | (with_reducible exact ih0 _ _ _ _ _ _ _ _ _ _ _ _)
   | (with_reducible exact ih1 _ _ _ _ _ _ _ _)
   | (with_reducible exact impl_GridOk.mono _ _ _)
   | (with_reducible exact impl_GridPut.mono _ _ _ _ _ _)
   | (with_reducible exact laws_llGrid.mono _ _ _ _ _)
   | (with_reducible exact spec_DrawGridPut.mono _ _)
   | (with_reducible exact spec_GridPut.mono _ _ _ _ _ _)
   | (with_reducible exact LeO.refl _)
   | (with_reducible exact LeO.none _)
   | (with_reducible refine LeO.ite ?_ ?_)
   | (with_reducible refine LeO.bind ?_ (fun _ => ?_))
   | exact ih0 _ _ _ _ _ _ _ _ _ _ _ _
   | exact ih1 _ _ _ _ _ _ _ _
   | exact impl_GridOk.mono _ _ _
   | exact impl_GridPut.mono _ _ _ _ _ _
   | exact laws_llGrid.mono _ _ _ _ _
   | exact spec_DrawGridPut.mono _ _
   | exact spec_GridPut.mono _ _ _ _ _ _
   | exact LeO.none _
   | refine LeO.ite ?_ ?_
   | refine LeO.bind ?_ (fun _ => ?_)
  ·intro y0 y1 y2 y3 y4 y5 y6 y7
   unfold laws_FnPutThere.l0
   repeat' first
   | (with_reducible exact ih0 _ _ _ _ _ _ _ _ _ _ _ _)
   | (with_reducible exact ih1 _ _ _ _ _ _ _ _)
   | (with_reducible exact impl_GridOk.mono _ _ _)
   | (with_reducible exact impl_GridPut.mono _ _ _ _ _ _)
   | (with_reducible exact laws_llGrid.mono _ _ _ _ _)
   | (with_reducible exact spec_DrawGridPut.mono _ _)
   | (with_reducible exact spec_GridPut.mono _ _ _ _ _ _)
   | (with_reducible exact LeO.refl _)
   | (with_reducible exact LeO.none _)
   | (with_reducible refine LeO.ite ?_ ?_)
   | (with_reducible refine LeO.bind ?_ (fun _ => ?_))
   | exact ih0 _ _ _ _ _ _ _ _ _ _ _ _
   | exact ih1 _ _ _ _ _ _ _ _
   | exact impl_GridOk.mono _ _ _
   | exact impl_GridPut.mono _ _ _ _ _ _
   | exact laws_llGrid.mono _ _ _ _ _
   | exact spec_DrawGridPut.mono _ _
   | exact spec_GridPut.mono _ _ _ _ _ _
   | exact LeO.none _
   | refine LeO.ite ?_ ?_
   | refine LeO.bind ?_ (fun _ => ?_)
theorem laws_FnPutThere.mono : ∀ a0 k, LeO (laws_FnPutThere.f k a0) (laws_FnPutThere.f (k + 1) a0) := by
 intro a0 k
 obtain ⟨ih0, ih1⟩ := laws_FnPutThere.mono_l k
 unfold laws_FnPutThere.f
 repeat' first
   | (with_reducible exact ih0 _ _ _ _ _ _ _ _ _ _ _ _)
   | (with_reducible exact ih1 _ _ _ _ _ _ _ _)
   | (with_reducible exact impl_GridOk.mono _ _ _)
   | (with_reducible exact impl_GridPut.mono _ _ _ _ _ _)
   | (with_reducible exact laws_llGrid.mono _ _ _ _ _)
   | (with_reducible exact spec_DrawGridPut.mono _ _)
   | (with_reducible exact spec_GridPut.mono _ _ _ _ _ _)
   | (with_reducible exact LeO.refl _)
   | (with_reducible exact LeO.none _)
   | (with_reducible refine LeO.ite ?_ ?_)
   | (with_reducible refine LeO.bind ?_ (fun _ => ?_))
   | exact ih0 _ _ _ _ _ _ _ _ _ _ _ _
   | exact ih1 _ _ _ _ _ _ _ _
   | exact impl_GridOk.mono _ _ _
   | exact impl_GridPut.mono _ _ _ _ _ _
   | exact laws_llGrid.mono _ _ _ _ _
   | exact spec_DrawGridPut.mono _ _
   | exact spec_GridPut.mono _ _ _ _ _ _
   | exact LeO.none _
   | refine LeO.ite ?_ ?_
   | refine LeO.bind ?_ (fun _ => ?_)
def laws_FnPutThere.T11 : Bool × List (List Nat × List Nat) := (true, [([], []), ([], []), ([0, 1], [0, 1]), ([2], [2]), ([3], [3]), ([4, 3], [3, 4]), ([3], [3]), ([5, 6, 3], [3, 5, 6]), ([7, 3], [3, 7]), ([3], [3]), ([8, 9, 3], [3, 8, 9]), ([3, 10], [3, 10]), ([11, 3], [11]), ([12], [12]), ([12], [12]), ([13, 14, 12], [12, 13, 14]), ([15, 12, 12], [12, 15]), ([16], [16]), ([17, 16], [16, 17]), ([16], [16]), ([18, 19, 16], [16, 18, 19]), ([20, 16], [16, 20]), ([16], [16]), ([22, 16], [16, 22]), ([16], [16]), ([23, 24, 16], [16, 23, 24]), ([25, 16], [16, 25]), ([21, 26, 16], [16, 21, 26]), ([16, 27, 12], [12, 16, 27]), ([12, 28], [12, 28])])
def laws_FnPutThere.B11 : List Nat := [0, 0, 3, 7, 15, 31, 15, 127, 255, 15, 1023, 2047, 4095, 8191, 8191, 32767, 65535, 131071, 262143, 131071, 1048575, 2097151, 131071, 4325375, 131071, 29491199, 63045631, 134217727, 268435455, 536870911]
theorem laws_FnPutThere.tab11 : rtab .any (opsOf Try.f10 11) = laws_FnPutThere.T11 := by kernel_rfl
theorem laws_FnPutThere.bits11 : waitsOk laws_FnPutThere.T11.2 laws_FnPutThere.B11 = true := by kernel_rfl
def laws_FnPutThere.T13 : Bool × List (List Nat × List Nat) := (true, [([], []), ([], []), ([], []), ([2], [2]), ([], []), ([3, 4], [3, 4]), ([5], [5]), ([0, 1, 6], [0, 1, 6]), ([7], [7]), ([8], [8]), ([8], [8]), ([], []), ([11, 9, 7, 0, 1, 2, 3, 4, 5, 6, 7, 8, 9, 11], [9, 11]), ([10, 12, 0, 1, 2, 3, 4, 5, 6, 7, 8, 9, 10, 11, 12], [10])])
def laws_FnPutThere.B13 : List Nat := [0, 0, 0, 4, 0, 28, 60, 127, 255, 511, 511, 0, 3071, 8191]
theorem laws_FnPutThere.tab13 : rtab .any (opsOf Try.f10 13) = laws_FnPutThere.T13 := by kernel_rfl
theorem laws_FnPutThere.bits13 : waitsOk laws_FnPutThere.T13.2 laws_FnPutThere.B13 = true := by kernel_rfl
set_option maxHeartbeats 8000000 in
set_option maxRecDepth 100000 in
theorem laws_FnPutThere.calls (k : Nat) (A0 : Option Addr) (c0 : Nat) (l0 : List Int) (r : Bool) (w : World) (hr0 : Kd.C (Kd.int .u8) w A0 l0.length l0) (hc0 : l0.length ≤ c0) (h : laws_FnPutThere.f k l0 = some r) (hrt : r = true) :
  Calls Try.prog 10 #[.slice A0 l0.length c0] w fun e w' => e = .returned (.bool r) ∧ Below w.heap.size w w' := by
 have HRT := Aside0.mk hrt
 clear hrt
 have hu25 := Try.underlying25
 have hu42 := Try.underlying42
 have HR0 := Aside0.mk hr0
 have HC0 := Aside0.mk hc0
 clear hr0 hc0
 have HB := Aside0.mk (Below.refl w.heap.size w)
 have H : (if (l0.length : Int) > 1048576 then (some true) else ((spec_DrawGridPut.f k l0).bind fun bt569 => ((spec_GridPut.f k bt569.1 bt569.2.1 bt569.2.2.1 bt569.2.2.2.1 bt569.2.2.2.2).bind fun bt578 => ((impl_GridPut.f k bt569.1 bt569.2.1 bt569.2.2.1 bt569.2.2.2.1 bt569.2.2.2.2).bind fun bt584 => (if (bt584.2.2 != bt578.2.2) = true then (laws_FnPutThere.j0 k bt569.2.2.1 bt578.2.2 bt584.2.2 true bt569.1 bt569.2.1 bt569.2.2.2.1 bt569.2.2.2.2 bt578.1 bt578.2.1 bt584.1 bt584.2.1) else ((laws_llGrid.f k bt584.1 bt584.2.1 bt578.1 bt578.2.1).bind fun t590 => (if t590 = true then (laws_FnPutThere.j0 k bt569.2.2.1 bt578.2.2 bt584.2.2 (!bt584.2.2) bt569.1 bt569.2.1 bt569.2.2.2.1 bt569.2.2.2.2 bt578.1 bt578.2.1 bt584.1 bt584.2.1) else (laws_FnPutThere.j0 k bt569.2.2.1 bt578.2.2 bt584.2.2 true bt569.1 bt569.2.1 bt569.2.2.2.1 bt569.2.2.2.2 bt578.1 bt578.2.1 bt584.1 bt584.2.1)))))))) = some r := h
 clear h
 by_cases c2 : (l0.length : Int) > 1048576
 ·rw [if_pos c2] at H
  have c2b0 : decide (1048576 < (l0.length : Int)) = true := decide_eq_true c2
  have c2b1 : decide (1048576 < l0.length) = true := decide_eq_true (by omega)
  clear c2
  obtain rfl := Option.some.inj H
  go_enter Try.func10, Try.ntmps10
  go_wp2
  go_ret
  exact ⟨by first | rfl | (simp [errW_none, errW_some] <;> rfl) | (simp [*, errW_none, errW_some] <;> rfl) | (exfalso; simp_all; done), by repeat (first | (with_reducible first | exact HB.out | apply below_alloc | apply pw_below_drewN | apply below_drew1) | exact HB.out)⟩
 ·rw [if_neg c2] at H
  have c2b0 : decide (1048576 < (l0.length : Int)) = false := decide_eq_false c2
  have c2b1 : decide (1048576 < l0.length) = false := decide_eq_false (by omega)
  clear c2
  replace H := Option.bind_eq_some_iff.mp H
  obtain ⟨⟨t569, t570, t573, t574, t575⟩, A30, H⟩ := H
  replace H : ((spec_GridPut.f k t569 t570 t573 t574 t575).bind fun bt578 => ((impl_GridPut.f k t569 t570 t573 t574 t575).bind fun bt584 => (if (bt584.2.2 != bt578.2.2) = true then (laws_FnPutThere.j0 k t573 bt578.2.2 bt584.2.2 true t569 t570 t574 t575 bt578.1 bt578.2.1 bt584.1 bt584.2.1) else ((laws_llGrid.f k bt584.1 bt584.2.1 bt578.1 bt578.2.1).bind fun t590 => (if t590 = true then (laws_FnPutThere.j0 k t573 bt578.2.2 bt584.2.2 (!bt584.2.2) t569 t570 t574 t575 bt578.1 bt578.2.1 bt584.1 bt584.2.1) else (laws_FnPutThere.j0 k t573 bt578.2.2 bt584.2.2 true t569 t570 t574 t575 bt578.1 bt578.2.1 bt584.1 bt584.2.1)))))) = some r := H
  have A3 := Aside0.mk A30
  clear A30
  replace H := Option.bind_eq_some_iff.mp H
  obtain ⟨⟨t578, t579, t582⟩, A40, H⟩ := H
  replace H : ((impl_GridPut.f k t569 t570 t573 t574 t575).bind fun bt584 => (if (bt584.2.2 != t582) = true then (laws_FnPutThere.j0 k t573 t582 bt584.2.2 true t569 t570 t574 t575 t578 t579 bt584.1 bt584.2.1) else ((laws_llGrid.f k bt584.1 bt584.2.1 t578 t579).bind fun t590 => (if t590 = true then (laws_FnPutThere.j0 k t573 t582 bt584.2.2 (!bt584.2.2) t569 t570 t574 t575 t578 t579 bt584.1 bt584.2.1) else (laws_FnPutThere.j0 k t573 t582 bt584.2.2 true t569 t570 t574 t575 t578 t579 bt584.1 bt584.2.1))))) = some r := H
  have A4 := Aside0.mk A40
  clear A40
  replace H := Option.bind_eq_some_iff.mp H
  obtain ⟨⟨t584, t585, t588⟩, A50, H⟩ := H
  replace H : (if (t588 != t582) = true then (laws_FnPutThere.j0 k t573 t582 t588 true t569 t570 t574 t575 t578 t579 t584 t585) else ((laws_llGrid.f k t584 t585 t578 t579).bind fun t590 => (if t590 = true then (laws_FnPutThere.j0 k t573 t582 t588 (!t588) t569 t570 t574 t575 t578 t579 t584 t585) else (laws_FnPutThere.j0 k t573 t582 t588 true t569 t570 t574 t575 t578 t579 t584 t585)))) = some r := H
  have A5 := Aside0.mk A50
  clear A50
  have HC6 := Aside0.mk H
  clear H
  go_enter Try.func10, Try.ntmps10
  go_upto_region 6 with (first | ((with_reducible refine gate_callee (f := 25) rfl ?_); refine goesL_ (some 18) rfl rfl Try.func25 (by kernel_rfl) rfl #[.slice A0 l0.length c0] rfl (by (try simp only [List.map_toArray, List.map_cons, List.map_nil]); first | done | rfl | (simp only [List.length_drop, List.length_take]; rfl)) ?_; (with_reducible refine (spec_DrawGridPut.calls k _ _ l0 t569 t570 t573 t574 t575 _ ?side1 ?side2 A3.out).mono ?_); (case side1 => repeat (first | exact HR0.out | (with_reducible refine Kd.C_alloc ?_ _) | (with_reducible refine Kd.C_drewN ?_ _) | (with_reducible refine Kd.C_drew ?_))); (case side2 => exact HC0.out); rintro e w7 ⟨v571, rfl, ho0, hb⟩; refine ⟨_, rfl, ?_⟩; have n0_ := Aside0.mk (Kd.Q_lower ho0 (below_size (by repeat (first | (with_reducible first | exact HB.out | apply below_alloc | apply pw_below_drewN | apply below_drew1) | exact HB.out)))); have n1_ := Aside0.mk (below_step (by repeat (first | (with_reducible first | exact HB.out | apply below_alloc | apply pw_below_drewN | apply below_drew1) | exact HB.out)) hb); clear HB; have HO572 := n0_; have HB := n1_; clear n0_ n1_; (try clear hb); (try clear hb2); (try clear hk); (try clear hi); (try clear ho0)) | ((with_reducible refine gate_dst (N := 3) rfl ?_); refine box_event ?hg (N := 3) ?hd (cs := #[.int .i64 0, .slice none 0 0]) (t := 25) ?hr ?_; (case hd => rfl); (case hg => rfl); (case hr => first | (go_simp; done) | (go_simp; rfl)); intro gb576 hg w8 hbox hb; have n0_ := Aside0.mk (Kd.Q_below (by (with_reducible repeat (first | apply Kd.Q_alloc | apply Kd.Q_drewN | apply Kd.Q_drew)); exact HO572.out) hb); have n1_ := Aside0.mk (below_step (by repeat (first | (with_reducible first | exact HB.out | apply below_alloc | apply pw_below_drewN | apply below_drew1) | exact HB.out)) hb); have n2_ := Aside0.mk (hbox); have n3_ := Aside0.mk ((by rw [hg]; exact (below_size (by repeat (first | (with_reducible first | exact HB.out | apply below_alloc | apply pw_below_drewN | apply below_drew1) | exact HB.out))) : w.heap.size ≤ gb576)); have n4_ := Aside0.mk ((by rw [hg]; exact (below_size (by repeat (first | (with_reducible first | exact HB.out | apply below_alloc | apply pw_below_drewN | apply below_drew1) | exact HB.out))) : w.heap.size ≤ gb576)); clear HO572; clear HB; have HO572 := n0_; have HB := n1_; have BK576 := n2_; have GW576 := n3_; have GE576 := n4_; clear n0_ n1_ n2_ n3_ n4_; clear hb hbox hg) | ((with_reducible refine gate_dst (N := 5) rfl ?_); refine box_event ?hg (N := 5) ?hd (cs := #[.int .i64 0, .int .i64 0]) (t := 42) ?hr ?_; (case hd => rfl); (case hg => rfl); (case hr => first | (go_simp; done) | (go_simp; rfl)); intro gb577 hg w9 hbox hb; have n0_ := Aside0.mk (Kd.Q_below (Kd.Q_elderB (by (with_reducible repeat (first | apply Kd.Q_alloc | apply Kd.Q_drewN | apply Kd.Q_drew)); exact HO572.out) gb577 (Nat.le_of_eq hg.symm)) hb); have n1_ := Aside0.mk (blk_below (bK BK576.out) hb); have n2_ := Aside0.mk (below_step (by repeat (first | (with_reducible first | exact HB.out | apply below_alloc | apply pw_below_drewN | apply below_drew1 | refine below_set ?_ GE576.out) | exact HB.out)) hb); have n3_ := Aside0.mk (hbox); have n4_ := Aside0.mk ((by rw [hg]; exact (below_size (by repeat (first | (with_reducible first | exact HB.out | apply below_alloc | apply pw_below_drewN | apply below_drew1 | refine below_set ?_ GE576.out) | exact HB.out))) : w.heap.size ≤ gb577)); have n5_ := Aside0.mk ((by rw [hg]; exact (below_size (by repeat (first | (with_reducible first | exact HB.out | apply below_alloc | apply pw_below_drewN | apply below_drew1 | refine below_set ?_ GE576.out) | exact HB.out))) : w.heap.size ≤ gb577)); have n6_ := Aside0.mk ((by rw [hg]; exact Nat.ne_of_lt (blk_lt (bK BK576.out)) : gb576 ≠ gb577)); have n7_ := Aside0.mk ((by rw [hg]; exact Nat.ne_of_gt (blk_lt (bK BK576.out)) : gb577 ≠ gb576)); clear HO572; clear BK576; clear HB; have HO572 := n0_; have BK576 := n1_; have HB := n2_; have BK577 := n3_; have GW577 := n4_; have GE577 := n5_; have NB576_577 := n6_; have NB577_576 := n7_; clear n0_ n1_ n2_ n3_ n4_ n5_ n6_ n7_; clear hb hbox hg; have hnb10 := NB576_577.out; have hnc10 := NB577_576.out; have hcz11_0 : w9.cell? ⟨gb576, 0, none⟩ = some (.int .i64 0) := (blk_cell BK576.out 0).trans rfl; have hcz11_1 : w9.cell? ⟨gb576, 1, none⟩ = some (.slice none 0 0) := (blk_cell BK576.out 1).trans rfl; have hfz11_0 := blk_frozen BK576.out 0; have hfz11_1 := blk_frozen BK576.out 1; obtain ⟨Ao12, co12, eo12, _⟩ := Kd.Q_slice HO572.out; subst eo12; have hcz13_0 : w9.cell? ⟨gb577, 0, none⟩ = some (.int .i64 0) := (blk_cell BK577.out 0).trans rfl; have hcz13_1 : w9.cell? ⟨gb577, 1, none⟩ = some (.int .i64 0) := (blk_cell BK577.out 1).trans rfl; have hfz13_0 := blk_frozen BK577.out 0; have hfz13_1 := blk_frozen BK577.out 1) | ((with_reducible refine gate_callee (f := 26) rfl ?_); refine goesL_ (some 26) rfl rfl Try.func26 (by kernel_rfl) rfl #[.agg #[.int .i64 t569, .slice Ao12 t570.length co12], .int .i64 t573, .agg #[.int .i64 t574, .int .i64 t575]] rfl (by (try simp only [List.map_toArray, List.map_cons, List.map_nil]); first | done | rfl | (simp only [List.length_drop, List.length_take]; rfl)) ?_; (with_reducible refine (spec_GridPut.calls k t569 _ _ t570 t573 t574 t575 t578 t579 t582 _ ?side1 ?side2 A4.out).mono ?_); (case side1 => refine (Kd.Q_reads' (e := 42) (base := w.heap.size) (ok := fun k_ => (True ∧ k_ ≠ gb577)) (n := t570.length) (c := co12) ?_).2.2; exact (by (with_reducible repeat (first | apply Kd.Q_alloc | apply Kd.Q_drewN | apply Kd.Q_drew)); exact (Kd.Q_mono (Kd.Q_mono (Kd.Q_far (p := ⟨gb577, 1, none⟩) (Kd.Q_far (p := ⟨gb577, 0, none⟩) (Kd.Q_far (p := ⟨gb576, 1, none⟩) (Kd.Q_far (p := ⟨gb576, 0, none⟩) (Kd.Q_mono (Kd.Q_types HO572.out BK576.out (by decide)) (fun k_ hk => (⟨hk, hk.1.2⟩ : _ ∧ k_ ≠ gb577))) (fun _ hk => hk.1.2) (.int .i64 t569)) (fun _ hk => hk.1.2) (.slice Ao12 t570.length co12)) (fun _ hk => hk.2) (.int .i64 t574)) (fun _ hk => hk.2) (.int .i64 t575)) (fun _ h_ => h_.1)) (fun _ h_ => h_.1)))); (case side2 => exact (Kd.Q_reads' HO572.out).2.1); rintro e w14 ⟨v580, rfl, ho0, hb⟩; refine ⟨_, rfl, ?_⟩; have n0_ := Aside0.mk (Kd.Q_elder' (by (with_reducible repeat (first | apply Kd.Q_alloc | apply Kd.Q_drewN | apply Kd.Q_drew)); exact (Kd.Q_mono (Kd.Q_mono (Kd.Q_far (p := ⟨gb577, 1, none⟩) (Kd.Q_far (p := ⟨gb577, 0, none⟩) (Kd.Q_far (p := ⟨gb576, 1, none⟩) (Kd.Q_far (p := ⟨gb576, 0, none⟩) (Kd.Q_mono (Kd.Q_types HO572.out BK576.out (by decide)) (fun k_ hk => (⟨hk, hk.1.2⟩ : _ ∧ k_ ≠ gb577))) (fun _ hk => hk.1.2) (.int .i64 t569)) (fun _ hk => hk.1.2) (.slice Ao12 t570.length co12)) (fun _ hk => hk.2) (.int .i64 t574)) (fun _ hk => hk.2) (.int .i64 t575)) (fun _ h_ => h_.1)) (fun _ h_ => h_.1))) (Kd.R_base ho0) hb); have n1_ := Aside0.mk (Kd.R_lower (Kd.R_newB (Kd.R_new' ho0 (Kd.Q_lt (by (with_reducible repeat (first | apply Kd.Q_alloc | apply Kd.Q_drewN | apply Kd.Q_drew)); exact (Kd.Q_mono (Kd.Q_mono (Kd.Q_far (p := ⟨gb577, 1, none⟩) (Kd.Q_far (p := ⟨gb577, 0, none⟩) (Kd.Q_far (p := ⟨gb576, 1, none⟩) (Kd.Q_far (p := ⟨gb576, 0, none⟩) (Kd.Q_mono (Kd.Q_types HO572.out BK576.out (by decide)) (fun k_ hk => (⟨hk, hk.1.2⟩ : _ ∧ k_ ≠ gb577))) (fun _ hk => hk.1.2) (.int .i64 t569)) (fun _ hk => hk.1.2) (.slice Ao12 t570.length co12)) (fun _ hk => hk.2) (.int .i64 t574)) (fun _ hk => hk.2) (.int .i64 t575)) (fun _ h_ => h_.1)) (fun _ h_ => h_.1))))) (g := gb577) (o := .cells #[.int .i64 t574, .int .i64 t575] 42 (0, 0)) (by (with_reducible repeat (first | refine blk_drewN ?_ _ | refine blk_drew ?_ | refine blk_alloc ?_ _)); refine blk_put (cs := #[.int .i64 t574, .int .i64 0]) ?_ 1 _ rfl; (with_reducible repeat (first | refine blk_drewN ?_ _ | refine blk_drew ?_ | refine blk_alloc ?_ _)); refine blk_put (cs := #[.int .i64 0, .int .i64 0]) ?_ 0 _ rfl; (with_reducible repeat (first | refine blk_drewN ?_ _ | refine blk_drew ?_ | refine blk_alloc ?_ _)); refine blk_far ?_ NB577_576.out _; (with_reducible repeat (first | refine blk_drewN ?_ _ | refine blk_drew ?_ | refine blk_alloc ?_ _)); refine blk_far ?_ NB577_576.out _; (with_reducible repeat (first | refine blk_drewN ?_ _ | refine blk_drew ?_ | refine blk_alloc ?_ _)); exact BK577.out)) (below_size (by repeat (first | (with_reducible first | exact HB.out | apply below_alloc | apply pw_below_drewN | apply below_drew1 | refine below_set ?_ GE576.out | refine below_set ?_ GE577.out) | exact HB.out)))); have n2_ := Aside0.mk (blk_below (g := gb576) (o := .cells #[.int .i64 t569, .slice Ao12 t570.length co12] 25 (0, 0)) (by (with_reducible repeat (first | refine blk_drewN ?_ _ | refine blk_drew ?_ | refine blk_alloc ?_ _)); refine blk_far ?_ NB576_577.out _; (with_reducible repeat (first | refine blk_drewN ?_ _ | refine blk_drew ?_ | refine blk_alloc ?_ _)); refine blk_far ?_ NB576_577.out _; (with_reducible repeat (first | refine blk_drewN ?_ _ | refine blk_drew ?_ | refine blk_alloc ?_ _)); refine blk_put (cs := #[.int .i64 t569, .slice none 0 0]) ?_ 1 _ rfl; (with_reducible repeat (first | refine blk_drewN ?_ _ | refine blk_drew ?_ | refine blk_alloc ?_ _)); refine blk_put (cs := #[.int .i64 0, .slice none 0 0]) ?_ 0 _ rfl; (with_reducible repeat (first | refine blk_drewN ?_ _ | refine blk_drew ?_ | refine blk_alloc ?_ _)); exact BK576.out) hb); have n3_ := Aside0.mk (blk_below (g := gb577) (o := .cells #[.int .i64 t574, .int .i64 t575] 42 (0, 0)) (by (with_reducible repeat (first | refine blk_drewN ?_ _ | refine blk_drew ?_ | refine blk_alloc ?_ _)); refine blk_put (cs := #[.int .i64 t574, .int .i64 0]) ?_ 1 _ rfl; (with_reducible repeat (first | refine blk_drewN ?_ _ | refine blk_drew ?_ | refine blk_alloc ?_ _)); refine blk_put (cs := #[.int .i64 0, .int .i64 0]) ?_ 0 _ rfl; (with_reducible repeat (first | refine blk_drewN ?_ _ | refine blk_drew ?_ | refine blk_alloc ?_ _)); refine blk_far ?_ NB577_576.out _; (with_reducible repeat (first | refine blk_drewN ?_ _ | refine blk_drew ?_ | refine blk_alloc ?_ _)); refine blk_far ?_ NB577_576.out _; (with_reducible repeat (first | refine blk_drewN ?_ _ | refine blk_drew ?_ | refine blk_alloc ?_ _)); exact BK577.out) hb); have n4_ := Aside0.mk (below_step (by repeat (first | (with_reducible first | exact HB.out | apply below_alloc | apply pw_below_drewN | apply below_drew1 | refine below_set ?_ GE576.out | refine below_set ?_ GE577.out) | exact HB.out)) hb); clear HO572; clear BK576; clear BK577; clear HB; have HO572 := n0_; have HO581 := n1_; have BK576 := n2_; have BK577 := n3_; have HB := n4_; clear n0_ n1_ n2_ n3_ n4_; (try clear hb); (try clear hb2); (try clear hk); (try clear hi); (try clear ho0)) | ((with_reducible refine gate_dst (N := 6) rfl ?_); refine box_event ?hg (N := 6) ?hd (cs := #[.int .i64 0, .slice none 0 0]) (t := 25) ?hr ?_; (case hd => rfl); (case hg => rfl); (case hr => first | (go_simp; done) | (go_simp; rfl)); intro gb583 hg w15 hbox hb; have n0_ := Aside0.mk (Kd.Q_below (by (with_reducible repeat (first | apply Kd.Q_alloc | apply Kd.Q_drewN | apply Kd.Q_drew)); exact HO572.out) hb); have n1_ := Aside0.mk (Kd.R_below (kR HO581.out) hb); have n2_ := Aside0.mk (blk_below (bK BK576.out) hb); have n3_ := Aside0.mk (blk_below (bK BK577.out) hb); have n4_ := Aside0.mk (below_step (by repeat (first | (with_reducible first | exact HB.out | apply below_alloc | apply pw_below_drewN | apply below_drew1 | refine below_set ?_ GE576.out | refine below_set ?_ GE577.out) | exact HB.out)) hb); have n5_ := Aside0.mk (hbox); have n6_ := Aside0.mk ((by rw [hg]; exact (below_size (by repeat (first | (with_reducible first | exact HB.out | apply below_alloc | apply pw_below_drewN | apply below_drew1 | refine below_set ?_ GE576.out | refine below_set ?_ GE577.out) | exact HB.out))) : w.heap.size ≤ gb583)); have n7_ := Aside0.mk ((by rw [hg]; exact (below_size (by repeat (first | (with_reducible first | exact HB.out | apply below_alloc | apply pw_below_drewN | apply below_drew1 | refine below_set ?_ GE576.out | refine below_set ?_ GE577.out) | exact HB.out))) : w.heap.size ≤ gb583)); have n8_ := Aside0.mk ((by rw [hg]; exact Nat.ne_of_lt (blk_lt (bK BK576.out)) : gb576 ≠ gb583)); have n9_ := Aside0.mk ((by rw [hg]; exact Nat.ne_of_gt (blk_lt (bK BK576.out)) : gb583 ≠ gb576)); have n10_ := Aside0.mk ((by rw [hg]; exact Nat.ne_of_lt (blk_lt (bK BK577.out)) : gb577 ≠ gb583)); have n11_ := Aside0.mk ((by rw [hg]; exact Nat.ne_of_gt (blk_lt (bK BK577.out)) : gb583 ≠ gb577)); clear HO572; clear HO581; clear BK576; clear BK577; clear HB; have HO572 := n0_; have HO581 := n1_; have BK576 := n2_; have BK577 := n3_; have HB := n4_; have BK583 := n5_; have GW583 := n6_; have GE583 := n7_; have NB576_583 := n8_; have NB583_576 := n9_; have NB577_583 := n10_; have NB583_577 := n11_; clear n0_ n1_ n2_ n3_ n4_ n5_ n6_ n7_ n8_ n9_ n10_ n11_; clear hb hbox hg; have hnb16 := NB583_576.out; have hnc16 := NB576_583.out; have hnb17 := NB583_577.out; have hnc17 := NB577_583.out; have hcz18_0 : w15.cell? ⟨gb583, 0, none⟩ = some (.int .i64 0) := (blk_cell BK583.out 0).trans rfl; have hcz18_1 : w15.cell? ⟨gb583, 1, none⟩ = some (.slice none 0 0) := (blk_cell BK583.out 1).trans rfl; have hfz18_0 := blk_frozen BK583.out 0; have hfz18_1 := blk_frozen BK583.out 1; obtain ⟨Ao19, co19, eo19⟩ := Kd.R_slice HO581.out; subst eo19; have hcz20_0 : w15.cell? ⟨gb576, 0, none⟩ = some (.int .i64 t569) := (blk_cell BK576.out 0).trans rfl; have hcz20_1 : w15.cell? ⟨gb576, 1, none⟩ = some (.slice Ao12 t570.length co12) := (blk_cell BK576.out 1).trans rfl; have hfz20_0 := blk_frozen BK576.out 0; have hfz20_1 := blk_frozen BK576.out 1; have hcz21_0 : w15.cell? ⟨gb577, 0, none⟩ = some (.int .i64 t574) := (blk_cell BK577.out 0).trans rfl; have hcz21_1 : w15.cell? ⟨gb577, 1, none⟩ = some (.int .i64 t575) := (blk_cell BK577.out 1).trans rfl; have hfz21_0 := blk_frozen BK577.out 0; have hfz21_1 := blk_frozen BK577.out 1) | ((with_reducible refine gate_callee (f := 27) rfl ?_); refine goesL_ (some 33) rfl rfl Try.func27 (by kernel_rfl) rfl #[.agg #[.int .i64 t569, .slice Ao12 t570.length co12], .int .i64 t573, .agg #[.int .i64 t574, .int .i64 t575]] rfl (by (try simp only [List.map_toArray, List.map_cons, List.map_nil]); first | done | rfl | (simp only [List.length_drop, List.length_take]; rfl)) ?_; (with_reducible refine (impl_GridPut.calls k t569 _ _ t570 t573 t574 t575 t584 t585 t588 _ ?side1 ?side2 A5.out).mono ?_); (case side1 => refine (Kd.Q_reads' (e := 42) (base := w.heap.size) (ok := fun k_ => ((True ∧ k_ ≠ gb577) ∧ some k_ ≠ (.slice Ao19 t579.length co19 : Value).ownBlock)) (n := t570.length) (c := co12) ?_).2.2; exact (by (with_reducible repeat (first | apply Kd.Q_alloc | apply Kd.Q_drewN | apply Kd.Q_drew)); exact (Kd.Q_mono (Kd.Q_far (p := ⟨gb583, 1, none⟩) (Kd.Q_far (p := ⟨gb583, 0, none⟩) (Kd.Q_types HO572.out BK583.out (by decide)) (fun _ hk => hk.2) (.int .i64 t578)) (fun _ hk => hk.2) (.slice Ao19 t579.length co19)) (fun _ h_ => h_.1)))); (case side2 => exact (Kd.Q_reads' HO572.out).2.1); rintro e w22 ⟨v586, rfl, ho0, hb⟩; refine ⟨_, rfl, ?_⟩; have n0_ := Aside0.mk (Kd.Q_elder' (by (with_reducible repeat (first | apply Kd.Q_alloc | apply Kd.Q_drewN | apply Kd.Q_drew)); exact (Kd.Q_mono (Kd.Q_far (p := ⟨gb583, 1, none⟩) (Kd.Q_far (p := ⟨gb583, 0, none⟩) (Kd.Q_types HO572.out BK583.out (by decide)) (fun _ hk => hk.2) (.int .i64 t578)) (fun _ hk => hk.2) (.slice Ao19 t579.length co19)) (fun _ h_ => h_.1))) (Kd.R_base ho0) hb); have n1_ := Aside0.mk (Kd.R_elder' (by (with_reducible repeat (first | apply Kd.R_alloc | apply Kd.R_drewN | apply Kd.R_drew)); exact (Kd.R_mono (Kd.R_far (p := ⟨gb583, 1, none⟩) (Kd.R_far (p := ⟨gb583, 0, none⟩) (Kd.R_types HO581.out BK583.out (by decide)) (fun _ hk => hk.2) (.int .i64 t578)) (fun _ hk => hk.2) (.slice Ao19 t579.length co19)) (fun _ h_ => h_.1))) (Kd.R_base ho0) hb); have n2_ := Aside0.mk (Kd.R_lower (Kd.R_newB (Kd.R_new' (Kd.R_new' ho0 (Kd.Q_lt (by (with_reducible repeat (first | apply Kd.Q_alloc | apply Kd.Q_drewN | apply Kd.Q_drew)); exact (Kd.Q_mono (Kd.Q_far (p := ⟨gb583, 1, none⟩) (Kd.Q_far (p := ⟨gb583, 0, none⟩) (Kd.Q_types HO572.out BK583.out (by decide)) (fun _ hk => hk.2) (.int .i64 t578)) (fun _ hk => hk.2) (.slice Ao19 t579.length co19)) (fun _ h_ => h_.1))))) (Kd.R_lt (by (with_reducible repeat (first | apply Kd.R_alloc | apply Kd.R_drewN | apply Kd.R_drew)); exact (Kd.R_mono (Kd.R_far (p := ⟨gb583, 1, none⟩) (Kd.R_far (p := ⟨gb583, 0, none⟩) (Kd.R_types HO581.out BK583.out (by decide)) (fun _ hk => hk.2) (.int .i64 t578)) (fun _ hk => hk.2) (.slice Ao19 t579.length co19)) (fun _ h_ => h_.1))))) (g := gb577) (o := .cells #[.int .i64 t574, .int .i64 t575] 42 (0, 0)) (by (with_reducible repeat (first | refine blk_drewN ?_ _ | refine blk_drew ?_ | refine blk_alloc ?_ _)); refine blk_far ?_ NB577_583.out _; (with_reducible repeat (first | refine blk_drewN ?_ _ | refine blk_drew ?_ | refine blk_alloc ?_ _)); refine blk_far ?_ NB577_583.out _; (with_reducible repeat (first | refine blk_drewN ?_ _ | refine blk_drew ?_ | refine blk_alloc ?_ _)); exact BK577.out)) (below_size (by repeat (first | (with_reducible first | exact HB.out | apply below_alloc | apply pw_below_drewN | apply below_drew1 | refine below_set ?_ GE576.out | refine below_set ?_ GE577.out | refine below_set ?_ GE583.out) | exact HB.out)))); have n3_ := Aside0.mk (blk_below (g := gb576) (o := .cells #[.int .i64 t569, .slice Ao12 t570.length co12] 25 (0, 0)) (by (with_reducible repeat (first | refine blk_drewN ?_ _ | refine blk_drew ?_ | refine blk_alloc ?_ _)); refine blk_far ?_ NB576_583.out _; (with_reducible repeat (first | refine blk_drewN ?_ _ | refine blk_drew ?_ | refine blk_alloc ?_ _)); refine blk_far ?_ NB576_583.out _; (with_reducible repeat (first | refine blk_drewN ?_ _ | refine blk_drew ?_ | refine blk_alloc ?_ _)); exact BK576.out) hb); have n4_ := Aside0.mk (blk_below (g := gb577) (o := .cells #[.int .i64 t574, .int .i64 t575] 42 (0, 0)) (by (with_reducible repeat (first | refine blk_drewN ?_ _ | refine blk_drew ?_ | refine blk_alloc ?_ _)); refine blk_far ?_ NB577_583.out _; (with_reducible repeat (first | refine blk_drewN ?_ _ | refine blk_drew ?_ | refine blk_alloc ?_ _)); refine blk_far ?_ NB577_583.out _; (with_reducible repeat (first | refine blk_drewN ?_ _ | refine blk_drew ?_ | refine blk_alloc ?_ _)); exact BK577.out) hb); have n5_ := Aside0.mk (blk_below (g := gb583) (o := .cells #[.int .i64 t578, .slice Ao19 t579.length co19] 25 (0, 0)) (by (with_reducible repeat (first | refine blk_drewN ?_ _ | refine blk_drew ?_ | refine blk_alloc ?_ _)); refine blk_put (cs := #[.int .i64 t578, .slice none 0 0]) ?_ 1 _ rfl; (with_reducible repeat (first | refine blk_drewN ?_ _ | refine blk_drew ?_ | refine blk_alloc ?_ _)); refine blk_put (cs := #[.int .i64 0, .slice none 0 0]) ?_ 0 _ rfl; (with_reducible repeat (first | refine blk_drewN ?_ _ | refine blk_drew ?_ | refine blk_alloc ?_ _)); exact BK583.out) hb); have n6_ := Aside0.mk (below_step (by repeat (first | (with_reducible first | exact HB.out | apply below_alloc | apply pw_below_drewN | apply below_drew1 | refine below_set ?_ GE576.out | refine below_set ?_ GE577.out | refine below_set ?_ GE583.out) | exact HB.out)) hb); clear HO572; clear HO581; clear BK576; clear BK577; clear BK583; clear HB; have HO572 := n0_; have HO581 := n1_; have HO587 := n2_; have BK576 := n3_; have BK577 := n4_; have BK583 := n5_; have HB := n6_; clear n0_ n1_ n2_ n3_ n4_ n5_ n6_; (try clear hb); (try clear hb2); (try clear hk); (try clear hi); (try clear ho0)) | ((with_reducible refine gate_dst (N := 8) rfl ?_); refine box_event ?hg (N := 8) ?hd (cs := #[.int .i64 0, .slice none 0 0]) (t := 25) ?hr ?_; (case hd => rfl); (case hg => rfl); (case hr => first | (go_simp; done) | (go_simp; rfl)); intro gb589 hg w23 hbox hb; have n0_ := Aside0.mk (Kd.Q_below (by (with_reducible repeat (first | apply Kd.Q_alloc | apply Kd.Q_drewN | apply Kd.Q_drew)); exact HO572.out) hb); have n1_ := Aside0.mk (Kd.R_below (kR HO581.out) hb); have n2_ := Aside0.mk (Kd.R_below (kR HO587.out) hb); have n3_ := Aside0.mk (blk_below (bK BK576.out) hb); have n4_ := Aside0.mk (blk_below (bK BK577.out) hb); have n5_ := Aside0.mk (blk_below (bK BK583.out) hb); have n6_ := Aside0.mk (below_step (by repeat (first | (with_reducible first | exact HB.out | apply below_alloc | apply pw_below_drewN | apply below_drew1 | refine below_set ?_ GE576.out | refine below_set ?_ GE577.out | refine below_set ?_ GE583.out) | exact HB.out)) hb); have n7_ := Aside0.mk (hbox); have n8_ := Aside0.mk ((by rw [hg]; exact (below_size (by repeat (first | (with_reducible first | exact HB.out | apply below_alloc | apply pw_below_drewN | apply below_drew1 | refine below_set ?_ GE576.out | refine below_set ?_ GE577.out | refine below_set ?_ GE583.out) | exact HB.out))) : w.heap.size ≤ gb589)); have n9_ := Aside0.mk ((by rw [hg]; exact (below_size (by repeat (first | (with_reducible first | exact HB.out | apply below_alloc | apply pw_below_drewN | apply below_drew1 | refine below_set ?_ GE576.out | refine below_set ?_ GE577.out | refine below_set ?_ GE583.out) | exact HB.out))) : w.heap.size ≤ gb589)); have n10_ := Aside0.mk ((by rw [hg]; exact Nat.ne_of_lt (blk_lt (bK BK576.out)) : gb576 ≠ gb589)); have n11_ := Aside0.mk ((by rw [hg]; exact Nat.ne_of_gt (blk_lt (bK BK576.out)) : gb589 ≠ gb576)); have n12_ := Aside0.mk ((by rw [hg]; exact Nat.ne_of_lt (blk_lt (bK BK577.out)) : gb577 ≠ gb589)); have n13_ := Aside0.mk ((by rw [hg]; exact Nat.ne_of_gt (blk_lt (bK BK577.out)) : gb589 ≠ gb577)); have n14_ := Aside0.mk ((by rw [hg]; exact Nat.ne_of_lt (blk_lt (bK BK583.out)) : gb583 ≠ gb589)); have n15_ := Aside0.mk ((by rw [hg]; exact Nat.ne_of_gt (blk_lt (bK BK583.out)) : gb589 ≠ gb583)); clear HO572; clear HO581; clear HO587; clear BK576; clear BK577; clear BK583; clear HB; have HO572 := n0_; have HO581 := n1_; have HO587 := n2_; have BK576 := n3_; have BK577 := n4_; have BK583 := n5_; have HB := n6_; have BK589 := n7_; have GW589 := n8_; have GE589 := n9_; have NB576_589 := n10_; have NB589_576 := n11_; have NB577_589 := n12_; have NB589_577 := n13_; have NB583_589 := n14_; have NB589_583 := n15_; clear n0_ n1_ n2_ n3_ n4_ n5_ n6_ n7_ n8_ n9_ n10_ n11_ n12_ n13_ n14_ n15_; clear hb hbox hg; have hnb24 := NB589_576.out; have hnc24 := NB576_589.out; have hnb25 := NB589_577.out; have hnc25 := NB577_589.out; have hnb26 := NB589_583.out; have hnc26 := NB583_589.out; have hcz27_0 : w23.cell? ⟨gb589, 0, none⟩ = some (.int .i64 0) := (blk_cell BK589.out 0).trans rfl; have hcz27_1 : w23.cell? ⟨gb589, 1, none⟩ = some (.slice none 0 0) := (blk_cell BK589.out 1).trans rfl; have hfz27_0 := blk_frozen BK589.out 0; have hfz27_1 := blk_frozen BK589.out 1; obtain ⟨Ao28, co28, eo28⟩ := Kd.R_slice HO587.out; subst eo28))
  (try simp only [Act.put, List.setIfInBounds_toArray, List.set_cons_zero, List.set_cons_succ])
  go_cut [48] (fun v48 wc => ∃ (kq : Nat) (x48_5 : Bool), v48 = .bool x48_5 ∧ Aside0 (laws_FnPutThere.j0 kq t573 t582 t588 x48_5 t569 t570 t574 t575 t578 t579 t584 t585 = some r) ∧ Aside0 (kq ≤ k) ∧ Aside0 (Kd.Q k42 42 wc w.heap.size (fun k_ => some k_ ≠ ((.slice Ao19 t579.length co19) : Value).ownBlock ∧ some k_ ≠ ((.slice Ao28 t585.length co28) : Value).ownBlock ∧ k_ ≠ gb577) (.slice Ao12 t570.length co12) t570) ∧ Aside0 (Kd.Q k42 42 wc w.heap.size (fun k_ => some k_ ≠ ((.slice Ao12 t570.length co12) : Value).ownBlock ∧ some k_ ≠ ((.slice Ao28 t585.length co28) : Value).ownBlock ∧ k_ ≠ gb577) (.slice Ao19 t579.length co19) t579) ∧ Aside0 (Kd.Q k42 42 wc w.heap.size (fun k_ => some k_ ≠ ((.slice Ao12 t570.length co12) : Value).ownBlock ∧ some k_ ≠ ((.slice Ao19 t579.length co19) : Value).ownBlock ∧ k_ ≠ gb577) (.slice Ao28 t585.length co28) t585) ∧ Aside0 (wc.heap[gb576]? = some (.cells #[.int .i64 t569, (.slice Ao12 t570.length co12)] 25 (0, 0))) ∧ Aside0 (wc.heap[gb577]? = some (.cells #[.int .i64 t574, .int .i64 t575] 42 (0, 0))) ∧ Aside0 (wc.heap[gb583]? = some (.cells #[.int .i64 t578, (.slice Ao19 t579.length co19)] 25 (0, 0))) ∧ Aside0 (wc.heap[gb589]? = some (.cells #[.int .i64 t584, (.slice Ao28 t585.length co28)] 25 (0, 0))) ∧ Aside0 (Below w.heap.size w wc))
  case first =>
   have H := HC6.out
   clear HC6
   by_cases c29 : (t588 != t582) = true
   ·rw [if_pos c29] at H
    have c29b0 : (t588 != t582) = true := c29
    (try (have c29b1 : decide (t588 = t582) = false := by simpa using c29))
    (try (have c29b2 : (t588 == t582) = false := by simpa using c29))
    (try (have c29b3 : ¬ (t588 = t582) := by simpa using c29))
    clear c29
    (first | rw [c29b0] | (simp only [i64_w, i32_w]; rw [c29b0]) | skip)
    have H' := Aside0.mk H
    clear H
    go_wp2
    go_meet
    case rel => exact ⟨_, (true), (by first | rfl | (simp; done) | (simp [*]; done)), H', ⟨by first | omega | exact Nat.le_refl _⟩, ⟨by (with_reducible repeat (first | apply Kd.Q_alloc | apply Kd.Q_drewN | apply Kd.Q_drew)); exact Kd.Q_mono (Kd.Q_far (p := ⟨gb589, 1, none⟩) (Kd.Q_far (p := ⟨gb589, 0, none⟩) (Kd.Q_types HO572.out BK589.out (by decide)) (fun _ hk => hk.2) (.int .i64 t584)) (fun _ hk => hk.2) (.slice Ao28 t585.length co28)) (fun _ hk => ⟨hk.1.1.2, ⟨hk.1.2, hk.1.1.1.2⟩⟩)⟩, ⟨Kd.Q_of_R (by (with_reducible repeat (first | apply Kd.R_alloc | apply Kd.R_drewN | apply Kd.R_drew)); exact Kd.R_mono (Kd.R_far (p := ⟨gb589, 1, none⟩) (Kd.R_far (p := ⟨gb589, 0, none⟩) (Kd.R_types HO581.out BK589.out (by decide)) (fun _ hk => hk.2) (.int .i64 t584)) (fun _ hk => hk.2) (.slice Ao28 t585.length co28)) (fun _ hk => ⟨hk.1.1.1.2, ⟨hk.1.2, hk.1.1.2⟩⟩))⟩, ⟨Kd.Q_of_R (by (with_reducible repeat (first | apply Kd.R_alloc | apply Kd.R_drewN | apply Kd.R_drew)); exact Kd.R_mono (Kd.R_far (p := ⟨gb589, 1, none⟩) (Kd.R_far (p := ⟨gb589, 0, none⟩) (Kd.R_types HO587.out BK589.out (by decide)) (fun _ hk => hk.2) (.int .i64 t584)) (fun _ hk => hk.2) (.slice Ao28 t585.length co28)) (fun _ hk => ⟨hk.1.1.1.2, ⟨hk.1.1.2, hk.1.2⟩⟩))⟩, ⟨by (with_reducible repeat (first | refine blk_drewN ?_ _ | refine blk_drew ?_ | refine blk_alloc ?_ _)); refine blk_far ?_ NB576_589.out _; (with_reducible repeat (first | refine blk_drewN ?_ _ | refine blk_drew ?_ | refine blk_alloc ?_ _)); refine blk_far ?_ NB576_589.out _; (with_reducible repeat (first | refine blk_drewN ?_ _ | refine blk_drew ?_ | refine blk_alloc ?_ _)); exact BK576.out⟩, ⟨by (with_reducible repeat (first | refine blk_drewN ?_ _ | refine blk_drew ?_ | refine blk_alloc ?_ _)); refine blk_far ?_ NB577_589.out _; (with_reducible repeat (first | refine blk_drewN ?_ _ | refine blk_drew ?_ | refine blk_alloc ?_ _)); refine blk_far ?_ NB577_589.out _; (with_reducible repeat (first | refine blk_drewN ?_ _ | refine blk_drew ?_ | refine blk_alloc ?_ _)); exact BK577.out⟩, ⟨by (with_reducible repeat (first | refine blk_drewN ?_ _ | refine blk_drew ?_ | refine blk_alloc ?_ _)); refine blk_far ?_ NB583_589.out _; (with_reducible repeat (first | refine blk_drewN ?_ _ | refine blk_drew ?_ | refine blk_alloc ?_ _)); refine blk_far ?_ NB583_589.out _; (with_reducible repeat (first | refine blk_drewN ?_ _ | refine blk_drew ?_ | refine blk_alloc ?_ _)); exact BK583.out⟩, ⟨by (with_reducible repeat (first | refine blk_drewN ?_ _ | refine blk_drew ?_ | refine blk_alloc ?_ _)); refine blk_put (cs := #[.int .i64 t584, .slice none 0 0]) ?_ 1 _ rfl; (with_reducible repeat (first | refine blk_drewN ?_ _ | refine blk_drew ?_ | refine blk_alloc ?_ _)); refine blk_put (cs := #[.int .i64 0, .slice none 0 0]) ?_ 0 _ rfl; (with_reducible repeat (first | refine blk_drewN ?_ _ | refine blk_drew ?_ | refine blk_alloc ?_ _)); exact BK589.out⟩, ⟨by repeat (first | (with_reducible first | exact HB.out | apply below_alloc | apply pw_below_drewN | apply below_drew1 | refine below_set ?_ GE576.out | refine below_set ?_ GE577.out | refine below_set ?_ GE583.out | refine below_set ?_ GE589.out) | exact HB.out)⟩⟩
   ·rw [if_neg c29] at H
    have c29b0 : (t588 != t582) = false := by simpa using c29
    (try (have c29b1 : decide (t588 = t582) = true := by simpa using c29))
    (try (have c29b2 : (t588 == t582) = true := by simpa using c29))
    clear c29
    (first | rw [c29b0] | (simp only [i64_w, i32_w]; rw [c29b0]) | skip)
    replace H := Option.bind_eq_some_iff.mp H
    obtain ⟨t590, A300, H⟩ := H
    replace H : (if t590 = true then (laws_FnPutThere.j0 k t573 t582 t588 (!t588) t569 t570 t574 t575 t578 t579 t584 t585) else (laws_FnPutThere.j0 k t573 t582 t588 true t569 t570 t574 t575 t578 t579 t584 t585)) = some r := H
    have A30 := Aside0.mk A300
    clear A300
    by_cases c31 : t590 = true
    ·subst c31
     have H1 : (laws_FnPutThere.j0 k t573 t582 t588 (!t588) t569 t570 t574 t575 t578 t579 t584 t585) = some r := by rw [if_pos rfl] at H; exact H
     clear H
     have H := H1
     clear H1
     have H' := Aside0.mk H
     clear H
     have hnb32 := NB589_576.out
     have hnc32 := NB576_589.out
     have hnb33 := NB589_577.out
     have hnc33 := NB577_589.out
     have hnb34 := NB589_583.out
     have hnc34 := NB583_589.out
     have hcz35_0 : w23.cell? ⟨gb589, 0, none⟩ = some (.int .i64 0) := (blk_cell BK589.out 0).trans rfl
     have hcz35_1 : w23.cell? ⟨gb589, 1, none⟩ = some (.slice none 0 0) := (blk_cell BK589.out 1).trans rfl
     have hfz35_0 := blk_frozen BK589.out 0
     have hfz35_1 := blk_frozen BK589.out 1
     have hnb36 := NB583_576.out
     have hnc36 := NB576_583.out
     have hnb37 := NB583_577.out
     have hnc37 := NB577_583.out
     have hcz38_0 : w23.cell? ⟨gb583, 0, none⟩ = some (.int .i64 t578) := (blk_cell BK583.out 0).trans rfl
     have hcz38_1 : w23.cell? ⟨gb583, 1, none⟩ = some (.slice Ao19 t579.length co19) := (blk_cell BK583.out 1).trans rfl
     have hfz38_0 := blk_frozen BK583.out 0
     have hfz38_1 := blk_frozen BK583.out 1
     go_wp2_with (first | (go_at_call 28; (with_reducible refine (laws_llGrid.calls k t584 _ _ t585 t578 _ _ t579 true _ ?side1 ?side2 ?side3 ?side4 A30.out).mono ?_); (case side1 => refine (Kd.R_reads' (e := 42) (base := w.heap.size) (ok := fun k_ => (((True ∧ some k_ ≠ (.slice Ao12 t570.length co12 : Value).ownBlock) ∧ some k_ ≠ (.slice Ao19 t579.length co19 : Value).ownBlock) ∧ k_ ≠ gb577)) (n := t585.length) (c := co28) ?_).2.2; exact (by (with_reducible repeat (first | apply Kd.R_alloc | apply Kd.R_drewN | apply Kd.R_drew)); exact (Kd.R_mono (Kd.R_far (p := ⟨gb589, 1, none⟩) (Kd.R_far (p := ⟨gb589, 0, none⟩) (Kd.R_types HO587.out BK589.out (by decide)) (fun _ hk => hk.2) (.int .i64 t584)) (fun _ hk => hk.2) (.slice Ao28 t585.length co28)) (fun _ h_ => h_.1)))); (case side2 => exact (Kd.R_reads' HO587.out).2.1); (case side3 => refine (Kd.R_reads' (e := 42) (base := w.heap.size) (ok := fun k_ => (((True ∧ some k_ ≠ (.slice Ao12 t570.length co12 : Value).ownBlock) ∧ k_ ≠ gb577) ∧ some k_ ≠ (.slice Ao28 t585.length co28 : Value).ownBlock)) (n := t579.length) (c := co19) ?_).2.2; exact (by (with_reducible repeat (first | apply Kd.R_alloc | apply Kd.R_drewN | apply Kd.R_drew)); exact (Kd.R_mono (Kd.R_far (p := ⟨gb589, 1, none⟩) (Kd.R_far (p := ⟨gb589, 0, none⟩) (Kd.R_types HO581.out BK589.out (by decide)) (fun _ hk => hk.2) (.int .i64 t584)) (fun _ hk => hk.2) (.slice Ao28 t585.length co28)) (fun _ h_ => h_.1)))); (case side4 => exact (Kd.R_reads' HO581.out).2.1); rintro e w39 ⟨rfl, hb⟩; have n0_ := Aside0.mk (Kd.Q_below (by (with_reducible repeat (first | apply Kd.Q_alloc | apply Kd.Q_drewN | apply Kd.Q_drew)); exact (Kd.Q_mono (Kd.Q_far (p := ⟨gb589, 1, none⟩) (Kd.Q_far (p := ⟨gb589, 0, none⟩) (Kd.Q_types HO572.out BK589.out (by decide)) (fun _ hk => hk.2) (.int .i64 t584)) (fun _ hk => hk.2) (.slice Ao28 t585.length co28)) (fun _ h_ => h_.1))) hb); have n1_ := Aside0.mk (Kd.R_below (by (with_reducible repeat (first | apply Kd.R_alloc | apply Kd.R_drewN | apply Kd.R_drew)); exact (Kd.R_mono (Kd.R_far (p := ⟨gb589, 1, none⟩) (Kd.R_far (p := ⟨gb589, 0, none⟩) (Kd.R_types HO581.out BK589.out (by decide)) (fun _ hk => hk.2) (.int .i64 t584)) (fun _ hk => hk.2) (.slice Ao28 t585.length co28)) (fun _ h_ => h_.1))) hb); have n2_ := Aside0.mk (Kd.R_below (by (with_reducible repeat (first | apply Kd.R_alloc | apply Kd.R_drewN | apply Kd.R_drew)); exact (Kd.R_mono (Kd.R_far (p := ⟨gb589, 1, none⟩) (Kd.R_far (p := ⟨gb589, 0, none⟩) (Kd.R_types HO587.out BK589.out (by decide)) (fun _ hk => hk.2) (.int .i64 t584)) (fun _ hk => hk.2) (.slice Ao28 t585.length co28)) (fun _ h_ => h_.1))) hb); have n3_ := Aside0.mk (blk_below (g := gb576) (o := .cells #[.int .i64 t569, .slice Ao12 t570.length co12] 25 (0, 0)) (by (with_reducible repeat (first | refine blk_drewN ?_ _ | refine blk_drew ?_ | refine blk_alloc ?_ _)); refine blk_far ?_ NB576_589.out _; (with_reducible repeat (first | refine blk_drewN ?_ _ | refine blk_drew ?_ | refine blk_alloc ?_ _)); refine blk_far ?_ NB576_589.out _; (with_reducible repeat (first | refine blk_drewN ?_ _ | refine blk_drew ?_ | refine blk_alloc ?_ _)); exact BK576.out) hb); have n4_ := Aside0.mk (blk_below (g := gb577) (o := .cells #[.int .i64 t574, .int .i64 t575] 42 (0, 0)) (by (with_reducible repeat (first | refine blk_drewN ?_ _ | refine blk_drew ?_ | refine blk_alloc ?_ _)); refine blk_far ?_ NB577_589.out _; (with_reducible repeat (first | refine blk_drewN ?_ _ | refine blk_drew ?_ | refine blk_alloc ?_ _)); refine blk_far ?_ NB577_589.out _; (with_reducible repeat (first | refine blk_drewN ?_ _ | refine blk_drew ?_ | refine blk_alloc ?_ _)); exact BK577.out) hb); have n5_ := Aside0.mk (blk_below (g := gb583) (o := .cells #[.int .i64 t578, .slice Ao19 t579.length co19] 25 (0, 0)) (by (with_reducible repeat (first | refine blk_drewN ?_ _ | refine blk_drew ?_ | refine blk_alloc ?_ _)); refine blk_far ?_ NB583_589.out _; (with_reducible repeat (first | refine blk_drewN ?_ _ | refine blk_drew ?_ | refine blk_alloc ?_ _)); refine blk_far ?_ NB583_589.out _; (with_reducible repeat (first | refine blk_drewN ?_ _ | refine blk_drew ?_ | refine blk_alloc ?_ _)); exact BK583.out) hb); have n6_ := Aside0.mk (blk_below (g := gb589) (o := .cells #[.int .i64 t584, .slice Ao28 t585.length co28] 25 (0, 0)) (by (with_reducible repeat (first | refine blk_drewN ?_ _ | refine blk_drew ?_ | refine blk_alloc ?_ _)); refine blk_put (cs := #[.int .i64 t584, .slice none 0 0]) ?_ 1 _ rfl; (with_reducible repeat (first | refine blk_drewN ?_ _ | refine blk_drew ?_ | refine blk_alloc ?_ _)); refine blk_put (cs := #[.int .i64 0, .slice none 0 0]) ?_ 0 _ rfl; (with_reducible repeat (first | refine blk_drewN ?_ _ | refine blk_drew ?_ | refine blk_alloc ?_ _)); exact BK589.out) hb); have n7_ := Aside0.mk (below_step (by repeat (first | (with_reducible first | exact HB.out | apply below_alloc | apply pw_below_drewN | apply below_drew1 | refine below_set ?_ GE576.out | refine below_set ?_ GE577.out | refine below_set ?_ GE583.out | refine below_set ?_ GE589.out) | exact HB.out)) hb); clear HO572; clear HO581; clear HO587; clear BK576; clear BK577; clear BK583; clear BK589; clear HB; have HO572 := n0_; have HO581 := n1_; have HO587 := n2_; have BK576 := n3_; have BK577 := n4_; have BK583 := n5_; have BK589 := n6_; have HB := n7_; clear n0_ n1_ n2_ n3_ n4_ n5_ n6_ n7_; (try clear hb); (try clear hb2); (try clear hk); (try clear hi)))
     go_meet
     case rel => exact ⟨_, (!t588), (by first | rfl | (simp; done) | (simp [*]; done)), H', ⟨by first | omega | exact Nat.le_refl _⟩, ⟨by (with_reducible repeat (first | apply Kd.Q_alloc | apply Kd.Q_drewN | apply Kd.Q_drew)); exact Kd.Q_mono HO572.out (fun _ hk => ⟨hk.1.2, ⟨hk.2, hk.1.1.2⟩⟩)⟩, ⟨Kd.Q_of_R (by (with_reducible repeat (first | apply Kd.R_alloc | apply Kd.R_drewN | apply Kd.R_drew)); exact Kd.R_mono HO581.out (fun _ hk => ⟨hk.1.1.2, ⟨hk.2, hk.1.2⟩⟩))⟩, ⟨Kd.Q_of_R (by (with_reducible repeat (first | apply Kd.R_alloc | apply Kd.R_drewN | apply Kd.R_drew)); exact Kd.R_mono HO587.out (fun _ hk => ⟨hk.1.1.2, ⟨hk.1.2, hk.2⟩⟩))⟩, ⟨by (with_reducible repeat (first | refine blk_drewN ?_ _ | refine blk_drew ?_ | refine blk_alloc ?_ _)); exact BK576.out⟩, ⟨by (with_reducible repeat (first | refine blk_drewN ?_ _ | refine blk_drew ?_ | refine blk_alloc ?_ _)); exact BK577.out⟩, ⟨by (with_reducible repeat (first | refine blk_drewN ?_ _ | refine blk_drew ?_ | refine blk_alloc ?_ _)); exact BK583.out⟩, ⟨by (with_reducible repeat (first | refine blk_drewN ?_ _ | refine blk_drew ?_ | refine blk_alloc ?_ _)); exact BK589.out⟩, ⟨by repeat (first | (with_reducible first | exact HB.out | apply below_alloc | apply pw_below_drewN | apply below_drew1 | refine below_set ?_ GE576.out | refine below_set ?_ GE577.out | refine below_set ?_ GE583.out | refine below_set ?_ GE589.out) | exact HB.out)⟩⟩
    ·replace c31 := Bool.eq_false_iff.mpr c31
     subst c31
     have H1 : (laws_FnPutThere.j0 k t573 t582 t588 true t569 t570 t574 t575 t578 t579 t584 t585) = some r := by rw [if_neg (show ¬ (false = true) by decide)] at H; exact H
     clear H
     have H := H1
     clear H1
     have H' := Aside0.mk H
     clear H
     have hnb40 := NB589_576.out
     have hnc40 := NB576_589.out
     have hnb41 := NB589_577.out
     have hnc41 := NB577_589.out
     have hnb42 := NB589_583.out
     have hnc42 := NB583_589.out
     have hcz43_0 : w23.cell? ⟨gb589, 0, none⟩ = some (.int .i64 0) := (blk_cell BK589.out 0).trans rfl
     have hcz43_1 : w23.cell? ⟨gb589, 1, none⟩ = some (.slice none 0 0) := (blk_cell BK589.out 1).trans rfl
     have hfz43_0 := blk_frozen BK589.out 0
     have hfz43_1 := blk_frozen BK589.out 1
     have hnb44 := NB583_576.out
     have hnc44 := NB576_583.out
     have hnb45 := NB583_577.out
     have hnc45 := NB577_583.out
     have hcz46_0 : w23.cell? ⟨gb583, 0, none⟩ = some (.int .i64 t578) := (blk_cell BK583.out 0).trans rfl
     have hcz46_1 : w23.cell? ⟨gb583, 1, none⟩ = some (.slice Ao19 t579.length co19) := (blk_cell BK583.out 1).trans rfl
     have hfz46_0 := blk_frozen BK583.out 0
     have hfz46_1 := blk_frozen BK583.out 1
     go_wp2_with (first | (go_at_call 28; (with_reducible refine (laws_llGrid.calls k t584 _ _ t585 t578 _ _ t579 false _ ?side1 ?side2 ?side3 ?side4 A30.out).mono ?_); (case side1 => refine (Kd.R_reads' (e := 42) (base := w.heap.size) (ok := fun k_ => (((True ∧ some k_ ≠ (.slice Ao12 t570.length co12 : Value).ownBlock) ∧ some k_ ≠ (.slice Ao19 t579.length co19 : Value).ownBlock) ∧ k_ ≠ gb577)) (n := t585.length) (c := co28) ?_).2.2; exact (by (with_reducible repeat (first | apply Kd.R_alloc | apply Kd.R_drewN | apply Kd.R_drew)); exact (Kd.R_mono (Kd.R_far (p := ⟨gb589, 1, none⟩) (Kd.R_far (p := ⟨gb589, 0, none⟩) (Kd.R_types HO587.out BK589.out (by decide)) (fun _ hk => hk.2) (.int .i64 t584)) (fun _ hk => hk.2) (.slice Ao28 t585.length co28)) (fun _ h_ => h_.1)))); (case side2 => exact (Kd.R_reads' HO587.out).2.1); (case side3 => refine (Kd.R_reads' (e := 42) (base := w.heap.size) (ok := fun k_ => (((True ∧ some k_ ≠ (.slice Ao12 t570.length co12 : Value).ownBlock) ∧ k_ ≠ gb577) ∧ some k_ ≠ (.slice Ao28 t585.length co28 : Value).ownBlock)) (n := t579.length) (c := co19) ?_).2.2; exact (by (with_reducible repeat (first | apply Kd.R_alloc | apply Kd.R_drewN | apply Kd.R_drew)); exact (Kd.R_mono (Kd.R_far (p := ⟨gb589, 1, none⟩) (Kd.R_far (p := ⟨gb589, 0, none⟩) (Kd.R_types HO581.out BK589.out (by decide)) (fun _ hk => hk.2) (.int .i64 t584)) (fun _ hk => hk.2) (.slice Ao28 t585.length co28)) (fun _ h_ => h_.1)))); (case side4 => exact (Kd.R_reads' HO581.out).2.1); rintro e w47 ⟨rfl, hb⟩; have n0_ := Aside0.mk (Kd.Q_below (by (with_reducible repeat (first | apply Kd.Q_alloc | apply Kd.Q_drewN | apply Kd.Q_drew)); exact (Kd.Q_mono (Kd.Q_far (p := ⟨gb589, 1, none⟩) (Kd.Q_far (p := ⟨gb589, 0, none⟩) (Kd.Q_types HO572.out BK589.out (by decide)) (fun _ hk => hk.2) (.int .i64 t584)) (fun _ hk => hk.2) (.slice Ao28 t585.length co28)) (fun _ h_ => h_.1))) hb); have n1_ := Aside0.mk (Kd.R_below (by (with_reducible repeat (first | apply Kd.R_alloc | apply Kd.R_drewN | apply Kd.R_drew)); exact (Kd.R_mono (Kd.R_far (p := ⟨gb589, 1, none⟩) (Kd.R_far (p := ⟨gb589, 0, none⟩) (Kd.R_types HO581.out BK589.out (by decide)) (fun _ hk => hk.2) (.int .i64 t584)) (fun _ hk => hk.2) (.slice Ao28 t585.length co28)) (fun _ h_ => h_.1))) hb); have n2_ := Aside0.mk (Kd.R_below (by (with_reducible repeat (first | apply Kd.R_alloc | apply Kd.R_drewN | apply Kd.R_drew)); exact (Kd.R_mono (Kd.R_far (p := ⟨gb589, 1, none⟩) (Kd.R_far (p := ⟨gb589, 0, none⟩) (Kd.R_types HO587.out BK589.out (by decide)) (fun _ hk => hk.2) (.int .i64 t584)) (fun _ hk => hk.2) (.slice Ao28 t585.length co28)) (fun _ h_ => h_.1))) hb); have n3_ := Aside0.mk (blk_below (g := gb576) (o := .cells #[.int .i64 t569, .slice Ao12 t570.length co12] 25 (0, 0)) (by (with_reducible repeat (first | refine blk_drewN ?_ _ | refine blk_drew ?_ | refine blk_alloc ?_ _)); refine blk_far ?_ NB576_589.out _; (with_reducible repeat (first | refine blk_drewN ?_ _ | refine blk_drew ?_ | refine blk_alloc ?_ _)); refine blk_far ?_ NB576_589.out _; (with_reducible repeat (first | refine blk_drewN ?_ _ | refine blk_drew ?_ | refine blk_alloc ?_ _)); exact BK576.out) hb); have n4_ := Aside0.mk (blk_below (g := gb577) (o := .cells #[.int .i64 t574, .int .i64 t575] 42 (0, 0)) (by (with_reducible repeat (first | refine blk_drewN ?_ _ | refine blk_drew ?_ | refine blk_alloc ?_ _)); refine blk_far ?_ NB577_589.out _; (with_reducible repeat (first | refine blk_drewN ?_ _ | refine blk_drew ?_ | refine blk_alloc ?_ _)); refine blk_far ?_ NB577_589.out _; (with_reducible repeat (first | refine blk_drewN ?_ _ | refine blk_drew ?_ | refine blk_alloc ?_ _)); exact BK577.out) hb); have n5_ := Aside0.mk (blk_below (g := gb583) (o := .cells #[.int .i64 t578, .slice Ao19 t579.length co19] 25 (0, 0)) (by (with_reducible repeat (first | refine blk_drewN ?_ _ | refine blk_drew ?_ | refine blk_alloc ?_ _)); refine blk_far ?_ NB583_589.out _; (with_reducible repeat (first | refine blk_drewN ?_ _ | refine blk_drew ?_ | refine blk_alloc ?_ _)); refine blk_far ?_ NB583_589.out _; (with_reducible repeat (first | refine blk_drewN ?_ _ | refine blk_drew ?_ | refine blk_alloc ?_ _)); exact BK583.out) hb); have n6_ := Aside0.mk (blk_below (g := gb589) (o := .cells #[.int .i64 t584, .slice Ao28 t585.length co28] 25 (0, 0)) (by (with_reducible repeat (first | refine blk_drewN ?_ _ | refine blk_drew ?_ | refine blk_alloc ?_ _)); refine blk_put (cs := #[.int .i64 t584, .slice none 0 0]) ?_ 1 _ rfl; (with_reducible repeat (first | refine blk_drewN ?_ _ | refine blk_drew ?_ | refine blk_alloc ?_ _)); refine blk_put (cs := #[.int .i64 0, .slice none 0 0]) ?_ 0 _ rfl; (with_reducible repeat (first | refine blk_drewN ?_ _ | refine blk_drew ?_ | refine blk_alloc ?_ _)); exact BK589.out) hb); have n7_ := Aside0.mk (below_step (by repeat (first | (with_reducible first | exact HB.out | apply below_alloc | apply pw_below_drewN | apply below_drew1 | refine below_set ?_ GE576.out | refine below_set ?_ GE577.out | refine below_set ?_ GE583.out | refine below_set ?_ GE589.out) | exact HB.out)) hb); clear HO572; clear HO581; clear HO587; clear BK576; clear BK577; clear BK583; clear BK589; clear HB; have HO572 := n0_; have HO581 := n1_; have HO587 := n2_; have BK576 := n3_; have BK577 := n4_; have BK583 := n5_; have BK589 := n6_; have HB := n7_; clear n0_ n1_ n2_ n3_ n4_ n5_ n6_ n7_; (try clear hb); (try clear hb2); (try clear hk); (try clear hi)))
     go_meet
     case rel => exact ⟨_, (true), (by first | rfl | (simp; done) | (simp [*]; done)), H', ⟨by first | omega | exact Nat.le_refl _⟩, ⟨by (with_reducible repeat (first | apply Kd.Q_alloc | apply Kd.Q_drewN | apply Kd.Q_drew)); exact Kd.Q_mono HO572.out (fun _ hk => ⟨hk.1.2, ⟨hk.2, hk.1.1.2⟩⟩)⟩, ⟨Kd.Q_of_R (by (with_reducible repeat (first | apply Kd.R_alloc | apply Kd.R_drewN | apply Kd.R_drew)); exact Kd.R_mono HO581.out (fun _ hk => ⟨hk.1.1.2, ⟨hk.2, hk.1.2⟩⟩))⟩, ⟨Kd.Q_of_R (by (with_reducible repeat (first | apply Kd.R_alloc | apply Kd.R_drewN | apply Kd.R_drew)); exact Kd.R_mono HO587.out (fun _ hk => ⟨hk.1.1.2, ⟨hk.1.2, hk.2⟩⟩))⟩, ⟨by (with_reducible repeat (first | refine blk_drewN ?_ _ | refine blk_drew ?_ | refine blk_alloc ?_ _)); exact BK576.out⟩, ⟨by (with_reducible repeat (first | refine blk_drewN ?_ _ | refine blk_drew ?_ | refine blk_alloc ?_ _)); exact BK577.out⟩, ⟨by (with_reducible repeat (first | refine blk_drewN ?_ _ | refine blk_drew ?_ | refine blk_alloc ?_ _)); exact BK583.out⟩, ⟨by (with_reducible repeat (first | refine blk_drewN ?_ _ | refine blk_drew ?_ | refine blk_alloc ?_ _)); exact BK589.out⟩, ⟨by repeat (first | (with_reducible first | exact HB.out | apply below_alloc | apply pw_below_drewN | apply below_drew1 | refine below_set ?_ GE576.out | refine below_set ?_ GE577.out | refine below_set ?_ GE583.out | refine below_set ?_ GE589.out) | exact HB.out)⟩⟩
  case rest =>
   clear HC6
   try clear c1
   try clear c2
   try clear c2b0
   try clear c2b1
   try clear p2
   try clear c3
   try clear c4
   try clear c10
   try clear c16
   try clear c17
   try clear c24
   try clear c25
   try clear c26
   try clear c27
   try clear c29
   try clear c29b0
   try clear c29b1
   try clear c29b2
   try clear c31
   try clear c32
   try clear c33
   try clear c34
   try clear c36
   try clear c37
   try clear c40
   try clear c41
   try clear c42
   try clear c44
   try clear c45
   try clear hcz11_0
   try clear hcz11_1
   try clear hcz13_0
   try clear hcz13_1
   try clear hcz18_0
   try clear hcz18_1
   try clear hcz20_0
   try clear hcz20_1
   try clear hcz21_0
   try clear hcz21_1
   try clear hcz27_0
   try clear hcz27_1
   try clear hcz35_0
   try clear hcz35_1
   try clear hcz38_0
   try clear hcz38_1
   try clear hcz43_0
   try clear hcz43_1
   try clear hcz46_0
   try clear hcz46_1
   try clear hfz11_0
   try clear hfz11_1
   try clear hfz13_0
   try clear hfz13_1
   try clear hfz18_0
   try clear hfz18_1
   try clear hfz20_0
   try clear hfz20_1
   try clear hfz21_0
   try clear hfz21_1
   try clear hfz27_0
   try clear hfz27_1
   try clear hfz35_0
   try clear hfz35_1
   try clear hfz38_0
   try clear hfz38_1
   try clear hfz43_0
   try clear hfz43_1
   try clear hfz46_0
   try clear hfz46_1
   obtain ⟨kq, x48_5, rfl, HA, HJ5, HO_577001, HO_584001, HO_590001, BK576, BK577, BK583, BK589, HB⟩ := hcut
   cases kq with
   | zero => exact absurd HA.out (by simp [laws_FnPutThere.j0])
   | succ kj5 =>
    have H := HA.out
    clear HA
    simp only [laws_FnPutThere.j0] at H
    by_cases c48 : x48_5 = true
    ·subst c48
     have H1 : (if (t588 == t582) = true then ((laws_llGrid.f kj5 t584 t585 t578 t579).bind fun t591 => (some t591)) else (some false)) = some r := by rw [if_pos rfl] at H; exact H
     clear H
     have H := H1
     clear H1
     by_cases c49 : (t588 == t582) = true
     ·rw [if_pos c49] at H
      have c49b0 : (t588 == t582) = true := c49
      (try (have c49b1 : decide (t588 = t582) = true := by simpa using c49))
      (try (have c49b2 : (t588 == t582) = true := by simpa using c49))
      clear c49
      replace H := Option.bind_eq_some_iff.mp H
      obtain ⟨t591, A500, H⟩ := H
      replace H : (some t591) = some r := H
      have A50 := Aside0.mk A500
      clear A500
      obtain rfl := Option.some.inj H
      have hnb51 := NB589_576.out
      have hnc51 := NB576_589.out
      have hnb52 := NB589_577.out
      have hnc52 := NB577_589.out
      have hnb53 := NB589_583.out
      have hnc53 := NB583_589.out
      have hcz54_0 : wc.cell? ⟨gb589, 0, none⟩ = some (.int .i64 t584) := (blk_cell BK589.out 0).trans rfl
      have hcz54_1 : wc.cell? ⟨gb589, 1, none⟩ = some (.slice Ao28 t585.length co28) := (blk_cell BK589.out 1).trans rfl
      have hfz54_0 := blk_frozen BK589.out 0
      have hfz54_1 := blk_frozen BK589.out 1
      have hnb55 := NB583_576.out
      have hnc55 := NB576_583.out
      have hnb56 := NB583_577.out
      have hnc56 := NB577_583.out
      have hcz57_0 : wc.cell? ⟨gb583, 0, none⟩ = some (.int .i64 t578) := (blk_cell BK583.out 0).trans rfl
      have hcz57_1 : wc.cell? ⟨gb583, 1, none⟩ = some (.slice Ao19 t579.length co19) := (blk_cell BK583.out 1).trans rfl
      have hfz57_0 := blk_frozen BK583.out 0
      have hfz57_1 := blk_frozen BK583.out 1
      go_wp2_with (first | (go_at_call 28; (with_reducible refine (laws_llGrid.calls kj5 t584 _ _ t585 t578 _ _ t579 t591 _ ?side1 ?side2 ?side3 ?side4 A50.out).mono ?_); (case side1 => repeat (first | exact (Kd.Q_reads' HO_590001.out).2.2 | (with_reducible refine Kd.C_alloc ?_ _) | (with_reducible refine Kd.C_drewN ?_ _) | (with_reducible refine Kd.C_drew ?_))); (case side2 => exact (Kd.Q_reads' HO_590001.out).2.1); (case side3 => repeat (first | exact (Kd.Q_reads' HO_584001.out).2.2 | (with_reducible refine Kd.C_alloc ?_ _) | (with_reducible refine Kd.C_drewN ?_ _) | (with_reducible refine Kd.C_drew ?_))); (case side4 => exact (Kd.Q_reads' HO_584001.out).2.1); rintro e w58 ⟨rfl, hb⟩; have n0_ := Aside0.mk (Kd.Q_below (by (with_reducible repeat (first | apply Kd.Q_alloc | apply Kd.Q_drewN | apply Kd.Q_drew)); exact HO_577001.out) hb); have n1_ := Aside0.mk (Kd.Q_below (by (with_reducible repeat (first | apply Kd.Q_alloc | apply Kd.Q_drewN | apply Kd.Q_drew)); exact HO_584001.out) hb); have n2_ := Aside0.mk (Kd.Q_below (by (with_reducible repeat (first | apply Kd.Q_alloc | apply Kd.Q_drewN | apply Kd.Q_drew)); exact HO_590001.out) hb); have n3_ := Aside0.mk (blk_below (bK BK576.out) hb); have n4_ := Aside0.mk (blk_below (bK BK577.out) hb); have n5_ := Aside0.mk (blk_below (bK BK583.out) hb); have n6_ := Aside0.mk (blk_below (bK BK589.out) hb); have n7_ := Aside0.mk (below_step (by repeat (first | (with_reducible first | exact HB.out | apply below_alloc | apply pw_below_drewN | apply below_drew1 | refine below_set ?_ GE576.out | refine below_set ?_ GE577.out | refine below_set ?_ GE583.out | refine below_set ?_ GE589.out) | exact HB.out)) hb); clear HO_577001; clear HO_584001; clear HO_590001; clear BK576; clear BK577; clear BK583; clear BK589; clear HB; have HO_577001 := n0_; have HO_584001 := n1_; have HO_590001 := n2_; have BK576 := n3_; have BK577 := n4_; have BK583 := n5_; have BK589 := n6_; have HB := n7_; clear n0_ n1_ n2_ n3_ n4_ n5_ n6_ n7_; (try clear hb); (try clear hb2); (try clear hk); (try clear hi)))
      go_ret
      exact ⟨by first | rfl | (simp [errW_none, errW_some] <;> rfl) | (simp [*, errW_none, errW_some] <;> rfl) | (exfalso; simp_all; done), by repeat (first | (with_reducible first | exact HB.out | apply below_alloc | apply pw_below_drewN | apply below_drew1 | refine below_set ?_ GE576.out | refine below_set ?_ GE577.out | refine below_set ?_ GE583.out | refine below_set ?_ GE589.out) | exact HB.out)⟩
     ·rw [if_neg c49] at H
      have c49b0 : (t588 == t582) = false := by simpa using c49
      (try (have c49b1 : decide (t588 = t582) = false := by simpa using c49))
      (try (have c49b2 : (t588 == t582) = false := by simpa using c49))
      (try (have c49b3 : ¬ (t588 = t582) := by simpa using c49))
      clear c49
      obtain rfl := Option.some.inj H
      exact absurd HRT.out (by decide)
    ·replace c48 := Bool.eq_false_iff.mpr c48
     subst c48
     have H1 : (laws_FnPutThere.l0 kj5 t573 0 t569 t570 t574 t575 t584 t585) = some r := by rw [if_neg (show ¬ (false = true) by decide)] at H; exact H
     clear H
     have H := H1
     clear H1
     have H' := Aside0.mk H
     clear H
     go_wp2
     go_loopg [10] kj5 (fun kq v10 w' => ∃ (x10_2 : Int), v10 = .int .i64 x10_2 ∧ Aside0 (laws_FnPutThere.l0 kq t573 x10_2 t569 t570 t574 t575 t584 t585 = some r) ∧ Aside0 (kq ≤ kj5) ∧ Aside0 (Kd.Q k42 42 w' w.heap.size (fun k_ => some k_ ≠ ((.slice Ao19 t579.length co19) : Value).ownBlock ∧ some k_ ≠ ((.slice Ao28 t585.length co28) : Value).ownBlock ∧ k_ ≠ gb577) (.slice Ao12 t570.length co12) t570) ∧ Aside0 (Kd.Q k42 42 w' w.heap.size (fun k_ => some k_ ≠ ((.slice Ao12 t570.length co12) : Value).ownBlock ∧ some k_ ≠ ((.slice Ao28 t585.length co28) : Value).ownBlock ∧ k_ ≠ gb577) (.slice Ao19 t579.length co19) t579) ∧ Aside0 (Kd.Q k42 42 w' w.heap.size (fun k_ => some k_ ≠ ((.slice Ao12 t570.length co12) : Value).ownBlock ∧ some k_ ≠ ((.slice Ao19 t579.length co19) : Value).ownBlock ∧ k_ ≠ gb577) (.slice Ao28 t585.length co28) t585) ∧ Aside0 (w'.heap[gb576]? = some (.cells #[.int .i64 t569, (.slice Ao12 t570.length co12)] 25 (0, 0))) ∧ Aside0 (w'.heap[gb577]? = some (.cells #[.int .i64 t574, .int .i64 t575] 42 (0, 0))) ∧ Aside0 (w'.heap[gb583]? = some (.cells #[.int .i64 t578, (.slice Ao19 t579.length co19)] 25 (0, 0))) ∧ Aside0 (w'.heap[gb589]? = some (.cells #[.int .i64 t584, (.slice Ao28 t585.length co28)] 25 (0, 0))) ∧ Aside0 (Below w.heap.size w w'))
     case atStart => exact ⟨(0), (by first | rfl | (simp; done) | (simp [*]; done)), H', ⟨Nat.le_refl _⟩, ⟨by (with_reducible repeat (first | apply Kd.Q_alloc | apply Kd.Q_drewN | apply Kd.Q_drew)); exact HO_577001.out⟩, ⟨by (with_reducible repeat (first | apply Kd.Q_alloc | apply Kd.Q_drewN | apply Kd.Q_drew)); exact HO_584001.out⟩, ⟨by (with_reducible repeat (first | apply Kd.Q_alloc | apply Kd.Q_drewN | apply Kd.Q_drew)); exact HO_590001.out⟩, ⟨by (with_reducible repeat (first | refine blk_drewN ?_ _ | refine blk_drew ?_ | refine blk_alloc ?_ _)); exact BK576.out⟩, ⟨by (with_reducible repeat (first | refine blk_drewN ?_ _ | refine blk_drew ?_ | refine blk_alloc ?_ _)); exact BK577.out⟩, ⟨by (with_reducible repeat (first | refine blk_drewN ?_ _ | refine blk_drew ?_ | refine blk_alloc ?_ _)); exact BK583.out⟩, ⟨by (with_reducible repeat (first | refine blk_drewN ?_ _ | refine blk_drew ?_ | refine blk_alloc ?_ _)); exact BK589.out⟩, ⟨by repeat (first | (with_reducible first | exact HB.out | apply below_alloc | apply pw_below_drewN | apply below_drew1 | refine below_set ?_ GE576.out | refine below_set ?_ GE577.out | refine below_set ?_ GE583.out | refine below_set ?_ GE589.out) | exact HB.out)⟩⟩
     case round =>
      clear H'
      try clear c1
      try clear c2
      try clear c2b0
      try clear c2b1
      try clear p2
      try clear c3
      try clear c4
      try clear c5
      try clear c10
      try clear c16
      try clear c17
      try clear c24
      try clear c25
      try clear c26
      try clear c27
      try clear c29
      try clear c29b0
      try clear c29b1
      try clear c29b2
      try clear c31
      try clear c32
      try clear c33
      try clear c34
      try clear c36
      try clear c37
      try clear c40
      try clear c41
      try clear c42
      try clear c44
      try clear c45
      try clear c48
      try clear c49
      try clear c49b0
      try clear c49b1
      try clear c49b2
      try clear c51
      try clear c52
      try clear c53
      try clear c55
      try clear c56
      try clear hcz11_0
      try clear hcz11_1
      try clear hcz13_0
      try clear hcz13_1
      try clear hcz18_0
      try clear hcz18_1
      try clear hcz20_0
      try clear hcz20_1
      try clear hcz21_0
      try clear hcz21_1
      try clear hcz27_0
      try clear hcz27_1
      try clear hcz35_0
      try clear hcz35_1
      try clear hcz38_0
      try clear hcz38_1
      try clear hcz43_0
      try clear hcz43_1
      try clear hcz46_0
      try clear hcz46_1
      try clear hcz54_0
      try clear hcz54_1
      try clear hcz57_0
      try clear hcz57_1
      try clear hfz11_0
      try clear hfz11_1
      try clear hfz13_0
      try clear hfz13_1
      try clear hfz18_0
      try clear hfz18_1
      try clear hfz20_0
      try clear hfz20_1
      try clear hfz21_0
      try clear hfz21_1
      try clear hfz27_0
      try clear hfz27_1
      try clear hfz35_0
      try clear hfz35_1
      try clear hfz38_0
      try clear hfz38_1
      try clear hfz43_0
      try clear hfz43_1
      try clear hfz46_0
      try clear hfz46_1
      try clear hfz54_0
      try clear hfz54_1
      try clear hfz57_0
      try clear hfz57_1
      try clear p2
      obtain ⟨x10_2, rfl, HA, HK2, HO_577001, HO_584001, HO_590001, BK576, BK577, BK583, BK589, HB⟩ := hrel
      cases gk with
      | zero => exact absurd HA.out (by simp [laws_FnPutThere.l0])
      | succ k2 =>
       have H := HA.out
       clear HA
       simp only [laws_FnPutThere.l0] at H
       by_cases c59 : x10_2 < (t570.length : Int)
       ·rw [if_pos c59] at H
        have c59b0 : decide (x10_2 < (t570.length : Int)) = true := decide_eq_true c59
        clear c59
        by_cases c60 : x10_2 = t573
        ·rw [if_pos c60] at H
         have c60b0 : (x10_2 == t573) = true := beq_iff_eq.mpr c60
         have c60b1 : (x10_2 != t573) = false := bne_eq_false_iff_eq.mpr c60
         clear c60
         by_cases c61 : 0 ≤ x10_2
         ·rw [if_pos c61] at H
          have c61b0 : decide (0 ≤ x10_2) = true := decide_eq_true c61
          clear c61
          by_cases c62 : x10_2 < (t585.length : Int)
          ·rw [if_pos c62] at H
           have c62b0 : decide (x10_2 < (t585.length : Int)) = true := decide_eq_true c62
           clear c62
           by_cases c63 : (!(((rd_T42 t585 x10_2).f0) == t574) || (!(((rd_T42 t585 x10_2).f1) == t575))) = true
           ·rw [if_pos c63] at H
            have c63b0 : (!(((rd_T42 t585 x10_2).f0) == t574) || (!(((rd_T42 t585 x10_2).f1) == t575))) = true := c63
            clear c63
            obtain rfl := Option.some.inj H
            exact absurd HRT.out (by decide)
           ·rw [if_neg c63] at H
            have c63b0 : (!(((rd_T42 t585 x10_2).f0) == t574) || (!(((rd_T42 t585 x10_2).f1) == t575))) = false := by simpa using c63
            clear c63
            have H' := Aside0.mk H
            clear H
            have hnb64 := NB576_577.out
            have hnc64 := NB577_576.out
            have hnb65 := NB576_583.out
            have hnc65 := NB583_576.out
            have hnb66 := NB576_589.out
            have hnc66 := NB589_576.out
            have hcz67_0 : wr.cell? ⟨gb576, 0, none⟩ = some (.int .i64 t569) := (blk_cell BK576.out 0).trans rfl
            have hcz67_1 : wr.cell? ⟨gb576, 1, none⟩ = some (.slice Ao12 t570.length co12) := (blk_cell BK576.out 1).trans rfl
            have hfz67_0 := blk_frozen BK576.out 0
            have hfz67_1 := blk_frozen BK576.out 1
            try go_wp2
            have n0_ := Aside0.mk (Kd.Q_drew HO_577001.out)
            have n1_ := Aside0.mk (Kd.Q_drew HO_584001.out)
            have n2_ := Aside0.mk (Kd.Q_drew HO_590001.out)
            have n3_ := Aside0.mk (blk_drew BK576.out)
            have n4_ := Aside0.mk (blk_drew BK577.out)
            have n5_ := Aside0.mk (blk_drew BK583.out)
            have n6_ := Aside0.mk (blk_drew BK589.out)
            have n7_ := Aside0.mk (below_drew1 HB.out)
            clear HO_577001
            clear HO_584001
            clear HO_590001
            clear BK576
            clear BK577
            clear BK583
            clear BK589
            clear HB
            have HO_577001 := n0_
            have HO_584001 := n1_
            have HO_590001 := n2_
            have BK576 := n3_
            have BK577 := n4_
            have BK583 := n5_
            have BK589 := n6_
            have HB := n7_
            clear n0_ n1_ n2_ n3_ n4_ n5_ n6_ n7_
            have p592 : 0 ≤ (x10_2 : Int) := of_decide_eq_true (by first | (with_reducible assumption) | assumption)
            have q592 : x10_2 < (t585.length : Int) := of_decide_eq_true (by first | (with_reducible assumption) | assumption)
            obtain ⟨ad592, e592, hx592_0, hx592_1⟩ := at_T42 (Kd.Q_reads' HO_590001.out).2.2 x10_2 p592 q592
            cases e592
            replace p592 := eq_true p592
            replace q592 := eq_true q592
            refine start_ (n := 30) (S := fun w' => w'.cell? ⟨gb589, 0, none⟩ = some (.int .i64 t584) ∧ w'.cell? ⟨gb589, 1, none⟩ = some (.slice (some ad592) t585.length co28) ∧ w'.cell? ⟨gb577, 0, none⟩ = some (.int .i64 t574) ∧ w'.cell? ⟨gb577, 1, none⟩ = some (.int .i64 t575) ∧ w'.cell? (ad592.add ((x10_2).toNat * 2)) = some (.int .i64 ((rd_T42 t585 x10_2).f0)) ∧ w'.cell? ⟨(ad592.add ((x10_2).toNat * 2)).block, (ad592.add ((x10_2).toNat * 2)).off + 1, none⟩ = some (.int .i64 ((rd_T42 t585 x10_2).f1))) (ds := []) #[false, false, false, false, false, false, false, false, false, false, false, false, false, false, false, false, false, false, false, false, false, false, false, false, false, false, false, false, false, false] (by kernel_rfl) rfl rfl ⟨(blk_cell BK589.out 0).trans rfl, (blk_cell BK589.out 1).trans rfl, (blk_cell BK577.out 0).trans rfl, (blk_cell BK577.out 1).trans rfl, hx592_0, hx592_1⟩ (fun hHeld => ?_); refine with_tabW laws_FnPutThere.tab11 laws_FnPutThere.bits11 (fun HT_ HW_ => ?_)
            generalize wr.drew = w68 at HO_577001 HO_584001 HO_590001 BK576 BK577 BK583 BK589 HB hx592_0 hx592_1 hHeld ⊢
            refine pure_ (i := 0) (N := some 64) (v := ?_) (a' := ?_) #[true, false, false, false, false, false, false, false, false, false, false, false, false, false, false, false, false, false, false, false, false, false, false, false, false, false, false, false, false, false] rfl rfl (any_of HT_.out (by kernel_rfl)) (fun _ _ _ h => h) (Or.inl ⟨by rfl, ?_⟩) ?_ ?_
            rotate_left
            ·intro w'
             go_simp
             with_reducible rfl
            rotate_left
            ·simp only [Act.put, List.setIfInBounds_toArray, List.set_cons_zero, List.set_cons_succ, i64_w, i32_w]
             rfl
            refine pure_ (i := 1) (N := some 65) (v := ?_) (a' := ?_) #[true, true, false, false, false, false, false, false, false, false, false, false, false, false, false, false, false, false, false, false, false, false, false, false, false, false, false, false, false, false] rfl rfl (any_of HT_.out (by kernel_rfl)) (fun _ _ _ h => h) (Or.inl ⟨by rfl, ?_⟩) ?_ ?_
            rotate_left
            ·intro w'
             go_simp
             with_reducible rfl
            rotate_left
            ·simp only [Act.put, List.setIfInBounds_toArray, List.set_cons_zero, List.set_cons_succ, i64_w, i32_w]
             rfl
            refine pure_ (i := 2) (N := some 66) (v := ?_) (a' := ?_) #[true, true, true, false, false, false, false, false, false, false, false, false, false, false, false, false, false, false, false, false, false, false, false, false, false, false, false, false, false, false] rfl rfl (any_of HT_.out (by kernel_rfl)) (fun _ _ _ h => h) (Or.inl ⟨by rfl, ?_⟩) ?_ ?_
            rotate_left
            ·intro w'
             go_simp
             with_reducible rfl
            rotate_left
            ·simp only [Act.put, List.setIfInBounds_toArray, List.set_cons_zero, List.set_cons_succ, i64_w, i32_w]
             rfl
            refine pure_ (i := 3) (N := some 67) (v := ?_) (a' := ?_) #[true, true, true, true, false, false, false, false, false, false, false, false, false, false, false, false, false, false, false, false, false, false, false, false, false, false, false, false, false, false] rfl rfl (any_of HT_.out (by kernel_rfl)) (fun _ _ _ h => h) (Or.inl ⟨by rfl, ?_⟩) ?_ ?_
            rotate_left
            ·intro w'
             go_simp
             with_reducible rfl
            rotate_left
            ·simp only [Act.put, List.setIfInBounds_toArray, List.set_cons_zero, List.set_cons_succ, i64_w, i32_w]
             rfl
            refine pure_ (i := 4) (N := some 68) (v := ?_) (a' := ?_) #[true, true, true, true, true, false, false, false, false, false, false, false, false, false, false, false, false, false, false, false, false, false, false, false, false, false, false, false, false, false] rfl rfl (any_of HT_.out (by kernel_rfl)) (fun _ _ _ h => h) (Or.inl ⟨by rfl, ?_⟩) ?_ ?_
            rotate_left
            ·intro w'
             go_simp
             with_reducible rfl
            rotate_left
            ·simp only [Act.put, List.setIfInBounds_toArray, List.set_cons_zero, List.set_cons_succ, i64_w, i32_w]
             rfl
            refine pure_ (i := 6) (N := some 70) (v := ?_) (a' := ?_) #[true, true, true, true, true, false, true, false, false, false, false, false, false, false, false, false, false, false, false, false, false, false, false, false, false, false, false, false, false, false] rfl rfl (any_of HT_.out (by kernel_rfl)) (fun _ _ _ h => h) (Or.inl ⟨by rfl, ?_⟩) ?_ ?_
            rotate_left
            ·intro w'
             go_simp
             with_reducible rfl
            rotate_left
            ·simp only [Act.put, List.setIfInBounds_toArray, List.set_cons_zero, List.set_cons_succ, i64_w, i32_w]
             rfl
            refine take_ (i := 5) (N := some 69) (v := ?_) (a' := ?_) #[true, true, true, true, true, true, true, false, false, false, false, false, false, false, false, false, false, false, false, false, false, false, false, false, false, false, false, false, false, false] rfl rfl (take_ofW HT_.out HW_.out (by kernel_rfl)) (fun _ _ _ h => h) (Or.inl ⟨by rfl, ?_⟩) hHeld ?_ ?_
            rotate_left
            ·rintro w' ⟨s0, s1, s2, s3, s4, s5⟩
             go_simp
             with_reducible rfl
            rotate_left
            ·simp only [Act.put, List.setIfInBounds_toArray, List.set_cons_zero, List.set_cons_succ, i64_w, i32_w]
             rfl
            refine pure_ (i := 7) (N := some 71) (v := ?_) (a' := ?_) #[true, true, true, true, true, true, true, true, false, false, false, false, false, false, false, false, false, false, false, false, false, false, false, false, false, false, false, false, false, false] rfl rfl (any_of HT_.out (by kernel_rfl)) (fun _ _ _ h => h) (Or.inl ⟨by rfl, ?_⟩) ?_ ?_
            rotate_left
            ·intro w'
             go_simp
             with_reducible rfl
            rotate_left
            ·simp only [Act.put, List.setIfInBounds_toArray, List.set_cons_zero, List.set_cons_succ, i64_w, i32_w]
             rfl
            refine take_ (i := 8) (N := some 72) (v := ?_) (a' := ?_) #[true, true, true, true, true, true, true, true, true, false, false, false, false, false, false, false, false, false, false, false, false, false, false, false, false, false, false, false, false, false] rfl rfl (take_ofW HT_.out HW_.out (by kernel_rfl)) (fun _ _ _ h => h) (Or.inl ⟨by rfl, ?_⟩) hHeld ?_ ?_
            rotate_left
            ·rintro w' ⟨s0, s1, s2, s3, s4, s5⟩
             go_simp
             with_reducible rfl
            rotate_left
            ·simp only [Act.put, List.setIfInBounds_toArray, List.set_cons_zero, List.set_cons_succ, i64_w, i32_w]
             rfl
            refine take_ (i := 9) (N := some 73) (v := ?_) (a' := ?_) #[true, true, true, true, true, true, true, true, true, true, false, false, false, false, false, false, false, false, false, false, false, false, false, false, false, false, false, false, false, false] rfl rfl (take_ofW HT_.out HW_.out (by kernel_rfl)) (fun _ _ _ h => h) (Or.inl ⟨by rfl, ?_⟩) hHeld ?_ ?_
            rotate_left
            ·rintro w' ⟨s0, s1, s2, s3, s4, s5⟩
             go_simp
             with_reducible rfl
            rotate_left
            ·simp only [Act.put, List.setIfInBounds_toArray, List.set_cons_zero, List.set_cons_succ, i64_w, i32_w]
             rfl
            refine pure_ (i := 10) (N := some 74) (v := ?_) (a' := ?_) #[true, true, true, true, true, true, true, true, true, true, true, false, false, false, false, false, false, false, false, false, false, false, false, false, false, false, false, false, false, false] rfl rfl (any_of HT_.out (by kernel_rfl)) (fun _ _ _ h => h) (Or.inl ⟨by rfl, ?_⟩) ?_ ?_
            rotate_left
            ·intro w'
             go_simp
             with_reducible rfl
            rotate_left
            ·simp only [Act.put, List.setIfInBounds_toArray, List.set_cons_zero, List.set_cons_succ, i64_w, i32_w]
             rfl
            refine pure_ (i := 11) (N := some 75) (v := ?_) (a' := ?_) #[true, true, true, true, true, true, true, true, true, true, true, true, false, false, false, false, false, false, false, false, false, false, false, false, false, false, false, false, false, false] rfl rfl (any_of HT_.out (by kernel_rfl)) (fun _ _ _ h => h) (Or.inl ⟨by rfl, ?_⟩) ?_ ?_
            rotate_left
            ·intro w'
             go_simp
             with_reducible rfl
            rotate_left
            ·simp only [Act.put, List.setIfInBounds_toArray, List.set_cons_zero, List.set_cons_succ, i64_w, i32_w]
             rfl
            refine pure_ (i := 12) (N := some 76) (v := ?_) (a' := ?_) #[true, true, true, true, true, true, true, true, true, true, true, true, true, false, false, false, false, false, false, false, false, false, false, false, false, false, false, false, false, false] rfl rfl (any_of HT_.out (by kernel_rfl)) (fun _ _ _ h => h) (Or.inl ⟨by rfl, ?_⟩) ?_ ?_
            rotate_left
            ·intro w'
             go_simp
             with_reducible rfl
            rotate_left
            ·simp only [Act.put, List.setIfInBounds_toArray, List.set_cons_zero, List.set_cons_succ, i64_w, i32_w]
             rfl
            refine pure_ (i := 13) (N := some 77) (v := ?_) (a' := ?_) #[true, true, true, true, true, true, true, true, true, true, true, true, true, true, false, false, false, false, false, false, false, false, false, false, false, false, false, false, false, false] rfl rfl (any_of HT_.out (by kernel_rfl)) (fun _ _ _ h => h) (Or.inl ⟨by rfl, ?_⟩) ?_ ?_
            rotate_left
            ·intro w'
             go_simp
             with_reducible rfl
            rotate_left
            ·simp only [Act.put, List.setIfInBounds_toArray, List.set_cons_zero, List.set_cons_succ, i64_w, i32_w]
             rfl
            refine pure_ (i := 14) (N := some 78) (v := ?_) (a' := ?_) #[true, true, true, true, true, true, true, true, true, true, true, true, true, true, true, false, false, false, false, false, false, false, false, false, false, false, false, false, false, false] rfl rfl (any_of HT_.out (by kernel_rfl)) (fun _ _ _ h => h) (Or.inl ⟨by rfl, ?_⟩) ?_ ?_
            rotate_left
            ·intro w'
             go_simp
             with_reducible rfl
            rotate_left
            ·simp only [Act.put, List.setIfInBounds_toArray, List.set_cons_zero, List.set_cons_succ, i64_w, i32_w]
             rfl
            refine pure_ (i := 15) (N := some 79) (v := ?_) (a' := ?_) #[true, true, true, true, true, true, true, true, true, true, true, true, true, true, true, true, false, false, false, false, false, false, false, false, false, false, false, false, false, false] rfl rfl (any_of HT_.out (by kernel_rfl)) (fun _ _ _ h => h) (Or.inl ⟨by rfl, ?_⟩) ?_ ?_
            rotate_left
            ·intro w'
             go_simp
             with_reducible rfl
            rotate_left
            ·simp only [Act.put, List.setIfInBounds_toArray, List.set_cons_zero, List.set_cons_succ, i64_w, i32_w]
             rfl
            refine pure_ (i := 16) (N := some 80) (v := ?_) (a' := ?_) #[true, true, true, true, true, true, true, true, true, true, true, true, true, true, true, true, true, false, false, false, false, false, false, false, false, false, false, false, false, false] rfl rfl (any_of HT_.out (by kernel_rfl)) (fun _ _ _ h => h) (Or.inl ⟨by rfl, ?_⟩) ?_ ?_
            rotate_left
            ·intro w'
             go_simp
             with_reducible rfl
            rotate_left
            ·simp only [Act.put, List.setIfInBounds_toArray, List.set_cons_zero, List.set_cons_succ, i64_w, i32_w]
             rfl
            refine pure_ (i := 17) (N := some 81) (v := undef) (a' := ?_) #[true, true, true, true, true, true, true, true, true, true, true, true, true, true, true, true, true, true, false, false, false, false, false, false, false, false, false, false, false, false] rfl rfl (any_of HT_.out (by kernel_rfl)) (fun _ _ _ h => h) (Or.inr ⟨by rfl, rfl⟩) ?_ ?_
            rotate_left
            ·simp only [Act.put, List.setIfInBounds_toArray, List.set_cons_zero, List.set_cons_succ, i64_w, i32_w]
             rfl
            refine pure_ (i := 18) (N := some 82) (v := undef) (a' := ?_) #[true, true, true, true, true, true, true, true, true, true, true, true, true, true, true, true, true, true, true, false, false, false, false, false, false, false, false, false, false, false] rfl rfl (any_of HT_.out (by kernel_rfl)) (fun _ _ _ h => h) (Or.inr ⟨by rfl, rfl⟩) ?_ ?_
            rotate_left
            ·simp only [Act.put, List.setIfInBounds_toArray, List.set_cons_zero, List.set_cons_succ, i64_w, i32_w]
             rfl
            refine pure_ (i := 19) (N := some 83) (v := undef) (a' := ?_) #[true, true, true, true, true, true, true, true, true, true, true, true, true, true, true, true, true, true, true, true, false, false, false, false, false, false, false, false, false, false] rfl rfl (any_of HT_.out (by kernel_rfl)) (fun _ _ _ h => h) (Or.inr ⟨by rfl, rfl⟩) ?_ ?_
            rotate_left
            ·simp only [Act.put, List.setIfInBounds_toArray, List.set_cons_zero, List.set_cons_succ, i64_w, i32_w]
             rfl
            refine pure_ (i := 20) (N := some 84) (v := undef) (a' := ?_) #[true, true, true, true, true, true, true, true, true, true, true, true, true, true, true, true, true, true, true, true, true, false, false, false, false, false, false, false, false, false] rfl rfl (any_of HT_.out (by kernel_rfl)) (fun _ _ _ h => h) (Or.inr ⟨by rfl, rfl⟩) ?_ ?_
            rotate_left
            ·simp only [Act.put, List.setIfInBounds_toArray, List.set_cons_zero, List.set_cons_succ, i64_w, i32_w]
             rfl
            refine pure_ (i := 21) (N := some 85) (v := undef) (a' := ?_) #[true, true, true, true, true, true, true, true, true, true, true, true, true, true, true, true, true, true, true, true, true, true, false, false, false, false, false, false, false, false] rfl rfl (any_of HT_.out (by kernel_rfl)) (fun _ _ _ h => h) (Or.inr ⟨by rfl, rfl⟩) ?_ ?_
            rotate_left
            ·simp only [Act.put, List.setIfInBounds_toArray, List.set_cons_zero, List.set_cons_succ, i64_w, i32_w]
             rfl
            refine pure_ (i := 22) (N := some 86) (v := undef) (a' := ?_) #[true, true, true, true, true, true, true, true, true, true, true, true, true, true, true, true, true, true, true, true, true, true, true, false, false, false, false, false, false, false] rfl rfl (any_of HT_.out (by kernel_rfl)) (fun _ _ _ h => h) (Or.inr ⟨by rfl, rfl⟩) ?_ ?_
            rotate_left
            ·simp only [Act.put, List.setIfInBounds_toArray, List.set_cons_zero, List.set_cons_succ, i64_w, i32_w]
             rfl
            refine pure_ (i := 23) (N := some 87) (v := undef) (a' := ?_) #[true, true, true, true, true, true, true, true, true, true, true, true, true, true, true, true, true, true, true, true, true, true, true, true, false, false, false, false, false, false] rfl rfl (any_of HT_.out (by kernel_rfl)) (fun _ _ _ h => h) (Or.inr ⟨by rfl, rfl⟩) ?_ ?_
            rotate_left
            ·simp only [Act.put, List.setIfInBounds_toArray, List.set_cons_zero, List.set_cons_succ, i64_w, i32_w]
             rfl
            refine pure_ (i := 24) (N := some 88) (v := undef) (a' := ?_) #[true, true, true, true, true, true, true, true, true, true, true, true, true, true, true, true, true, true, true, true, true, true, true, true, true, false, false, false, false, false] rfl rfl (any_of HT_.out (by kernel_rfl)) (fun _ _ _ h => h) (Or.inr ⟨by rfl, rfl⟩) ?_ ?_
            rotate_left
            ·simp only [Act.put, List.setIfInBounds_toArray, List.set_cons_zero, List.set_cons_succ, i64_w, i32_w]
             rfl
            refine pure_ (i := 25) (N := some 89) (v := undef) (a' := ?_) #[true, true, true, true, true, true, true, true, true, true, true, true, true, true, true, true, true, true, true, true, true, true, true, true, true, true, false, false, false, false] rfl rfl (any_of HT_.out (by kernel_rfl)) (fun _ _ _ h => h) (Or.inr ⟨by rfl, rfl⟩) ?_ ?_
            rotate_left
            ·simp only [Act.put, List.setIfInBounds_toArray, List.set_cons_zero, List.set_cons_succ, i64_w, i32_w]
             rfl
            refine pure_ (i := 26) (N := some 90) (v := undef) (a' := ?_) #[true, true, true, true, true, true, true, true, true, true, true, true, true, true, true, true, true, true, true, true, true, true, true, true, true, true, true, false, false, false] rfl rfl (any_of HT_.out (by kernel_rfl)) (fun _ _ _ h => h) (Or.inr ⟨by rfl, rfl⟩) ?_ ?_
            rotate_left
            ·simp only [Act.put, List.setIfInBounds_toArray, List.set_cons_zero, List.set_cons_succ, i64_w, i32_w]
             rfl
            refine pure_ (i := 27) (N := some 91) (v := undef) (a' := ?_) #[true, true, true, true, true, true, true, true, true, true, true, true, true, true, true, true, true, true, true, true, true, true, true, true, true, true, true, true, false, false] rfl rfl (any_of HT_.out (by kernel_rfl)) (fun _ _ _ h => h) (Or.inr ⟨by rfl, rfl⟩) ?_ ?_
            rotate_left
            ·simp only [Act.put, List.setIfInBounds_toArray, List.set_cons_zero, List.set_cons_succ, i64_w, i32_w]
             rfl
            refine pure_ (i := 28) (N := some 92) (v := ?_) (a' := ?_) #[true, true, true, true, true, true, true, true, true, true, true, true, true, true, true, true, true, true, true, true, true, true, true, true, true, true, true, true, true, false] rfl rfl (any_of HT_.out (by kernel_rfl)) (fun _ _ _ h => h) (Or.inl ⟨by rfl, ?_⟩) ?_ ?_
            rotate_left
            ·intro w'
             go_simp
             with_reducible rfl
            rotate_left
            ·simp only [Act.put, List.setIfInBounds_toArray, List.set_cons_zero, List.set_cons_succ, i64_w, i32_w]
             rfl
            refine pure_ (i := 29) (N := some 93) (v := ?_) (a' := ?_) #[true, true, true, true, true, true, true, true, true, true, true, true, true, true, true, true, true, true, true, true, true, true, true, true, true, true, true, true, true, true] rfl rfl (any_of HT_.out (by kernel_rfl)) (fun _ _ _ h => h) (Or.inl ⟨by rfl, ?_⟩) ?_ ?_
            rotate_left
            ·intro w'
             go_simp
             with_reducible rfl
            rotate_left
            ·simp only [Act.put, List.setIfInBounds_toArray, List.set_cons_zero, List.set_cons_succ, i64_w, i32_w]
             rfl
            refine done_ (done_of HT_.out (by kernel_rfl)) ?_
            try go_wp2
            go_roundg k2
            case measure => have := HJ5.out; have := HK2.out; omega
            case rel => exact ⟨(wrap64 (x10_2 + 1)), (by first | rfl | (simp; done) | (simp [*]; done)), H', ⟨by have := HJ5.out; have := HK2.out; omega⟩, ⟨by (with_reducible repeat (first | apply Kd.Q_alloc | apply Kd.Q_drewN | apply Kd.Q_drew)); exact HO_577001.out⟩, ⟨by (with_reducible repeat (first | apply Kd.Q_alloc | apply Kd.Q_drewN | apply Kd.Q_drew)); exact HO_584001.out⟩, ⟨by (with_reducible repeat (first | apply Kd.Q_alloc | apply Kd.Q_drewN | apply Kd.Q_drew)); exact HO_590001.out⟩, ⟨by (with_reducible repeat (first | refine blk_drewN ?_ _ | refine blk_drew ?_ | refine blk_alloc ?_ _)); exact BK576.out⟩, ⟨by (with_reducible repeat (first | refine blk_drewN ?_ _ | refine blk_drew ?_ | refine blk_alloc ?_ _)); exact BK577.out⟩, ⟨by (with_reducible repeat (first | refine blk_drewN ?_ _ | refine blk_drew ?_ | refine blk_alloc ?_ _)); exact BK583.out⟩, ⟨by (with_reducible repeat (first | refine blk_drewN ?_ _ | refine blk_drew ?_ | refine blk_alloc ?_ _)); exact BK589.out⟩, ⟨by repeat (first | (with_reducible first | exact HB.out | apply below_alloc | apply pw_below_drewN | apply below_drew1 | refine below_set ?_ GE576.out | refine below_set ?_ GE577.out | refine below_set ?_ GE583.out | refine below_set ?_ GE589.out) | exact HB.out)⟩⟩
          ·rw [if_neg c62] at H
           exact absurd H (by simp)
         ·rw [if_neg c61] at H
          exact absurd H (by simp)
        ·rw [if_neg c60] at H
         have c60b0 : (x10_2 == t573) = false := beq_eq_false_iff_ne.mpr c60
         have c60b1 : (x10_2 != t573) = true := bne_iff_ne.mpr c60
         by_cases c69 : 0 ≤ x10_2
         ·rw [if_pos c69] at H
          have c69b0 : decide (0 ≤ x10_2) = true := decide_eq_true c69
          clear c69
          by_cases c70 : x10_2 < (t585.length : Int)
          ·rw [if_pos c70] at H
           have c70b0 : decide (x10_2 < (t585.length : Int)) = true := decide_eq_true c70
           clear c70
           by_cases c71 : (!(((rd_T42 t585 x10_2).f0) == ((rd_T42 t570 x10_2).f0)) || (!(((rd_T42 t585 x10_2).f1) == ((rd_T42 t570 x10_2).f1)))) = true
           ·rw [if_pos c71] at H
            have c71b0 : (!(((rd_T42 t585 x10_2).f0) == ((rd_T42 t570 x10_2).f0)) || (!(((rd_T42 t585 x10_2).f1) == ((rd_T42 t570 x10_2).f1)))) = true := c71
            clear c71
            obtain rfl := Option.some.inj H
            exact absurd HRT.out (by decide)
           ·rw [if_neg c71] at H
            have c71b0 : (!(((rd_T42 t585 x10_2).f0) == ((rd_T42 t570 x10_2).f0)) || (!(((rd_T42 t585 x10_2).f1) == ((rd_T42 t570 x10_2).f1)))) = false := by simpa using c71
            clear c71
            have H' := Aside0.mk H
            clear H
            have hnb72 := NB576_577.out
            have hnc72 := NB577_576.out
            have hnb73 := NB576_583.out
            have hnc73 := NB583_576.out
            have hnb74 := NB576_589.out
            have hnc74 := NB589_576.out
            have hcz75_0 : wr.cell? ⟨gb576, 0, none⟩ = some (.int .i64 t569) := (blk_cell BK576.out 0).trans rfl
            have hcz75_1 : wr.cell? ⟨gb576, 1, none⟩ = some (.slice Ao12 t570.length co12) := (blk_cell BK576.out 1).trans rfl
            have hfz75_0 := blk_frozen BK576.out 0
            have hfz75_1 := blk_frozen BK576.out 1
            try go_wp2
            have n0_ := Aside0.mk (Kd.Q_drew HO_577001.out)
            have n1_ := Aside0.mk (Kd.Q_drew HO_584001.out)
            have n2_ := Aside0.mk (Kd.Q_drew HO_590001.out)
            have n3_ := Aside0.mk (blk_drew BK576.out)
            have n4_ := Aside0.mk (blk_drew BK577.out)
            have n5_ := Aside0.mk (blk_drew BK583.out)
            have n6_ := Aside0.mk (blk_drew BK589.out)
            have n7_ := Aside0.mk (below_drew1 HB.out)
            clear HO_577001
            clear HO_584001
            clear HO_590001
            clear BK576
            clear BK577
            clear BK583
            clear BK589
            clear HB
            have HO_577001 := n0_
            have HO_584001 := n1_
            have HO_590001 := n2_
            have BK576 := n3_
            have BK577 := n4_
            have BK583 := n5_
            have BK589 := n6_
            have HB := n7_
            clear n0_ n1_ n2_ n3_ n4_ n5_ n6_ n7_
            have p593 : 0 ≤ (x10_2 : Int) := of_decide_eq_true (by first | (with_reducible assumption) | assumption)
            have q593 : x10_2 < (t585.length : Int) := of_decide_eq_true (by first | (with_reducible assumption) | assumption)
            obtain ⟨ad593, e593, hx593_0, hx593_1⟩ := at_T42 (Kd.Q_reads' HO_590001.out).2.2 x10_2 p593 q593
            cases e593
            replace p593 := eq_true p593
            replace q593 := eq_true q593
            have p594 : 0 ≤ (x10_2 : Int) := of_decide_eq_true (by first | (with_reducible assumption) | assumption)
            have q594 : x10_2 < (t570.length : Int) := of_decide_eq_true (by first | (with_reducible assumption) | assumption)
            obtain ⟨ad594, e594, hx594_0, hx594_1⟩ := at_T42 (Kd.Q_reads' HO_577001.out).2.2 x10_2 p594 q594
            cases e594
            replace p594 := eq_true p594
            replace q594 := eq_true q594
            refine start_ (n := 30) (S := fun w' => w'.cell? ⟨gb589, 0, none⟩ = some (.int .i64 t584) ∧ w'.cell? ⟨gb589, 1, none⟩ = some (.slice (some ad593) t585.length co28) ∧ w'.cell? ⟨gb576, 0, none⟩ = some (.int .i64 t569) ∧ w'.cell? ⟨gb576, 1, none⟩ = some (.slice (some ad594) t570.length co12) ∧ w'.cell? (ad593.add ((x10_2).toNat * 2)) = some (.int .i64 ((rd_T42 t585 x10_2).f0)) ∧ w'.cell? ⟨(ad593.add ((x10_2).toNat * 2)).block, (ad593.add ((x10_2).toNat * 2)).off + 1, none⟩ = some (.int .i64 ((rd_T42 t585 x10_2).f1)) ∧ w'.cell? (ad594.add ((x10_2).toNat * 2)) = some (.int .i64 ((rd_T42 t570 x10_2).f0)) ∧ w'.cell? ⟨(ad594.add ((x10_2).toNat * 2)).block, (ad594.add ((x10_2).toNat * 2)).off + 1, none⟩ = some (.int .i64 ((rd_T42 t570 x10_2).f1))) (ds := []) #[false, false, false, false, false, false, false, false, false, false, false, false, false, false, false, false, false, false, false, false, false, false, false, false, false, false, false, false, false, false] (by kernel_rfl) rfl rfl ⟨(blk_cell BK589.out 0).trans rfl, (blk_cell BK589.out 1).trans rfl, (blk_cell BK576.out 0).trans rfl, (blk_cell BK576.out 1).trans rfl, hx593_0, hx593_1, hx594_0, hx594_1⟩ (fun hHeld => ?_); refine with_tabW laws_FnPutThere.tab11 laws_FnPutThere.bits11 (fun HT_ HW_ => ?_)
            generalize wr.drew = w76 at HO_577001 HO_584001 HO_590001 BK576 BK577 BK583 BK589 HB hx593_0 hx593_1 hx594_0 hx594_1 hHeld ⊢
            refine pure_ (i := 0) (N := some 64) (v := ?_) (a' := ?_) #[true, false, false, false, false, false, false, false, false, false, false, false, false, false, false, false, false, false, false, false, false, false, false, false, false, false, false, false, false, false] rfl rfl (any_of HT_.out (by kernel_rfl)) (fun _ _ _ h => h) (Or.inl ⟨by rfl, ?_⟩) ?_ ?_
            rotate_left
            ·intro w'
             go_simp
             with_reducible rfl
            rotate_left
            ·simp only [Act.put, List.setIfInBounds_toArray, List.set_cons_zero, List.set_cons_succ, i64_w, i32_w]
             rfl
            refine pure_ (i := 1) (N := some 65) (v := ?_) (a' := ?_) #[true, true, false, false, false, false, false, false, false, false, false, false, false, false, false, false, false, false, false, false, false, false, false, false, false, false, false, false, false, false] rfl rfl (any_of HT_.out (by kernel_rfl)) (fun _ _ _ h => h) (Or.inl ⟨by rfl, ?_⟩) ?_ ?_
            rotate_left
            ·intro w'
             go_simp
             with_reducible rfl
            rotate_left
            ·simp only [Act.put, List.setIfInBounds_toArray, List.set_cons_zero, List.set_cons_succ, i64_w, i32_w]
             rfl
            refine pure_ (i := 2) (N := some 66) (v := ?_) (a' := ?_) #[true, true, true, false, false, false, false, false, false, false, false, false, false, false, false, false, false, false, false, false, false, false, false, false, false, false, false, false, false, false] rfl rfl (any_of HT_.out (by kernel_rfl)) (fun _ _ _ h => h) (Or.inl ⟨by rfl, ?_⟩) ?_ ?_
            rotate_left
            ·intro w'
             go_simp
             with_reducible rfl
            rotate_left
            ·simp only [Act.put, List.setIfInBounds_toArray, List.set_cons_zero, List.set_cons_succ, i64_w, i32_w]
             rfl
            refine pure_ (i := 3) (N := some 67) (v := ?_) (a' := ?_) #[true, true, true, true, false, false, false, false, false, false, false, false, false, false, false, false, false, false, false, false, false, false, false, false, false, false, false, false, false, false] rfl rfl (any_of HT_.out (by kernel_rfl)) (fun _ _ _ h => h) (Or.inl ⟨by rfl, ?_⟩) ?_ ?_
            rotate_left
            ·intro w'
             go_simp
             with_reducible rfl
            rotate_left
            ·simp only [Act.put, List.setIfInBounds_toArray, List.set_cons_zero, List.set_cons_succ, i64_w, i32_w]
             rfl
            refine pure_ (i := 4) (N := some 68) (v := undef) (a' := ?_) #[true, true, true, true, true, false, false, false, false, false, false, false, false, false, false, false, false, false, false, false, false, false, false, false, false, false, false, false, false, false] rfl rfl (any_of HT_.out (by kernel_rfl)) (fun _ _ _ h => h) (Or.inr ⟨by rfl, rfl⟩) ?_ ?_
            rotate_left
            ·simp only [Act.put, List.setIfInBounds_toArray, List.set_cons_zero, List.set_cons_succ, i64_w, i32_w]
             rfl
            refine pure_ (i := 5) (N := some 69) (v := undef) (a' := ?_) #[true, true, true, true, true, true, false, false, false, false, false, false, false, false, false, false, false, false, false, false, false, false, false, false, false, false, false, false, false, false] rfl rfl (any_of HT_.out (by kernel_rfl)) (fun _ _ _ h => h) (Or.inr ⟨by rfl, rfl⟩) ?_ ?_
            rotate_left
            ·simp only [Act.put, List.setIfInBounds_toArray, List.set_cons_zero, List.set_cons_succ, i64_w, i32_w]
             rfl
            refine pure_ (i := 6) (N := some 70) (v := undef) (a' := ?_) #[true, true, true, true, true, true, true, false, false, false, false, false, false, false, false, false, false, false, false, false, false, false, false, false, false, false, false, false, false, false] rfl rfl (any_of HT_.out (by kernel_rfl)) (fun _ _ _ h => h) (Or.inr ⟨by rfl, rfl⟩) ?_ ?_
            rotate_left
            ·simp only [Act.put, List.setIfInBounds_toArray, List.set_cons_zero, List.set_cons_succ, i64_w, i32_w]
             rfl
            refine pure_ (i := 7) (N := some 71) (v := undef) (a' := ?_) #[true, true, true, true, true, true, true, true, false, false, false, false, false, false, false, false, false, false, false, false, false, false, false, false, false, false, false, false, false, false] rfl rfl (any_of HT_.out (by kernel_rfl)) (fun _ _ _ h => h) (Or.inr ⟨by rfl, rfl⟩) ?_ ?_
            rotate_left
            ·simp only [Act.put, List.setIfInBounds_toArray, List.set_cons_zero, List.set_cons_succ, i64_w, i32_w]
             rfl
            refine pure_ (i := 8) (N := some 72) (v := undef) (a' := ?_) #[true, true, true, true, true, true, true, true, true, false, false, false, false, false, false, false, false, false, false, false, false, false, false, false, false, false, false, false, false, false] rfl rfl (any_of HT_.out (by kernel_rfl)) (fun _ _ _ h => h) (Or.inr ⟨by rfl, rfl⟩) ?_ ?_
            rotate_left
            ·simp only [Act.put, List.setIfInBounds_toArray, List.set_cons_zero, List.set_cons_succ, i64_w, i32_w]
             rfl
            refine pure_ (i := 9) (N := some 73) (v := undef) (a' := ?_) #[true, true, true, true, true, true, true, true, true, true, false, false, false, false, false, false, false, false, false, false, false, false, false, false, false, false, false, false, false, false] rfl rfl (any_of HT_.out (by kernel_rfl)) (fun _ _ _ h => h) (Or.inr ⟨by rfl, rfl⟩) ?_ ?_
            rotate_left
            ·simp only [Act.put, List.setIfInBounds_toArray, List.set_cons_zero, List.set_cons_succ, i64_w, i32_w]
             rfl
            refine pure_ (i := 10) (N := some 74) (v := undef) (a' := ?_) #[true, true, true, true, true, true, true, true, true, true, true, false, false, false, false, false, false, false, false, false, false, false, false, false, false, false, false, false, false, false] rfl rfl (any_of HT_.out (by kernel_rfl)) (fun _ _ _ h => h) (Or.inr ⟨by rfl, rfl⟩) ?_ ?_
            rotate_left
            ·simp only [Act.put, List.setIfInBounds_toArray, List.set_cons_zero, List.set_cons_succ, i64_w, i32_w]
             rfl
            refine pure_ (i := 11) (N := some 75) (v := ?_) (a' := ?_) #[true, true, true, true, true, true, true, true, true, true, true, true, false, false, false, false, false, false, false, false, false, false, false, false, false, false, false, false, false, false] rfl rfl (any_of HT_.out (by kernel_rfl)) (fun _ _ _ h => h) (Or.inl ⟨by rfl, ?_⟩) ?_ ?_
            rotate_left
            ·intro w'
             go_simp
             with_reducible rfl
            rotate_left
            ·simp only [Act.put, List.setIfInBounds_toArray, List.set_cons_zero, List.set_cons_succ, i64_w, i32_w]
             rfl
            refine pure_ (i := 12) (N := some 76) (v := ?_) (a' := ?_) #[true, true, true, true, true, true, true, true, true, true, true, true, true, false, false, false, false, false, false, false, false, false, false, false, false, false, false, false, false, false] rfl rfl (any_of HT_.out (by kernel_rfl)) (fun _ _ _ h => h) (Or.inl ⟨by rfl, ?_⟩) ?_ ?_
            rotate_left
            ·intro w'
             go_simp
             with_reducible rfl
            rotate_left
            ·simp only [Act.put, List.setIfInBounds_toArray, List.set_cons_zero, List.set_cons_succ, i64_w, i32_w]
             rfl
            refine pure_ (i := 13) (N := some 77) (v := ?_) (a' := ?_) #[true, true, true, true, true, true, true, true, true, true, true, true, true, true, false, false, false, false, false, false, false, false, false, false, false, false, false, false, false, false] rfl rfl (any_of HT_.out (by kernel_rfl)) (fun _ _ _ h => h) (Or.inl ⟨by rfl, ?_⟩) ?_ ?_
            rotate_left
            ·intro w'
             go_simp
             with_reducible rfl
            rotate_left
            ·simp only [Act.put, List.setIfInBounds_toArray, List.set_cons_zero, List.set_cons_succ, i64_w, i32_w]
             rfl
            refine pure_ (i := 14) (N := some 78) (v := ?_) (a' := ?_) #[true, true, true, true, true, true, true, true, true, true, true, true, true, true, true, false, false, false, false, false, false, false, false, false, false, false, false, false, false, false] rfl rfl (any_of HT_.out (by kernel_rfl)) (fun _ _ _ h => h) (Or.inl ⟨by rfl, ?_⟩) ?_ ?_
            rotate_left
            ·intro w'
             go_simp
             with_reducible rfl
            rotate_left
            ·simp only [Act.put, List.setIfInBounds_toArray, List.set_cons_zero, List.set_cons_succ, i64_w, i32_w]
             rfl
            refine pure_ (i := 15) (N := some 79) (v := ?_) (a' := ?_) #[true, true, true, true, true, true, true, true, true, true, true, true, true, true, true, true, false, false, false, false, false, false, false, false, false, false, false, false, false, false] rfl rfl (any_of HT_.out (by kernel_rfl)) (fun _ _ _ h => h) (Or.inl ⟨by rfl, ?_⟩) ?_ ?_
            rotate_left
            ·intro w'
             go_simp
             with_reducible rfl
            rotate_left
            ·simp only [Act.put, List.setIfInBounds_toArray, List.set_cons_zero, List.set_cons_succ, i64_w, i32_w]
             rfl
            refine pure_ (i := 16) (N := some 80) (v := ?_) (a' := ?_) #[true, true, true, true, true, true, true, true, true, true, true, true, true, true, true, true, true, false, false, false, false, false, false, false, false, false, false, false, false, false] rfl rfl (any_of HT_.out (by kernel_rfl)) (fun _ _ _ h => h) (Or.inl ⟨by rfl, ?_⟩) ?_ ?_
            rotate_left
            ·intro w'
             go_simp
             with_reducible rfl
            rotate_left
            ·simp only [Act.put, List.setIfInBounds_toArray, List.set_cons_zero, List.set_cons_succ, i64_w, i32_w]
             rfl
            refine pure_ (i := 17) (N := some 81) (v := ?_) (a' := ?_) #[true, true, true, true, true, true, true, true, true, true, true, true, true, true, true, true, true, true, false, false, false, false, false, false, false, false, false, false, false, false] rfl rfl (any_of HT_.out (by kernel_rfl)) (fun _ _ _ h => h) (Or.inl ⟨by rfl, ?_⟩) ?_ ?_
            rotate_left
            ·intro w'
             go_simp
             with_reducible rfl
            rotate_left
            ·simp only [Act.put, List.setIfInBounds_toArray, List.set_cons_zero, List.set_cons_succ, i64_w, i32_w]
             rfl
            refine pure_ (i := 19) (N := some 83) (v := ?_) (a' := ?_) #[true, true, true, true, true, true, true, true, true, true, true, true, true, true, true, true, true, true, false, true, false, false, false, false, false, false, false, false, false, false] rfl rfl (any_of HT_.out (by kernel_rfl)) (fun _ _ _ h => h) (Or.inl ⟨by rfl, ?_⟩) ?_ ?_
            rotate_left
            ·intro w'
             go_simp
             with_reducible rfl
            rotate_left
            ·simp only [Act.put, List.setIfInBounds_toArray, List.set_cons_zero, List.set_cons_succ, i64_w, i32_w]
             rfl
            refine pure_ (i := 22) (N := some 86) (v := ?_) (a' := ?_) #[true, true, true, true, true, true, true, true, true, true, true, true, true, true, true, true, true, true, false, true, false, false, true, false, false, false, false, false, false, false] rfl rfl (any_of HT_.out (by kernel_rfl)) (fun _ _ _ h => h) (Or.inl ⟨by rfl, ?_⟩) ?_ ?_
            rotate_left
            ·intro w'
             go_simp
             with_reducible rfl
            rotate_left
            ·simp only [Act.put, List.setIfInBounds_toArray, List.set_cons_zero, List.set_cons_succ, i64_w, i32_w]
             rfl
            refine pure_ (i := 24) (N := some 88) (v := ?_) (a' := ?_) #[true, true, true, true, true, true, true, true, true, true, true, true, true, true, true, true, true, true, false, true, false, false, true, false, true, false, false, false, false, false] rfl rfl (any_of HT_.out (by kernel_rfl)) (fun _ _ _ h => h) (Or.inl ⟨by rfl, ?_⟩) ?_ ?_
            rotate_left
            ·intro w'
             go_simp
             with_reducible rfl
            rotate_left
            ·simp only [Act.put, List.setIfInBounds_toArray, List.set_cons_zero, List.set_cons_succ, i64_w, i32_w]
             rfl
            refine take_ (i := 18) (N := some 82) (v := ?_) (a' := ?_) #[true, true, true, true, true, true, true, true, true, true, true, true, true, true, true, true, true, true, true, true, false, false, true, false, true, false, false, false, false, false] rfl rfl (take_ofW HT_.out HW_.out (by kernel_rfl)) (fun _ _ _ h => h) (Or.inl ⟨by rfl, ?_⟩) hHeld ?_ ?_
            rotate_left
            ·rintro w' ⟨s0, s1, s2, s3, s4, s5, s6, s7⟩
             go_simp
             with_reducible rfl
            rotate_left
            ·simp only [Act.put, List.setIfInBounds_toArray, List.set_cons_zero, List.set_cons_succ, i64_w, i32_w]
             rfl
            refine pure_ (i := 20) (N := some 84) (v := ?_) (a' := ?_) #[true, true, true, true, true, true, true, true, true, true, true, true, true, true, true, true, true, true, true, true, true, false, true, false, true, false, false, false, false, false] rfl rfl (any_of HT_.out (by kernel_rfl)) (fun _ _ _ h => h) (Or.inl ⟨by rfl, ?_⟩) ?_ ?_
            rotate_left
            ·intro w'
             go_simp
             with_reducible rfl
            rotate_left
            ·simp only [Act.put, List.setIfInBounds_toArray, List.set_cons_zero, List.set_cons_succ, i64_w, i32_w]
             rfl
            refine take_ (i := 21) (N := some 85) (v := ?_) (a' := ?_) #[true, true, true, true, true, true, true, true, true, true, true, true, true, true, true, true, true, true, true, true, true, true, true, false, true, false, false, false, false, false] rfl rfl (take_ofW HT_.out HW_.out (by kernel_rfl)) (fun _ _ _ h => h) (Or.inl ⟨by rfl, ?_⟩) hHeld ?_ ?_
            rotate_left
            ·rintro w' ⟨s0, s1, s2, s3, s4, s5, s6, s7⟩
             go_simp
             with_reducible rfl
            rotate_left
            ·simp only [Act.put, List.setIfInBounds_toArray, List.set_cons_zero, List.set_cons_succ, i64_w, i32_w]
             rfl
            refine take_ (i := 23) (N := some 87) (v := ?_) (a' := ?_) #[true, true, true, true, true, true, true, true, true, true, true, true, true, true, true, true, true, true, true, true, true, true, true, true, true, false, false, false, false, false] rfl rfl (take_ofW HT_.out HW_.out (by kernel_rfl)) (fun _ _ _ h => h) (Or.inl ⟨by rfl, ?_⟩) hHeld ?_ ?_
            rotate_left
            ·rintro w' ⟨s0, s1, s2, s3, s4, s5, s6, s7⟩
             go_simp
             with_reducible rfl
            rotate_left
            ·simp only [Act.put, List.setIfInBounds_toArray, List.set_cons_zero, List.set_cons_succ, i64_w, i32_w]
             rfl
            refine pure_ (i := 25) (N := some 89) (v := ?_) (a' := ?_) #[true, true, true, true, true, true, true, true, true, true, true, true, true, true, true, true, true, true, true, true, true, true, true, true, true, true, false, false, false, false] rfl rfl (any_of HT_.out (by kernel_rfl)) (fun _ _ _ h => h) (Or.inl ⟨by rfl, ?_⟩) ?_ ?_
            rotate_left
            ·intro w'
             go_simp
             with_reducible rfl
            rotate_left
            ·simp only [Act.put, List.setIfInBounds_toArray, List.set_cons_zero, List.set_cons_succ, i64_w, i32_w]
             rfl
            refine take_ (i := 26) (N := some 90) (v := ?_) (a' := ?_) #[true, true, true, true, true, true, true, true, true, true, true, true, true, true, true, true, true, true, true, true, true, true, true, true, true, true, true, false, false, false] rfl rfl (take_ofW HT_.out HW_.out (by kernel_rfl)) (fun _ _ _ h => h) (Or.inl ⟨by rfl, ?_⟩) hHeld ?_ ?_
            rotate_left
            ·rintro w' ⟨s0, s1, s2, s3, s4, s5, s6, s7⟩
             go_simp
             with_reducible rfl
            rotate_left
            ·simp only [Act.put, List.setIfInBounds_toArray, List.set_cons_zero, List.set_cons_succ, i64_w, i32_w]
             rfl
            refine pure_ (i := 27) (N := some 91) (v := ?_) (a' := ?_) #[true, true, true, true, true, true, true, true, true, true, true, true, true, true, true, true, true, true, true, true, true, true, true, true, true, true, true, true, false, false] rfl rfl (any_of HT_.out (by kernel_rfl)) (fun _ _ _ h => h) (Or.inl ⟨by rfl, ?_⟩) ?_ ?_
            rotate_left
            ·intro w'
             go_simp
             with_reducible rfl
            rotate_left
            ·simp only [Act.put, List.setIfInBounds_toArray, List.set_cons_zero, List.set_cons_succ, i64_w, i32_w]
             rfl
            refine pure_ (i := 28) (N := some 92) (v := ?_) (a' := ?_) #[true, true, true, true, true, true, true, true, true, true, true, true, true, true, true, true, true, true, true, true, true, true, true, true, true, true, true, true, true, false] rfl rfl (any_of HT_.out (by kernel_rfl)) (fun _ _ _ h => h) (Or.inl ⟨by rfl, ?_⟩) ?_ ?_
            rotate_left
            ·intro w'
             go_simp
             with_reducible rfl
            rotate_left
            ·simp only [Act.put, List.setIfInBounds_toArray, List.set_cons_zero, List.set_cons_succ, i64_w, i32_w]
             rfl
            refine pure_ (i := 29) (N := some 93) (v := ?_) (a' := ?_) #[true, true, true, true, true, true, true, true, true, true, true, true, true, true, true, true, true, true, true, true, true, true, true, true, true, true, true, true, true, true] rfl rfl (any_of HT_.out (by kernel_rfl)) (fun _ _ _ h => h) (Or.inl ⟨by rfl, ?_⟩) ?_ ?_
            rotate_left
            ·intro w'
             go_simp
             with_reducible rfl
            rotate_left
            ·simp only [Act.put, List.setIfInBounds_toArray, List.set_cons_zero, List.set_cons_succ, i64_w, i32_w]
             rfl
            refine done_ (done_of HT_.out (by kernel_rfl)) ?_
            try go_wp2
            go_roundg k2
            case measure => have := HJ5.out; have := HK2.out; omega
            case rel => exact ⟨(wrap64 (x10_2 + 1)), (by first | rfl | (simp; done) | (simp [*]; done)), H', ⟨by have := HJ5.out; have := HK2.out; omega⟩, ⟨by (with_reducible repeat (first | apply Kd.Q_alloc | apply Kd.Q_drewN | apply Kd.Q_drew)); exact HO_577001.out⟩, ⟨by (with_reducible repeat (first | apply Kd.Q_alloc | apply Kd.Q_drewN | apply Kd.Q_drew)); exact HO_584001.out⟩, ⟨by (with_reducible repeat (first | apply Kd.Q_alloc | apply Kd.Q_drewN | apply Kd.Q_drew)); exact HO_590001.out⟩, ⟨by (with_reducible repeat (first | refine blk_drewN ?_ _ | refine blk_drew ?_ | refine blk_alloc ?_ _)); exact BK576.out⟩, ⟨by (with_reducible repeat (first | refine blk_drewN ?_ _ | refine blk_drew ?_ | refine blk_alloc ?_ _)); exact BK577.out⟩, ⟨by (with_reducible repeat (first | refine blk_drewN ?_ _ | refine blk_drew ?_ | refine blk_alloc ?_ _)); exact BK583.out⟩, ⟨by (with_reducible repeat (first | refine blk_drewN ?_ _ | refine blk_drew ?_ | refine blk_alloc ?_ _)); exact BK589.out⟩, ⟨by repeat (first | (with_reducible first | exact HB.out | apply below_alloc | apply pw_below_drewN | apply below_drew1 | refine below_set ?_ GE576.out | refine below_set ?_ GE577.out | refine below_set ?_ GE583.out | refine below_set ?_ GE589.out) | exact HB.out)⟩⟩
          ·rw [if_neg c70] at H
           exact absurd H (by simp)
         ·rw [if_neg c69] at H
          exact absurd H (by simp)
       ·rw [if_neg c59] at H
        have c59b0 : decide (x10_2 < (t570.length : Int)) = false := decide_eq_false c59
        clear c59
        by_cases c77 : 0 ≤ t573
        ·rw [if_pos c77] at H
         have c77b0 : decide (0 ≤ t573) = true := decide_eq_true c77
         clear c77
         by_cases c78 : t573 < (t570.length : Int)
         ·rw [if_pos c78] at H
          have c78b0 : decide (t573 < (t570.length : Int)) = true := decide_eq_true c78
          clear c78
          replace H := Option.bind_eq_some_iff.mp H
          obtain ⟨⟨t596, t597, t600⟩, A790, H⟩ := H
          replace H : (if t600 = true then ((laws_llGrid.f k2 t596 t597 t569 t570).bind fun t602 => (if t602 = true then ((impl_GridOk.f k2 t584 t585).bind fun t603 => (some t603)) else (some false))) else (some false)) = some r := H
          have A79 := Aside0.mk A790
          clear A790
          by_cases c80 : t600 = true
          ·subst c80
           have H1 : ((laws_llGrid.f k2 t596 t597 t569 t570).bind fun t602 => (if t602 = true then ((impl_GridOk.f k2 t584 t585).bind fun t603 => (some t603)) else (some false))) = some r := by rw [if_pos rfl] at H; exact H
           clear H
           have H := H1
           clear H1
           replace H := Option.bind_eq_some_iff.mp H
           obtain ⟨t602, A810, H⟩ := H
           replace H : (if t602 = true then ((impl_GridOk.f k2 t584 t585).bind fun t603 => (some t603)) else (some false)) = some r := H
           have A81 := Aside0.mk A810
           clear A810
           by_cases c82 : t602 = true
           ·subst c82
            have H1 : ((impl_GridOk.f k2 t584 t585).bind fun t603 => (some t603)) = some r := by rw [if_pos rfl] at H; exact H
            clear H
            have H := H1
            clear H1
            replace H := Option.bind_eq_some_iff.mp H
            obtain ⟨t603, A830, H⟩ := H
            replace H : (some t603) = some r := H
            have A83 := Aside0.mk A830
            clear A830
            obtain rfl := Option.some.inj H
            have hnb84 := NB576_577.out
            have hnc84 := NB577_576.out
            have hnb85 := NB576_583.out
            have hnc85 := NB583_576.out
            have hnb86 := NB576_589.out
            have hnc86 := NB589_576.out
            have hcz87_0 : wr.cell? ⟨gb576, 0, none⟩ = some (.int .i64 t569) := (blk_cell BK576.out 0).trans rfl
            have hcz87_1 : wr.cell? ⟨gb576, 1, none⟩ = some (.slice Ao12 t570.length co12) := (blk_cell BK576.out 1).trans rfl
            have hfz87_0 := blk_frozen BK576.out 0
            have hfz87_1 := blk_frozen BK576.out 1
            try go_wp2
            have n0_ := Aside0.mk (Kd.Q_drew HO_577001.out)
            have n1_ := Aside0.mk (Kd.Q_drew HO_584001.out)
            have n2_ := Aside0.mk (Kd.Q_drew HO_590001.out)
            have n3_ := Aside0.mk (blk_drew BK576.out)
            have n4_ := Aside0.mk (blk_drew BK577.out)
            have n5_ := Aside0.mk (blk_drew BK583.out)
            have n6_ := Aside0.mk (blk_drew BK589.out)
            have n7_ := Aside0.mk (below_drew1 HB.out)
            clear HO_577001
            clear HO_584001
            clear HO_590001
            clear BK576
            clear BK577
            clear BK583
            clear BK589
            clear HB
            have HO_577001 := n0_
            have HO_584001 := n1_
            have HO_590001 := n2_
            have BK576 := n3_
            have BK577 := n4_
            have BK583 := n5_
            have BK589 := n6_
            have HB := n7_
            clear n0_ n1_ n2_ n3_ n4_ n5_ n6_ n7_
            have p595 : 0 ≤ (t573 : Int) := of_decide_eq_true (by first | (with_reducible assumption) | assumption)
            have q595 : t573 < (t570.length : Int) := of_decide_eq_true (by first | (with_reducible assumption) | assumption)
            obtain ⟨ad595, e595, hx595_0, hx595_1⟩ := at_T42 (Kd.Q_reads' HO_577001.out).2.2 t573 p595 q595
            cases e595
            replace p595 := eq_true p595
            replace q595 := eq_true q595
            refine start_ (n := 14) (S := fun w' => w'.cell? ⟨gb589, 0, none⟩ = some (.int .i64 t584) ∧ w'.cell? ⟨gb589, 1, none⟩ = some (.slice Ao28 t585.length co28) ∧ w'.cell? ⟨gb576, 0, none⟩ = some (.int .i64 t569) ∧ w'.cell? ⟨gb576, 1, none⟩ = some (.slice (some ad595) t570.length co12) ∧ w'.cell? (ad595.add ((t573).toNat * 2)) = some (.int .i64 ((rd_T42 t570 t573).f0)) ∧ w'.cell? ⟨(ad595.add ((t573).toNat * 2)).block, (ad595.add ((t573).toNat * 2)).off + 1, none⟩ = some (.int .i64 ((rd_T42 t570 t573).f1))) (ds := []) #[false, false, false, false, false, false, false, false, false, false, false, false, false, false] (by kernel_rfl) rfl rfl ⟨(blk_cell BK589.out 0).trans rfl, (blk_cell BK589.out 1).trans rfl, (blk_cell BK576.out 0).trans rfl, (blk_cell BK576.out 1).trans rfl, hx595_0, hx595_1⟩ (fun hHeld => ?_); refine with_tabW laws_FnPutThere.tab13 laws_FnPutThere.bits13 (fun HT_ HW_ => ?_)
            generalize wr.drew = w88 at HO_577001 HO_584001 HO_590001 BK576 BK577 BK583 BK589 HB hx595_0 hx595_1 hHeld ⊢
            refine pure_ (i := 1) (N := some 96) (v := ?_) (a' := ?_) #[false, true, false, false, false, false, false, false, false, false, false, false, false, false] rfl rfl (any_of HT_.out (by kernel_rfl)) (fun _ _ _ h => h) (Or.inl ⟨by rfl, ?_⟩) ?_ ?_
            rotate_left
            ·intro w'
             go_simp
             with_reducible rfl
            rotate_left
            ·simp only [Act.put, List.setIfInBounds_toArray, List.set_cons_zero, List.set_cons_succ, i64_w, i32_w]
             rfl
            refine pure_ (i := 2) (N := some 97) (v := ?_) (a' := ?_) #[false, true, true, false, false, false, false, false, false, false, false, false, false, false] rfl rfl (any_of HT_.out (by kernel_rfl)) (fun _ _ _ h => h) (Or.inl ⟨by rfl, ?_⟩) ?_ ?_
            rotate_left
            ·intro w'
             go_simp
             with_reducible rfl
            rotate_left
            ·simp only [Act.put, List.setIfInBounds_toArray, List.set_cons_zero, List.set_cons_succ, i64_w, i32_w]
             rfl
            refine pure_ (i := 4) (N := some 99) (v := ?_) (a' := ?_) #[false, true, true, false, true, false, false, false, false, false, false, false, false, false] rfl rfl (any_of HT_.out (by kernel_rfl)) (fun _ _ _ h => h) (Or.inl ⟨by rfl, ?_⟩) ?_ ?_
            rotate_left
            ·intro w'
             go_simp
             with_reducible rfl
            rotate_left
            ·simp only [Act.put, List.setIfInBounds_toArray, List.set_cons_zero, List.set_cons_succ, i64_w, i32_w]
             rfl
            refine take_ (i := 0) (N := some 95) (v := ?_) (a' := ?_) #[true, true, true, false, true, false, false, false, false, false, false, false, false, false] rfl rfl (take_ofW HT_.out HW_.out (by kernel_rfl)) (fun _ _ _ h => h) (Or.inl ⟨by rfl, ?_⟩) hHeld ?_ ?_
            rotate_left
            ·rintro w' ⟨s0, s1, s2, s3, s4, s5⟩
             go_simp
             with_reducible rfl
            rotate_left
            ·simp only [Act.put, List.setIfInBounds_toArray, List.set_cons_zero, List.set_cons_succ, i64_w, i32_w]
             rfl
            refine take_ (i := 3) (N := some 98) (v := ?_) (a' := ?_) #[true, true, true, true, true, false, false, false, false, false, false, false, false, false] rfl rfl (take_ofW HT_.out HW_.out (by kernel_rfl)) (fun _ _ _ h => h) (Or.inl ⟨by rfl, ?_⟩) hHeld ?_ ?_
            rotate_left
            ·rintro w' ⟨s0, s1, s2, s3, s4, s5⟩
             go_simp
             with_reducible rfl
            rotate_left
            ·simp only [Act.put, List.setIfInBounds_toArray, List.set_cons_zero, List.set_cons_succ, i64_w, i32_w]
             rfl
            refine pure_ (i := 5) (N := some 100) (v := ?_) (a' := ?_) #[true, true, true, true, true, true, false, false, false, false, false, false, false, false] rfl rfl (any_of HT_.out (by kernel_rfl)) (fun _ _ _ h => h) (Or.inl ⟨by rfl, ?_⟩) ?_ ?_
            rotate_left
            ·intro w'
             go_simp
             with_reducible rfl
            rotate_left
            ·simp only [Act.put, List.setIfInBounds_toArray, List.set_cons_zero, List.set_cons_succ, i64_w, i32_w]
             rfl
            refine take_ (i := 6) (N := some 101) (v := ?_) (a' := ?_) #[true, true, true, true, true, true, true, false, false, false, false, false, false, false] rfl rfl (take_ofW HT_.out HW_.out (by kernel_rfl)) (fun _ _ _ h => h) (Or.inl ⟨by rfl, ?_⟩) hHeld ?_ ?_
            rotate_left
            ·rintro w' ⟨s0, s1, s2, s3, s4, s5⟩
             go_simp
             with_reducible rfl
            rotate_left
            ·simp only [Act.put, List.setIfInBounds_toArray, List.set_cons_zero, List.set_cons_succ, i64_w, i32_w]
             rfl
            refine join_ (σ := Value × Nat) 2 #[true, true, true, true, true, true, true, true, true, true, true, true, false, false] (fun s_ => [(102, .tuple #[.agg #[.int .i64 t596, s_.1], .bool true]), (11, .pointer (some ⟨s_.2, 0, none⟩)), (94, .tuple #[.agg #[.int .i64 t596, s_.1], .bool true]), (103, .agg #[.int .i64 t596, s_.1]), (104, .bool true)]) (fun s_ w' => (w'.cell? ⟨gb589, 0, none⟩ = some (.int .i64 t584) ∧ w'.cell? ⟨gb589, 1, none⟩ = some (.slice Ao28 t585.length co28) ∧ w'.cell? ⟨gb576, 0, none⟩ = some (.int .i64 t569) ∧ w'.cell? ⟨gb576, 1, none⟩ = some (.slice (some ad595) t570.length co12) ∧ w'.cell? (ad595.add ((t573).toNat * 2)) = some (.int .i64 ((rd_T42 t570 t573).f0)) ∧ w'.cell? ⟨(ad595.add ((t573).toNat * 2)).block, (ad595.add ((t573).toNat * 2)).off + 1, none⟩ = some (.int .i64 ((rd_T42 t570 t573).f1))) ∧ (Kd.R k42 42 w' w.heap.size (fun k_ => some k_ ≠ (.slice (some ad595) t570.length co12 : Value).ownBlock ∧ some k_ ≠ (.slice Ao19 t579.length co19 : Value).ownBlock ∧ some k_ ≠ (.slice Ao28 t585.length co28 : Value).ownBlock ∧ k_ ≠ gb577) s_.1 t597) ∧ (Kd.Q k42 42 w' w.heap.size (fun k_ => some k_ ≠ (s_.1 : Value).ownBlock ∧ some k_ ≠ (.slice Ao19 t579.length co19 : Value).ownBlock ∧ some k_ ≠ (.slice Ao28 t585.length co28 : Value).ownBlock ∧ k_ ≠ gb577) (.slice (some ad595) t570.length co12) t570) ∧ (Kd.Q k42 42 w' w.heap.size (fun k_ => some k_ ≠ (s_.1 : Value).ownBlock ∧ some k_ ≠ (.slice (some ad595) t570.length co12 : Value).ownBlock ∧ some k_ ≠ (.slice Ao28 t585.length co28 : Value).ownBlock ∧ k_ ≠ gb577) (.slice Ao19 t579.length co19) t579) ∧ (Kd.Q k42 42 w' w.heap.size (fun k_ => some k_ ≠ (s_.1 : Value).ownBlock ∧ some k_ ≠ (.slice (some ad595) t570.length co12 : Value).ownBlock ∧ some k_ ≠ (.slice Ao19 t579.length co19 : Value).ownBlock ∧ k_ ≠ gb577) (.slice Ao28 t585.length co28) t585) ∧ (w'.heap[gb576]? = some (.cells #[.int .i64 t569, .slice (some ad595) t570.length co12] 25 (0, 0))) ∧ (w'.heap[gb577]? = some (.cells #[.int .i64 t574, .int .i64 t575] 42 (0, 0))) ∧ (w'.heap[gb583]? = some (.cells #[.int .i64 t578, .slice Ao19 t579.length co19] 25 (0, 0))) ∧ (w'.heap[gb589]? = some (.cells #[.int .i64 t584, .slice Ao28 t585.length co28] 25 (0, 0))) ∧ (w'.heap[s_.2]? = some (.cells #[.int .i64 0, .slice none 0 0] 25 (0, 0))) ∧ (w.heap.size ≤ s_.2) ∧ (w.heap.size ≤ s_.2) ∧ (gb576 ≠ s_.2) ∧ (s_.2 ≠ gb576) ∧ (gb577 ≠ s_.2) ∧ (s_.2 ≠ gb577) ∧ (gb583 ≠ s_.2) ∧ (s_.2 ≠ gb583) ∧ (gb589 ≠ s_.2) ∧ (s_.2 ≠ gb589) ∧ (Below w.heap.size w w')) ?_ ?_
            rotate_left
            ·intro hCont
             refine two_ (i := 7) (j := 11) (Ni := some 102) (Nj := some 11) #[true, true, true, true, true, true, true, true, false, false, false, false, false, false] #[true, true, true, true, true, true, true, false, false, false, false, true, false, false] rfl rfl rfl rfl (two_of HT_.out (by kernel_rfl)) (by decide) (by decide) (fun K hK => ?_) (fun K hK => ?_)
             ·skip
              refine goes_ Try.func27 (by kernel_rfl) rfl #[.agg #[.int .i64 t584, .slice Ao28 t585.length co28], .int .i64 t573, .agg #[.int .i64 ((rd_T42 t570 t573).f0), .int .i64 ((rd_T42 t570 t573).f1)]] (by rfl) rfl rfl (by (try simp only [List.map_toArray, List.map_cons, List.map_nil]); first | done | rfl | (simp only [List.length_drop, List.length_take]; rfl)) ?_
              with_reducible refine (impl_GridPut.calls k2 t584 _ _ t585 t573 ((rd_T42 t570 t573).f0) ((rd_T42 t570 t573).f1) t596 t597 true _ ?side1 ?side2 A79.out).mono ?_
              (case side1 => repeat (first | exact (Kd.Q_reads' HO_590001.out).2.2 | (with_reducible refine Kd.C_alloc ?_ _) | (with_reducible refine Kd.C_drewN ?_ _) | (with_reducible refine Kd.C_drew ?_)))
              (case side2 => exact (Kd.Q_reads' HO_590001.out).2.1)
              rintro e w89 ⟨v598, rfl, ho0, hb⟩
              have HS4_ := (hb.cell (World.block_lt_of_cell? _ _ (hHeld.2.2.2.2.1))).trans (hHeld.2.2.2.2.1)
              have HS5_ := (hb.cell (World.block_lt_of_cell? _ _ (hHeld.2.2.2.2.2))).trans (hHeld.2.2.2.2.2)
              refine ⟨_, rfl, ?_⟩
              have n0_ := Aside0.mk (Kd.Q_elder' (by (with_reducible repeat (first | apply Kd.Q_alloc | apply Kd.Q_drewN | apply Kd.Q_drew)); exact HO_577001.out) (Kd.R_base ho0) hb)
              have n1_ := Aside0.mk (Kd.Q_elder' (by (with_reducible repeat (first | apply Kd.Q_alloc | apply Kd.Q_drewN | apply Kd.Q_drew)); exact HO_584001.out) (Kd.R_base ho0) hb)
              have n2_ := Aside0.mk (Kd.Q_elder' (by (with_reducible repeat (first | apply Kd.Q_alloc | apply Kd.Q_drewN | apply Kd.Q_drew)); exact HO_590001.out) (Kd.R_base ho0) hb)
              have n3_ := Aside0.mk (Kd.R_lower (Kd.R_newB (Kd.R_new' (Kd.R_new' (Kd.R_new' ho0 (Kd.Q_lt (by (with_reducible repeat (first | apply Kd.Q_alloc | apply Kd.Q_drewN | apply Kd.Q_drew)); exact HO_577001.out))) (Kd.Q_lt (by (with_reducible repeat (first | apply Kd.Q_alloc | apply Kd.Q_drewN | apply Kd.Q_drew)); exact HO_584001.out))) (Kd.Q_lt (by (with_reducible repeat (first | apply Kd.Q_alloc | apply Kd.Q_drewN | apply Kd.Q_drew)); exact HO_590001.out))) (g := gb577) (o := .cells #[.int .i64 t574, .int .i64 t575] 42 (0, 0)) (bK BK577.out)) (below_size (by repeat (first | (with_reducible first | exact HB.out | apply below_alloc | apply pw_below_drewN | apply below_drew1 | refine below_set ?_ GE576.out | refine below_set ?_ GE577.out | refine below_set ?_ GE583.out | refine below_set ?_ GE589.out) | exact HB.out))))
              have n4_ := Aside0.mk (blk_below (bK BK576.out) hb)
              have n5_ := Aside0.mk (blk_below (bK BK577.out) hb)
              have n6_ := Aside0.mk (blk_below (bK BK583.out) hb)
              have n7_ := Aside0.mk (blk_below (bK BK589.out) hb)
              have n8_ := Aside0.mk (below_step (by repeat (first | (with_reducible first | exact HB.out | apply below_alloc | apply pw_below_drewN | apply below_drew1 | refine below_set ?_ GE576.out | refine below_set ?_ GE577.out | refine below_set ?_ GE583.out | refine below_set ?_ GE589.out) | exact HB.out)) hb)
              clear HO_577001
              clear HO_584001
              clear HO_590001
              clear BK576
              clear BK577
              clear BK583
              clear BK589
              clear HB
              have HO_577001 := n0_
              have HO_584001 := n1_
              have HO_590001 := n2_
              have HO599 := n3_
              have BK576 := n4_
              have BK577 := n5_
              have BK583 := n6_
              have BK589 := n7_
              have HB := n8_
              clear n0_ n1_ n2_ n3_ n4_ n5_ n6_ n7_ n8_
              (try clear hb)
              (try clear hb2)
              (try clear hk)
              (try clear hi)
              (try clear ho0)
              refine hK.out _ _ ⟨(blk_cell BK589.out 0).trans rfl, (blk_cell BK589.out 1).trans rfl, (blk_cell BK576.out 0).trans rfl, (blk_cell BK576.out 1).trans rfl, HS4_, HS5_⟩ (fun hHeld => ?_)
              clear hK K
              refine norm_ (a' := ?_) ?_ ?_
              rotate_left
              ·show Act.put _ (some 102) _ = _
               simp only [Act.put, List.setIfInBounds_toArray, List.set_cons_zero, List.set_cons_succ, i64_w, i32_w]
               rfl
              refine pure_ (i := 8) (N := some 94) (v := ?_) (a' := ?_) #[true, true, true, true, true, true, true, true, true, false, false, false, false, false] rfl rfl (any_of HT_.out (by kernel_rfl)) (fun _ _ _ h => h) (Or.inl ⟨by rfl, ?_⟩) ?_ ?_
              rotate_left
              ·intro w'
               go_simp
               with_reducible rfl
              rotate_left
              ·simp only [Act.put, List.setIfInBounds_toArray, List.set_cons_zero, List.set_cons_succ, i64_w, i32_w]
               rfl
              refine pure_ (i := 9) (N := some 103) (v := ?_) (a' := ?_) #[true, true, true, true, true, true, true, true, true, true, false, false, false, false] rfl rfl (any_of HT_.out (by kernel_rfl)) (fun _ _ _ h => h) (Or.inl ⟨by rfl, ?_⟩) ?_ ?_
              rotate_left
              ·intro w'
               go_simp
               with_reducible rfl
              rotate_left
              ·simp only [Act.put, List.setIfInBounds_toArray, List.set_cons_zero, List.set_cons_succ, i64_w, i32_w]
               rfl
              refine pure_ (i := 10) (N := some 104) (v := ?_) (a' := ?_) #[true, true, true, true, true, true, true, true, true, true, true, false, false, false] rfl rfl (any_of HT_.out (by kernel_rfl)) (fun _ _ _ h => h) (Or.inl ⟨by rfl, ?_⟩) ?_ ?_
              rotate_left
              ·intro w'
               go_simp
               with_reducible rfl
              rotate_left
              ·simp only [Act.put, List.setIfInBounds_toArray, List.set_cons_zero, List.set_cons_succ, i64_w, i32_w]
               rfl
              refine one_ (i := 11) (N := some 11) #[true, true, true, true, true, true, true, true, true, true, true, true, false, false] rfl rfl (one_of HT_.out (by kernel_rfl)) (by decide) (fun K hK => ?_)
              refine box_step ?hg (N := 11) ?hd (cs := #[.int .i64 0, .slice none 0 0]) (t := 25) ?hr ?_; (case hd => rfl); (case hg => rfl); (case hr => first | (go_simp; done) | (go_simp; rfl))
              intro gb601 hg w90 hbox hb
              have HS4_ := (hb.cell (World.block_lt_of_cell? _ _ (hHeld.2.2.2.2.1))).trans (hHeld.2.2.2.2.1)
              have HS5_ := (hb.cell (World.block_lt_of_cell? _ _ (hHeld.2.2.2.2.2))).trans (hHeld.2.2.2.2.2)
              have n0_ := Aside0.mk (Kd.Q_below (by (with_reducible repeat (first | apply Kd.Q_alloc | apply Kd.Q_drewN | apply Kd.Q_drew)); exact HO_577001.out) hb)
              have n1_ := Aside0.mk (Kd.Q_below (by (with_reducible repeat (first | apply Kd.Q_alloc | apply Kd.Q_drewN | apply Kd.Q_drew)); exact HO_584001.out) hb)
              have n2_ := Aside0.mk (Kd.Q_below (by (with_reducible repeat (first | apply Kd.Q_alloc | apply Kd.Q_drewN | apply Kd.Q_drew)); exact HO_590001.out) hb)
              have n3_ := Aside0.mk (Kd.R_below (kR HO599.out) hb)
              have n4_ := Aside0.mk (blk_below (bK BK576.out) hb)
              have n5_ := Aside0.mk (blk_below (bK BK577.out) hb)
              have n6_ := Aside0.mk (blk_below (bK BK583.out) hb)
              have n7_ := Aside0.mk (blk_below (bK BK589.out) hb)
              have n8_ := Aside0.mk (below_step (by repeat (first | (with_reducible first | exact HB.out | apply below_alloc | apply pw_below_drewN | apply below_drew1 | refine below_set ?_ GE576.out | refine below_set ?_ GE577.out | refine below_set ?_ GE583.out | refine below_set ?_ GE589.out) | exact HB.out)) hb)
              have n9_ := Aside0.mk (hbox)
              have n10_ := Aside0.mk ((by rw [hg]; exact (below_size (by repeat (first | (with_reducible first | exact HB.out | apply below_alloc | apply pw_below_drewN | apply below_drew1 | refine below_set ?_ GE576.out | refine below_set ?_ GE577.out | refine below_set ?_ GE583.out | refine below_set ?_ GE589.out) | exact HB.out))) : w.heap.size ≤ gb601))
              have n11_ := Aside0.mk ((by rw [hg]; exact (below_size (by repeat (first | (with_reducible first | exact HB.out | apply below_alloc | apply pw_below_drewN | apply below_drew1 | refine below_set ?_ GE576.out | refine below_set ?_ GE577.out | refine below_set ?_ GE583.out | refine below_set ?_ GE589.out) | exact HB.out))) : w.heap.size ≤ gb601))
              have n12_ := Aside0.mk ((by rw [hg]; exact Nat.ne_of_lt (blk_lt (bK BK576.out)) : gb576 ≠ gb601))
              have n13_ := Aside0.mk ((by rw [hg]; exact Nat.ne_of_gt (blk_lt (bK BK576.out)) : gb601 ≠ gb576))
              have n14_ := Aside0.mk ((by rw [hg]; exact Nat.ne_of_lt (blk_lt (bK BK577.out)) : gb577 ≠ gb601))
              have n15_ := Aside0.mk ((by rw [hg]; exact Nat.ne_of_gt (blk_lt (bK BK577.out)) : gb601 ≠ gb577))
              have n16_ := Aside0.mk ((by rw [hg]; exact Nat.ne_of_lt (blk_lt (bK BK583.out)) : gb583 ≠ gb601))
              have n17_ := Aside0.mk ((by rw [hg]; exact Nat.ne_of_gt (blk_lt (bK BK583.out)) : gb601 ≠ gb583))
              have n18_ := Aside0.mk ((by rw [hg]; exact Nat.ne_of_lt (blk_lt (bK BK589.out)) : gb589 ≠ gb601))
              have n19_ := Aside0.mk ((by rw [hg]; exact Nat.ne_of_gt (blk_lt (bK BK589.out)) : gb601 ≠ gb589))
              clear HO_577001
              clear HO_584001
              clear HO_590001
              clear HO599
              clear BK576
              clear BK577
              clear BK583
              clear BK589
              clear HB
              have HO_577001 := n0_
              have HO_584001 := n1_
              have HO_590001 := n2_
              have HO599 := n3_
              have BK576 := n4_
              have BK577 := n5_
              have BK583 := n6_
              have BK589 := n7_
              have HB := n8_
              have BK601 := n9_
              have GW601 := n10_
              have GE601 := n11_
              have NB576_601 := n12_
              have NB601_576 := n13_
              have NB577_601 := n14_
              have NB601_577 := n15_
              have NB583_601 := n16_
              have NB601_583 := n17_
              have NB589_601 := n18_
              have NB601_589 := n19_
              clear n0_ n1_ n2_ n3_ n4_ n5_ n6_ n7_ n8_ n9_ n10_ n11_ n12_ n13_ n14_ n15_ n16_ n17_ n18_ n19_
              clear hb hbox hg
              refine hK.out _ _ ⟨(blk_cell BK589.out 0).trans rfl, (blk_cell BK589.out 1).trans rfl, (blk_cell BK576.out 0).trans rfl, (blk_cell BK576.out 1).trans rfl, HS4_, HS5_⟩ (fun hHeld => ?_)
              clear hK K
              refine norm_ (a' := ?_) ?_ ?_
              rotate_left
              ·show Act.put _ (some 11) _ = _
               simp only [Act.put, List.setIfInBounds_toArray, List.set_cons_zero, List.set_cons_succ, i64_w, i32_w]
               rfl
              exact norm_ (by simp only [putAll, Act.put, List.setIfInBounds_toArray, List.set_cons_zero, List.set_cons_succ]) (hCont (v598, gb601) _ ⟨hHeld, (by (with_reducible repeat (first | apply Kd.R_alloc | apply Kd.R_drewN | apply Kd.R_drew)); exact Kd.R_mono HO599.out (fun _ hk => ⟨hk.1.1.1.2, ⟨hk.1.1.2, ⟨hk.1.2, hk.2⟩⟩⟩)), (by (with_reducible repeat (first | apply Kd.Q_alloc | apply Kd.Q_drewN | apply Kd.Q_drew)); exact Kd.Q_mono HO_577001.out (fun _ hk => ⟨hk.2, ⟨hk.1.1, ⟨hk.1.2.1, hk.1.2.2⟩⟩⟩)), (by (with_reducible repeat (first | apply Kd.Q_alloc | apply Kd.Q_drewN | apply Kd.Q_drew)); exact Kd.Q_mono HO_584001.out (fun _ hk => ⟨hk.2, ⟨hk.1.1, ⟨hk.1.2.1, hk.1.2.2⟩⟩⟩)), (by (with_reducible repeat (first | apply Kd.Q_alloc | apply Kd.Q_drewN | apply Kd.Q_drew)); exact Kd.Q_mono HO_590001.out (fun _ hk => ⟨hk.2, ⟨hk.1.1, ⟨hk.1.2.1, hk.1.2.2⟩⟩⟩)), (bK BK576.out), (bK BK577.out), (bK BK583.out), (bK BK589.out), (bK BK601.out), GW601.out, GE601.out, NB576_601.out, NB601_576.out, NB577_601.out, NB601_577.out, NB583_601.out, NB601_583.out, NB589_601.out, NB601_589.out, (by repeat (first | (with_reducible first | exact HB.out | apply below_alloc | apply pw_below_drewN | apply below_drew1 | refine below_set ?_ GE576.out | refine below_set ?_ GE577.out | refine below_set ?_ GE583.out | refine below_set ?_ GE589.out | refine below_set ?_ GE601.out) | exact HB.out))⟩)
             ·skip
              refine box_step ?hg (N := 11) ?hd (cs := #[.int .i64 0, .slice none 0 0]) (t := 25) ?hr ?_; (case hd => rfl); (case hg => rfl); (case hr => first | (go_simp; done) | (go_simp; rfl))
              intro gb601 hg w89 hbox hb
              have HS4_ := (hb.cell (World.block_lt_of_cell? _ _ (hHeld.2.2.2.2.1))).trans (hHeld.2.2.2.2.1)
              have HS5_ := (hb.cell (World.block_lt_of_cell? _ _ (hHeld.2.2.2.2.2))).trans (hHeld.2.2.2.2.2)
              have n0_ := Aside0.mk (Kd.Q_below (by (with_reducible repeat (first | apply Kd.Q_alloc | apply Kd.Q_drewN | apply Kd.Q_drew)); exact HO_577001.out) hb)
              have n1_ := Aside0.mk (Kd.Q_below (by (with_reducible repeat (first | apply Kd.Q_alloc | apply Kd.Q_drewN | apply Kd.Q_drew)); exact HO_584001.out) hb)
              have n2_ := Aside0.mk (Kd.Q_below (by (with_reducible repeat (first | apply Kd.Q_alloc | apply Kd.Q_drewN | apply Kd.Q_drew)); exact HO_590001.out) hb)
              have n3_ := Aside0.mk (blk_below (bK BK576.out) hb)
              have n4_ := Aside0.mk (blk_below (bK BK577.out) hb)
              have n5_ := Aside0.mk (blk_below (bK BK583.out) hb)
              have n6_ := Aside0.mk (blk_below (bK BK589.out) hb)
              have n7_ := Aside0.mk (below_step (by repeat (first | (with_reducible first | exact HB.out | apply below_alloc | apply pw_below_drewN | apply below_drew1 | refine below_set ?_ GE576.out | refine below_set ?_ GE577.out | refine below_set ?_ GE583.out | refine below_set ?_ GE589.out) | exact HB.out)) hb)
              have n8_ := Aside0.mk (hbox)
              have n9_ := Aside0.mk ((by rw [hg]; exact (below_size (by repeat (first | (with_reducible first | exact HB.out | apply below_alloc | apply pw_below_drewN | apply below_drew1 | refine below_set ?_ GE576.out | refine below_set ?_ GE577.out | refine below_set ?_ GE583.out | refine below_set ?_ GE589.out) | exact HB.out))) : w.heap.size ≤ gb601))
              have n10_ := Aside0.mk ((by rw [hg]; exact (below_size (by repeat (first | (with_reducible first | exact HB.out | apply below_alloc | apply pw_below_drewN | apply below_drew1 | refine below_set ?_ GE576.out | refine below_set ?_ GE577.out | refine below_set ?_ GE583.out | refine below_set ?_ GE589.out) | exact HB.out))) : w.heap.size ≤ gb601))
              have n11_ := Aside0.mk ((by rw [hg]; exact Nat.ne_of_lt (blk_lt (bK BK576.out)) : gb576 ≠ gb601))
              have n12_ := Aside0.mk ((by rw [hg]; exact Nat.ne_of_gt (blk_lt (bK BK576.out)) : gb601 ≠ gb576))
              have n13_ := Aside0.mk ((by rw [hg]; exact Nat.ne_of_lt (blk_lt (bK BK577.out)) : gb577 ≠ gb601))
              have n14_ := Aside0.mk ((by rw [hg]; exact Nat.ne_of_gt (blk_lt (bK BK577.out)) : gb601 ≠ gb577))
              have n15_ := Aside0.mk ((by rw [hg]; exact Nat.ne_of_lt (blk_lt (bK BK583.out)) : gb583 ≠ gb601))
              have n16_ := Aside0.mk ((by rw [hg]; exact Nat.ne_of_gt (blk_lt (bK BK583.out)) : gb601 ≠ gb583))
              have n17_ := Aside0.mk ((by rw [hg]; exact Nat.ne_of_lt (blk_lt (bK BK589.out)) : gb589 ≠ gb601))
              have n18_ := Aside0.mk ((by rw [hg]; exact Nat.ne_of_gt (blk_lt (bK BK589.out)) : gb601 ≠ gb589))
              clear HO_577001
              clear HO_584001
              clear HO_590001
              clear BK576
              clear BK577
              clear BK583
              clear BK589
              clear HB
              have HO_577001 := n0_
              have HO_584001 := n1_
              have HO_590001 := n2_
              have BK576 := n3_
              have BK577 := n4_
              have BK583 := n5_
              have BK589 := n6_
              have HB := n7_
              have BK601 := n8_
              have GW601 := n9_
              have GE601 := n10_
              have NB576_601 := n11_
              have NB601_576 := n12_
              have NB577_601 := n13_
              have NB601_577 := n14_
              have NB583_601 := n15_
              have NB601_583 := n16_
              have NB589_601 := n17_
              have NB601_589 := n18_
              clear n0_ n1_ n2_ n3_ n4_ n5_ n6_ n7_ n8_ n9_ n10_ n11_ n12_ n13_ n14_ n15_ n16_ n17_ n18_
              clear hb hbox hg
              refine hK.out _ _ ⟨(blk_cell BK589.out 0).trans rfl, (blk_cell BK589.out 1).trans rfl, (blk_cell BK576.out 0).trans rfl, (blk_cell BK576.out 1).trans rfl, HS4_, HS5_⟩ (fun hHeld => ?_)
              clear hK K
              refine norm_ (a' := ?_) ?_ ?_
              rotate_left
              ·show Act.put _ (some 11) _ = _
               simp only [Act.put, List.setIfInBounds_toArray, List.set_cons_zero, List.set_cons_succ, i64_w, i32_w]
               rfl
              refine one_ (i := 7) (N := some 102) #[true, true, true, true, true, true, true, true, false, false, false, true, false, false] rfl rfl (one_of HT_.out (by kernel_rfl)) (by decide) (fun K hK => ?_)
              refine goes_ Try.func27 (by kernel_rfl) rfl #[.agg #[.int .i64 t584, .slice Ao28 t585.length co28], .int .i64 t573, .agg #[.int .i64 ((rd_T42 t570 t573).f0), .int .i64 ((rd_T42 t570 t573).f1)]] (by rfl) rfl rfl (by (try simp only [List.map_toArray, List.map_cons, List.map_nil]); first | done | rfl | (simp only [List.length_drop, List.length_take]; rfl)) ?_
              with_reducible refine (impl_GridPut.calls k2 t584 _ _ t585 t573 ((rd_T42 t570 t573).f0) ((rd_T42 t570 t573).f1) t596 t597 true _ ?side1 ?side2 A79.out).mono ?_
              (case side1 => repeat (first | exact (Kd.Q_reads' HO_590001.out).2.2 | (with_reducible refine Kd.C_alloc ?_ _) | (with_reducible refine Kd.C_drewN ?_ _) | (with_reducible refine Kd.C_drew ?_)))
              (case side2 => exact (Kd.Q_reads' HO_590001.out).2.1)
              rintro e w90 ⟨v598, rfl, ho0, hb⟩
              have HS4_ := (hb.cell (World.block_lt_of_cell? _ _ (hHeld.2.2.2.2.1))).trans (hHeld.2.2.2.2.1)
              have HS5_ := (hb.cell (World.block_lt_of_cell? _ _ (hHeld.2.2.2.2.2))).trans (hHeld.2.2.2.2.2)
              refine ⟨_, rfl, ?_⟩
              have n0_ := Aside0.mk (Kd.Q_elder' (by (with_reducible repeat (first | apply Kd.Q_alloc | apply Kd.Q_drewN | apply Kd.Q_drew)); exact HO_577001.out) (Kd.R_base ho0) hb)
              have n1_ := Aside0.mk (Kd.Q_elder' (by (with_reducible repeat (first | apply Kd.Q_alloc | apply Kd.Q_drewN | apply Kd.Q_drew)); exact HO_584001.out) (Kd.R_base ho0) hb)
              have n2_ := Aside0.mk (Kd.Q_elder' (by (with_reducible repeat (first | apply Kd.Q_alloc | apply Kd.Q_drewN | apply Kd.Q_drew)); exact HO_590001.out) (Kd.R_base ho0) hb)
              have n3_ := Aside0.mk (Kd.R_lower (Kd.R_newB (Kd.R_new' (Kd.R_new' (Kd.R_new' ho0 (Kd.Q_lt (by (with_reducible repeat (first | apply Kd.Q_alloc | apply Kd.Q_drewN | apply Kd.Q_drew)); exact HO_577001.out))) (Kd.Q_lt (by (with_reducible repeat (first | apply Kd.Q_alloc | apply Kd.Q_drewN | apply Kd.Q_drew)); exact HO_584001.out))) (Kd.Q_lt (by (with_reducible repeat (first | apply Kd.Q_alloc | apply Kd.Q_drewN | apply Kd.Q_drew)); exact HO_590001.out))) (g := gb577) (o := .cells #[.int .i64 t574, .int .i64 t575] 42 (0, 0)) (bK BK577.out)) (below_size (by repeat (first | (with_reducible first | exact HB.out | apply below_alloc | apply pw_below_drewN | apply below_drew1 | refine below_set ?_ GE576.out | refine below_set ?_ GE577.out | refine below_set ?_ GE583.out | refine below_set ?_ GE589.out | refine below_set ?_ GE601.out) | exact HB.out))))
              have n4_ := Aside0.mk (blk_below (bK BK576.out) hb)
              have n5_ := Aside0.mk (blk_below (bK BK577.out) hb)
              have n6_ := Aside0.mk (blk_below (bK BK583.out) hb)
              have n7_ := Aside0.mk (blk_below (bK BK589.out) hb)
              have n8_ := Aside0.mk (blk_below (bK BK601.out) hb)
              have n9_ := Aside0.mk (below_step (by repeat (first | (with_reducible first | exact HB.out | apply below_alloc | apply pw_below_drewN | apply below_drew1 | refine below_set ?_ GE576.out | refine below_set ?_ GE577.out | refine below_set ?_ GE583.out | refine below_set ?_ GE589.out | refine below_set ?_ GE601.out) | exact HB.out)) hb)
              clear HO_577001
              clear HO_584001
              clear HO_590001
              clear BK576
              clear BK577
              clear BK583
              clear BK589
              clear BK601
              clear HB
              have HO_577001 := n0_
              have HO_584001 := n1_
              have HO_590001 := n2_
              have HO599 := n3_
              have BK576 := n4_
              have BK577 := n5_
              have BK583 := n6_
              have BK589 := n7_
              have BK601 := n8_
              have HB := n9_
              clear n0_ n1_ n2_ n3_ n4_ n5_ n6_ n7_ n8_ n9_
              (try clear hb)
              (try clear hb2)
              (try clear hk)
              (try clear hi)
              (try clear ho0)
              refine hK.out _ _ ⟨(blk_cell BK589.out 0).trans rfl, (blk_cell BK589.out 1).trans rfl, (blk_cell BK576.out 0).trans rfl, (blk_cell BK576.out 1).trans rfl, HS4_, HS5_⟩ (fun hHeld => ?_)
              clear hK K
              refine norm_ (a' := ?_) ?_ ?_
              rotate_left
              ·show Act.put _ (some 102) _ = _
               simp only [Act.put, List.setIfInBounds_toArray, List.set_cons_zero, List.set_cons_succ, i64_w, i32_w]
               rfl
              refine pure_ (i := 8) (N := some 94) (v := ?_) (a' := ?_) #[true, true, true, true, true, true, true, true, true, false, false, true, false, false] rfl rfl (any_of HT_.out (by kernel_rfl)) (fun _ _ _ h => h) (Or.inl ⟨by rfl, ?_⟩) ?_ ?_
              rotate_left
              ·intro w'
               go_simp
               with_reducible rfl
              rotate_left
              ·simp only [Act.put, List.setIfInBounds_toArray, List.set_cons_zero, List.set_cons_succ, i64_w, i32_w]
               rfl
              refine pure_ (i := 9) (N := some 103) (v := ?_) (a' := ?_) #[true, true, true, true, true, true, true, true, true, true, false, true, false, false] rfl rfl (any_of HT_.out (by kernel_rfl)) (fun _ _ _ h => h) (Or.inl ⟨by rfl, ?_⟩) ?_ ?_
              rotate_left
              ·intro w'
               go_simp
               with_reducible rfl
              rotate_left
              ·simp only [Act.put, List.setIfInBounds_toArray, List.set_cons_zero, List.set_cons_succ, i64_w, i32_w]
               rfl
              refine pure_ (i := 10) (N := some 104) (v := ?_) (a' := ?_) #[true, true, true, true, true, true, true, true, true, true, true, true, false, false] rfl rfl (any_of HT_.out (by kernel_rfl)) (fun _ _ _ h => h) (Or.inl ⟨by rfl, ?_⟩) ?_ ?_
              rotate_left
              ·intro w'
               go_simp
               with_reducible rfl
              rotate_left
              ·simp only [Act.put, List.setIfInBounds_toArray, List.set_cons_zero, List.set_cons_succ, i64_w, i32_w]
               rfl
              exact norm_ (by simp only [putAll, Act.put, List.setIfInBounds_toArray, List.set_cons_zero, List.set_cons_succ]) (hCont (v598, gb601) _ ⟨hHeld, (by (with_reducible repeat (first | apply Kd.R_alloc | apply Kd.R_drewN | apply Kd.R_drew)); exact Kd.R_mono HO599.out (fun _ hk => ⟨hk.1.1.1.2, ⟨hk.1.1.2, ⟨hk.1.2, hk.2⟩⟩⟩)), (by (with_reducible repeat (first | apply Kd.Q_alloc | apply Kd.Q_drewN | apply Kd.Q_drew)); exact Kd.Q_mono HO_577001.out (fun _ hk => ⟨hk.2, ⟨hk.1.1, ⟨hk.1.2.1, hk.1.2.2⟩⟩⟩)), (by (with_reducible repeat (first | apply Kd.Q_alloc | apply Kd.Q_drewN | apply Kd.Q_drew)); exact Kd.Q_mono HO_584001.out (fun _ hk => ⟨hk.2, ⟨hk.1.1, ⟨hk.1.2.1, hk.1.2.2⟩⟩⟩)), (by (with_reducible repeat (first | apply Kd.Q_alloc | apply Kd.Q_drewN | apply Kd.Q_drew)); exact Kd.Q_mono HO_590001.out (fun _ hk => ⟨hk.2, ⟨hk.1.1, ⟨hk.1.2.1, hk.1.2.2⟩⟩⟩)), (bK BK576.out), (bK BK577.out), (bK BK583.out), (bK BK589.out), (bK BK601.out), GW601.out, GE601.out, NB576_601.out, NB601_576.out, NB577_601.out, NB601_577.out, NB583_601.out, NB601_583.out, NB589_601.out, NB601_589.out, (by repeat (first | (with_reducible first | exact HB.out | apply below_alloc | apply pw_below_drewN | apply below_drew1 | refine below_set ?_ GE576.out | refine below_set ?_ GE577.out | refine below_set ?_ GE583.out | refine below_set ?_ GE589.out | refine below_set ?_ GE601.out) | exact HB.out))⟩)
            rintro ⟨v598, gb601⟩ w91 ⟨hS_, h0_, h1_, h2_, h3_, h4_, h5_, h6_, h7_, h8_, h9_, h10_, h11_, h12_, h13_, h14_, h15_, h16_, h17_, h18_, h19_⟩
            have n0_ : Aside0 (Kd.R k42 42 w91 w.heap.size (fun k_ => some k_ ≠ (.slice (some ad595) t570.length co12 : Value).ownBlock ∧ some k_ ≠ (.slice Ao19 t579.length co19 : Value).ownBlock ∧ some k_ ≠ (.slice Ao28 t585.length co28 : Value).ownBlock ∧ k_ ≠ gb577) v598 t597) := ⟨h0_⟩
            have n1_ : Aside0 (Kd.Q k42 42 w91 w.heap.size (fun k_ => some k_ ≠ (v598 : Value).ownBlock ∧ some k_ ≠ (.slice Ao19 t579.length co19 : Value).ownBlock ∧ some k_ ≠ (.slice Ao28 t585.length co28 : Value).ownBlock ∧ k_ ≠ gb577) (.slice (some ad595) t570.length co12) t570) := ⟨h1_⟩
            have n2_ : Aside0 (Kd.Q k42 42 w91 w.heap.size (fun k_ => some k_ ≠ (v598 : Value).ownBlock ∧ some k_ ≠ (.slice (some ad595) t570.length co12 : Value).ownBlock ∧ some k_ ≠ (.slice Ao28 t585.length co28 : Value).ownBlock ∧ k_ ≠ gb577) (.slice Ao19 t579.length co19) t579) := ⟨h2_⟩
            have n3_ : Aside0 (Kd.Q k42 42 w91 w.heap.size (fun k_ => some k_ ≠ (v598 : Value).ownBlock ∧ some k_ ≠ (.slice (some ad595) t570.length co12 : Value).ownBlock ∧ some k_ ≠ (.slice Ao19 t579.length co19 : Value).ownBlock ∧ k_ ≠ gb577) (.slice Ao28 t585.length co28) t585) := ⟨h3_⟩
            have n4_ : Aside0 (w91.heap[gb576]? = some (.cells #[.int .i64 t569, .slice (some ad595) t570.length co12] 25 (0, 0))) := ⟨h4_⟩
            have n5_ : Aside0 (w91.heap[gb577]? = some (.cells #[.int .i64 t574, .int .i64 t575] 42 (0, 0))) := ⟨h5_⟩
            have n6_ : Aside0 (w91.heap[gb583]? = some (.cells #[.int .i64 t578, .slice Ao19 t579.length co19] 25 (0, 0))) := ⟨h6_⟩
            have n7_ : Aside0 (w91.heap[gb589]? = some (.cells #[.int .i64 t584, .slice Ao28 t585.length co28] 25 (0, 0))) := ⟨h7_⟩
            have n8_ : Aside0 (w91.heap[gb601]? = some (.cells #[.int .i64 0, .slice none 0 0] 25 (0, 0))) := ⟨h8_⟩
            have n9_ : Aside0 (w.heap.size ≤ gb601) := ⟨h9_⟩
            have n10_ : Aside0 (w.heap.size ≤ gb601) := ⟨h10_⟩
            have n11_ : Aside0 (gb576 ≠ gb601) := ⟨h11_⟩
            have n12_ : Aside0 (gb601 ≠ gb576) := ⟨h12_⟩
            have n13_ : Aside0 (gb577 ≠ gb601) := ⟨h13_⟩
            have n14_ : Aside0 (gb601 ≠ gb577) := ⟨h14_⟩
            have n15_ : Aside0 (gb583 ≠ gb601) := ⟨h15_⟩
            have n16_ : Aside0 (gb601 ≠ gb583) := ⟨h16_⟩
            have n17_ : Aside0 (gb589 ≠ gb601) := ⟨h17_⟩
            have n18_ : Aside0 (gb601 ≠ gb589) := ⟨h18_⟩
            have n19_ : Aside0 (Below w.heap.size w w91) := ⟨h19_⟩
            clear HO_577001
            clear HO_584001
            clear HO_590001
            clear BK576
            clear BK577
            clear BK583
            clear BK589
            clear HB
            clear h0_ h1_ h2_ h3_ h4_ h5_ h6_ h7_ h8_ h9_ h10_ h11_ h12_ h13_ h14_ h15_ h16_ h17_ h18_ h19_
            have HO599 := n0_
            have HO_577001 := n1_
            have HO_584001 := n2_
            have HO_590001 := n3_
            have BK576 := n4_
            have BK577 := n5_
            have BK583 := n6_
            have BK589 := n7_
            have BK601 := n8_
            have GW601 := n9_
            have GE601 := n10_
            have NB576_601 := n11_
            have NB601_576 := n12_
            have NB577_601 := n13_
            have NB601_577 := n14_
            have NB583_601 := n15_
            have NB601_583 := n16_
            have NB589_601 := n17_
            have NB601_589 := n18_
            have HB := n19_
            clear n0_ n1_ n2_ n3_ n4_ n5_ n6_ n7_ n8_ n9_ n10_ n11_ n12_ n13_ n14_ n15_ n16_ n17_ n18_ n19_
            have hHeld : w91.cell? ⟨gb589, 0, none⟩ = some (.int .i64 t584) ∧ w91.cell? ⟨gb589, 1, none⟩ = some (.slice Ao28 t585.length co28) ∧ w91.cell? ⟨gb576, 0, none⟩ = some (.int .i64 t569) ∧ w91.cell? ⟨gb576, 1, none⟩ = some (.slice (some ad595) t570.length co12) ∧ w91.cell? (ad595.add ((t573).toNat * 2)) = some (.int .i64 ((rd_T42 t570 t573).f0)) ∧ w91.cell? ⟨(ad595.add ((t573).toNat * 2)).block, (ad595.add ((t573).toNat * 2)).off + 1, none⟩ = some (.int .i64 ((rd_T42 t570 t573).f1)) := hS_
            obtain ⟨Ao93, co93, eo93⟩ := Kd.R_slice HO599.out
            (first | subst eo93 | (injection eo93 with f1_ f2_ f3_; have f4_ := f1_.symm; have f5_ := f3_.symm; clear f1_ f2_ f3_; subst f4_; subst f5_))
            refine norm_ (a' := ?_) ?_ ?_
            rotate_left
            ·simp only [putAll, Act.put, List.setIfInBounds_toArray, List.set_cons_zero, List.set_cons_succ]
             rfl
            refine one_ (i := 12) (N := none) #[true, true, true, true, true, true, true, true, true, true, true, true, true, false] rfl rfl (one_of HT_.out (by kernel_rfl)) (by decide) (fun K hK => ?_)
            have hs92 : w91.cell? ⟨gb601, 0, none⟩ = some (.int .i64 0) := (blk_cell BK601.out 0).trans rfl
            have hfs92 := blk_frozen BK601.out 0
            have hns92_0 := NB576_601.out
            have hns92_1 := NB577_601.out
            have hns92_2 := NB583_601.out
            have hns92_3 := NB589_601.out
            have hms92_0 := NB601_576.out
            have hms92_1 := NB601_577.out
            have hms92_2 := NB601_583.out
            have hms92_3 := NB601_589.out
            have hs94 : w91.cell? ⟨gb601, 1, none⟩ = some (.slice none 0 0) := (blk_cell BK601.out 1).trans rfl
            have hfs94 := blk_frozen BK601.out 1
            have hns94_0 := NB576_601.out
            have hns94_1 := NB577_601.out
            have hns94_2 := NB583_601.out
            have hns94_3 := NB589_601.out
            have hms94_0 := NB601_576.out
            have hms94_1 := NB601_577.out
            have hms94_2 := NB601_583.out
            have hms94_3 := NB601_589.out
            refine skip_ (w1 := ?_) (by rfl) rfl ?_ ?_
            rotate_left
            ·go_simp
             rfl
            refine hK.out _ _ ⟨((cell_far (p := ⟨gb601, _, none⟩) NB589_601.out _).trans (((cell_far (p := ⟨gb601, _, none⟩) NB589_601.out _).trans (hHeld.1)))), ((cell_far (p := ⟨gb601, _, none⟩) NB589_601.out _).trans (((cell_far (p := ⟨gb601, _, none⟩) NB589_601.out _).trans (hHeld.2.1)))), ((cell_far (p := ⟨gb601, _, none⟩) NB576_601.out _).trans (((cell_far (p := ⟨gb601, _, none⟩) NB576_601.out _).trans (hHeld.2.2.1)))), ((cell_far (p := ⟨gb601, _, none⟩) NB576_601.out _).trans (((cell_far (p := ⟨gb601, _, none⟩) NB576_601.out _).trans (hHeld.2.2.2.1)))), ((cell_far (p := ⟨gb601, _, none⟩) (by first | exact Kd.own_blk (Kd.Q_ne HO_577001.out BK601.out (by decide)) | (rw [add_block]; exact Kd.own_blk (Kd.Q_ne HO_577001.out BK601.out (by decide))) | (show (Addr.add _ _).block ≠ _; rw [add_block]; exact Kd.own_blk (Kd.Q_ne HO_577001.out BK601.out (by decide))) | (dsimp only; exact Kd.own_blk (Kd.Q_ne HO_577001.out BK601.out (by decide)))) _).trans (((cell_far (p := ⟨gb601, _, none⟩) (by first | exact Kd.own_blk (Kd.Q_ne HO_577001.out BK601.out (by decide)) | (rw [add_block]; exact Kd.own_blk (Kd.Q_ne HO_577001.out BK601.out (by decide))) | (show (Addr.add _ _).block ≠ _; rw [add_block]; exact Kd.own_blk (Kd.Q_ne HO_577001.out BK601.out (by decide))) | (dsimp only; exact Kd.own_blk (Kd.Q_ne HO_577001.out BK601.out (by decide)))) _).trans (hHeld.2.2.2.2.1)))), ((cell_far (p := ⟨gb601, _, none⟩) (by first | exact Kd.own_blk (Kd.Q_ne HO_577001.out BK601.out (by decide)) | (rw [add_block]; exact Kd.own_blk (Kd.Q_ne HO_577001.out BK601.out (by decide))) | (show (Addr.add _ _).block ≠ _; rw [add_block]; exact Kd.own_blk (Kd.Q_ne HO_577001.out BK601.out (by decide))) | (dsimp only; exact Kd.own_blk (Kd.Q_ne HO_577001.out BK601.out (by decide)))) _).trans (((cell_far (p := ⟨gb601, _, none⟩) (by first | exact Kd.own_blk (Kd.Q_ne HO_577001.out BK601.out (by decide)) | (rw [add_block]; exact Kd.own_blk (Kd.Q_ne HO_577001.out BK601.out (by decide))) | (show (Addr.add _ _).block ≠ _; rw [add_block]; exact Kd.own_blk (Kd.Q_ne HO_577001.out BK601.out (by decide))) | (dsimp only; exact Kd.own_blk (Kd.Q_ne HO_577001.out BK601.out (by decide)))) _).trans (hHeld.2.2.2.2.2))))⟩ (fun hHeld => ?_)
            clear hK K
            refine pure_ (i := 13) (N := some 12) (v := ?_) (a' := ?_) #[true, true, true, true, true, true, true, true, true, true, true, true, true, true] rfl rfl (any_of HT_.out (by kernel_rfl)) (fun _ _ _ h => h) (Or.inl ⟨by rfl, ?_⟩) ?_ ?_
            rotate_left
            ·intro w'
             go_simp
             with_reducible rfl
            rotate_left
            ·simp only [Act.put, List.setIfInBounds_toArray, List.set_cons_zero, List.set_cons_succ, i64_w, i32_w]
             rfl
            refine done_ (done_of HT_.out (by kernel_rfl)) ?_
            have hnb95 := NB601_576.out
            have hnc95 := NB576_601.out
            have hnb96 := NB601_577.out
            have hnc96 := NB577_601.out
            have hnb97 := NB601_583.out
            have hnc97 := NB583_601.out
            have hnb98 := NB601_589.out
            have hnc98 := NB589_601.out
            have hcz99_0 : w91.cell? ⟨gb601, 0, none⟩ = some (.int .i64 0) := (blk_cell BK601.out 0).trans rfl
            have hcz99_1 : w91.cell? ⟨gb601, 1, none⟩ = some (.slice none 0 0) := (blk_cell BK601.out 1).trans rfl
            have hfz99_0 := blk_frozen BK601.out 0
            have hfz99_1 := blk_frozen BK601.out 1
            have hcz100_0 : w91.cell? ⟨gb576, 0, none⟩ = some (.int .i64 t569) := (blk_cell BK576.out 0).trans rfl
            have hcz100_1 : w91.cell? ⟨gb576, 1, none⟩ = some (.slice (some ad595) t570.length co12) := (blk_cell BK576.out 1).trans rfl
            have hfz100_0 := blk_frozen BK576.out 0
            have hfz100_1 := blk_frozen BK576.out 1
            try go_wp2_with (first | (go_at_call 28; (with_reducible refine (laws_llGrid.calls k2 t596 _ _ t597 t569 _ _ t570 true _ ?side1 ?side2 ?side3 ?side4 A81.out).mono ?_); (case side1 => refine (Kd.R_reads' (e := 42) (base := w.heap.size) (ok := fun k_ => (some k_ ≠ (.slice (some ad595) t570.length co12 : Value).ownBlock ∧ (some k_ ≠ (.slice Ao19 t579.length co19 : Value).ownBlock ∧ (some k_ ≠ (.slice Ao28 t585.length co28 : Value).ownBlock ∧ k_ ≠ gb577)))) (n := t597.length) (c := co93) ?_).2.2; exact (by (with_reducible repeat (first | apply Kd.R_alloc | apply Kd.R_drewN | apply Kd.R_drew)); exact (Kd.R_mono (Kd.R_far (p := ⟨gb601, 1, none⟩) (Kd.R_far (p := ⟨gb601, 0, none⟩) (Kd.R_types HO599.out BK601.out (by decide)) (fun _ hk => hk.2) (.int .i64 t596)) (fun _ hk => hk.2) (.slice Ao93 t597.length co93)) (fun _ h_ => h_.1)))); (case side2 => exact (Kd.R_reads' HO599.out).2.1); (case side3 => refine (Kd.Q_reads' (e := 42) (base := w.heap.size) (ok := fun k_ => (some k_ ≠ (.slice Ao93 t597.length co93 : Value).ownBlock ∧ (some k_ ≠ (.slice Ao19 t579.length co19 : Value).ownBlock ∧ (some k_ ≠ (.slice Ao28 t585.length co28 : Value).ownBlock ∧ k_ ≠ gb577)))) (n := t570.length) (c := co12) ?_).2.2; exact (by (with_reducible repeat (first | apply Kd.Q_alloc | apply Kd.Q_drewN | apply Kd.Q_drew)); exact (Kd.Q_mono (Kd.Q_far (p := ⟨gb601, 1, none⟩) (Kd.Q_far (p := ⟨gb601, 0, none⟩) (Kd.Q_types HO_577001.out BK601.out (by decide)) (fun _ hk => hk.2) (.int .i64 t596)) (fun _ hk => hk.2) (.slice Ao93 t597.length co93)) (fun _ h_ => h_.1)))); (case side4 => exact (Kd.Q_reads' HO_577001.out).2.1); rintro e w101 ⟨rfl, hb⟩; have n0_ := Aside0.mk (Kd.Q_below (by (with_reducible repeat (first | apply Kd.Q_alloc | apply Kd.Q_drewN | apply Kd.Q_drew)); exact (Kd.Q_mono (Kd.Q_far (p := ⟨gb601, 1, none⟩) (Kd.Q_far (p := ⟨gb601, 0, none⟩) (Kd.Q_types HO_577001.out BK601.out (by decide)) (fun _ hk => hk.2) (.int .i64 t596)) (fun _ hk => hk.2) (.slice Ao93 t597.length co93)) (fun _ h_ => h_.1))) hb); have n1_ := Aside0.mk (Kd.Q_below (by (with_reducible repeat (first | apply Kd.Q_alloc | apply Kd.Q_drewN | apply Kd.Q_drew)); exact (Kd.Q_mono (Kd.Q_far (p := ⟨gb601, 1, none⟩) (Kd.Q_far (p := ⟨gb601, 0, none⟩) (Kd.Q_types HO_584001.out BK601.out (by decide)) (fun _ hk => hk.2) (.int .i64 t596)) (fun _ hk => hk.2) (.slice Ao93 t597.length co93)) (fun _ h_ => h_.1))) hb); have n2_ := Aside0.mk (Kd.Q_below (by (with_reducible repeat (first | apply Kd.Q_alloc | apply Kd.Q_drewN | apply Kd.Q_drew)); exact (Kd.Q_mono (Kd.Q_far (p := ⟨gb601, 1, none⟩) (Kd.Q_far (p := ⟨gb601, 0, none⟩) (Kd.Q_types HO_590001.out BK601.out (by decide)) (fun _ hk => hk.2) (.int .i64 t596)) (fun _ hk => hk.2) (.slice Ao93 t597.length co93)) (fun _ h_ => h_.1))) hb); have n3_ := Aside0.mk (Kd.R_below (by (with_reducible repeat (first | apply Kd.R_alloc | apply Kd.R_drewN | apply Kd.R_drew)); exact (Kd.R_mono (Kd.R_far (p := ⟨gb601, 1, none⟩) (Kd.R_far (p := ⟨gb601, 0, none⟩) (Kd.R_types HO599.out BK601.out (by decide)) (fun _ hk => hk.2) (.int .i64 t596)) (fun _ hk => hk.2) (.slice Ao93 t597.length co93)) (fun _ h_ => h_.1))) hb); have n4_ := Aside0.mk (blk_below (g := gb576) (o := .cells #[.int .i64 t569, .slice (some ad595) t570.length co12] 25 (0, 0)) (by (with_reducible repeat (first | refine blk_drewN ?_ _ | refine blk_drew ?_ | refine blk_alloc ?_ _)); refine blk_far ?_ NB576_601.out _; (with_reducible repeat (first | refine blk_drewN ?_ _ | refine blk_drew ?_ | refine blk_alloc ?_ _)); refine blk_far ?_ NB576_601.out _; (with_reducible repeat (first | refine blk_drewN ?_ _ | refine blk_drew ?_ | refine blk_alloc ?_ _)); exact BK576.out) hb); have n5_ := Aside0.mk (blk_below (g := gb577) (o := .cells #[.int .i64 t574, .int .i64 t575] 42 (0, 0)) (by (with_reducible repeat (first | refine blk_drewN ?_ _ | refine blk_drew ?_ | refine blk_alloc ?_ _)); refine blk_far ?_ NB577_601.out _; (with_reducible repeat (first | refine blk_drewN ?_ _ | refine blk_drew ?_ | refine blk_alloc ?_ _)); refine blk_far ?_ NB577_601.out _; (with_reducible repeat (first | refine blk_drewN ?_ _ | refine blk_drew ?_ | refine blk_alloc ?_ _)); exact BK577.out) hb); have n6_ := Aside0.mk (blk_below (g := gb583) (o := .cells #[.int .i64 t578, .slice Ao19 t579.length co19] 25 (0, 0)) (by (with_reducible repeat (first | refine blk_drewN ?_ _ | refine blk_drew ?_ | refine blk_alloc ?_ _)); refine blk_far ?_ NB583_601.out _; (with_reducible repeat (first | refine blk_drewN ?_ _ | refine blk_drew ?_ | refine blk_alloc ?_ _)); refine blk_far ?_ NB583_601.out _; (with_reducible repeat (first | refine blk_drewN ?_ _ | refine blk_drew ?_ | refine blk_alloc ?_ _)); exact BK583.out) hb); have n7_ := Aside0.mk (blk_below (g := gb589) (o := .cells #[.int .i64 t584, .slice Ao28 t585.length co28] 25 (0, 0)) (by (with_reducible repeat (first | refine blk_drewN ?_ _ | refine blk_drew ?_ | refine blk_alloc ?_ _)); refine blk_far ?_ NB589_601.out _; (with_reducible repeat (first | refine blk_drewN ?_ _ | refine blk_drew ?_ | refine blk_alloc ?_ _)); refine blk_far ?_ NB589_601.out _; (with_reducible repeat (first | refine blk_drewN ?_ _ | refine blk_drew ?_ | refine blk_alloc ?_ _)); exact BK589.out) hb); have n8_ := Aside0.mk (blk_below (g := gb601) (o := .cells #[.int .i64 t596, .slice Ao93 t597.length co93] 25 (0, 0)) (by (with_reducible repeat (first | refine blk_drewN ?_ _ | refine blk_drew ?_ | refine blk_alloc ?_ _)); refine blk_put (cs := #[.int .i64 t596, .slice none 0 0]) ?_ 1 _ rfl; (with_reducible repeat (first | refine blk_drewN ?_ _ | refine blk_drew ?_ | refine blk_alloc ?_ _)); refine blk_put (cs := #[.int .i64 0, .slice none 0 0]) ?_ 0 _ rfl; (with_reducible repeat (first | refine blk_drewN ?_ _ | refine blk_drew ?_ | refine blk_alloc ?_ _)); exact BK601.out) hb); have n9_ := Aside0.mk (below_step (by repeat (first | (with_reducible first | exact HB.out | apply below_alloc | apply pw_below_drewN | apply below_drew1 | refine below_set ?_ GE576.out | refine below_set ?_ GE577.out | refine below_set ?_ GE583.out | refine below_set ?_ GE589.out | refine below_set ?_ GE601.out) | exact HB.out)) hb); clear HO_577001; clear HO_584001; clear HO_590001; clear HO599; clear BK576; clear BK577; clear BK583; clear BK589; clear BK601; clear HB; have HO_577001 := n0_; have HO_584001 := n1_; have HO_590001 := n2_; have HO599 := n3_; have BK576 := n4_; have BK577 := n5_; have BK583 := n6_; have BK589 := n7_; have BK601 := n8_; have HB := n9_; clear n0_ n1_ n2_ n3_ n4_ n5_ n6_ n7_ n8_ n9_; (try clear hb); (try clear hb2); (try clear hk); (try clear hi); have hnb102 := NB589_577.out; have hnc102 := NB577_589.out; have hnb103 := NB589_583.out; have hnc103 := NB583_589.out; have hcz104_0 : w101.cell? ⟨gb589, 0, none⟩ = some (.int .i64 t584) := (blk_cell BK589.out 0).trans rfl; have hcz104_1 : w101.cell? ⟨gb589, 1, none⟩ = some (.slice Ao28 t585.length co28) := (blk_cell BK589.out 1).trans rfl; have hfz104_0 := blk_frozen BK589.out 0; have hfz104_1 := blk_frozen BK589.out 1) | (go_at_call 29; (with_reducible refine (impl_GridOk.calls k2 t584 _ _ t585 t603 _ ?side1 ?side2 A83.out).mono ?_); (case side1 => repeat (first | exact (Kd.Q_reads' HO_590001.out).2.2 | (with_reducible refine Kd.C_alloc ?_ _) | (with_reducible refine Kd.C_drewN ?_ _) | (with_reducible refine Kd.C_drew ?_))); (case side2 => exact (Kd.Q_reads' HO_590001.out).2.1); rintro e w105 ⟨rfl, hb⟩; have n0_ := Aside0.mk (Kd.Q_below (by (with_reducible repeat (first | apply Kd.Q_alloc | apply Kd.Q_drewN | apply Kd.Q_drew)); exact HO_577001.out) hb); have n1_ := Aside0.mk (Kd.Q_below (by (with_reducible repeat (first | apply Kd.Q_alloc | apply Kd.Q_drewN | apply Kd.Q_drew)); exact HO_584001.out) hb); have n2_ := Aside0.mk (Kd.Q_below (by (with_reducible repeat (first | apply Kd.Q_alloc | apply Kd.Q_drewN | apply Kd.Q_drew)); exact HO_590001.out) hb); have n3_ := Aside0.mk (Kd.R_below (kR HO599.out) hb); have n4_ := Aside0.mk (blk_below (bK BK576.out) hb); have n5_ := Aside0.mk (blk_below (bK BK577.out) hb); have n6_ := Aside0.mk (blk_below (bK BK583.out) hb); have n7_ := Aside0.mk (blk_below (bK BK589.out) hb); have n8_ := Aside0.mk (blk_below (bK BK601.out) hb); have n9_ := Aside0.mk (below_step (by repeat (first | (with_reducible first | exact HB.out | apply below_alloc | apply pw_below_drewN | apply below_drew1 | refine below_set ?_ GE576.out | refine below_set ?_ GE577.out | refine below_set ?_ GE583.out | refine below_set ?_ GE589.out | refine below_set ?_ GE601.out) | exact HB.out)) hb); clear HO_577001; clear HO_584001; clear HO_590001; clear HO599; clear BK576; clear BK577; clear BK583; clear BK589; clear BK601; clear HB; have HO_577001 := n0_; have HO_584001 := n1_; have HO_590001 := n2_; have HO599 := n3_; have BK576 := n4_; have BK577 := n5_; have BK583 := n6_; have BK589 := n7_; have BK601 := n8_; have HB := n9_; clear n0_ n1_ n2_ n3_ n4_ n5_ n6_ n7_ n8_ n9_; (try clear hb); (try clear hb2); (try clear hk); (try clear hi)))
            go_ret
            exact ⟨by first | rfl | (simp [errW_none, errW_some] <;> rfl) | (simp [*, errW_none, errW_some] <;> rfl) | (exfalso; simp_all; done), by repeat (first | (with_reducible first | exact HB.out | apply below_alloc | apply pw_below_drewN | apply below_drew1 | refine below_set ?_ GE576.out | refine below_set ?_ GE577.out | refine below_set ?_ GE583.out | refine below_set ?_ GE589.out | refine below_set ?_ GE601.out) | exact HB.out)⟩
           ·replace c82 := Bool.eq_false_iff.mpr c82
            subst c82
            have H1 : (some false) = some r := by rw [if_neg (show ¬ (false = true) by decide)] at H; exact H
            clear H
            have H := H1
            clear H1
            obtain rfl := Option.some.inj H
            exact absurd HRT.out (by decide)
          ·replace c80 := Bool.eq_false_iff.mpr c80
           subst c80
           have H1 : (some false) = some r := by rw [if_neg (show ¬ (false = true) by decide)] at H; exact H
           clear H
           have H := H1
           clear H1
           obtain rfl := Option.some.inj H
           exact absurd HRT.out (by decide)
         ·rw [if_neg c78] at H
          exact absurd H (by simp)
        ·rw [if_neg c77] at H
         exact absurd H (by simp)

/-- THE ONE PURE STATEMENT of laws_FnPutThere: yours. -/
def laws_FnPutThere.Pure : Prop := ∀ (l0 : List Int), l0.length ≤ maxLen → l0.length * 1 ≤ 140737488351232 → (∀ x ∈ l0, (Lit.int .u8 x).wf = true) → ∃ k, laws_FnPutThere.f k l0 = some true
theorem laws_FnPutThere.walk (P : laws_FnPutThere.Pure) (a0 : Option Addr) (len0 cap0 : Nat) (z0 : List Int) (w : World) (w0 : (a0 = none ∧ len0 = 0 ∧ cap0 = 0 ∧ z0 = []) ∨ ∃ x, a0 = some x ∧ len0 ≤ cap0 ∧ cap0 ≤ maxLen ∧ z0.length = cap0 ∧ (∀ i, i < z0.length → w.cell? (x.add i) = some (.int .u8 (z0.getD i 0))) ∧ ∀ n ∈ z0, (Lit.int .u8 n).wf = true) (y0 : len0 * 1 ≤ 140737488351232) :
  Calls Try.prog 10 #[.slice a0 len0 cap0] w fun e w' => e = .returned (.bool true) ∧ Below w.heap.size w w' := by
 obtain ⟨l0, rfl, hr0, hm0, hw0, hc0⟩ := ReadsInt.ofRowC w0
 obtain ⟨k, h⟩ := P l0 hm0 y0 hw0
 refine (laws_FnPutThere.calls k _ _ l0 true w (Kd.C_of_reads (d := (0 : Int)) (h1 := fun _ => rfl) hr0) hc0 h rfl).mono ?_
 rintro e w' ⟨rfl, hd⟩
 exact ⟨rfl, hd⟩

end Go.Proofs.Ytbomeogcgefddaa.P
