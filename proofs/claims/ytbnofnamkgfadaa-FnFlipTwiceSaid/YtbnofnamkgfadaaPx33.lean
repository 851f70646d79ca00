/- PROVED: contracts of functions of the program, the reference and the statements; written by this session's driver (pk.py) through its own changed copy of the kit's print. No condition. -/
import Derived.Test.YtbnofnamkgfadaaPx0
import Derived.Test.YtbnofnamkgfadaaPx8
import Derived.Test.YtbnofnamkgfadaaPx15
import Derived.Test.YtbnofnamkgfadaaPx19
import Derived.Test.YtbnofnamkgfadaaPx26
import Derived.Test.YtbnofnamkgfadaaPx30
import Derived.Test.YtbnofnamkgfadaaH3Flip
import Derived.Test.YtbnofnamkgfadaaH3Turn
namespace Go.Proofs.Ytbnofnamkgfadaa.P
open Go.RowKit Go.Proofs.YtbnofnamkgfadaaW.PrintWords Go.Proofs.YtbnofnamkgfadaaW.PrintLast Go.Proofs.YtbnofnamkgfadaaW.PrintMore
attribute [local go_sem] max2_int min2_int max_two min_two max_three min_three max_four min_four   -- for this text's walks alone
set_option linter.unusedVariables false
set_option linter.unusedSimpArgs false

/-! ### laws_FnFlipTwice: function 6 -/
def laws_FnFlipTwice.j0 : Nat → Bool → Int → List (S24) → Int → List (S24) → Option (Bool)
 | 0, _, _, _, _, _ => none
 | k + 1, x23, x325000, x325001, x330000, x330001 => if x23 = true then ((spec_GridFlip.f k x325000 x325001).bind fun bt336 => ((laws_llGrid.f k x330000 x330001 bt336.1 bt336.2).bind fun t340 => (some t340))) else ((impl_GridTurn.f x325000 x325001).bind fun bt341 => ((impl_GridFlip.f bt341.1 bt341.2).bind fun bt345 => ((impl_GridTurn.f x330000 x330001).bind fun bt350 => ((impl_GridTurn.f bt350.1 bt350.2).bind fun bt354 => ((impl_GridTurn.f bt354.1 bt354.2).bind fun bt358 => ((impl_GridFlip.f x330000 x330001).bind fun bt363 => ((laws_llGrid.f k bt363.1 bt363.2 x325000 x325001).bind fun t367 => (if t367 = true then ((laws_llGrid.f k bt345.1 bt345.2 bt358.1 bt358.2).bind fun t368 => (if t368 = true then ((impl_GridOk.f k x330000 x330001).bind fun t369 => (some t369)) else (some false))) else (some false)))))))))
def laws_FnFlipTwice.f (k : Nat) (l0 : List Int) : Option (Bool) := if (l0.length : Int) > 1048576 then (some true) else ((spec_DrawGridFlip.f k l0).bind fun bt320 => ((impl_GridFlip.f bt320.1 bt320.2).bind fun bt325 => ((spec_GridFlip.f k bt320.1 bt320.2).bind fun bt330 => ((laws_llGrid.f k bt325.1 bt325.2 bt330.1 bt330.2).bind fun t334 => (if t334 = true then ((spec_GridOk.f k bt320.1 bt320.2).bind fun t335 => (laws_FnFlipTwice.j0 k (!t335) bt320.1 bt320.2 bt325.1 bt325.2)) else (laws_FnFlipTwice.j0 k true bt320.1 bt320.2 bt325.1 bt325.2))))))
theorem laws_FnFlipTwice.mono_l : ∀ k, (∀ y0 y1 y2 y3 y4, LeO (laws_FnFlipTwice.j0 k y0 y1 y2 y3 y4) (laws_FnFlipTwice.j0 (k + 1) y0 y1 y2 y3 y4))
 | 0 => fun _ _ _ _ _ r h => by simp [laws_FnFlipTwice.j0] at h
 | k + 1 => by
  have ih0 := laws_FnFlipTwice.mono_l k
  ·intro y0 y1 y2 y3 y4
   unfold laws_FnFlipTwice.j0
   repeat' first
   | (with_reducible exact ih0 _ _ _ _ _)
   | (with_reducible exact impl_GridOk.mono _ _ _)
   | (with_reducible exact laws_llGrid.mono _ _ _ _ _)
   | (with_reducible exact spec_DrawGridFlip.mono _ _)
   | (with_reducible exact spec_GridFlip.mono _ _ _)
   | (with_reducible exact spec_GridOk.mono _ _ _)
   | (with_reducible exact LeO.refl _)
   | (with_reducible exact LeO.none _)
   | (with_reducible refine LeO.ite ?_ ?_)
   | (with_reducible refine LeO.bind ?_ (fun _ => ?_))
   | exact ih0 _ _ _ _ _
   | exact impl_GridOk.mono _ _ _
   | exact laws_llGrid.mono _ _ _ _ _
   | exact spec_DrawGridFlip.mono _ _
   | exact spec_GridFlip.mono _ _ _
   | exact spec_GridOk.mono _ _ _
   | exact LeO.none _
   | refine LeO.ite ?_ ?_
   | refine LeO.bind ?_ (fun _ => ?_)
theorem laws_FnFlipTwice.mono : ∀ a0 k, LeO (laws_FnFlipTwice.f k a0) (laws_FnFlipTwice.f (k + 1) a0) := by
 intro a0 k
 have ih0 := laws_FnFlipTwice.mono_l k
 unfold laws_FnFlipTwice.f
 repeat' first
   | (with_reducible exact ih0 _ _ _ _ _)
   | (with_reducible exact impl_GridOk.mono _ _ _)
   | (with_reducible exact laws_llGrid.mono _ _ _ _ _)
   | (with_reducible exact spec_DrawGridFlip.mono _ _)
   | (with_reducible exact spec_GridFlip.mono _ _ _)
   | (with_reducible exact spec_GridOk.mono _ _ _)
   | (with_reducible exact LeO.refl _)
   | (with_reducible exact LeO.none _)
   | (with_reducible refine LeO.ite ?_ ?_)
   | (with_reducible refine LeO.bind ?_ (fun _ => ?_))
   | exact ih0 _ _ _ _ _
   | exact impl_GridOk.mono _ _ _
   | exact laws_llGrid.mono _ _ _ _ _
   | exact spec_DrawGridFlip.mono _ _
   | exact spec_GridFlip.mono _ _ _
   | exact spec_GridOk.mono _ _ _
   | exact LeO.none _
   | refine LeO.ite ?_ ?_
   | refine LeO.bind ?_ (fun _ => ?_)
def laws_FnFlipTwice.T5 : Bool × List (List Nat × List Nat) := (true, [([], []), ([], []), ([1], [1]), ([0, 2, 2], [0, 2]), ([3], [3]), ([4, 3], [4]), ([5], [5]), ([6, 5, 5], [5, 6]), ([7, 5], [5, 7]), ([5, 8], [5, 8])])
def laws_FnFlipTwice.B5 : List Nat := [0, 0, 2, 7, 15, 31, 63, 127, 255, 511]
theorem laws_FnFlipTwice.tab5 : rtab .any (opsOf Try.f6 5) = laws_FnFlipTwice.T5 := by kernel_rfl
theorem laws_FnFlipTwice.bits5 : waitsOk laws_FnFlipTwice.T5.2 laws_FnFlipTwice.B5 = true := by kernel_rfl
def laws_FnFlipTwice.T9 : Bool × List (List Nat × List Nat) := (true, [([], []), ([0], [0]), ([], []), ([1, 2, 1], [1, 2]), ([3, 3], [3]), ([4], [4]), ([4], [4]), ([5, 6, 4, 4], [4, 5, 6]), ([4, 7], [4, 7]), ([8, 7], [8]), ([9], [9]), ([10, 9, 9], [9, 10]), ([9, 11], [9, 11]), ([12, 11, 0, 1, 2, 3, 4, 5, 6, 7, 8, 9, 10, 11, 12], [12])])
def laws_FnFlipTwice.B9 : List Nat := [0, 1, 0, 7, 15, 31, 31, 127, 255, 511, 1023, 2047, 4095, 8191]
theorem laws_FnFlipTwice.tab9 : rtab .any (opsOf Try.f6 9) = laws_FnFlipTwice.T9 := by kernel_rfl
theorem laws_FnFlipTwice.bits9 : waitsOk laws_FnFlipTwice.T9.2 laws_FnFlipTwice.B9 = true := by kernel_rfl
set_option maxHeartbeats 8000000 in
set_option maxRecDepth 100000 in
theorem laws_FnFlipTwice.calls (k : Nat) (A0 : Option Addr) (c0 : Nat) (l0 : List Int) (r : Bool) (w : World) (hr0 : Kd.C (Kd.int .u8) w A0 l0.length l0) (hc0 : l0.length ≤ c0) (h : laws_FnFlipTwice.f k l0 = some r) (hrt : r = true) :
  Calls Try.prog 6 #[.slice A0 l0.length c0] w fun e w' => e = .returned (.bool r) ∧ Below w.heap.size w w' := by
 have HRT := Aside0.mk hrt
 clear hrt
 have hu30 := Try.underlying30
 have HR0 := Aside0.mk hr0
 have HC0 := Aside0.mk hc0
 clear hr0 hc0
 have HB := Aside0.mk (Below.refl w.heap.size w)
 have H : (if (l0.length : Int) > 1048576 then (some true) else ((spec_DrawGridFlip.f k l0).bind fun bt320 => ((impl_GridFlip.f bt320.1 bt320.2).bind fun bt325 => ((spec_GridFlip.f k bt320.1 bt320.2).bind fun bt330 => ((laws_llGrid.f k bt325.1 bt325.2 bt330.1 bt330.2).bind fun t334 => (if t334 = true then ((spec_GridOk.f k bt320.1 bt320.2).bind fun t335 => (laws_FnFlipTwice.j0 k (!t335) bt320.1 bt320.2 bt325.1 bt325.2)) else (laws_FnFlipTwice.j0 k true bt320.1 bt320.2 bt325.1 bt325.2))))))) = some r := h
 clear h
 by_cases c2 : (l0.length : Int) > 1048576
 ·rw [if_pos c2] at H
  have c2b0 : decide (1048576 < (l0.length : Int)) = true := decide_eq_true c2
  have c2b1 : decide (1048576 < l0.length) = true := decide_eq_true (by omega)
  clear c2
  obtain rfl := Option.some.inj H
  go_enter Try.func6, Try.ntmps6
  go_wp2
  go_ret
  exact ⟨by first | rfl | (simp [errW_none, errW_some] <;> rfl) | (simp [*, errW_none, errW_some] <;> rfl) | (exfalso; simp_all; done), by repeat (first | (with_reducible first | exact HB.out | apply below_alloc | apply pw_below_drewN | apply below_drew1) | exact HB.out)⟩
 ·rw [if_neg c2] at H
  have c2b0 : decide (1048576 < (l0.length : Int)) = false := decide_eq_false c2
  have c2b1 : decide (1048576 < l0.length) = false := decide_eq_false (by omega)
  clear c2
  replace H := Option.bind_eq_some_iff.mp H
  obtain ⟨⟨t320, t321⟩, A30, H⟩ := H
  replace H : ((impl_GridFlip.f t320 t321).bind fun bt325 => ((spec_GridFlip.f k t320 t321).bind fun bt330 => ((laws_llGrid.f k bt325.1 bt325.2 bt330.1 bt330.2).bind fun t334 => (if t334 = true then ((spec_GridOk.f k t320 t321).bind fun t335 => (laws_FnFlipTwice.j0 k (!t335) t320 t321 bt325.1 bt325.2)) else (laws_FnFlipTwice.j0 k true t320 t321 bt325.1 bt325.2))))) = some r := H
  have A3 := Aside0.mk A30
  clear A30
  replace H := Option.bind_eq_some_iff.mp H
  obtain ⟨⟨t325, t326⟩, A40, H⟩ := H
  replace H : ((spec_GridFlip.f k t320 t321).bind fun bt330 => ((laws_llGrid.f k t325 t326 bt330.1 bt330.2).bind fun t334 => (if t334 = true then ((spec_GridOk.f k t320 t321).bind fun t335 => (laws_FnFlipTwice.j0 k (!t335) t320 t321 t325 t326)) else (laws_FnFlipTwice.j0 k true t320 t321 t325 t326)))) = some r := H
  have A4 := Aside0.mk A40
  clear A40
  have HC5 := Aside0.mk H
  clear H
  go_enter Try.func6, Try.ntmps6
  go_upto_region 5 with (first | ((with_reducible refine gate_callee (f := 25) rfl ?_); refine goesL_ (some 11) rfl rfl Try.func25 (by kernel_rfl) rfl #[.slice A0 l0.length c0] rfl (by (try simp only [List.map_toArray, List.map_cons, List.map_nil]); first | done | rfl | (simp only [List.length_drop, List.length_take]; rfl)) ?_; (with_reducible refine (spec_DrawGridFlip.calls k _ _ l0 t320 t321 _ ?side1 ?side2 A3.out).mono ?_); (case side1 => repeat (first | exact HR0.out | (with_reducible refine Kd.C_alloc ?_ _) | (with_reducible refine Kd.C_drewN ?_ _) | (with_reducible refine Kd.C_drew ?_))); (case side2 => exact HC0.out); rintro e w6 ⟨v322, rfl, ho0, hb⟩; refine ⟨_, rfl, ?_⟩; have n0_ := Aside0.mk (Kd.Q_lower ho0 (below_size (by repeat (first | (with_reducible first | exact HB.out | apply below_alloc | apply pw_below_drewN | apply below_drew1) | exact HB.out)))); have n1_ := Aside0.mk (below_step (by repeat (first | (with_reducible first | exact HB.out | apply below_alloc | apply pw_below_drewN | apply below_drew1) | exact HB.out)) hb); clear HB; have HO323 := n0_; have HB := n1_; clear n0_ n1_; (try clear hb); (try clear hb2); (try clear hk); (try clear hi); (try clear ho0)) | ((with_reducible refine gate_dst (N := 3) rfl ?_); refine box_event ?hg (N := 3) ?hd (cs := #[.int .i64 0, .slice none 0 0]) (t := 30) ?hr ?_; (case hd => rfl); (case hg => rfl); (case hr => first | (go_simp; done) | (go_simp; rfl)); intro gb324 hg w7 hbox hb; have n0_ := Aside0.mk (Kd.Q_below (by (with_reducible repeat (first | apply Kd.Q_alloc | apply Kd.Q_drewN | apply Kd.Q_drew)); exact HO323.out) hb); have n1_ := Aside0.mk (below_step (by repeat (first | (with_reducible first | exact HB.out | apply below_alloc | apply pw_below_drewN | apply below_drew1) | exact HB.out)) hb); have n2_ := Aside0.mk (hbox); have n3_ := Aside0.mk ((by rw [hg]; exact (below_size (by repeat (first | (with_reducible first | exact HB.out | apply below_alloc | apply pw_below_drewN | apply below_drew1) | exact HB.out))) : w.heap.size ≤ gb324)); have n4_ := Aside0.mk ((by rw [hg]; exact (below_size (by repeat (first | (with_reducible first | exact HB.out | apply below_alloc | apply pw_below_drewN | apply below_drew1) | exact HB.out))) : w.heap.size ≤ gb324)); clear HO323; clear HB; have HO323 := n0_; have HB := n1_; have BK324 := n2_; have GW324 := n3_; have GE324 := n4_; clear n0_ n1_ n2_ n3_ n4_; clear hb hbox hg; have hcz8_0 : w7.cell? ⟨gb324, 0, none⟩ = some (.int .i64 0) := (blk_cell BK324.out 0).trans rfl; have hcz8_1 : w7.cell? ⟨gb324, 1, none⟩ = some (.slice none 0 0) := (blk_cell BK324.out 1).trans rfl; have hfz8_0 := blk_frozen BK324.out 0; have hfz8_1 := blk_frozen BK324.out 1; obtain ⟨Ao9, co9, eo9, _⟩ := Kd.Q_slice HO323.out; subst eo9) | ((with_reducible refine gate_callee (f := 26) rfl ?_); refine goesL_ (some 13) rfl rfl Try.func26 (by kernel_rfl) rfl #[.agg #[.int .i64 t320, .slice Ao9 t321.length co9]] rfl (by (try simp only [List.map_toArray, List.map_cons, List.map_nil]); first | done | rfl | (simp only [List.length_drop, List.length_take]; rfl)) ?_; (with_reducible refine (impl_GridFlip.calls t320 _ _ t321 t325 t326 _ ?side1 ?side2 A4.out).mono ?_); (case side1 => refine (Kd.Q_reads' (e := 24) (base := w.heap.size) (ok := fun k_ => True) (n := t321.length) (c := co9) ?_).2.2; exact (by (with_reducible repeat (first | apply Kd.Q_alloc | apply Kd.Q_drewN | apply Kd.Q_drew)); exact (Kd.Q_mono (Kd.Q_far (p := ⟨gb324, 1, none⟩) (Kd.Q_far (p := ⟨gb324, 0, none⟩) (Kd.Q_types HO323.out BK324.out (by decide)) (fun _ hk => hk.2) (.int .i64 t320)) (fun _ hk => hk.2) (.slice Ao9 t321.length co9)) (fun _ h_ => h_.1)))); (case side2 => exact (Kd.Q_reads' HO323.out).2.1); rintro e w10 ⟨v327, rfl, ho0, hb⟩; refine ⟨_, rfl, ?_⟩; have n0_ := Aside0.mk (Kd.Q_elder' (by (with_reducible repeat (first | apply Kd.Q_alloc | apply Kd.Q_drewN | apply Kd.Q_drew)); exact (Kd.Q_mono (Kd.Q_far (p := ⟨gb324, 1, none⟩) (Kd.Q_far (p := ⟨gb324, 0, none⟩) (Kd.Q_types HO323.out BK324.out (by decide)) (fun _ hk => hk.2) (.int .i64 t320)) (fun _ hk => hk.2) (.slice Ao9 t321.length co9)) (fun _ h_ => h_.1))) (Kd.R_base ho0) hb); have n1_ := Aside0.mk (Kd.R_lower (Kd.R_new' ho0 (Kd.Q_lt (by (with_reducible repeat (first | apply Kd.Q_alloc | apply Kd.Q_drewN | apply Kd.Q_drew)); exact (Kd.Q_mono (Kd.Q_far (p := ⟨gb324, 1, none⟩) (Kd.Q_far (p := ⟨gb324, 0, none⟩) (Kd.Q_types HO323.out BK324.out (by decide)) (fun _ hk => hk.2) (.int .i64 t320)) (fun _ hk => hk.2) (.slice Ao9 t321.length co9)) (fun _ h_ => h_.1))))) (below_size (by repeat (first | (with_reducible first | exact HB.out | apply below_alloc | apply pw_below_drewN | apply below_drew1 | refine below_set ?_ GE324.out) | exact HB.out)))); have n2_ := Aside0.mk (blk_below (g := gb324) (o := .cells #[.int .i64 t320, .slice Ao9 t321.length co9] 30 (0, 0)) (by (with_reducible repeat (first | refine blk_drewN ?_ _ | refine blk_drew ?_ | refine blk_alloc ?_ _)); refine blk_put (cs := #[.int .i64 t320, .slice none 0 0]) ?_ 1 _ rfl; (with_reducible repeat (first | refine blk_drewN ?_ _ | refine blk_drew ?_ | refine blk_alloc ?_ _)); refine blk_put (cs := #[.int .i64 0, .slice none 0 0]) ?_ 0 _ rfl; (with_reducible repeat (first | refine blk_drewN ?_ _ | refine blk_drew ?_ | refine blk_alloc ?_ _)); exact BK324.out) hb); have n3_ := Aside0.mk (below_step (by repeat (first | (with_reducible first | exact HB.out | apply below_alloc | apply pw_below_drewN | apply below_drew1 | refine below_set ?_ GE324.out) | exact HB.out)) hb); clear HO323; clear BK324; clear HB; have HO323 := n0_; have HO328 := n1_; have BK324 := n2_; have HB := n3_; clear n0_ n1_ n2_ n3_; (try clear hb); (try clear hb2); (try clear hk); (try clear hi); (try clear ho0)) | ((with_reducible refine gate_dst (N := 4) rfl ?_); refine box_event ?hg (N := 4) ?hd (cs := #[.int .i64 0, .slice none 0 0]) (t := 30) ?hr ?_; (case hd => rfl); (case hg => rfl); (case hr => first | (go_simp; done) | (go_simp; rfl)); intro gb329 hg w11 hbox hb; have n0_ := Aside0.mk (Kd.Q_below (by (with_reducible repeat (first | apply Kd.Q_alloc | apply Kd.Q_drewN | apply Kd.Q_drew)); exact HO323.out) hb); have n1_ := Aside0.mk (Kd.R_below (kR HO328.out) hb); have n2_ := Aside0.mk (blk_below (bK BK324.out) hb); have n3_ := Aside0.mk (below_step (by repeat (first | (with_reducible first | exact HB.out | apply below_alloc | apply pw_below_drewN | apply below_drew1 | refine below_set ?_ GE324.out) | exact HB.out)) hb); have n4_ := Aside0.mk (hbox); have n5_ := Aside0.mk ((by rw [hg]; exact (below_size (by repeat (first | (with_reducible first | exact HB.out | apply below_alloc | apply pw_below_drewN | apply below_drew1 | refine below_set ?_ GE324.out) | exact HB.out))) : w.heap.size ≤ gb329)); have n6_ := Aside0.mk ((by rw [hg]; exact (below_size (by repeat (first | (with_reducible first | exact HB.out | apply below_alloc | apply pw_below_drewN | apply below_drew1 | refine below_set ?_ GE324.out) | exact HB.out))) : w.heap.size ≤ gb329)); have n7_ := Aside0.mk ((by rw [hg]; exact Nat.ne_of_lt (blk_lt (bK BK324.out)) : gb324 ≠ gb329)); have n8_ := Aside0.mk ((by rw [hg]; exact Nat.ne_of_gt (blk_lt (bK BK324.out)) : gb329 ≠ gb324)); clear HO323; clear HO328; clear BK324; clear HB; have HO323 := n0_; have HO328 := n1_; have BK324 := n2_; have HB := n3_; have BK329 := n4_; have GW329 := n5_; have GE329 := n6_; have NB324_329 := n7_; have NB329_324 := n8_; clear n0_ n1_ n2_ n3_ n4_ n5_ n6_ n7_ n8_; clear hb hbox hg; have hnb12 := NB329_324.out; have hnc12 := NB324_329.out; have hcz13_0 : w11.cell? ⟨gb329, 0, none⟩ = some (.int .i64 0) := (blk_cell BK329.out 0).trans rfl; have hcz13_1 : w11.cell? ⟨gb329, 1, none⟩ = some (.slice none 0 0) := (blk_cell BK329.out 1).trans rfl; have hfz13_0 := blk_frozen BK329.out 0; have hfz13_1 := blk_frozen BK329.out 1; obtain ⟨Ao14, co14, eo14⟩ := Kd.R_slice HO328.out; subst eo14))
  (try simp only [Act.put, List.setIfInBounds_toArray, List.set_cons_zero, List.set_cons_succ])
  go_cut [23] (fun v23 wc => ∃ (kq : Nat) (x23_4 : Bool), v23 = .bool x23_4 ∧ Aside0 (laws_FnFlipTwice.j0 kq x23_4 t320 t321 t325 t326 = some r) ∧ Aside0 (kq ≤ k) ∧ Aside0 (Kd.Q k24 24 wc w.heap.size (fun k_ => some k_ ≠ ((.slice Ao14 t326.length co14) : Value).ownBlock) (.slice Ao9 t321.length co9) t321) ∧ Aside0 (Kd.Q k24 24 wc w.heap.size (fun k_ => some k_ ≠ ((.slice Ao9 t321.length co9) : Value).ownBlock) (.slice Ao14 t326.length co14) t326) ∧ Aside0 (wc.heap[gb324]? = some (.cells #[.int .i64 t320, (.slice Ao9 t321.length co9)] 30 (0, 0))) ∧ Aside0 (wc.heap[gb329]? = some (.cells #[.int .i64 t325, (.slice Ao14 t326.length co14)] 30 (0, 0))) ∧ Aside0 (Below w.heap.size w wc))
  case first =>
   have H := HC5.out
   clear HC5
   replace H := Option.bind_eq_some_iff.mp H
   obtain ⟨⟨t330, t331⟩, A150, H⟩ := H
   replace H : ((laws_llGrid.f k t325 t326 t330 t331).bind fun t334 => (if t334 = true then ((spec_GridOk.f k t320 t321).bind fun t335 => (laws_FnFlipTwice.j0 k (!t335) t320 t321 t325 t326)) else (laws_FnFlipTwice.j0 k true t320 t321 t325 t326))) = some r := H
   have A15 := Aside0.mk A150
   clear A150
   replace H := Option.bind_eq_some_iff.mp H
   obtain ⟨t334, A160, H⟩ := H
   replace H : (if t334 = true then ((spec_GridOk.f k t320 t321).bind fun t335 => (laws_FnFlipTwice.j0 k (!t335) t320 t321 t325 t326)) else (laws_FnFlipTwice.j0 k true t320 t321 t325 t326)) = some r := H
   have A16 := Aside0.mk A160
   clear A160
   by_cases c17 : t334 = true
   ·subst c17
    have H1 : ((spec_GridOk.f k t320 t321).bind fun t335 => (laws_FnFlipTwice.j0 k (!t335) t320 t321 t325 t326)) = some r := by rw [if_pos rfl] at H; exact H
    clear H
    have H := H1
    clear H1
    replace H := Option.bind_eq_some_iff.mp H
    obtain ⟨t335, A180, H⟩ := H
    replace H : (laws_FnFlipTwice.j0 k (!t335) t320 t321 t325 t326) = some r := H
    have A18 := Aside0.mk A180
    clear A180
    have H' := Aside0.mk H
    clear H
    try go_wp2
    have n0_ : Aside0 (Kd.Q k24 24 ((w11.setCell ⟨gb329, 0, none⟩ (.int .i64 t325)).setCell ⟨gb329, 1, none⟩ (.slice Ao14 t326.length co14)) w.heap.size (fun k_ => some k_ ≠ (.slice Ao14 t326.length co14 : Value).ownBlock) (.slice Ao9 t321.length co9) t321) := ⟨by (with_reducible repeat (first | apply Kd.Q_alloc | apply Kd.Q_drewN | apply Kd.Q_drew)); exact Kd.Q_mono (Kd.Q_far (p := ⟨gb329, 1, none⟩) (Kd.Q_far (p := ⟨gb329, 0, none⟩) (Kd.Q_types HO323.out BK329.out (by decide)) (fun _ hk => hk.2) (.int .i64 t325)) (fun _ hk => hk.2) (.slice Ao14 t326.length co14)) (fun _ hk => hk.1.2)⟩
    have n1_ : Aside0 (Kd.R k24 24 ((w11.setCell ⟨gb329, 0, none⟩ (.int .i64 t325)).setCell ⟨gb329, 1, none⟩ (.slice Ao14 t326.length co14)) w.heap.size (fun k_ => some k_ ≠ (.slice Ao9 t321.length co9 : Value).ownBlock) (.slice Ao14 t326.length co14) t326) := ⟨by (with_reducible repeat (first | apply Kd.R_alloc | apply Kd.R_drewN | apply Kd.R_drew)); exact Kd.R_mono (Kd.R_far (p := ⟨gb329, 1, none⟩) (Kd.R_far (p := ⟨gb329, 0, none⟩) (Kd.R_types HO328.out BK329.out (by decide)) (fun _ hk => hk.2) (.int .i64 t325)) (fun _ hk => hk.2) (.slice Ao14 t326.length co14)) (fun _ hk => hk.1.2)⟩
    have n2_ : Aside0 (((w11.setCell ⟨gb329, 0, none⟩ (.int .i64 t325)).setCell ⟨gb329, 1, none⟩ (.slice Ao14 t326.length co14)).heap[gb324]? = some (.cells #[.int .i64 t320, .slice Ao9 t321.length co9] 30 (0, 0))) := ⟨by (with_reducible repeat (first | refine blk_drewN ?_ _ | refine blk_drew ?_ | refine blk_alloc ?_ _)); refine blk_far ?_ NB324_329.out _; (with_reducible repeat (first | refine blk_drewN ?_ _ | refine blk_drew ?_ | refine blk_alloc ?_ _)); refine blk_far ?_ NB324_329.out _; (with_reducible repeat (first | refine blk_drewN ?_ _ | refine blk_drew ?_ | refine blk_alloc ?_ _)); exact BK324.out⟩
    have n3_ : Aside0 (((w11.setCell ⟨gb329, 0, none⟩ (.int .i64 t325)).setCell ⟨gb329, 1, none⟩ (.slice Ao14 t326.length co14)).heap[gb329]? = some (.cells #[.int .i64 t325, .slice Ao14 t326.length co14] 30 (0, 0))) := ⟨by (with_reducible repeat (first | refine blk_drewN ?_ _ | refine blk_drew ?_ | refine blk_alloc ?_ _)); refine blk_put (cs := #[.int .i64 t325, .slice none 0 0]) ?_ 1 _ rfl; (with_reducible repeat (first | refine blk_drewN ?_ _ | refine blk_drew ?_ | refine blk_alloc ?_ _)); refine blk_put (cs := #[.int .i64 0, .slice none 0 0]) ?_ 0 _ rfl; (with_reducible repeat (first | refine blk_drewN ?_ _ | refine blk_drew ?_ | refine blk_alloc ?_ _)); exact BK329.out⟩
    have n4_ : Aside0 (Below w.heap.size w ((w11.setCell ⟨gb329, 0, none⟩ (.int .i64 t325)).setCell ⟨gb329, 1, none⟩ (.slice Ao14 t326.length co14))) := ⟨by repeat (first | (with_reducible first | exact HB.out | apply below_alloc | apply pw_below_drewN | apply below_drew1 | refine below_set ?_ GE324.out | refine below_set ?_ GE329.out) | exact HB.out)⟩
    (try clear HO323)
    (try clear HO328)
    (try clear BK324)
    (try clear BK329)
    (try clear HB)
    generalize ((w11.setCell ⟨gb329, 0, none⟩ (.int .i64 t325)).setCell ⟨gb329, 1, none⟩ (.slice Ao14 t326.length co14)) = w19 at n0_ n1_ n2_ n3_ n4_ ⊢
    have HO323 := n0_
    have HO328 := n1_
    have BK324 := n2_
    have BK329 := n3_
    have HB := n4_
    clear n0_ n1_ n2_ n3_ n4_
    have n0_ := Aside0.mk (Kd.Q_drew HO323.out)
    have n1_ := Aside0.mk (Kd.R_drew HO328.out)
    have n2_ := Aside0.mk (blk_drew BK324.out)
    have n3_ := Aside0.mk (blk_drew BK329.out)
    have n4_ := Aside0.mk (below_drew1 HB.out)
    clear HO323
    clear HO328
    clear BK324
    clear BK329
    clear HB
    have HO323 := n0_
    have HO328 := n1_
    have BK324 := n2_
    have BK329 := n3_
    have HB := n4_
    clear n0_ n1_ n2_ n3_ n4_
    refine start_ (n := 10) (S := fun w' => w'.cell? ⟨gb329, 0, none⟩ = some (.int .i64 t325) ∧ w'.cell? ⟨gb329, 1, none⟩ = some (.slice Ao14 t326.length co14) ∧ w'.cell? ⟨gb324, 0, none⟩ = some (.int .i64 t320) ∧ w'.cell? ⟨gb324, 1, none⟩ = some (.slice Ao9 t321.length co9)) (ds := []) #[false, false, false, false, false, false, false, false, false, false] (by kernel_rfl) rfl rfl ⟨(blk_cell BK329.out 0).trans rfl, (blk_cell BK329.out 1).trans rfl, (blk_cell BK324.out 0).trans rfl, (blk_cell BK324.out 1).trans rfl⟩ (fun hHeld => ?_); refine with_tabW laws_FnFlipTwice.tab5 laws_FnFlipTwice.bits5 (fun HT_ HW_ => ?_)
    generalize w19.drew = w20 at HO323 HO328 BK324 BK329 HB hHeld ⊢
    refine take_ (i := 0) (N := some 14) (v := ?_) (a' := ?_) #[true, false, false, false, false, false, false, false, false, false] rfl rfl (take_ofW HT_.out HW_.out (by kernel_rfl)) (fun _ _ _ h => h) (Or.inl ⟨by rfl, ?_⟩) hHeld ?_ ?_
    rotate_left
    ·rintro w' ⟨s0, s1, s2, s3⟩
     go_simp
     with_reducible rfl
    rotate_left
    ·simp only [Act.put, List.setIfInBounds_toArray, List.set_cons_zero, List.set_cons_succ, i64_w, i32_w]
     rfl
    refine take_ (i := 1) (N := some 15) (v := ?_) (a' := ?_) #[true, true, false, false, false, false, false, false, false, false] rfl rfl (take_ofW HT_.out HW_.out (by kernel_rfl)) (fun _ _ _ h => h) (Or.inl ⟨by rfl, ?_⟩) hHeld ?_ ?_
    rotate_left
    ·rintro w' ⟨s0, s1, s2, s3⟩
     go_simp
     with_reducible rfl
    rotate_left
    ·simp only [Act.put, List.setIfInBounds_toArray, List.set_cons_zero, List.set_cons_succ, i64_w, i32_w]
     rfl
    refine one_ (i := 2) (N := some 16) #[true, true, true, false, false, false, false, false, false, false] rfl rfl (one_of HT_.out (by kernel_rfl)) (by decide) (fun K hK => ?_)
    refine goes_ Try.func27 (by kernel_rfl) rfl #[.agg #[.int .i64 t320, .slice Ao9 t321.length co9]] (by rfl) rfl rfl (by (try simp only [List.map_toArray, List.map_cons, List.map_nil]); first | done | rfl | (simp only [List.length_drop, List.length_take]; rfl)) ?_
    with_reducible refine (spec_GridFlip.calls k t320 _ _ t321 t330 t331 _ ?side1 ?side2 A15.out).mono ?_
    (case side1 => repeat (first | exact (Kd.Q_reads' HO323.out).2.2 | (with_reducible refine Kd.C_alloc ?_ _) | (with_reducible refine Kd.C_drewN ?_ _) | (with_reducible refine Kd.C_drew ?_)))
    (case side2 => exact (Kd.Q_reads' HO323.out).2.1)
    rintro e w21 ⟨v332, rfl, ho0, hb⟩
    refine ⟨_, rfl, ?_⟩
    have n0_ := Aside0.mk (Kd.Q_elder' (by (with_reducible repeat (first | apply Kd.Q_alloc | apply Kd.Q_drewN | apply Kd.Q_drew)); exact HO323.out) (Kd.R_base ho0) hb)
    have n1_ := Aside0.mk (Kd.R_elder' (kR HO328.out) (Kd.R_base ho0) hb)
    have n2_ := Aside0.mk (Kd.R_lower (Kd.R_new' (Kd.R_new' ho0 (Kd.Q_lt (by (with_reducible repeat (first | apply Kd.Q_alloc | apply Kd.Q_drewN | apply Kd.Q_drew)); exact HO323.out))) (Kd.R_lt (kR HO328.out))) (below_size (by repeat (first | (with_reducible first | exact HB.out | apply below_alloc | apply pw_below_drewN | apply below_drew1 | refine below_set ?_ GE324.out | refine below_set ?_ GE329.out) | exact HB.out))))
    have n3_ := Aside0.mk (blk_below (bK BK324.out) hb)
    have n4_ := Aside0.mk (blk_below (bK BK329.out) hb)
    have n5_ := Aside0.mk (below_step (by repeat (first | (with_reducible first | exact HB.out | apply below_alloc | apply pw_below_drewN | apply below_drew1 | refine below_set ?_ GE324.out | refine below_set ?_ GE329.out) | exact HB.out)) hb)
    clear HO323
    clear HO328
    clear BK324
    clear BK329
    clear HB
    have HO323 := n0_
    have HO328 := n1_
    have HO333 := n2_
    have BK324 := n3_
    have BK329 := n4_
    have HB := n5_
    clear n0_ n1_ n2_ n3_ n4_ n5_
    (try clear hb)
    (try clear hb2)
    (try clear hk)
    (try clear hi)
    (try clear ho0)
    obtain ⟨Ao22, co22, eo22⟩ := Kd.R_slice HO333.out
    (first | subst eo22 | (injection eo22 with f1_ f2_ f3_; have f4_ := f1_.symm; have f5_ := f3_.symm; clear f1_ f2_ f3_; subst f4_; subst f5_))
    refine hK.out _ _ ⟨(blk_cell BK329.out 0).trans rfl, (blk_cell BK329.out 1).trans rfl, (blk_cell BK324.out 0).trans rfl, (blk_cell BK324.out 1).trans rfl⟩ (fun hHeld => ?_)
    clear hK K
    refine norm_ (a' := ?_) ?_ ?_
    rotate_left
    ·show Act.put _ (some 16) _ = _
     simp only [Act.put, List.setIfInBounds_toArray, List.set_cons_zero, List.set_cons_succ, i64_w, i32_w]
     rfl
    refine one_ (i := 3) (N := some 17) #[true, true, true, true, false, false, false, false, false, false] rfl rfl (one_of HT_.out (by kernel_rfl)) (by decide) (fun K hK => ?_)
    refine goes_ Try.func19 (by kernel_rfl) rfl #[.agg #[.int .i64 t325, .slice Ao14 t326.length co14], .agg #[.int .i64 t330, .slice Ao22 t331.length co22]] (by rfl) rfl rfl (by (try simp only [List.map_toArray, List.map_cons, List.map_nil]); first | done | rfl | (simp only [List.length_drop, List.length_take]; rfl)) ?_
    with_reducible refine (laws_llGrid.calls k t325 _ _ t326 t330 _ _ t331 true _ ?side1 ?side2 ?side3 ?side4 A16.out).mono ?_
    (case side1 => repeat (first | exact (Kd.R_reads' HO328.out).2.2 | (with_reducible refine Kd.C_alloc ?_ _) | (with_reducible refine Kd.C_drewN ?_ _) | (with_reducible refine Kd.C_drew ?_)))
    (case side2 => exact (Kd.R_reads' HO328.out).2.1)
    (case side3 => repeat (first | exact (Kd.R_reads' HO333.out).2.2 | (with_reducible refine Kd.C_alloc ?_ _) | (with_reducible refine Kd.C_drewN ?_ _) | (with_reducible refine Kd.C_drew ?_)))
    (case side4 => exact (Kd.R_reads' HO333.out).2.1)
    rintro e w23 ⟨rfl, hb⟩
    refine ⟨_, rfl, ?_⟩
    have n0_ := Aside0.mk (Kd.Q_below (by (with_reducible repeat (first | apply Kd.Q_alloc | apply Kd.Q_drewN | apply Kd.Q_drew)); exact HO323.out) hb)
    have n1_ := Aside0.mk (Kd.R_below (kR HO328.out) hb)
    have n2_ := Aside0.mk (Kd.R_below (kR HO333.out) hb)
    have n3_ := Aside0.mk (blk_below (bK BK324.out) hb)
    have n4_ := Aside0.mk (blk_below (bK BK329.out) hb)
    have n5_ := Aside0.mk (below_step (by repeat (first | (with_reducible first | exact HB.out | apply below_alloc | apply pw_below_drewN | apply below_drew1 | refine below_set ?_ GE324.out | refine below_set ?_ GE329.out) | exact HB.out)) hb)
    clear HO323
    clear HO328
    clear HO333
    clear BK324
    clear BK329
    clear HB
    have HO323 := n0_
    have HO328 := n1_
    have HO333 := n2_
    have BK324 := n3_
    have BK329 := n4_
    have HB := n5_
    clear n0_ n1_ n2_ n3_ n4_ n5_
    (try clear hb)
    (try clear hb2)
    (try clear hk)
    (try clear hi)
    refine hK.out _ _ ⟨(blk_cell BK329.out 0).trans rfl, (blk_cell BK329.out 1).trans rfl, (blk_cell BK324.out 0).trans rfl, (blk_cell BK324.out 1).trans rfl⟩ (fun hHeld => ?_)
    clear hK K
    refine norm_ (a' := ?_) ?_ ?_
    rotate_left
    ·show Act.put _ (some 17) _ = _
     simp only [Act.put, List.setIfInBounds_toArray, List.set_cons_zero, List.set_cons_succ, i64_w, i32_w]
     rfl
    refine pure_ (i := 4) (N := some 18) (v := ?_) (a' := ?_) #[true, true, true, true, true, false, false, false, false, false] rfl rfl (any_of HT_.out (by kernel_rfl)) (fun _ _ _ h => h) (Or.inl ⟨by rfl, ?_⟩) ?_ ?_
    rotate_left
    ·intro w'
     go_simp
     with_reducible rfl
    rotate_left
    ·simp only [Act.put, List.setIfInBounds_toArray, List.set_cons_zero, List.set_cons_succ, i64_w, i32_w]
     rfl
    refine pure_ (i := 5) (N := some 19) (v := ?_) (a' := ?_) #[true, true, true, true, true, true, false, false, false, false] rfl rfl (any_of HT_.out (by kernel_rfl)) (fun _ _ _ h => h) (Or.inl ⟨by rfl, ?_⟩) ?_ ?_
    rotate_left
    ·intro w'
     go_simp
     with_reducible rfl
    rotate_left
    ·simp only [Act.put, List.setIfInBounds_toArray, List.set_cons_zero, List.set_cons_succ, i64_w, i32_w]
     rfl
    refine take_ (i := 6) (N := some 20) (v := ?_) (a' := ?_) #[true, true, true, true, true, true, true, false, false, false] rfl rfl (take_ofW HT_.out HW_.out (by kernel_rfl)) (fun _ _ _ h => h) (Or.inl ⟨by rfl, ?_⟩) hHeld ?_ ?_
    rotate_left
    ·rintro w' ⟨s0, s1, s2, s3⟩
     go_simp
     with_reducible rfl
    rotate_left
    ·simp only [Act.put, List.setIfInBounds_toArray, List.set_cons_zero, List.set_cons_succ, i64_w, i32_w]
     rfl
    refine one_ (i := 7) (N := some 21) #[true, true, true, true, true, true, true, true, false, false] rfl rfl (one_of HT_.out (by kernel_rfl)) (by decide) (fun K hK => ?_)
    refine goes_ Try.func21 (by kernel_rfl) rfl #[.agg #[.int .i64 t320, .slice Ao9 t321.length co9]] (by rfl) rfl rfl (by (try simp only [List.map_toArray, List.map_cons, List.map_nil]); first | done | rfl | (simp only [List.length_drop, List.length_take]; rfl)) ?_
    with_reducible refine (spec_GridOk.calls k t320 _ _ t321 t335 _ ?side1 ?side2 A18.out).mono ?_
    (case side1 => repeat (first | exact (Kd.Q_reads' HO323.out).2.2 | (with_reducible refine Kd.C_alloc ?_ _) | (with_reducible refine Kd.C_drewN ?_ _) | (with_reducible refine Kd.C_drew ?_)))
    (case side2 => exact (Kd.Q_reads' HO323.out).2.1)
    rintro e w24 ⟨rfl, hb⟩
    refine ⟨_, rfl, ?_⟩
    have n0_ := Aside0.mk (Kd.Q_below (by (with_reducible repeat (first | apply Kd.Q_alloc | apply Kd.Q_drewN | apply Kd.Q_drew)); exact HO323.out) hb)
    have n1_ := Aside0.mk (Kd.R_below (kR HO328.out) hb)
    have n2_ := Aside0.mk (Kd.R_below (kR HO333.out) hb)
    have n3_ := Aside0.mk (blk_below (bK BK324.out) hb)
    have n4_ := Aside0.mk (blk_below (bK BK329.out) hb)
    have n5_ := Aside0.mk (below_step (by repeat (first | (with_reducible first | exact HB.out | apply below_alloc | apply pw_below_drewN | apply below_drew1 | refine below_set ?_ GE324.out | refine below_set ?_ GE329.out) | exact HB.out)) hb)
    clear HO323
    clear HO328
    clear HO333
    clear BK324
    clear BK329
    clear HB
    have HO323 := n0_
    have HO328 := n1_
    have HO333 := n2_
    have BK324 := n3_
    have BK329 := n4_
    have HB := n5_
    clear n0_ n1_ n2_ n3_ n4_ n5_
    (try clear hb)
    (try clear hb2)
    (try clear hk)
    (try clear hi)
    refine hK.out _ _ ⟨(blk_cell BK329.out 0).trans rfl, (blk_cell BK329.out 1).trans rfl, (blk_cell BK324.out 0).trans rfl, (blk_cell BK324.out 1).trans rfl⟩ (fun hHeld => ?_)
    clear hK K
    refine norm_ (a' := ?_) ?_ ?_
    rotate_left
    ·show Act.put _ (some 21) _ = _
     simp only [Act.put, List.setIfInBounds_toArray, List.set_cons_zero, List.set_cons_succ, i64_w, i32_w]
     rfl
    refine pure_ (i := 8) (N := some 22) (v := ?_) (a' := ?_) #[true, true, true, true, true, true, true, true, true, false] rfl rfl (any_of HT_.out (by kernel_rfl)) (fun _ _ _ h => h) (Or.inl ⟨by rfl, ?_⟩) ?_ ?_
    rotate_left
    ·intro w'
     go_simp
     with_reducible rfl
    rotate_left
    ·simp only [Act.put, List.setIfInBounds_toArray, List.set_cons_zero, List.set_cons_succ, i64_w, i32_w]
     rfl
    refine pure_ (i := 9) (N := some 23) (v := ?_) (a' := ?_) #[true, true, true, true, true, true, true, true, true, true] rfl rfl (any_of HT_.out (by kernel_rfl)) (fun _ _ _ h => h) (Or.inl ⟨by rfl, ?_⟩) ?_ ?_
    rotate_left
    ·intro w'
     go_simp
     with_reducible rfl
    rotate_left
    ·simp only [Act.put, List.setIfInBounds_toArray, List.set_cons_zero, List.set_cons_succ, i64_w, i32_w]
     rfl
    refine done_ (done_of HT_.out (by kernel_rfl)) ?_
    try go_wp2
    go_meet
    case rel => exact ⟨_, (!t335), (by first | rfl | (simp; done) | (simp [*]; done)), H', ⟨by first | omega | exact Nat.le_refl _⟩, ⟨by (with_reducible repeat (first | apply Kd.Q_alloc | apply Kd.Q_drewN | apply Kd.Q_drew)); exact Kd.Q_mono HO323.out (fun _ hk => hk.1)⟩, ⟨Kd.Q_of_R (by (with_reducible repeat (first | apply Kd.R_alloc | apply Kd.R_drewN | apply Kd.R_drew)); exact Kd.R_mono HO328.out (fun _ hk => hk.1))⟩, ⟨by (with_reducible repeat (first | refine blk_drewN ?_ _ | refine blk_drew ?_ | refine blk_alloc ?_ _)); exact BK324.out⟩, ⟨by (with_reducible repeat (first | refine blk_drewN ?_ _ | refine blk_drew ?_ | refine blk_alloc ?_ _)); exact BK329.out⟩, ⟨by repeat (first | (with_reducible first | exact HB.out | apply below_alloc | apply pw_below_drewN | apply below_drew1 | refine below_set ?_ GE324.out | refine below_set ?_ GE329.out) | exact HB.out)⟩⟩
   ·replace c17 := Bool.eq_false_iff.mpr c17
    subst c17
    have H1 : (laws_FnFlipTwice.j0 k true t320 t321 t325 t326) = some r := by rw [if_neg (show ¬ (false = true) by decide)] at H; exact H
    clear H
    have H := H1
    clear H1
    have H' := Aside0.mk H
    clear H
    try go_wp2
    have n0_ : Aside0 (Kd.Q k24 24 ((w11.setCell ⟨gb329, 0, none⟩ (.int .i64 t325)).setCell ⟨gb329, 1, none⟩ (.slice Ao14 t326.length co14)) w.heap.size (fun k_ => some k_ ≠ (.slice Ao14 t326.length co14 : Value).ownBlock) (.slice Ao9 t321.length co9) t321) := ⟨by (with_reducible repeat (first | apply Kd.Q_alloc | apply Kd.Q_drewN | apply Kd.Q_drew)); exact Kd.Q_mono (Kd.Q_far (p := ⟨gb329, 1, none⟩) (Kd.Q_far (p := ⟨gb329, 0, none⟩) (Kd.Q_types HO323.out BK329.out (by decide)) (fun _ hk => hk.2) (.int .i64 t325)) (fun _ hk => hk.2) (.slice Ao14 t326.length co14)) (fun _ hk => hk.1.2)⟩
    have n1_ : Aside0 (Kd.R k24 24 ((w11.setCell ⟨gb329, 0, none⟩ (.int .i64 t325)).setCell ⟨gb329, 1, none⟩ (.slice Ao14 t326.length co14)) w.heap.size (fun k_ => some k_ ≠ (.slice Ao9 t321.length co9 : Value).ownBlock) (.slice Ao14 t326.length co14) t326) := ⟨by (with_reducible repeat (first | apply Kd.R_alloc | apply Kd.R_drewN | apply Kd.R_drew)); exact Kd.R_mono (Kd.R_far (p := ⟨gb329, 1, none⟩) (Kd.R_far (p := ⟨gb329, 0, none⟩) (Kd.R_types HO328.out BK329.out (by decide)) (fun _ hk => hk.2) (.int .i64 t325)) (fun _ hk => hk.2) (.slice Ao14 t326.length co14)) (fun _ hk => hk.1.2)⟩
    have n2_ : Aside0 (((w11.setCell ⟨gb329, 0, none⟩ (.int .i64 t325)).setCell ⟨gb329, 1, none⟩ (.slice Ao14 t326.length co14)).heap[gb324]? = some (.cells #[.int .i64 t320, .slice Ao9 t321.length co9] 30 (0, 0))) := ⟨by (with_reducible repeat (first | refine blk_drewN ?_ _ | refine blk_drew ?_ | refine blk_alloc ?_ _)); refine blk_far ?_ NB324_329.out _; (with_reducible repeat (first | refine blk_drewN ?_ _ | refine blk_drew ?_ | refine blk_alloc ?_ _)); refine blk_far ?_ NB324_329.out _; (with_reducible repeat (first | refine blk_drewN ?_ _ | refine blk_drew ?_ | refine blk_alloc ?_ _)); exact BK324.out⟩
    have n3_ : Aside0 (((w11.setCell ⟨gb329, 0, none⟩ (.int .i64 t325)).setCell ⟨gb329, 1, none⟩ (.slice Ao14 t326.length co14)).heap[gb329]? = some (.cells #[.int .i64 t325, .slice Ao14 t326.length co14] 30 (0, 0))) := ⟨by (with_reducible repeat (first | refine blk_drewN ?_ _ | refine blk_drew ?_ | refine blk_alloc ?_ _)); refine blk_put (cs := #[.int .i64 t325, .slice none 0 0]) ?_ 1 _ rfl; (with_reducible repeat (first | refine blk_drewN ?_ _ | refine blk_drew ?_ | refine blk_alloc ?_ _)); refine blk_put (cs := #[.int .i64 0, .slice none 0 0]) ?_ 0 _ rfl; (with_reducible repeat (first | refine blk_drewN ?_ _ | refine blk_drew ?_ | refine blk_alloc ?_ _)); exact BK329.out⟩
    have n4_ : Aside0 (Below w.heap.size w ((w11.setCell ⟨gb329, 0, none⟩ (.int .i64 t325)).setCell ⟨gb329, 1, none⟩ (.slice Ao14 t326.length co14))) := ⟨by repeat (first | (with_reducible first | exact HB.out | apply below_alloc | apply pw_below_drewN | apply below_drew1 | refine below_set ?_ GE324.out | refine below_set ?_ GE329.out) | exact HB.out)⟩
    (try clear HO323)
    (try clear HO328)
    (try clear BK324)
    (try clear BK329)
    (try clear HB)
    generalize ((w11.setCell ⟨gb329, 0, none⟩ (.int .i64 t325)).setCell ⟨gb329, 1, none⟩ (.slice Ao14 t326.length co14)) = w25 at n0_ n1_ n2_ n3_ n4_ ⊢
    have HO323 := n0_
    have HO328 := n1_
    have BK324 := n2_
    have BK329 := n3_
    have HB := n4_
    clear n0_ n1_ n2_ n3_ n4_
    have n0_ := Aside0.mk (Kd.Q_drew HO323.out)
    have n1_ := Aside0.mk (Kd.R_drew HO328.out)
    have n2_ := Aside0.mk (blk_drew BK324.out)
    have n3_ := Aside0.mk (blk_drew BK329.out)
    have n4_ := Aside0.mk (below_drew1 HB.out)
    clear HO323
    clear HO328
    clear BK324
    clear BK329
    clear HB
    have HO323 := n0_
    have HO328 := n1_
    have BK324 := n2_
    have BK329 := n3_
    have HB := n4_
    clear n0_ n1_ n2_ n3_ n4_
    refine start_ (n := 10) (S := fun w' => w'.cell? ⟨gb329, 0, none⟩ = some (.int .i64 t325) ∧ w'.cell? ⟨gb329, 1, none⟩ = some (.slice Ao14 t326.length co14) ∧ w'.cell? ⟨gb324, 0, none⟩ = some (.int .i64 t320) ∧ w'.cell? ⟨gb324, 1, none⟩ = some (.slice Ao9 t321.length co9)) (ds := []) #[false, false, false, false, false, false, false, false, false, false] (by kernel_rfl) rfl rfl ⟨(blk_cell BK329.out 0).trans rfl, (blk_cell BK329.out 1).trans rfl, (blk_cell BK324.out 0).trans rfl, (blk_cell BK324.out 1).trans rfl⟩ (fun hHeld => ?_); refine with_tabW laws_FnFlipTwice.tab5 laws_FnFlipTwice.bits5 (fun HT_ HW_ => ?_)
    generalize w25.drew = w26 at HO323 HO328 BK324 BK329 HB hHeld ⊢
    refine take_ (i := 0) (N := some 14) (v := ?_) (a' := ?_) #[true, false, false, false, false, false, false, false, false, false] rfl rfl (take_ofW HT_.out HW_.out (by kernel_rfl)) (fun _ _ _ h => h) (Or.inl ⟨by rfl, ?_⟩) hHeld ?_ ?_
    rotate_left
    ·rintro w' ⟨s0, s1, s2, s3⟩
     go_simp
     with_reducible rfl
    rotate_left
    ·simp only [Act.put, List.setIfInBounds_toArray, List.set_cons_zero, List.set_cons_succ, i64_w, i32_w]
     rfl
    refine take_ (i := 1) (N := some 15) (v := ?_) (a' := ?_) #[true, true, false, false, false, false, false, false, false, false] rfl rfl (take_ofW HT_.out HW_.out (by kernel_rfl)) (fun _ _ _ h => h) (Or.inl ⟨by rfl, ?_⟩) hHeld ?_ ?_
    rotate_left
    ·rintro w' ⟨s0, s1, s2, s3⟩
     go_simp
     with_reducible rfl
    rotate_left
    ·simp only [Act.put, List.setIfInBounds_toArray, List.set_cons_zero, List.set_cons_succ, i64_w, i32_w]
     rfl
    refine one_ (i := 2) (N := some 16) #[true, true, true, false, false, false, false, false, false, false] rfl rfl (one_of HT_.out (by kernel_rfl)) (by decide) (fun K hK => ?_)
    refine goes_ Try.func27 (by kernel_rfl) rfl #[.agg #[.int .i64 t320, .slice Ao9 t321.length co9]] (by rfl) rfl rfl (by (try simp only [List.map_toArray, List.map_cons, List.map_nil]); first | done | rfl | (simp only [List.length_drop, List.length_take]; rfl)) ?_
    with_reducible refine (spec_GridFlip.calls k t320 _ _ t321 t330 t331 _ ?side1 ?side2 A15.out).mono ?_
    (case side1 => repeat (first | exact (Kd.Q_reads' HO323.out).2.2 | (with_reducible refine Kd.C_alloc ?_ _) | (with_reducible refine Kd.C_drewN ?_ _) | (with_reducible refine Kd.C_drew ?_)))
    (case side2 => exact (Kd.Q_reads' HO323.out).2.1)
    rintro e w27 ⟨v332, rfl, ho0, hb⟩
    refine ⟨_, rfl, ?_⟩
    have n0_ := Aside0.mk (Kd.Q_elder' (by (with_reducible repeat (first | apply Kd.Q_alloc | apply Kd.Q_drewN | apply Kd.Q_drew)); exact HO323.out) (Kd.R_base ho0) hb)
    have n1_ := Aside0.mk (Kd.R_elder' (kR HO328.out) (Kd.R_base ho0) hb)
    have n2_ := Aside0.mk (Kd.R_lower (Kd.R_new' (Kd.R_new' ho0 (Kd.Q_lt (by (with_reducible repeat (first | apply Kd.Q_alloc | apply Kd.Q_drewN | apply Kd.Q_drew)); exact HO323.out))) (Kd.R_lt (kR HO328.out))) (below_size (by repeat (first | (with_reducible first | exact HB.out | apply below_alloc | apply pw_below_drewN | apply below_drew1 | refine below_set ?_ GE324.out | refine below_set ?_ GE329.out) | exact HB.out))))
    have n3_ := Aside0.mk (blk_below (bK BK324.out) hb)
    have n4_ := Aside0.mk (blk_below (bK BK329.out) hb)
    have n5_ := Aside0.mk (below_step (by repeat (first | (with_reducible first | exact HB.out | apply below_alloc | apply pw_below_drewN | apply below_drew1 | refine below_set ?_ GE324.out | refine below_set ?_ GE329.out) | exact HB.out)) hb)
    clear HO323
    clear HO328
    clear BK324
    clear BK329
    clear HB
    have HO323 := n0_
    have HO328 := n1_
    have HO333 := n2_
    have BK324 := n3_
    have BK329 := n4_
    have HB := n5_
    clear n0_ n1_ n2_ n3_ n4_ n5_
    (try clear hb)
    (try clear hb2)
    (try clear hk)
    (try clear hi)
    (try clear ho0)
    obtain ⟨Ao28, co28, eo28⟩ := Kd.R_slice HO333.out
    (first | subst eo28 | (injection eo28 with f1_ f2_ f3_; have f4_ := f1_.symm; have f5_ := f3_.symm; clear f1_ f2_ f3_; subst f4_; subst f5_))
    refine hK.out _ _ ⟨(blk_cell BK329.out 0).trans rfl, (blk_cell BK329.out 1).trans rfl, (blk_cell BK324.out 0).trans rfl, (blk_cell BK324.out 1).trans rfl⟩ (fun hHeld => ?_)
    clear hK K
    refine norm_ (a' := ?_) ?_ ?_
    rotate_left
    ·show Act.put _ (some 16) _ = _
     simp only [Act.put, List.setIfInBounds_toArray, List.set_cons_zero, List.set_cons_succ, i64_w, i32_w]
     rfl
    refine one_ (i := 3) (N := some 17) #[true, true, true, true, false, false, false, false, false, false] rfl rfl (one_of HT_.out (by kernel_rfl)) (by decide) (fun K hK => ?_)
    refine goes_ Try.func19 (by kernel_rfl) rfl #[.agg #[.int .i64 t325, .slice Ao14 t326.length co14], .agg #[.int .i64 t330, .slice Ao28 t331.length co28]] (by rfl) rfl rfl (by (try simp only [List.map_toArray, List.map_cons, List.map_nil]); first | done | rfl | (simp only [List.length_drop, List.length_take]; rfl)) ?_
    with_reducible refine (laws_llGrid.calls k t325 _ _ t326 t330 _ _ t331 false _ ?side1 ?side2 ?side3 ?side4 A16.out).mono ?_
    (case side1 => repeat (first | exact (Kd.R_reads' HO328.out).2.2 | (with_reducible refine Kd.C_alloc ?_ _) | (with_reducible refine Kd.C_drewN ?_ _) | (with_reducible refine Kd.C_drew ?_)))
    (case side2 => exact (Kd.R_reads' HO328.out).2.1)
    (case side3 => repeat (first | exact (Kd.R_reads' HO333.out).2.2 | (with_reducible refine Kd.C_alloc ?_ _) | (with_reducible refine Kd.C_drewN ?_ _) | (with_reducible refine Kd.C_drew ?_)))
    (case side4 => exact (Kd.R_reads' HO333.out).2.1)
    rintro e w29 ⟨rfl, hb⟩
    refine ⟨_, rfl, ?_⟩
    have n0_ := Aside0.mk (Kd.Q_below (by (with_reducible repeat (first | apply Kd.Q_alloc | apply Kd.Q_drewN | apply Kd.Q_drew)); exact HO323.out) hb)
    have n1_ := Aside0.mk (Kd.R_below (kR HO328.out) hb)
    have n2_ := Aside0.mk (Kd.R_below (kR HO333.out) hb)
    have n3_ := Aside0.mk (blk_below (bK BK324.out) hb)
    have n4_ := Aside0.mk (blk_below (bK BK329.out) hb)
    have n5_ := Aside0.mk (below_step (by repeat (first | (with_reducible first | exact HB.out | apply below_alloc | apply pw_below_drewN | apply below_drew1 | refine below_set ?_ GE324.out | refine below_set ?_ GE329.out) | exact HB.out)) hb)
    clear HO323
    clear HO328
    clear HO333
    clear BK324
    clear BK329
    clear HB
    have HO323 := n0_
    have HO328 := n1_
    have HO333 := n2_
    have BK324 := n3_
    have BK329 := n4_
    have HB := n5_
    clear n0_ n1_ n2_ n3_ n4_ n5_
    (try clear hb)
    (try clear hb2)
    (try clear hk)
    (try clear hi)
    refine hK.out _ _ ⟨(blk_cell BK329.out 0).trans rfl, (blk_cell BK329.out 1).trans rfl, (blk_cell BK324.out 0).trans rfl, (blk_cell BK324.out 1).trans rfl⟩ (fun hHeld => ?_)
    clear hK K
    refine norm_ (a' := ?_) ?_ ?_
    rotate_left
    ·show Act.put _ (some 17) _ = _
     simp only [Act.put, List.setIfInBounds_toArray, List.set_cons_zero, List.set_cons_succ, i64_w, i32_w]
     rfl
    refine pure_ (i := 4) (N := some 18) (v := ?_) (a' := ?_) #[true, true, true, true, true, false, false, false, false, false] rfl rfl (any_of HT_.out (by kernel_rfl)) (fun _ _ _ h => h) (Or.inl ⟨by rfl, ?_⟩) ?_ ?_
    rotate_left
    ·intro w'
     go_simp
     with_reducible rfl
    rotate_left
    ·simp only [Act.put, List.setIfInBounds_toArray, List.set_cons_zero, List.set_cons_succ, i64_w, i32_w]
     rfl
    refine pure_ (i := 5) (N := some 19) (v := ?_) (a' := ?_) #[true, true, true, true, true, true, false, false, false, false] rfl rfl (any_of HT_.out (by kernel_rfl)) (fun _ _ _ h => h) (Or.inl ⟨by rfl, ?_⟩) ?_ ?_
    rotate_left
    ·intro w'
     go_simp
     with_reducible rfl
    rotate_left
    ·simp only [Act.put, List.setIfInBounds_toArray, List.set_cons_zero, List.set_cons_succ, i64_w, i32_w]
     rfl
    refine pure_ (i := 6) (N := some 20) (v := undef) (a' := ?_) #[true, true, true, true, true, true, true, false, false, false] rfl rfl (any_of HT_.out (by kernel_rfl)) (fun _ _ _ h => h) (Or.inr ⟨by rfl, rfl⟩) ?_ ?_
    rotate_left
    ·simp only [Act.put, List.setIfInBounds_toArray, List.set_cons_zero, List.set_cons_succ, i64_w, i32_w]
     rfl
    refine pure_ (i := 7) (N := some 21) (v := undef) (a' := ?_) #[true, true, true, true, true, true, true, true, false, false] rfl rfl (any_of HT_.out (by kernel_rfl)) (fun _ _ _ h => h) (Or.inr ⟨by rfl, rfl⟩) ?_ ?_
    rotate_left
    ·simp only [Act.put, List.setIfInBounds_toArray, List.set_cons_zero, List.set_cons_succ, i64_w, i32_w]
     rfl
    refine pure_ (i := 8) (N := some 22) (v := undef) (a' := ?_) #[true, true, true, true, true, true, true, true, true, false] rfl rfl (any_of HT_.out (by kernel_rfl)) (fun _ _ _ h => h) (Or.inr ⟨by rfl, rfl⟩) ?_ ?_
    rotate_left
    ·simp only [Act.put, List.setIfInBounds_toArray, List.set_cons_zero, List.set_cons_succ, i64_w, i32_w]
     rfl
    refine pure_ (i := 9) (N := some 23) (v := ?_) (a' := ?_) #[true, true, true, true, true, true, true, true, true, true] rfl rfl (any_of HT_.out (by kernel_rfl)) (fun _ _ _ h => h) (Or.inl ⟨by rfl, ?_⟩) ?_ ?_
    rotate_left
    ·intro w'
     go_simp
     with_reducible rfl
    rotate_left
    ·simp only [Act.put, List.setIfInBounds_toArray, List.set_cons_zero, List.set_cons_succ, i64_w, i32_w]
     rfl
    refine done_ (done_of HT_.out (by kernel_rfl)) ?_
    try go_wp2
    go_meet
    case rel => exact ⟨_, (true), (by first | rfl | (simp; done) | (simp [*]; done)), H', ⟨by first | omega | exact Nat.le_refl _⟩, ⟨by (with_reducible repeat (first | apply Kd.Q_alloc | apply Kd.Q_drewN | apply Kd.Q_drew)); exact Kd.Q_mono HO323.out (fun _ hk => hk.1)⟩, ⟨Kd.Q_of_R (by (with_reducible repeat (first | apply Kd.R_alloc | apply Kd.R_drewN | apply Kd.R_drew)); exact Kd.R_mono HO328.out (fun _ hk => hk.1))⟩, ⟨by (with_reducible repeat (first | refine blk_drewN ?_ _ | refine blk_drew ?_ | refine blk_alloc ?_ _)); exact BK324.out⟩, ⟨by (with_reducible repeat (first | refine blk_drewN ?_ _ | refine blk_drew ?_ | refine blk_alloc ?_ _)); exact BK329.out⟩, ⟨by repeat (first | (with_reducible first | exact HB.out | apply below_alloc | apply pw_below_drewN | apply below_drew1 | refine below_set ?_ GE324.out | refine below_set ?_ GE329.out) | exact HB.out)⟩⟩
  case rest =>
   clear HC5
   try clear c1
   try clear c2
   try clear c2b0
   try clear c2b1
   try clear p2
   try clear c6
   try clear c12
   try clear c17
   try clear c19
   try clear c21
   try clear c25
   try clear c26
   try clear c27
   try clear hcz13_0
   try clear hcz13_1
   try clear hcz8_0
   try clear hcz8_1
   try clear hfz13_0
   try clear hfz13_1
   try clear hfz8_0
   try clear hfz8_1
   obtain ⟨kq, x23_4, rfl, HA, HJ4, HO_325001, HO_330001, BK324, BK329, HB⟩ := hcut
   cases kq with
   | zero => exact absurd HA.out (by simp [laws_FnFlipTwice.j0])
   | succ kj4 =>
    have H := HA.out
    clear HA
    simp only [laws_FnFlipTwice.j0] at H
    by_cases c30 : x23_4 = true
    ·subst c30
     have H1 : ((spec_GridFlip.f kj4 t320 t321).bind fun bt336 => ((laws_llGrid.f kj4 t325 t326 bt336.1 bt336.2).bind fun t340 => (some t340))) = some r := by rw [if_pos rfl] at H; exact H
     clear H
     have H := H1
     clear H1
     replace H := Option.bind_eq_some_iff.mp H
     obtain ⟨⟨t336, t337⟩, A310, H⟩ := H
     replace H : ((laws_llGrid.f kj4 t325 t326 t336 t337).bind fun t340 => (some t340)) = some r := H
     have A31 := Aside0.mk A310
     clear A310
     replace H := Option.bind_eq_some_iff.mp H
     obtain ⟨t340, A320, H⟩ := H
     replace H : (some t340) = some r := H
     have A32 := Aside0.mk A320
     clear A320
     obtain rfl := Option.some.inj H
     try go_wp2
     have n0_ := Aside0.mk (Kd.Q_drew HO_325001.out)
     have n1_ := Aside0.mk (Kd.Q_drew HO_330001.out)
     have n2_ := Aside0.mk (blk_drew BK324.out)
     have n3_ := Aside0.mk (blk_drew BK329.out)
     have n4_ := Aside0.mk (below_drew1 HB.out)
     clear HO_325001
     clear HO_330001
     clear BK324
     clear BK329
     clear HB
     have HO_325001 := n0_
     have HO_330001 := n1_
     have BK324 := n2_
     have BK329 := n3_
     have HB := n4_
     clear n0_ n1_ n2_ n3_ n4_
     refine start_ (n := 5) (S := fun w' => w'.cell? ⟨gb329, 0, none⟩ = some (.int .i64 t325) ∧ w'.cell? ⟨gb329, 1, none⟩ = some (.slice Ao14 t326.length co14) ∧ w'.cell? ⟨gb324, 0, none⟩ = some (.int .i64 t320) ∧ w'.cell? ⟨gb324, 1, none⟩ = some (.slice Ao9 t321.length co9)) (ds := []) #[false, false, false, false, false] (by kernel_rfl) rfl rfl ⟨(blk_cell BK329.out 0).trans rfl, (blk_cell BK329.out 1).trans rfl, (blk_cell BK324.out 0).trans rfl, (blk_cell BK324.out 1).trans rfl⟩ (fun hHeld => ?_)
     generalize wc.drew = w33 at HO_325001 HO_330001 BK324 BK329 HB hHeld ⊢
     refine take_ (i := 0) (N := some 24) (v := ?_) (a' := ?_) #[true, false, false, false, false] rfl rfl (by kernel_rfl) (fun _ _ _ h => h) (Or.inl ⟨by rfl, ?_⟩) hHeld ?_ ?_
     rotate_left
     ·rintro w' ⟨s0, s1, s2, s3⟩
      go_simp
      with_reducible rfl
     rotate_left
     ·simp only [Act.put, List.setIfInBounds_toArray, List.set_cons_zero, List.set_cons_succ, i64_w, i32_w]
      rfl
     refine take_ (i := 1) (N := some 25) (v := ?_) (a' := ?_) #[true, true, false, false, false] rfl rfl (by kernel_rfl) (fun _ _ _ h => h) (Or.inl ⟨by rfl, ?_⟩) hHeld ?_ ?_
     rotate_left
     ·rintro w' ⟨s0, s1, s2, s3⟩
      go_simp
      with_reducible rfl
     rotate_left
     ·simp only [Act.put, List.setIfInBounds_toArray, List.set_cons_zero, List.set_cons_succ, i64_w, i32_w]
      rfl
     refine one_ (i := 2) (N := some 26) #[true, true, true, false, false] rfl rfl (by kernel_rfl) (by decide) (fun K hK => ?_)
     refine goes_ Try.func27 (by kernel_rfl) rfl #[.agg #[.int .i64 t320, .slice Ao9 t321.length co9]] (by rfl) rfl rfl (by (try simp only [List.map_toArray, List.map_cons, List.map_nil]); first | done | rfl | (simp only [List.length_drop, List.length_take]; rfl)) ?_
     with_reducible refine (spec_GridFlip.calls kj4 t320 _ _ t321 t336 t337 _ ?side1 ?side2 A31.out).mono ?_
     (case side1 => repeat (first | exact (Kd.Q_reads' HO_325001.out).2.2 | (with_reducible refine Kd.C_alloc ?_ _) | (with_reducible refine Kd.C_drewN ?_ _) | (with_reducible refine Kd.C_drew ?_)))
     (case side2 => exact (Kd.Q_reads' HO_325001.out).2.1)
     rintro e w34 ⟨v338, rfl, ho0, hb⟩
     refine ⟨_, rfl, ?_⟩
     have n0_ := Aside0.mk (Kd.Q_elder' (by (with_reducible repeat (first | apply Kd.Q_alloc | apply Kd.Q_drewN | apply Kd.Q_drew)); exact HO_325001.out) (Kd.R_base ho0) hb)
     have n1_ := Aside0.mk (Kd.Q_elder' (by (with_reducible repeat (first | apply Kd.Q_alloc | apply Kd.Q_drewN | apply Kd.Q_drew)); exact HO_330001.out) (Kd.R_base ho0) hb)
     have n2_ := Aside0.mk (Kd.R_lower (Kd.R_new' (Kd.R_new' ho0 (Kd.Q_lt (by (with_reducible repeat (first | apply Kd.Q_alloc | apply Kd.Q_drewN | apply Kd.Q_drew)); exact HO_325001.out))) (Kd.Q_lt (by (with_reducible repeat (first | apply Kd.Q_alloc | apply Kd.Q_drewN | apply Kd.Q_drew)); exact HO_330001.out))) (below_size (by repeat (first | (with_reducible first | exact HB.out | apply below_alloc | apply pw_below_drewN | apply below_drew1 | refine below_set ?_ GE324.out | refine below_set ?_ GE329.out) | exact HB.out))))
     have n3_ := Aside0.mk (blk_below (bK BK324.out) hb)
     have n4_ := Aside0.mk (blk_below (bK BK329.out) hb)
     have n5_ := Aside0.mk (below_step (by repeat (first | (with_reducible first | exact HB.out | apply below_alloc | apply pw_below_drewN | apply below_drew1 | refine below_set ?_ GE324.out | refine below_set ?_ GE329.out) | exact HB.out)) hb)
     clear HO_325001
     clear HO_330001
     clear BK324
     clear BK329
     clear HB
     have HO_325001 := n0_
     have HO_330001 := n1_
     have HO339 := n2_
     have BK324 := n3_
     have BK329 := n4_
     have HB := n5_
     clear n0_ n1_ n2_ n3_ n4_ n5_
     (try clear hb)
     (try clear hb2)
     (try clear hk)
     (try clear hi)
     (try clear ho0)
     obtain ⟨Ao35, co35, eo35⟩ := Kd.R_slice HO339.out
     (first | subst eo35 | (injection eo35 with f1_ f2_ f3_; have f4_ := f1_.symm; have f5_ := f3_.symm; clear f1_ f2_ f3_; subst f4_; subst f5_))
     refine hK.out _ _ ⟨(blk_cell BK329.out 0).trans rfl, (blk_cell BK329.out 1).trans rfl, (blk_cell BK324.out 0).trans rfl, (blk_cell BK324.out 1).trans rfl⟩ (fun hHeld => ?_)
     clear hK K
     refine norm_ (a' := ?_) ?_ ?_
     rotate_left
     ·show Act.put _ (some 26) _ = _
      simp only [Act.put, List.setIfInBounds_toArray, List.set_cons_zero, List.set_cons_succ, i64_w, i32_w]
      rfl
     refine one_ (i := 3) (N := some 27) #[true, true, true, true, false] rfl rfl (by kernel_rfl) (by decide) (fun K hK => ?_)
     refine goes_ Try.func19 (by kernel_rfl) rfl #[.agg #[.int .i64 t325, .slice Ao14 t326.length co14], .agg #[.int .i64 t336, .slice Ao35 t337.length co35]] (by rfl) rfl rfl (by (try simp only [List.map_toArray, List.map_cons, List.map_nil]); first | done | rfl | (simp only [List.length_drop, List.length_take]; rfl)) ?_
     with_reducible refine (laws_llGrid.calls kj4 t325 _ _ t326 t336 _ _ t337 t340 _ ?side1 ?side2 ?side3 ?side4 A32.out).mono ?_
     (case side1 => repeat (first | exact (Kd.Q_reads' HO_330001.out).2.2 | (with_reducible refine Kd.C_alloc ?_ _) | (with_reducible refine Kd.C_drewN ?_ _) | (with_reducible refine Kd.C_drew ?_)))
     (case side2 => exact (Kd.Q_reads' HO_330001.out).2.1)
     (case side3 => repeat (first | exact (Kd.R_reads' HO339.out).2.2 | (with_reducible refine Kd.C_alloc ?_ _) | (with_reducible refine Kd.C_drewN ?_ _) | (with_reducible refine Kd.C_drew ?_)))
     (case side4 => exact (Kd.R_reads' HO339.out).2.1)
     rintro e w36 ⟨rfl, hb⟩
     refine ⟨_, rfl, ?_⟩
     have n0_ := Aside0.mk (Kd.Q_below (by (with_reducible repeat (first | apply Kd.Q_alloc | apply Kd.Q_drewN | apply Kd.Q_drew)); exact HO_325001.out) hb)
     have n1_ := Aside0.mk (Kd.Q_below (by (with_reducible repeat (first | apply Kd.Q_alloc | apply Kd.Q_drewN | apply Kd.Q_drew)); exact HO_330001.out) hb)
     have n2_ := Aside0.mk (Kd.R_below (kR HO339.out) hb)
     have n3_ := Aside0.mk (blk_below (bK BK324.out) hb)
     have n4_ := Aside0.mk (blk_below (bK BK329.out) hb)
     have n5_ := Aside0.mk (below_step (by repeat (first | (with_reducible first | exact HB.out | apply below_alloc | apply pw_below_drewN | apply below_drew1 | refine below_set ?_ GE324.out | refine below_set ?_ GE329.out) | exact HB.out)) hb)
     clear HO_325001
     clear HO_330001
     clear HO339
     clear BK324
     clear BK329
     clear HB
     have HO_325001 := n0_
     have HO_330001 := n1_
     have HO339 := n2_
     have BK324 := n3_
     have BK329 := n4_
     have HB := n5_
     clear n0_ n1_ n2_ n3_ n4_ n5_
     (try clear hb)
     (try clear hb2)
     (try clear hk)
     (try clear hi)
     refine hK.out _ _ ⟨(blk_cell BK329.out 0).trans rfl, (blk_cell BK329.out 1).trans rfl, (blk_cell BK324.out 0).trans rfl, (blk_cell BK324.out 1).trans rfl⟩ (fun hHeld => ?_)
     clear hK K
     refine norm_ (a' := ?_) ?_ ?_
     rotate_left
     ·show Act.put _ (some 27) _ = _
      simp only [Act.put, List.setIfInBounds_toArray, List.set_cons_zero, List.set_cons_succ, i64_w, i32_w]
      rfl
     refine pure_ (i := 4) (N := some 2) (v := ?_) (a' := ?_) #[true, true, true, true, true] rfl rfl (by kernel_rfl) (fun _ _ _ h => h) (Or.inl ⟨by rfl, ?_⟩) ?_ ?_
     rotate_left
     ·intro w'
      go_simp
      with_reducible rfl
     rotate_left
     ·simp only [Act.put, List.setIfInBounds_toArray, List.set_cons_zero, List.set_cons_succ, i64_w, i32_w]
      rfl
     refine done_ (by kernel_rfl) ?_
     try go_wp2
     go_ret
     exact ⟨by first | rfl | (simp [errW_none, errW_some] <;> rfl) | (simp [*, errW_none, errW_some] <;> rfl) | (exfalso; simp_all; done), by repeat (first | (with_reducible first | exact HB.out | apply below_alloc | apply pw_below_drewN | apply below_drew1 | refine below_set ?_ GE324.out | refine below_set ?_ GE329.out) | exact HB.out)⟩
    ·replace c30 := Bool.eq_false_iff.mpr c30
     subst c30
     have H1 : ((impl_GridTurn.f t320 t321).bind fun bt341 => ((impl_GridFlip.f bt341.1 bt341.2).bind fun bt345 => ((impl_GridTurn.f t325 t326).bind fun bt350 => ((impl_GridTurn.f bt350.1 bt350.2).bind fun bt354 => ((impl_GridTurn.f bt354.1 bt354.2).bind fun bt358 => ((impl_GridFlip.f t325 t326).bind fun bt363 => ((laws_llGrid.f kj4 bt363.1 bt363.2 t320 t321).bind fun t367 => (if t367 = true then ((laws_llGrid.f kj4 bt345.1 bt345.2 bt358.1 bt358.2).bind fun t368 => (if t368 = true then ((impl_GridOk.f kj4 t325 t326).bind fun t369 => (some t369)) else (some false))) else (some false))))))))) = some r := by rw [if_neg (show ¬ (false = true) by decide)] at H; exact H
     clear H
     have H := H1
     clear H1
     replace H := Option.bind_eq_some_iff.mp H
     obtain ⟨⟨t341, t342⟩, A370, H⟩ := H
     replace H : ((impl_GridFlip.f t341 t342).bind fun bt345 => ((impl_GridTurn.f t325 t326).bind fun bt350 => ((impl_GridTurn.f bt350.1 bt350.2).bind fun bt354 => ((impl_GridTurn.f bt354.1 bt354.2).bind fun bt358 => ((impl_GridFlip.f t325 t326).bind fun bt363 => ((laws_llGrid.f kj4 bt363.1 bt363.2 t320 t321).bind fun t367 => (if t367 = true then ((laws_llGrid.f kj4 bt345.1 bt345.2 bt358.1 bt358.2).bind fun t368 => (if t368 = true then ((impl_GridOk.f kj4 t325 t326).bind fun t369 => (some t369)) else (some false))) else (some false)))))))) = some r := H
     have A37 := Aside0.mk A370
     clear A370
     replace H := Option.bind_eq_some_iff.mp H
     obtain ⟨⟨t345, t346⟩, A380, H⟩ := H
     replace H : ((impl_GridTurn.f t325 t326).bind fun bt350 => ((impl_GridTurn.f bt350.1 bt350.2).bind fun bt354 => ((impl_GridTurn.f bt354.1 bt354.2).bind fun bt358 => ((impl_GridFlip.f t325 t326).bind fun bt363 => ((laws_llGrid.f kj4 bt363.1 bt363.2 t320 t321).bind fun t367 => (if t367 = true then ((laws_llGrid.f kj4 t345 t346 bt358.1 bt358.2).bind fun t368 => (if t368 = true then ((impl_GridOk.f kj4 t325 t326).bind fun t369 => (some t369)) else (some false))) else (some false))))))) = some r := H
     have A38 := Aside0.mk A380
     clear A380
     replace H := Option.bind_eq_some_iff.mp H
     obtain ⟨⟨t350, t351⟩, A390, H⟩ := H
     replace H : ((impl_GridTurn.f t350 t351).bind fun bt354 => ((impl_GridTurn.f bt354.1 bt354.2).bind fun bt358 => ((impl_GridFlip.f t325 t326).bind fun bt363 => ((laws_llGrid.f kj4 bt363.1 bt363.2 t320 t321).bind fun t367 => (if t367 = true then ((laws_llGrid.f kj4 t345 t346 bt358.1 bt358.2).bind fun t368 => (if t368 = true then ((impl_GridOk.f kj4 t325 t326).bind fun t369 => (some t369)) else (some false))) else (some false)))))) = some r := H
     have A39 := Aside0.mk A390
     clear A390
     replace H := Option.bind_eq_some_iff.mp H
     obtain ⟨⟨t354, t355⟩, A400, H⟩ := H
     replace H : ((impl_GridTurn.f t354 t355).bind fun bt358 => ((impl_GridFlip.f t325 t326).bind fun bt363 => ((laws_llGrid.f kj4 bt363.1 bt363.2 t320 t321).bind fun t367 => (if t367 = true then ((laws_llGrid.f kj4 t345 t346 bt358.1 bt358.2).bind fun t368 => (if t368 = true then ((impl_GridOk.f kj4 t325 t326).bind fun t369 => (some t369)) else (some false))) else (some false))))) = some r := H
     have A40 := Aside0.mk A400
     clear A400
     replace H := Option.bind_eq_some_iff.mp H
     obtain ⟨⟨t358, t359⟩, A410, H⟩ := H
     replace H : ((impl_GridFlip.f t325 t326).bind fun bt363 => ((laws_llGrid.f kj4 bt363.1 bt363.2 t320 t321).bind fun t367 => (if t367 = true then ((laws_llGrid.f kj4 t345 t346 t358 t359).bind fun t368 => (if t368 = true then ((impl_GridOk.f kj4 t325 t326).bind fun t369 => (some t369)) else (some false))) else (some false)))) = some r := H
     have A41 := Aside0.mk A410
     clear A410
     replace H := Option.bind_eq_some_iff.mp H
     obtain ⟨⟨t363, t364⟩, A420, H⟩ := H
     replace H : ((laws_llGrid.f kj4 t363 t364 t320 t321).bind fun t367 => (if t367 = true then ((laws_llGrid.f kj4 t345 t346 t358 t359).bind fun t368 => (if t368 = true then ((impl_GridOk.f kj4 t325 t326).bind fun t369 => (some t369)) else (some false))) else (some false))) = some r := H
     have A42 := Aside0.mk A420
     clear A420
     replace H := Option.bind_eq_some_iff.mp H
     obtain ⟨t367, A430, H⟩ := H
     replace H : (if t367 = true then ((laws_llGrid.f kj4 t345 t346 t358 t359).bind fun t368 => (if t368 = true then ((impl_GridOk.f kj4 t325 t326).bind fun t369 => (some t369)) else (some false))) else (some false)) = some r := H
     have A43 := Aside0.mk A430
     clear A430
     by_cases c44 : t367 = true
     ·subst c44
      have H1 : ((laws_llGrid.f kj4 t345 t346 t358 t359).bind fun t368 => (if t368 = true then ((impl_GridOk.f kj4 t325 t326).bind fun t369 => (some t369)) else (some false))) = some r := by rw [if_pos rfl] at H; exact H
      clear H
      have H := H1
      clear H1
      replace H := Option.bind_eq_some_iff.mp H
      obtain ⟨t368, A450, H⟩ := H
      replace H : (if t368 = true then ((impl_GridOk.f kj4 t325 t326).bind fun t369 => (some t369)) else (some false)) = some r := H
      have A45 := Aside0.mk A450
      clear A450
      by_cases c46 : t368 = true
      ·subst c46
       have H1 : ((impl_GridOk.f kj4 t325 t326).bind fun t369 => (some t369)) = some r := by rw [if_pos rfl] at H; exact H
       clear H
       have H := H1
       clear H1
       replace H := Option.bind_eq_some_iff.mp H
       obtain ⟨t369, A470, H⟩ := H
       replace H : (some t369) = some r := H
       have A47 := Aside0.mk A470
       clear A470
       obtain rfl := Option.some.inj H
       have hnb48 := NB324_329.out
       have hnc48 := NB329_324.out
       have hcz49_0 : wc.cell? ⟨gb324, 0, none⟩ = some (.int .i64 t320) := (blk_cell BK324.out 0).trans rfl
       have hcz49_1 : wc.cell? ⟨gb324, 1, none⟩ = some (.slice Ao9 t321.length co9) := (blk_cell BK324.out 1).trans rfl
       have hfz49_0 := blk_frozen BK324.out 0
       have hfz49_1 := blk_frozen BK324.out 1
       try go_wp2_with (first | ((with_reducible refine gate_callee (f := 18) rfl ?_); refine goesL_ (some 29) rfl rfl Try.func18 (by kernel_rfl) rfl #[.agg #[.int .i64 t320, .slice Ao9 t321.length co9]] rfl (by (try simp only [List.map_toArray, List.map_cons, List.map_nil]); first | done | rfl | (simp only [List.length_drop, List.length_take]; rfl)) ?_; (with_reducible refine (impl_GridTurn.calls t320 _ _ t321 t341 t342 _ ?side1 ?side2 A37.out).mono ?_); (case side1 => repeat (first | exact (Kd.Q_reads' HO_325001.out).2.2 | (with_reducible refine Kd.C_alloc ?_ _) | (with_reducible refine Kd.C_drewN ?_ _) | (with_reducible refine Kd.C_drew ?_))); (case side2 => exact (Kd.Q_reads' HO_325001.out).2.1); rintro e w50 ⟨v343, rfl, ho0, hb⟩; refine ⟨_, rfl, ?_⟩; have n0_ := Aside0.mk (Kd.Q_elder' (by (with_reducible repeat (first | apply Kd.Q_alloc | apply Kd.Q_drewN | apply Kd.Q_drew)); exact HO_325001.out) (Kd.R_base ho0) hb); have n1_ := Aside0.mk (Kd.Q_elder' (by (with_reducible repeat (first | apply Kd.Q_alloc | apply Kd.Q_drewN | apply Kd.Q_drew)); exact HO_330001.out) (Kd.R_base ho0) hb); have n2_ := Aside0.mk (Kd.R_lower (Kd.R_new' (Kd.R_new' ho0 (Kd.Q_lt (by (with_reducible repeat (first | apply Kd.Q_alloc | apply Kd.Q_drewN | apply Kd.Q_drew)); exact HO_325001.out))) (Kd.Q_lt (by (with_reducible repeat (first | apply Kd.Q_alloc | apply Kd.Q_drewN | apply Kd.Q_drew)); exact HO_330001.out))) (below_size (by repeat (first | (with_reducible first | exact HB.out | apply below_alloc | apply pw_below_drewN | apply below_drew1 | refine below_set ?_ GE324.out | refine below_set ?_ GE329.out) | exact HB.out)))); have n3_ := Aside0.mk (blk_below (bK BK324.out) hb); have n4_ := Aside0.mk (blk_below (bK BK329.out) hb); have n5_ := Aside0.mk (below_step (by repeat (first | (with_reducible first | exact HB.out | apply below_alloc | apply pw_below_drewN | apply below_drew1 | refine below_set ?_ GE324.out | refine below_set ?_ GE329.out) | exact HB.out)) hb); clear HO_325001; clear HO_330001; clear BK324; clear BK329; clear HB; have HO_325001 := n0_; have HO_330001 := n1_; have HO344 := n2_; have BK324 := n3_; have BK329 := n4_; have HB := n5_; clear n0_ n1_ n2_ n3_ n4_ n5_; (try clear hb); (try clear hb2); (try clear hk); (try clear hi); (try clear ho0); obtain ⟨Ao51, co51, eo51⟩ := Kd.R_slice HO344.out; subst eo51) | ((with_reducible refine gate_callee (f := 26) rfl ?_); refine goesL_ (some 30) rfl rfl Try.func26 (by kernel_rfl) rfl #[.agg #[.int .i64 t341, .slice Ao51 t342.length co51]] rfl (by (try simp only [List.map_toArray, List.map_cons, List.map_nil]); first | done | rfl | (simp only [List.length_drop, List.length_take]; rfl)) ?_; (with_reducible refine (impl_GridFlip.calls t341 _ _ t342 t345 t346 _ ?side1 ?side2 A38.out).mono ?_); (case side1 => repeat (first | exact (Kd.R_reads' HO344.out).2.2 | (with_reducible refine Kd.C_alloc ?_ _) | (with_reducible refine Kd.C_drewN ?_ _) | (with_reducible refine Kd.C_drew ?_))); (case side2 => exact (Kd.R_reads' HO344.out).2.1); rintro e w52 ⟨v347, rfl, ho0, hb⟩; refine ⟨_, rfl, ?_⟩; have n0_ := Aside0.mk (Kd.Q_elder' (by (with_reducible repeat (first | apply Kd.Q_alloc | apply Kd.Q_drewN | apply Kd.Q_drew)); exact HO_325001.out) (Kd.R_base ho0) hb); have n1_ := Aside0.mk (Kd.Q_elder' (by (with_reducible repeat (first | apply Kd.Q_alloc | apply Kd.Q_drewN | apply Kd.Q_drew)); exact HO_330001.out) (Kd.R_base ho0) hb); have n2_ := Aside0.mk (Kd.R_elder' (kR HO344.out) (Kd.R_base ho0) hb); have n3_ := Aside0.mk (Kd.R_lower (Kd.R_new' (Kd.R_new' (Kd.R_new' ho0 (Kd.Q_lt (by (with_reducible repeat (first | apply Kd.Q_alloc | apply Kd.Q_drewN | apply Kd.Q_drew)); exact HO_325001.out))) (Kd.Q_lt (by (with_reducible repeat (first | apply Kd.Q_alloc | apply Kd.Q_drewN | apply Kd.Q_drew)); exact HO_330001.out))) (Kd.R_lt (kR HO344.out))) (below_size (by repeat (first | (with_reducible first | exact HB.out | apply below_alloc | apply pw_below_drewN | apply below_drew1 | refine below_set ?_ GE324.out | refine below_set ?_ GE329.out) | exact HB.out)))); have n4_ := Aside0.mk (blk_below (bK BK324.out) hb); have n5_ := Aside0.mk (blk_below (bK BK329.out) hb); have n6_ := Aside0.mk (below_step (by repeat (first | (with_reducible first | exact HB.out | apply below_alloc | apply pw_below_drewN | apply below_drew1 | refine below_set ?_ GE324.out | refine below_set ?_ GE329.out) | exact HB.out)) hb); clear HO_325001; clear HO_330001; clear HO344; clear BK324; clear BK329; clear HB; have HO_325001 := n0_; have HO_330001 := n1_; have HO344 := n2_; have HO348 := n3_; have BK324 := n4_; have BK329 := n5_; have HB := n6_; clear n0_ n1_ n2_ n3_ n4_ n5_ n6_; (try clear hb); (try clear hb2); (try clear hk); (try clear hi); (try clear ho0)) | ((with_reducible refine gate_dst (N := 5) rfl ?_); refine box_event ?hg (N := 5) ?hd (cs := #[.int .i64 0, .slice none 0 0]) (t := 30) ?hr ?_; (case hd => rfl); (case hg => rfl); (case hr => first | (go_simp; done) | (go_simp; rfl)); intro gb349 hg w53 hbox hb; have n0_ := Aside0.mk (Kd.Q_below (by (with_reducible repeat (first | apply Kd.Q_alloc | apply Kd.Q_drewN | apply Kd.Q_drew)); exact HO_325001.out) hb); have n1_ := Aside0.mk (Kd.Q_below (by (with_reducible repeat (first | apply Kd.Q_alloc | apply Kd.Q_drewN | apply Kd.Q_drew)); exact HO_330001.out) hb); have n2_ := Aside0.mk (Kd.R_below (kR HO344.out) hb); have n3_ := Aside0.mk (Kd.R_below (kR HO348.out) hb); have n4_ := Aside0.mk (blk_below (bK BK324.out) hb); have n5_ := Aside0.mk (blk_below (bK BK329.out) hb); have n6_ := Aside0.mk (below_step (by repeat (first | (with_reducible first | exact HB.out | apply below_alloc | apply pw_below_drewN | apply below_drew1 | refine below_set ?_ GE324.out | refine below_set ?_ GE329.out) | exact HB.out)) hb); have n7_ := Aside0.mk (hbox); have n8_ := Aside0.mk ((by rw [hg]; exact (below_size (by repeat (first | (with_reducible first | exact HB.out | apply below_alloc | apply pw_below_drewN | apply below_drew1 | refine below_set ?_ GE324.out | refine below_set ?_ GE329.out) | exact HB.out))) : w.heap.size ≤ gb349)); have n9_ := Aside0.mk ((by rw [hg]; exact (below_size (by repeat (first | (with_reducible first | exact HB.out | apply below_alloc | apply pw_below_drewN | apply below_drew1 | refine below_set ?_ GE324.out | refine below_set ?_ GE329.out) | exact HB.out))) : w.heap.size ≤ gb349)); have n10_ := Aside0.mk ((by rw [hg]; exact Nat.ne_of_lt (blk_lt (bK BK324.out)) : gb324 ≠ gb349)); have n11_ := Aside0.mk ((by rw [hg]; exact Nat.ne_of_gt (blk_lt (bK BK324.out)) : gb349 ≠ gb324)); have n12_ := Aside0.mk ((by rw [hg]; exact Nat.ne_of_lt (blk_lt (bK BK329.out)) : gb329 ≠ gb349)); have n13_ := Aside0.mk ((by rw [hg]; exact Nat.ne_of_gt (blk_lt (bK BK329.out)) : gb349 ≠ gb329)); clear HO_325001; clear HO_330001; clear HO344; clear HO348; clear BK324; clear BK329; clear HB; have HO_325001 := n0_; have HO_330001 := n1_; have HO344 := n2_; have HO348 := n3_; have BK324 := n4_; have BK329 := n5_; have HB := n6_; have BK349 := n7_; have GW349 := n8_; have GE349 := n9_; have NB324_349 := n10_; have NB349_324 := n11_; have NB329_349 := n12_; have NB349_329 := n13_; clear n0_ n1_ n2_ n3_ n4_ n5_ n6_ n7_ n8_ n9_ n10_ n11_ n12_ n13_; clear hb hbox hg; have hnb54 := NB349_324.out; have hnc54 := NB324_349.out; have hnb55 := NB349_329.out; have hnc55 := NB329_349.out; have hcz56_0 : w53.cell? ⟨gb349, 0, none⟩ = some (.int .i64 0) := (blk_cell BK349.out 0).trans rfl; have hcz56_1 : w53.cell? ⟨gb349, 1, none⟩ = some (.slice none 0 0) := (blk_cell BK349.out 1).trans rfl; have hfz56_0 := blk_frozen BK349.out 0; have hfz56_1 := blk_frozen BK349.out 1; obtain ⟨Ao57, co57, eo57⟩ := Kd.R_slice HO348.out; subst eo57; have hcz58_0 : w53.cell? ⟨gb329, 0, none⟩ = some (.int .i64 t325) := (blk_cell BK329.out 0).trans rfl; have hcz58_1 : w53.cell? ⟨gb329, 1, none⟩ = some (.slice Ao14 t326.length co14) := (blk_cell BK329.out 1).trans rfl; have hfz58_0 := blk_frozen BK329.out 0; have hfz58_1 := blk_frozen BK329.out 1) | ((with_reducible refine gate_callee (f := 18) rfl ?_); refine goesL_ (some 32) rfl rfl Try.func18 (by kernel_rfl) rfl #[.agg #[.int .i64 t325, .slice Ao14 t326.length co14]] rfl (by (try simp only [List.map_toArray, List.map_cons, List.map_nil]); first | done | rfl | (simp only [List.length_drop, List.length_take]; rfl)) ?_; (with_reducible refine (impl_GridTurn.calls t325 _ _ t326 t350 t351 _ ?side1 ?side2 A39.out).mono ?_); (case side1 => refine (Kd.Q_reads' (e := 24) (base := w.heap.size) (ok := fun k_ => ((some k_ ≠ (.slice Ao9 t321.length co9 : Value).ownBlock ∧ some k_ ≠ (.slice Ao51 t342.length co51 : Value).ownBlock) ∧ some k_ ≠ (.slice Ao57 t346.length co57 : Value).ownBlock)) (n := t326.length) (c := co14) ?_).2.2; exact (by (with_reducible repeat (first | apply Kd.Q_alloc | apply Kd.Q_drewN | apply Kd.Q_drew)); exact (Kd.Q_mono (Kd.Q_far (p := ⟨gb349, 1, none⟩) (Kd.Q_far (p := ⟨gb349, 0, none⟩) (Kd.Q_types HO_330001.out BK349.out (by decide)) (fun _ hk => hk.2) (.int .i64 t345)) (fun _ hk => hk.2) (.slice Ao57 t346.length co57)) (fun _ h_ => h_.1)))); (case side2 => exact (Kd.Q_reads' HO_330001.out).2.1); rintro e w59 ⟨v352, rfl, ho0, hb⟩; refine ⟨_, rfl, ?_⟩; have n0_ := Aside0.mk (Kd.Q_elder' (by (with_reducible repeat (first | apply Kd.Q_alloc | apply Kd.Q_drewN | apply Kd.Q_drew)); exact (Kd.Q_mono (Kd.Q_far (p := ⟨gb349, 1, none⟩) (Kd.Q_far (p := ⟨gb349, 0, none⟩) (Kd.Q_types HO_325001.out BK349.out (by decide)) (fun _ hk => hk.2) (.int .i64 t345)) (fun _ hk => hk.2) (.slice Ao57 t346.length co57)) (fun _ h_ => h_.1))) (Kd.R_base ho0) hb); have n1_ := Aside0.mk (Kd.Q_elder' (by (with_reducible repeat (first | apply Kd.Q_alloc | apply Kd.Q_drewN | apply Kd.Q_drew)); exact (Kd.Q_mono (Kd.Q_far (p := ⟨gb349, 1, none⟩) (Kd.Q_far (p := ⟨gb349, 0, none⟩) (Kd.Q_types HO_330001.out BK349.out (by decide)) (fun _ hk => hk.2) (.int .i64 t345)) (fun _ hk => hk.2) (.slice Ao57 t346.length co57)) (fun _ h_ => h_.1))) (Kd.R_base ho0) hb); have n2_ := Aside0.mk (Kd.R_elder' (by (with_reducible repeat (first | apply Kd.R_alloc | apply Kd.R_drewN | apply Kd.R_drew)); exact (Kd.R_mono (Kd.R_far (p := ⟨gb349, 1, none⟩) (Kd.R_far (p := ⟨gb349, 0, none⟩) (Kd.R_types HO344.out BK349.out (by decide)) (fun _ hk => hk.2) (.int .i64 t345)) (fun _ hk => hk.2) (.slice Ao57 t346.length co57)) (fun _ h_ => h_.1))) (Kd.R_base ho0) hb); have n3_ := Aside0.mk (Kd.R_elder' (by (with_reducible repeat (first | apply Kd.R_alloc | apply Kd.R_drewN | apply Kd.R_drew)); exact (Kd.R_mono (Kd.R_far (p := ⟨gb349, 1, none⟩) (Kd.R_far (p := ⟨gb349, 0, none⟩) (Kd.R_types HO348.out BK349.out (by decide)) (fun _ hk => hk.2) (.int .i64 t345)) (fun _ hk => hk.2) (.slice Ao57 t346.length co57)) (fun _ h_ => h_.1))) (Kd.R_base ho0) hb); have n4_ := Aside0.mk (Kd.R_lower (Kd.R_new' (Kd.R_new' (Kd.R_new' (Kd.R_new' ho0 (Kd.Q_lt (by (with_reducible repeat (first | apply Kd.Q_alloc | apply Kd.Q_drewN | apply Kd.Q_drew)); exact (Kd.Q_mono (Kd.Q_far (p := ⟨gb349, 1, none⟩) (Kd.Q_far (p := ⟨gb349, 0, none⟩) (Kd.Q_types HO_325001.out BK349.out (by decide)) (fun _ hk => hk.2) (.int .i64 t345)) (fun _ hk => hk.2) (.slice Ao57 t346.length co57)) (fun _ h_ => h_.1))))) (Kd.Q_lt (by (with_reducible repeat (first | apply Kd.Q_alloc | apply Kd.Q_drewN | apply Kd.Q_drew)); exact (Kd.Q_mono (Kd.Q_far (p := ⟨gb349, 1, none⟩) (Kd.Q_far (p := ⟨gb349, 0, none⟩) (Kd.Q_types HO_330001.out BK349.out (by decide)) (fun _ hk => hk.2) (.int .i64 t345)) (fun _ hk => hk.2) (.slice Ao57 t346.length co57)) (fun _ h_ => h_.1))))) (Kd.R_lt (by (with_reducible repeat (first | apply Kd.R_alloc | apply Kd.R_drewN | apply Kd.R_drew)); exact (Kd.R_mono (Kd.R_far (p := ⟨gb349, 1, none⟩) (Kd.R_far (p := ⟨gb349, 0, none⟩) (Kd.R_types HO344.out BK349.out (by decide)) (fun _ hk => hk.2) (.int .i64 t345)) (fun _ hk => hk.2) (.slice Ao57 t346.length co57)) (fun _ h_ => h_.1))))) (Kd.R_lt (by (with_reducible repeat (first | apply Kd.R_alloc | apply Kd.R_drewN | apply Kd.R_drew)); exact (Kd.R_mono (Kd.R_far (p := ⟨gb349, 1, none⟩) (Kd.R_far (p := ⟨gb349, 0, none⟩) (Kd.R_types HO348.out BK349.out (by decide)) (fun _ hk => hk.2) (.int .i64 t345)) (fun _ hk => hk.2) (.slice Ao57 t346.length co57)) (fun _ h_ => h_.1))))) (below_size (by repeat (first | (with_reducible first | exact HB.out | apply below_alloc | apply pw_below_drewN | apply below_drew1 | refine below_set ?_ GE324.out | refine below_set ?_ GE329.out | refine below_set ?_ GE349.out) | exact HB.out)))); have n5_ := Aside0.mk (blk_below (g := gb324) (o := .cells #[.int .i64 t320, .slice Ao9 t321.length co9] 30 (0, 0)) (by (with_reducible repeat (first | refine blk_drewN ?_ _ | refine blk_drew ?_ | refine blk_alloc ?_ _)); refine blk_far ?_ NB324_349.out _; (with_reducible repeat (first | refine blk_drewN ?_ _ | refine blk_drew ?_ | refine blk_alloc ?_ _)); refine blk_far ?_ NB324_349.out _; (with_reducible repeat (first | refine blk_drewN ?_ _ | refine blk_drew ?_ | refine blk_alloc ?_ _)); exact BK324.out) hb); have n6_ := Aside0.mk (blk_below (g := gb329) (o := .cells #[.int .i64 t325, .slice Ao14 t326.length co14] 30 (0, 0)) (by (with_reducible repeat (first | refine blk_drewN ?_ _ | refine blk_drew ?_ | refine blk_alloc ?_ _)); refine blk_far ?_ NB329_349.out _; (with_reducible repeat (first | refine blk_drewN ?_ _ | refine blk_drew ?_ | refine blk_alloc ?_ _)); refine blk_far ?_ NB329_349.out _; (with_reducible repeat (first | refine blk_drewN ?_ _ | refine blk_drew ?_ | refine blk_alloc ?_ _)); exact BK329.out) hb); have n7_ := Aside0.mk (blk_below (g := gb349) (o := .cells #[.int .i64 t345, .slice Ao57 t346.length co57] 30 (0, 0)) (by (with_reducible repeat (first | refine blk_drewN ?_ _ | refine blk_drew ?_ | refine blk_alloc ?_ _)); refine blk_put (cs := #[.int .i64 t345, .slice none 0 0]) ?_ 1 _ rfl; (with_reducible repeat (first | refine blk_drewN ?_ _ | refine blk_drew ?_ | refine blk_alloc ?_ _)); refine blk_put (cs := #[.int .i64 0, .slice none 0 0]) ?_ 0 _ rfl; (with_reducible repeat (first | refine blk_drewN ?_ _ | refine blk_drew ?_ | refine blk_alloc ?_ _)); exact BK349.out) hb); have n8_ := Aside0.mk (below_step (by repeat (first | (with_reducible first | exact HB.out | apply below_alloc | apply pw_below_drewN | apply below_drew1 | refine below_set ?_ GE324.out | refine below_set ?_ GE329.out | refine below_set ?_ GE349.out) | exact HB.out)) hb); clear HO_325001; clear HO_330001; clear HO344; clear HO348; clear BK324; clear BK329; clear BK349; clear HB; have HO_325001 := n0_; have HO_330001 := n1_; have HO344 := n2_; have HO348 := n3_; have HO353 := n4_; have BK324 := n5_; have BK329 := n6_; have BK349 := n7_; have HB := n8_; clear n0_ n1_ n2_ n3_ n4_ n5_ n6_ n7_ n8_; (try clear hb); (try clear hb2); (try clear hk); (try clear hi); (try clear ho0); obtain ⟨Ao60, co60, eo60⟩ := Kd.R_slice HO353.out; subst eo60) | ((with_reducible refine gate_callee (f := 18) rfl ?_); refine goesL_ (some 33) rfl rfl Try.func18 (by kernel_rfl) rfl #[.agg #[.int .i64 t350, .slice Ao60 t351.length co60]] rfl (by (try simp only [List.map_toArray, List.map_cons, List.map_nil]); first | done | rfl | (simp only [List.length_drop, List.length_take]; rfl)) ?_; (with_reducible refine (impl_GridTurn.calls t350 _ _ t351 t354 t355 _ ?side1 ?side2 A40.out).mono ?_); (case side1 => repeat (first | exact (Kd.R_reads' HO353.out).2.2 | (with_reducible refine Kd.C_alloc ?_ _) | (with_reducible refine Kd.C_drewN ?_ _) | (with_reducible refine Kd.C_drew ?_))); (case side2 => exact (Kd.R_reads' HO353.out).2.1); rintro e w61 ⟨v356, rfl, ho0, hb⟩; refine ⟨_, rfl, ?_⟩; have n0_ := Aside0.mk (Kd.Q_elder' (by (with_reducible repeat (first | apply Kd.Q_alloc | apply Kd.Q_drewN | apply Kd.Q_drew)); exact HO_325001.out) (Kd.R_base ho0) hb); have n1_ := Aside0.mk (Kd.Q_elder' (by (with_reducible repeat (first | apply Kd.Q_alloc | apply Kd.Q_drewN | apply Kd.Q_drew)); exact HO_330001.out) (Kd.R_base ho0) hb); have n2_ := Aside0.mk (Kd.R_elder' (kR HO344.out) (Kd.R_base ho0) hb); have n3_ := Aside0.mk (Kd.R_elder' (kR HO348.out) (Kd.R_base ho0) hb); have n4_ := Aside0.mk (Kd.R_elder' (kR HO353.out) (Kd.R_base ho0) hb); have n5_ := Aside0.mk (Kd.R_lower (Kd.R_new' (Kd.R_new' (Kd.R_new' (Kd.R_new' (Kd.R_new' ho0 (Kd.Q_lt (by (with_reducible repeat (first | apply Kd.Q_alloc | apply Kd.Q_drewN | apply Kd.Q_drew)); exact HO_325001.out))) (Kd.Q_lt (by (with_reducible repeat (first | apply Kd.Q_alloc | apply Kd.Q_drewN | apply Kd.Q_drew)); exact HO_330001.out))) (Kd.R_lt (kR HO344.out))) (Kd.R_lt (kR HO348.out))) (Kd.R_lt (kR HO353.out))) (below_size (by repeat (first | (with_reducible first | exact HB.out | apply below_alloc | apply pw_below_drewN | apply below_drew1 | refine below_set ?_ GE324.out | refine below_set ?_ GE329.out | refine below_set ?_ GE349.out) | exact HB.out)))); have n6_ := Aside0.mk (blk_below (bK BK324.out) hb); have n7_ := Aside0.mk (blk_below (bK BK329.out) hb); have n8_ := Aside0.mk (blk_below (bK BK349.out) hb); have n9_ := Aside0.mk (below_step (by repeat (first | (with_reducible first | exact HB.out | apply below_alloc | apply pw_below_drewN | apply below_drew1 | refine below_set ?_ GE324.out | refine below_set ?_ GE329.out | refine below_set ?_ GE349.out) | exact HB.out)) hb); clear HO_325001; clear HO_330001; clear HO344; clear HO348; clear HO353; clear BK324; clear BK329; clear BK349; clear HB; have HO_325001 := n0_; have HO_330001 := n1_; have HO344 := n2_; have HO348 := n3_; have HO353 := n4_; have HO357 := n5_; have BK324 := n6_; have BK329 := n7_; have BK349 := n8_; have HB := n9_; clear n0_ n1_ n2_ n3_ n4_ n5_ n6_ n7_ n8_ n9_; (try clear hb); (try clear hb2); (try clear hk); (try clear hi); (try clear ho0); obtain ⟨Ao62, co62, eo62⟩ := Kd.R_slice HO357.out; subst eo62) | ((with_reducible refine gate_callee (f := 18) rfl ?_); refine goesL_ (some 34) rfl rfl Try.func18 (by kernel_rfl) rfl #[.agg #[.int .i64 t354, .slice Ao62 t355.length co62]] rfl (by (try simp only [List.map_toArray, List.map_cons, List.map_nil]); first | done | rfl | (simp only [List.length_drop, List.length_take]; rfl)) ?_; (with_reducible refine (impl_GridTurn.calls t354 _ _ t355 t358 t359 _ ?side1 ?side2 A41.out).mono ?_); (case side1 => repeat (first | exact (Kd.R_reads' HO357.out).2.2 | (with_reducible refine Kd.C_alloc ?_ _) | (with_reducible refine Kd.C_drewN ?_ _) | (with_reducible refine Kd.C_drew ?_))); (case side2 => exact (Kd.R_reads' HO357.out).2.1); rintro e w63 ⟨v360, rfl, ho0, hb⟩; refine ⟨_, rfl, ?_⟩; have n0_ := Aside0.mk (Kd.Q_elder' (by (with_reducible repeat (first | apply Kd.Q_alloc | apply Kd.Q_drewN | apply Kd.Q_drew)); exact HO_325001.out) (Kd.R_base ho0) hb); have n1_ := Aside0.mk (Kd.Q_elder' (by (with_reducible repeat (first | apply Kd.Q_alloc | apply Kd.Q_drewN | apply Kd.Q_drew)); exact HO_330001.out) (Kd.R_base ho0) hb); have n2_ := Aside0.mk (Kd.R_elder' (kR HO344.out) (Kd.R_base ho0) hb); have n3_ := Aside0.mk (Kd.R_elder' (kR HO348.out) (Kd.R_base ho0) hb); have n4_ := Aside0.mk (Kd.R_elder' (kR HO353.out) (Kd.R_base ho0) hb); have n5_ := Aside0.mk (Kd.R_elder' (kR HO357.out) (Kd.R_base ho0) hb); have n6_ := Aside0.mk (Kd.R_lower (Kd.R_new' (Kd.R_new' (Kd.R_new' (Kd.R_new' (Kd.R_new' (Kd.R_new' ho0 (Kd.Q_lt (by (with_reducible repeat (first | apply Kd.Q_alloc | apply Kd.Q_drewN | apply Kd.Q_drew)); exact HO_325001.out))) (Kd.Q_lt (by (with_reducible repeat (first | apply Kd.Q_alloc | apply Kd.Q_drewN | apply Kd.Q_drew)); exact HO_330001.out))) (Kd.R_lt (kR HO344.out))) (Kd.R_lt (kR HO348.out))) (Kd.R_lt (kR HO353.out))) (Kd.R_lt (kR HO357.out))) (below_size (by repeat (first | (with_reducible first | exact HB.out | apply below_alloc | apply pw_below_drewN | apply below_drew1 | refine below_set ?_ GE324.out | refine below_set ?_ GE329.out | refine below_set ?_ GE349.out) | exact HB.out)))); have n7_ := Aside0.mk (blk_below (bK BK324.out) hb); have n8_ := Aside0.mk (blk_below (bK BK329.out) hb); have n9_ := Aside0.mk (blk_below (bK BK349.out) hb); have n10_ := Aside0.mk (below_step (by repeat (first | (with_reducible first | exact HB.out | apply below_alloc | apply pw_below_drewN | apply below_drew1 | refine below_set ?_ GE324.out | refine below_set ?_ GE329.out | refine below_set ?_ GE349.out) | exact HB.out)) hb); clear HO_325001; clear HO_330001; clear HO344; clear HO348; clear HO353; clear HO357; clear BK324; clear BK329; clear BK349; clear HB; have HO_325001 := n0_; have HO_330001 := n1_; have HO344 := n2_; have HO348 := n3_; have HO353 := n4_; have HO357 := n5_; have HO361 := n6_; have BK324 := n7_; have BK329 := n8_; have BK349 := n9_; have HB := n10_; clear n0_ n1_ n2_ n3_ n4_ n5_ n6_ n7_ n8_ n9_ n10_; (try clear hb); (try clear hb2); (try clear hk); (try clear hi); (try clear ho0)) | ((with_reducible refine gate_dst (N := 6) rfl ?_); refine box_event ?hg (N := 6) ?hd (cs := #[.int .i64 0, .slice none 0 0]) (t := 30) ?hr ?_; (case hd => rfl); (case hg => rfl); (case hr => first | (go_simp; done) | (go_simp; rfl)); intro gb362 hg w64 hbox hb; have n0_ := Aside0.mk (Kd.Q_below (by (with_reducible repeat (first | apply Kd.Q_alloc | apply Kd.Q_drewN | apply Kd.Q_drew)); exact HO_325001.out) hb); have n1_ := Aside0.mk (Kd.Q_below (by (with_reducible repeat (first | apply Kd.Q_alloc | apply Kd.Q_drewN | apply Kd.Q_drew)); exact HO_330001.out) hb); have n2_ := Aside0.mk (Kd.R_below (kR HO344.out) hb); have n3_ := Aside0.mk (Kd.R_below (kR HO348.out) hb); have n4_ := Aside0.mk (Kd.R_below (kR HO353.out) hb); have n5_ := Aside0.mk (Kd.R_below (kR HO357.out) hb); have n6_ := Aside0.mk (Kd.R_below (kR HO361.out) hb); have n7_ := Aside0.mk (blk_below (bK BK324.out) hb); have n8_ := Aside0.mk (blk_below (bK BK329.out) hb); have n9_ := Aside0.mk (blk_below (bK BK349.out) hb); have n10_ := Aside0.mk (below_step (by repeat (first | (with_reducible first | exact HB.out | apply below_alloc | apply pw_below_drewN | apply below_drew1 | refine below_set ?_ GE324.out | refine below_set ?_ GE329.out | refine below_set ?_ GE349.out) | exact HB.out)) hb); have n11_ := Aside0.mk (hbox); have n12_ := Aside0.mk ((by rw [hg]; exact (below_size (by repeat (first | (with_reducible first | exact HB.out | apply below_alloc | apply pw_below_drewN | apply below_drew1 | refine below_set ?_ GE324.out | refine below_set ?_ GE329.out | refine below_set ?_ GE349.out) | exact HB.out))) : w.heap.size ≤ gb362)); have n13_ := Aside0.mk ((by rw [hg]; exact (below_size (by repeat (first | (with_reducible first | exact HB.out | apply below_alloc | apply pw_below_drewN | apply below_drew1 | refine below_set ?_ GE324.out | refine below_set ?_ GE329.out | refine below_set ?_ GE349.out) | exact HB.out))) : w.heap.size ≤ gb362)); have n14_ := Aside0.mk ((by rw [hg]; exact Nat.ne_of_lt (blk_lt (bK BK324.out)) : gb324 ≠ gb362)); have n15_ := Aside0.mk ((by rw [hg]; exact Nat.ne_of_gt (blk_lt (bK BK324.out)) : gb362 ≠ gb324)); have n16_ := Aside0.mk ((by rw [hg]; exact Nat.ne_of_lt (blk_lt (bK BK329.out)) : gb329 ≠ gb362)); have n17_ := Aside0.mk ((by rw [hg]; exact Nat.ne_of_gt (blk_lt (bK BK329.out)) : gb362 ≠ gb329)); have n18_ := Aside0.mk ((by rw [hg]; exact Nat.ne_of_lt (blk_lt (bK BK349.out)) : gb349 ≠ gb362)); have n19_ := Aside0.mk ((by rw [hg]; exact Nat.ne_of_gt (blk_lt (bK BK349.out)) : gb362 ≠ gb349)); clear HO_325001; clear HO_330001; clear HO344; clear HO348; clear HO353; clear HO357; clear HO361; clear BK324; clear BK329; clear BK349; clear HB; have HO_325001 := n0_; have HO_330001 := n1_; have HO344 := n2_; have HO348 := n3_; have HO353 := n4_; have HO357 := n5_; have HO361 := n6_; have BK324 := n7_; have BK329 := n8_; have BK349 := n9_; have HB := n10_; have BK362 := n11_; have GW362 := n12_; have GE362 := n13_; have NB324_362 := n14_; have NB362_324 := n15_; have NB329_362 := n16_; have NB362_329 := n17_; have NB349_362 := n18_; have NB362_349 := n19_; clear n0_ n1_ n2_ n3_ n4_ n5_ n6_ n7_ n8_ n9_ n10_ n11_ n12_ n13_ n14_ n15_ n16_ n17_ n18_ n19_; clear hb hbox hg; have hnb65 := NB362_324.out; have hnc65 := NB324_362.out; have hnb66 := NB362_329.out; have hnc66 := NB329_362.out; have hnb67 := NB362_349.out; have hnc67 := NB349_362.out; have hcz68_0 : w64.cell? ⟨gb362, 0, none⟩ = some (.int .i64 0) := (blk_cell BK362.out 0).trans rfl; have hcz68_1 : w64.cell? ⟨gb362, 1, none⟩ = some (.slice none 0 0) := (blk_cell BK362.out 1).trans rfl; have hfz68_0 := blk_frozen BK362.out 0; have hfz68_1 := blk_frozen BK362.out 1; obtain ⟨Ao69, co69, eo69⟩ := Kd.R_slice HO361.out; subst eo69))
       have n0_ : Aside0 (Kd.Q k24 24 ((w64.setCell ⟨gb362, 0, none⟩ (.int .i64 t358)).setCell ⟨gb362, 1, none⟩ (.slice Ao69 t359.length co69)) w.heap.size (fun k_ => some k_ ≠ (.slice Ao14 t326.length co14 : Value).ownBlock ∧ some k_ ≠ (.slice Ao51 t342.length co51 : Value).ownBlock ∧ some k_ ≠ (.slice Ao57 t346.length co57 : Value).ownBlock ∧ some k_ ≠ (.slice Ao60 t351.length co60 : Value).ownBlock ∧ some k_ ≠ (.slice Ao62 t355.length co62 : Value).ownBlock ∧ some k_ ≠ (.slice Ao69 t359.length co69 : Value).ownBlock) (.slice Ao9 t321.length co9) t321) := ⟨by (with_reducible repeat (first | apply Kd.Q_alloc | apply Kd.Q_drewN | apply Kd.Q_drew)); exact Kd.Q_mono (Kd.Q_far (p := ⟨gb362, 1, none⟩) (Kd.Q_far (p := ⟨gb362, 0, none⟩) (Kd.Q_types HO_325001.out BK362.out (by decide)) (fun _ hk => hk.2) (.int .i64 t358)) (fun _ hk => hk.2) (.slice Ao69 t359.length co69)) (fun _ hk => ⟨hk.1.1.1.1.1.1, ⟨hk.1.1.1.1.1.2, ⟨hk.1.1.1.1.2, ⟨hk.1.1.1.2, ⟨hk.1.1.2, hk.1.2⟩⟩⟩⟩⟩)⟩
       have n1_ : Aside0 (Kd.Q k24 24 ((w64.setCell ⟨gb362, 0, none⟩ (.int .i64 t358)).setCell ⟨gb362, 1, none⟩ (.slice Ao69 t359.length co69)) w.heap.size (fun k_ => some k_ ≠ (.slice Ao9 t321.length co9 : Value).ownBlock ∧ some k_ ≠ (.slice Ao51 t342.length co51 : Value).ownBlock ∧ some k_ ≠ (.slice Ao57 t346.length co57 : Value).ownBlock ∧ some k_ ≠ (.slice Ao60 t351.length co60 : Value).ownBlock ∧ some k_ ≠ (.slice Ao62 t355.length co62 : Value).ownBlock ∧ some k_ ≠ (.slice Ao69 t359.length co69 : Value).ownBlock) (.slice Ao14 t326.length co14) t326) := ⟨by (with_reducible repeat (first | apply Kd.Q_alloc | apply Kd.Q_drewN | apply Kd.Q_drew)); exact Kd.Q_mono (Kd.Q_far (p := ⟨gb362, 1, none⟩) (Kd.Q_far (p := ⟨gb362, 0, none⟩) (Kd.Q_types HO_330001.out BK362.out (by decide)) (fun _ hk => hk.2) (.int .i64 t358)) (fun _ hk => hk.2) (.slice Ao69 t359.length co69)) (fun _ hk => ⟨hk.1.1.1.1.1.1, ⟨hk.1.1.1.1.1.2, ⟨hk.1.1.1.1.2, ⟨hk.1.1.1.2, ⟨hk.1.1.2, hk.1.2⟩⟩⟩⟩⟩)⟩
       have n2_ : Aside0 (Kd.R k24 24 ((w64.setCell ⟨gb362, 0, none⟩ (.int .i64 t358)).setCell ⟨gb362, 1, none⟩ (.slice Ao69 t359.length co69)) w.heap.size (fun k_ => some k_ ≠ (.slice Ao9 t321.length co9 : Value).ownBlock ∧ some k_ ≠ (.slice Ao14 t326.length co14 : Value).ownBlock ∧ some k_ ≠ (.slice Ao57 t346.length co57 : Value).ownBlock ∧ some k_ ≠ (.slice Ao60 t351.length co60 : Value).ownBlock ∧ some k_ ≠ (.slice Ao62 t355.length co62 : Value).ownBlock ∧ some k_ ≠ (.slice Ao69 t359.length co69 : Value).ownBlock) (.slice Ao51 t342.length co51) t342) := ⟨by (with_reducible repeat (first | apply Kd.R_alloc | apply Kd.R_drewN | apply Kd.R_drew)); exact Kd.R_mono (Kd.R_far (p := ⟨gb362, 1, none⟩) (Kd.R_far (p := ⟨gb362, 0, none⟩) (Kd.R_types HO344.out BK362.out (by decide)) (fun _ hk => hk.2) (.int .i64 t358)) (fun _ hk => hk.2) (.slice Ao69 t359.length co69)) (fun _ hk => ⟨hk.1.1.1.1.1.1.2, ⟨hk.1.1.1.1.1.2, ⟨hk.1.1.1.1.2, ⟨hk.1.1.1.2, ⟨hk.1.1.2, hk.1.2⟩⟩⟩⟩⟩)⟩
       have n3_ : Aside0 (Kd.R k24 24 ((w64.setCell ⟨gb362, 0, none⟩ (.int .i64 t358)).setCell ⟨gb362, 1, none⟩ (.slice Ao69 t359.length co69)) w.heap.size (fun k_ => some k_ ≠ (.slice Ao9 t321.length co9 : Value).ownBlock ∧ some k_ ≠ (.slice Ao14 t326.length co14 : Value).ownBlock ∧ some k_ ≠ (.slice Ao51 t342.length co51 : Value).ownBlock ∧ some k_ ≠ (.slice Ao60 t351.length co60 : Value).ownBlock ∧ some k_ ≠ (.slice Ao62 t355.length co62 : Value).ownBlock ∧ some k_ ≠ (.slice Ao69 t359.length co69 : Value).ownBlock) (.slice Ao57 t346.length co57) t346) := ⟨by (with_reducible repeat (first | apply Kd.R_alloc | apply Kd.R_drewN | apply Kd.R_drew)); exact Kd.R_mono (Kd.R_far (p := ⟨gb362, 1, none⟩) (Kd.R_far (p := ⟨gb362, 0, none⟩) (Kd.R_types HO348.out BK362.out (by decide)) (fun _ hk => hk.2) (.int .i64 t358)) (fun _ hk => hk.2) (.slice Ao69 t359.length co69)) (fun _ hk => ⟨hk.1.1.1.1.1.1.2, ⟨hk.1.1.1.1.1.2, ⟨hk.1.1.1.1.2, ⟨hk.1.1.1.2, ⟨hk.1.1.2, hk.1.2⟩⟩⟩⟩⟩)⟩
       have n4_ : Aside0 (Kd.R k24 24 ((w64.setCell ⟨gb362, 0, none⟩ (.int .i64 t358)).setCell ⟨gb362, 1, none⟩ (.slice Ao69 t359.length co69)) w.heap.size (fun k_ => some k_ ≠ (.slice Ao9 t321.length co9 : Value).ownBlock ∧ some k_ ≠ (.slice Ao14 t326.length co14 : Value).ownBlock ∧ some k_ ≠ (.slice Ao51 t342.length co51 : Value).ownBlock ∧ some k_ ≠ (.slice Ao57 t346.length co57 : Value).ownBlock ∧ some k_ ≠ (.slice Ao62 t355.length co62 : Value).ownBlock ∧ some k_ ≠ (.slice Ao69 t359.length co69 : Value).ownBlock) (.slice Ao60 t351.length co60) t351) := ⟨by (with_reducible repeat (first | apply Kd.R_alloc | apply Kd.R_drewN | apply Kd.R_drew)); exact Kd.R_mono (Kd.R_far (p := ⟨gb362, 1, none⟩) (Kd.R_far (p := ⟨gb362, 0, none⟩) (Kd.R_types HO353.out BK362.out (by decide)) (fun _ hk => hk.2) (.int .i64 t358)) (fun _ hk => hk.2) (.slice Ao69 t359.length co69)) (fun _ hk => ⟨hk.1.1.1.1.1.1.2, ⟨hk.1.1.1.1.1.2, ⟨hk.1.1.1.1.2, ⟨hk.1.1.1.2, ⟨hk.1.1.2, hk.1.2⟩⟩⟩⟩⟩)⟩
       have n5_ : Aside0 (Kd.R k24 24 ((w64.setCell ⟨gb362, 0, none⟩ (.int .i64 t358)).setCell ⟨gb362, 1, none⟩ (.slice Ao69 t359.length co69)) w.heap.size (fun k_ => some k_ ≠ (.slice Ao9 t321.length co9 : Value).ownBlock ∧ some k_ ≠ (.slice Ao14 t326.length co14 : Value).ownBlock ∧ some k_ ≠ (.slice Ao51 t342.length co51 : Value).ownBlock ∧ some k_ ≠ (.slice Ao57 t346.length co57 : Value).ownBlock ∧ some k_ ≠ (.slice Ao60 t351.length co60 : Value).ownBlock ∧ some k_ ≠ (.slice Ao69 t359.length co69 : Value).ownBlock) (.slice Ao62 t355.length co62) t355) := ⟨by (with_reducible repeat (first | apply Kd.R_alloc | apply Kd.R_drewN | apply Kd.R_drew)); exact Kd.R_mono (Kd.R_far (p := ⟨gb362, 1, none⟩) (Kd.R_far (p := ⟨gb362, 0, none⟩) (Kd.R_types HO357.out BK362.out (by decide)) (fun _ hk => hk.2) (.int .i64 t358)) (fun _ hk => hk.2) (.slice Ao69 t359.length co69)) (fun _ hk => ⟨hk.1.1.1.1.1.1.2, ⟨hk.1.1.1.1.1.2, ⟨hk.1.1.1.1.2, ⟨hk.1.1.1.2, ⟨hk.1.1.2, hk.1.2⟩⟩⟩⟩⟩)⟩
       have n6_ : Aside0 (Kd.R k24 24 ((w64.setCell ⟨gb362, 0, none⟩ (.int .i64 t358)).setCell ⟨gb362, 1, none⟩ (.slice Ao69 t359.length co69)) w.heap.size (fun k_ => some k_ ≠ (.slice Ao9 t321.length co9 : Value).ownBlock ∧ some k_ ≠ (.slice Ao14 t326.length co14 : Value).ownBlock ∧ some k_ ≠ (.slice Ao51 t342.length co51 : Value).ownBlock ∧ some k_ ≠ (.slice Ao57 t346.length co57 : Value).ownBlock ∧ some k_ ≠ (.slice Ao60 t351.length co60 : Value).ownBlock ∧ some k_ ≠ (.slice Ao62 t355.length co62 : Value).ownBlock) (.slice Ao69 t359.length co69) t359) := ⟨by (with_reducible repeat (first | apply Kd.R_alloc | apply Kd.R_drewN | apply Kd.R_drew)); exact Kd.R_mono (Kd.R_far (p := ⟨gb362, 1, none⟩) (Kd.R_far (p := ⟨gb362, 0, none⟩) (Kd.R_types HO361.out BK362.out (by decide)) (fun _ hk => hk.2) (.int .i64 t358)) (fun _ hk => hk.2) (.slice Ao69 t359.length co69)) (fun _ hk => ⟨hk.1.1.1.1.1.1.2, ⟨hk.1.1.1.1.1.2, ⟨hk.1.1.1.1.2, ⟨hk.1.1.1.2, ⟨hk.1.1.2, hk.1.2⟩⟩⟩⟩⟩)⟩
       have n7_ : Aside0 (((w64.setCell ⟨gb362, 0, none⟩ (.int .i64 t358)).setCell ⟨gb362, 1, none⟩ (.slice Ao69 t359.length co69)).heap[gb324]? = some (.cells #[.int .i64 t320, .slice Ao9 t321.length co9] 30 (0, 0))) := ⟨by (with_reducible repeat (first | refine blk_drewN ?_ _ | refine blk_drew ?_ | refine blk_alloc ?_ _)); refine blk_far ?_ NB324_362.out _; (with_reducible repeat (first | refine blk_drewN ?_ _ | refine blk_drew ?_ | refine blk_alloc ?_ _)); refine blk_far ?_ NB324_362.out _; (with_reducible repeat (first | refine blk_drewN ?_ _ | refine blk_drew ?_ | refine blk_alloc ?_ _)); exact BK324.out⟩
       have n8_ : Aside0 (((w64.setCell ⟨gb362, 0, none⟩ (.int .i64 t358)).setCell ⟨gb362, 1, none⟩ (.slice Ao69 t359.length co69)).heap[gb329]? = some (.cells #[.int .i64 t325, .slice Ao14 t326.length co14] 30 (0, 0))) := ⟨by (with_reducible repeat (first | refine blk_drewN ?_ _ | refine blk_drew ?_ | refine blk_alloc ?_ _)); refine blk_far ?_ NB329_362.out _; (with_reducible repeat (first | refine blk_drewN ?_ _ | refine blk_drew ?_ | refine blk_alloc ?_ _)); refine blk_far ?_ NB329_362.out _; (with_reducible repeat (first | refine blk_drewN ?_ _ | refine blk_drew ?_ | refine blk_alloc ?_ _)); exact BK329.out⟩
       have n9_ : Aside0 (((w64.setCell ⟨gb362, 0, none⟩ (.int .i64 t358)).setCell ⟨gb362, 1, none⟩ (.slice Ao69 t359.length co69)).heap[gb349]? = some (.cells #[.int .i64 t345, .slice Ao57 t346.length co57] 30 (0, 0))) := ⟨by (with_reducible repeat (first | refine blk_drewN ?_ _ | refine blk_drew ?_ | refine blk_alloc ?_ _)); refine blk_far ?_ NB349_362.out _; (with_reducible repeat (first | refine blk_drewN ?_ _ | refine blk_drew ?_ | refine blk_alloc ?_ _)); refine blk_far ?_ NB349_362.out _; (with_reducible repeat (first | refine blk_drewN ?_ _ | refine blk_drew ?_ | refine blk_alloc ?_ _)); exact BK349.out⟩
       have n10_ : Aside0 (((w64.setCell ⟨gb362, 0, none⟩ (.int .i64 t358)).setCell ⟨gb362, 1, none⟩ (.slice Ao69 t359.length co69)).heap[gb362]? = some (.cells #[.int .i64 t358, .slice Ao69 t359.length co69] 30 (0, 0))) := ⟨by (with_reducible repeat (first | refine blk_drewN ?_ _ | refine blk_drew ?_ | refine blk_alloc ?_ _)); refine blk_put (cs := #[.int .i64 t358, .slice none 0 0]) ?_ 1 _ rfl; (with_reducible repeat (first | refine blk_drewN ?_ _ | refine blk_drew ?_ | refine blk_alloc ?_ _)); refine blk_put (cs := #[.int .i64 0, .slice none 0 0]) ?_ 0 _ rfl; (with_reducible repeat (first | refine blk_drewN ?_ _ | refine blk_drew ?_ | refine blk_alloc ?_ _)); exact BK362.out⟩
       have n11_ : Aside0 (Below w.heap.size w ((w64.setCell ⟨gb362, 0, none⟩ (.int .i64 t358)).setCell ⟨gb362, 1, none⟩ (.slice Ao69 t359.length co69))) := ⟨by repeat (first | (with_reducible first | exact HB.out | apply below_alloc | apply pw_below_drewN | apply below_drew1 | refine below_set ?_ GE324.out | refine below_set ?_ GE329.out | refine below_set ?_ GE349.out | refine below_set ?_ GE362.out) | exact HB.out)⟩
       (try clear HO_325001)
       (try clear HO_330001)
       (try clear HO344)
       (try clear HO348)
       (try clear HO353)
       (try clear HO357)
       (try clear HO361)
       (try clear BK324)
       (try clear BK329)
       (try clear BK349)
       (try clear BK362)
       (try clear HB)
       generalize ((w64.setCell ⟨gb362, 0, none⟩ (.int .i64 t358)).setCell ⟨gb362, 1, none⟩ (.slice Ao69 t359.length co69)) = w70 at n0_ n1_ n2_ n3_ n4_ n5_ n6_ n7_ n8_ n9_ n10_ n11_ ⊢
       have HO_325001 := n0_
       have HO_330001 := n1_
       have HO344 := n2_
       have HO348 := n3_
       have HO353 := n4_
       have HO357 := n5_
       have HO361 := n6_
       have BK324 := n7_
       have BK329 := n8_
       have BK349 := n9_
       have BK362 := n10_
       have HB := n11_
       clear n0_ n1_ n2_ n3_ n4_ n5_ n6_ n7_ n8_ n9_ n10_ n11_
       have n0_ := Aside0.mk (Kd.Q_drew HO_325001.out)
       have n1_ := Aside0.mk (Kd.Q_drew HO_330001.out)
       have n2_ := Aside0.mk (Kd.R_drew HO344.out)
       have n3_ := Aside0.mk (Kd.R_drew HO348.out)
       have n4_ := Aside0.mk (Kd.R_drew HO353.out)
       have n5_ := Aside0.mk (Kd.R_drew HO357.out)
       have n6_ := Aside0.mk (Kd.R_drew HO361.out)
       have n7_ := Aside0.mk (blk_drew BK324.out)
       have n8_ := Aside0.mk (blk_drew BK329.out)
       have n9_ := Aside0.mk (blk_drew BK349.out)
       have n10_ := Aside0.mk (blk_drew BK362.out)
       have n11_ := Aside0.mk (below_drew1 HB.out)
       clear HO_325001
       clear HO_330001
       clear HO344
       clear HO348
       clear HO353
       clear HO357
       clear HO361
       clear BK324
       clear BK329
       clear BK349
       clear BK362
       clear HB
       have HO_325001 := n0_
       have HO_330001 := n1_
       have HO344 := n2_
       have HO348 := n3_
       have HO353 := n4_
       have HO357 := n5_
       have HO361 := n6_
       have BK324 := n7_
       have BK329 := n8_
       have BK349 := n9_
       have BK362 := n10_
       have HB := n11_
       clear n0_ n1_ n2_ n3_ n4_ n5_ n6_ n7_ n8_ n9_ n10_ n11_
       refine start_ (n := 14) (S := fun w' => w'.cell? ⟨gb329, 0, none⟩ = some (.int .i64 t325) ∧ w'.cell? ⟨gb329, 1, none⟩ = some (.slice Ao14 t326.length co14) ∧ w'.cell? ⟨gb324, 0, none⟩ = some (.int .i64 t320) ∧ w'.cell? ⟨gb324, 1, none⟩ = some (.slice Ao9 t321.length co9) ∧ w'.cell? ⟨gb349, 0, none⟩ = some (.int .i64 t345) ∧ w'.cell? ⟨gb349, 1, none⟩ = some (.slice Ao57 t346.length co57) ∧ w'.cell? ⟨gb362, 0, none⟩ = some (.int .i64 t358) ∧ w'.cell? ⟨gb362, 1, none⟩ = some (.slice Ao69 t359.length co69)) (ds := []) #[false, false, false, false, false, false, false, false, false, false, false, false, false, false] (by kernel_rfl) rfl rfl ⟨(blk_cell BK329.out 0).trans rfl, (blk_cell BK329.out 1).trans rfl, (blk_cell BK324.out 0).trans rfl, (blk_cell BK324.out 1).trans rfl, (blk_cell BK349.out 0).trans rfl, (blk_cell BK349.out 1).trans rfl, (blk_cell BK362.out 0).trans rfl, (blk_cell BK362.out 1).trans rfl⟩ (fun hHeld => ?_); refine with_tabW laws_FnFlipTwice.tab9 laws_FnFlipTwice.bits9 (fun HT_ HW_ => ?_)
       generalize w70.drew = w71 at HO_325001 HO_330001 HO344 HO348 HO353 HO357 HO361 BK324 BK329 BK349 BK362 HB hHeld ⊢
       refine take_ (i := 0) (N := some 35) (v := ?_) (a' := ?_) #[true, false, false, false, false, false, false, false, false, false, false, false, false, false] rfl rfl (take_ofW HT_.out HW_.out (by kernel_rfl)) (fun _ _ _ h => h) (Or.inl ⟨by rfl, ?_⟩) hHeld ?_ ?_
       rotate_left
       ·rintro w' ⟨s0, s1, s2, s3, s4, s5, s6, s7⟩
        go_simp
        with_reducible rfl
       rotate_left
       ·simp only [Act.put, List.setIfInBounds_toArray, List.set_cons_zero, List.set_cons_succ, i64_w, i32_w]
        rfl
       refine take_ (i := 2) (N := some 37) (v := ?_) (a' := ?_) #[true, false, true, false, false, false, false, false, false, false, false, false, false, false] rfl rfl (take_ofW HT_.out HW_.out (by kernel_rfl)) (fun _ _ _ h => h) (Or.inl ⟨by rfl, ?_⟩) hHeld ?_ ?_
       rotate_left
       ·rintro w' ⟨s0, s1, s2, s3, s4, s5, s6, s7⟩
        go_simp
        with_reducible rfl
       rotate_left
       ·simp only [Act.put, List.setIfInBounds_toArray, List.set_cons_zero, List.set_cons_succ, i64_w, i32_w]
        rfl
       refine one_ (i := 1) (N := some 36) #[true, true, true, false, false, false, false, false, false, false, false, false, false, false] rfl rfl (one_of HT_.out (by kernel_rfl)) (by decide) (fun K hK => ?_)
       refine goes_ Try.func26 (by kernel_rfl) rfl #[.agg #[.int .i64 t325, .slice Ao14 t326.length co14]] (by rfl) rfl rfl (by (try simp only [List.map_toArray, List.map_cons, List.map_nil]); first | done | rfl | (simp only [List.length_drop, List.length_take]; rfl)) ?_
       with_reducible refine (impl_GridFlip.calls t325 _ _ t326 t363 t364 _ ?side1 ?side2 A42.out).mono ?_
       (case side1 => repeat (first | exact (Kd.Q_reads' HO_330001.out).2.2 | (with_reducible refine Kd.C_alloc ?_ _) | (with_reducible refine Kd.C_drewN ?_ _) | (with_reducible refine Kd.C_drew ?_)))
       (case side2 => exact (Kd.Q_reads' HO_330001.out).2.1)
       rintro e w72 ⟨v365, rfl, ho0, hb⟩
       refine ⟨_, rfl, ?_⟩
       have n0_ := Aside0.mk (Kd.Q_elder' (by (with_reducible repeat (first | apply Kd.Q_alloc | apply Kd.Q_drewN | apply Kd.Q_drew)); exact HO_325001.out) (Kd.R_base ho0) hb)
       have n1_ := Aside0.mk (Kd.Q_elder' (by (with_reducible repeat (first | apply Kd.Q_alloc | apply Kd.Q_drewN | apply Kd.Q_drew)); exact HO_330001.out) (Kd.R_base ho0) hb)
       have n2_ := Aside0.mk (Kd.R_elder' (kR HO344.out) (Kd.R_base ho0) hb)
       have n3_ := Aside0.mk (Kd.R_elder' (kR HO348.out) (Kd.R_base ho0) hb)
       have n4_ := Aside0.mk (Kd.R_elder' (kR HO353.out) (Kd.R_base ho0) hb)
       have n5_ := Aside0.mk (Kd.R_elder' (kR HO357.out) (Kd.R_base ho0) hb)
       have n6_ := Aside0.mk (Kd.R_elder' (kR HO361.out) (Kd.R_base ho0) hb)
       have n7_ := Aside0.mk (Kd.R_lower (Kd.R_new' (Kd.R_new' (Kd.R_new' (Kd.R_new' (Kd.R_new' (Kd.R_new' (Kd.R_new' ho0 (Kd.Q_lt (by (with_reducible repeat (first | apply Kd.Q_alloc | apply Kd.Q_drewN | apply Kd.Q_drew)); exact HO_325001.out))) (Kd.Q_lt (by (with_reducible repeat (first | apply Kd.Q_alloc | apply Kd.Q_drewN | apply Kd.Q_drew)); exact HO_330001.out))) (Kd.R_lt (kR HO344.out))) (Kd.R_lt (kR HO348.out))) (Kd.R_lt (kR HO353.out))) (Kd.R_lt (kR HO357.out))) (Kd.R_lt (kR HO361.out))) (below_size (by repeat (first | (with_reducible first | exact HB.out | apply below_alloc | apply pw_below_drewN | apply below_drew1 | refine below_set ?_ GE324.out | refine below_set ?_ GE329.out | refine below_set ?_ GE349.out | refine below_set ?_ GE362.out) | exact HB.out))))
       have n8_ := Aside0.mk (blk_below (bK BK324.out) hb)
       have n9_ := Aside0.mk (blk_below (bK BK329.out) hb)
       have n10_ := Aside0.mk (blk_below (bK BK349.out) hb)
       have n11_ := Aside0.mk (blk_below (bK BK362.out) hb)
       have n12_ := Aside0.mk (below_step (by repeat (first | (with_reducible first | exact HB.out | apply below_alloc | apply pw_below_drewN | apply below_drew1 | refine below_set ?_ GE324.out | refine below_set ?_ GE329.out | refine below_set ?_ GE349.out | refine below_set ?_ GE362.out) | exact HB.out)) hb)
       clear HO_325001
       clear HO_330001
       clear HO344
       clear HO348
       clear HO353
       clear HO357
       clear HO361
       clear BK324
       clear BK329
       clear BK349
       clear BK362
       clear HB
       have HO_325001 := n0_
       have HO_330001 := n1_
       have HO344 := n2_
       have HO348 := n3_
       have HO353 := n4_
       have HO357 := n5_
       have HO361 := n6_
       have HO366 := n7_
       have BK324 := n8_
       have BK329 := n9_
       have BK349 := n10_
       have BK362 := n11_
       have HB := n12_
       clear n0_ n1_ n2_ n3_ n4_ n5_ n6_ n7_ n8_ n9_ n10_ n11_ n12_
       (try clear hb)
       (try clear hb2)
       (try clear hk)
       (try clear hi)
       (try clear ho0)
       obtain ⟨Ao73, co73, eo73⟩ := Kd.R_slice HO366.out
       (first | subst eo73 | (injection eo73 with f1_ f2_ f3_; have f4_ := f1_.symm; have f5_ := f3_.symm; clear f1_ f2_ f3_; subst f4_; subst f5_))
       refine hK.out _ _ ⟨(blk_cell BK329.out 0).trans rfl, (blk_cell BK329.out 1).trans rfl, (blk_cell BK324.out 0).trans rfl, (blk_cell BK324.out 1).trans rfl, (blk_cell BK349.out 0).trans rfl, (blk_cell BK349.out 1).trans rfl, (blk_cell BK362.out 0).trans rfl, (blk_cell BK362.out 1).trans rfl⟩ (fun hHeld => ?_)
       clear hK K
       refine norm_ (a' := ?_) ?_ ?_
       rotate_left
       ·show Act.put _ (some 36) _ = _
        simp only [Act.put, List.setIfInBounds_toArray, List.set_cons_zero, List.set_cons_succ, i64_w, i32_w]
        rfl
       refine one_ (i := 3) (N := some 38) #[true, true, true, true, false, false, false, false, false, false, false, false, false, false] rfl rfl (one_of HT_.out (by kernel_rfl)) (by decide) (fun K hK => ?_)
       refine goes_ Try.func19 (by kernel_rfl) rfl #[.agg #[.int .i64 t363, .slice Ao73 t364.length co73], .agg #[.int .i64 t320, .slice Ao9 t321.length co9]] (by rfl) rfl rfl (by (try simp only [List.map_toArray, List.map_cons, List.map_nil]); first | done | rfl | (simp only [List.length_drop, List.length_take]; rfl)) ?_
       with_reducible refine (laws_llGrid.calls kj4 t363 _ _ t364 t320 _ _ t321 true _ ?side1 ?side2 ?side3 ?side4 A43.out).mono ?_
       (case side1 => repeat (first | exact (Kd.R_reads' HO366.out).2.2 | (with_reducible refine Kd.C_alloc ?_ _) | (with_reducible refine Kd.C_drewN ?_ _) | (with_reducible refine Kd.C_drew ?_)))
       (case side2 => exact (Kd.R_reads' HO366.out).2.1)
       (case side3 => repeat (first | exact (Kd.Q_reads' HO_325001.out).2.2 | (with_reducible refine Kd.C_alloc ?_ _) | (with_reducible refine Kd.C_drewN ?_ _) | (with_reducible refine Kd.C_drew ?_)))
       (case side4 => exact (Kd.Q_reads' HO_325001.out).2.1)
       rintro e w74 ⟨rfl, hb⟩
       refine ⟨_, rfl, ?_⟩
       have n0_ := Aside0.mk (Kd.Q_below (by (with_reducible repeat (first | apply Kd.Q_alloc | apply Kd.Q_drewN | apply Kd.Q_drew)); exact HO_325001.out) hb)
       have n1_ := Aside0.mk (Kd.Q_below (by (with_reducible repeat (first | apply Kd.Q_alloc | apply Kd.Q_drewN | apply Kd.Q_drew)); exact HO_330001.out) hb)
       have n2_ := Aside0.mk (Kd.R_below (kR HO344.out) hb)
       have n3_ := Aside0.mk (Kd.R_below (kR HO348.out) hb)
       have n4_ := Aside0.mk (Kd.R_below (kR HO353.out) hb)
       have n5_ := Aside0.mk (Kd.R_below (kR HO357.out) hb)
       have n6_ := Aside0.mk (Kd.R_below (kR HO361.out) hb)
       have n7_ := Aside0.mk (Kd.R_below (kR HO366.out) hb)
       have n8_ := Aside0.mk (blk_below (bK BK324.out) hb)
       have n9_ := Aside0.mk (blk_below (bK BK329.out) hb)
       have n10_ := Aside0.mk (blk_below (bK BK349.out) hb)
       have n11_ := Aside0.mk (blk_below (bK BK362.out) hb)
       have n12_ := Aside0.mk (below_step (by repeat (first | (with_reducible first | exact HB.out | apply below_alloc | apply pw_below_drewN | apply below_drew1 | refine below_set ?_ GE324.out | refine below_set ?_ GE329.out | refine below_set ?_ GE349.out | refine below_set ?_ GE362.out) | exact HB.out)) hb)
       clear HO_325001
       clear HO_330001
       clear HO344
       clear HO348
       clear HO353
       clear HO357
       clear HO361
       clear HO366
       clear BK324
       clear BK329
       clear BK349
       clear BK362
       clear HB
       have HO_325001 := n0_
       have HO_330001 := n1_
       have HO344 := n2_
       have HO348 := n3_
       have HO353 := n4_
       have HO357 := n5_
       have HO361 := n6_
       have HO366 := n7_
       have BK324 := n8_
       have BK329 := n9_
       have BK349 := n10_
       have BK362 := n11_
       have HB := n12_
       clear n0_ n1_ n2_ n3_ n4_ n5_ n6_ n7_ n8_ n9_ n10_ n11_ n12_
       (try clear hb)
       (try clear hb2)
       (try clear hk)
       (try clear hi)
       refine hK.out _ _ ⟨(blk_cell BK329.out 0).trans rfl, (blk_cell BK329.out 1).trans rfl, (blk_cell BK324.out 0).trans rfl, (blk_cell BK324.out 1).trans rfl, (blk_cell BK349.out 0).trans rfl, (blk_cell BK349.out 1).trans rfl, (blk_cell BK362.out 0).trans rfl, (blk_cell BK362.out 1).trans rfl⟩ (fun hHeld => ?_)
       clear hK K
       refine norm_ (a' := ?_) ?_ ?_
       rotate_left
       ·show Act.put _ (some 38) _ = _
        simp only [Act.put, List.setIfInBounds_toArray, List.set_cons_zero, List.set_cons_succ, i64_w, i32_w]
        rfl
       refine pure_ (i := 4) (N := some 39) (v := ?_) (a' := ?_) #[true, true, true, true, true, false, false, false, false, false, false, false, false, false] rfl rfl (any_of HT_.out (by kernel_rfl)) (fun _ _ _ h => h) (Or.inl ⟨by rfl, ?_⟩) ?_ ?_
       rotate_left
       ·intro w'
        go_simp
        with_reducible rfl
       rotate_left
       ·simp only [Act.put, List.setIfInBounds_toArray, List.set_cons_zero, List.set_cons_succ, i64_w, i32_w]
        rfl
       refine take_ (i := 5) (N := some 40) (v := ?_) (a' := ?_) #[true, true, true, true, true, true, false, false, false, false, false, false, false, false] rfl rfl (take_ofW HT_.out HW_.out (by kernel_rfl)) (fun _ _ _ h => h) (Or.inl ⟨by rfl, ?_⟩) hHeld ?_ ?_
       rotate_left
       ·rintro w' ⟨s0, s1, s2, s3, s4, s5, s6, s7⟩
        go_simp
        with_reducible rfl
       rotate_left
       ·simp only [Act.put, List.setIfInBounds_toArray, List.set_cons_zero, List.set_cons_succ, i64_w, i32_w]
        rfl
       refine take_ (i := 6) (N := some 41) (v := ?_) (a' := ?_) #[true, true, true, true, true, true, true, false, false, false, false, false, false, false] rfl rfl (take_ofW HT_.out HW_.out (by kernel_rfl)) (fun _ _ _ h => h) (Or.inl ⟨by rfl, ?_⟩) hHeld ?_ ?_
       rotate_left
       ·rintro w' ⟨s0, s1, s2, s3, s4, s5, s6, s7⟩
        go_simp
        with_reducible rfl
       rotate_left
       ·simp only [Act.put, List.setIfInBounds_toArray, List.set_cons_zero, List.set_cons_succ, i64_w, i32_w]
        rfl
       refine one_ (i := 7) (N := some 42) #[true, true, true, true, true, true, true, true, false, false, false, false, false, false] rfl rfl (one_of HT_.out (by kernel_rfl)) (by decide) (fun K hK => ?_)
       refine goes_ Try.func19 (by kernel_rfl) rfl #[.agg #[.int .i64 t345, .slice Ao57 t346.length co57], .agg #[.int .i64 t358, .slice Ao69 t359.length co69]] (by rfl) rfl rfl (by (try simp only [List.map_toArray, List.map_cons, List.map_nil]); first | done | rfl | (simp only [List.length_drop, List.length_take]; rfl)) ?_
       with_reducible refine (laws_llGrid.calls kj4 t345 _ _ t346 t358 _ _ t359 true _ ?side1 ?side2 ?side3 ?side4 A45.out).mono ?_
       (case side1 => repeat (first | exact (Kd.R_reads' HO348.out).2.2 | (with_reducible refine Kd.C_alloc ?_ _) | (with_reducible refine Kd.C_drewN ?_ _) | (with_reducible refine Kd.C_drew ?_)))
       (case side2 => exact (Kd.R_reads' HO348.out).2.1)
       (case side3 => repeat (first | exact (Kd.R_reads' HO361.out).2.2 | (with_reducible refine Kd.C_alloc ?_ _) | (with_reducible refine Kd.C_drewN ?_ _) | (with_reducible refine Kd.C_drew ?_)))
       (case side4 => exact (Kd.R_reads' HO361.out).2.1)
       rintro e w75 ⟨rfl, hb⟩
       refine ⟨_, rfl, ?_⟩
       have n0_ := Aside0.mk (Kd.Q_below (by (with_reducible repeat (first | apply Kd.Q_alloc | apply Kd.Q_drewN | apply Kd.Q_drew)); exact HO_325001.out) hb)
       have n1_ := Aside0.mk (Kd.Q_below (by (with_reducible repeat (first | apply Kd.Q_alloc | apply Kd.Q_drewN | apply Kd.Q_drew)); exact HO_330001.out) hb)
       have n2_ := Aside0.mk (Kd.R_below (kR HO344.out) hb)
       have n3_ := Aside0.mk (Kd.R_below (kR HO348.out) hb)
       have n4_ := Aside0.mk (Kd.R_below (kR HO353.out) hb)
       have n5_ := Aside0.mk (Kd.R_below (kR HO357.out) hb)
       have n6_ := Aside0.mk (Kd.R_below (kR HO361.out) hb)
       have n7_ := Aside0.mk (Kd.R_below (kR HO366.out) hb)
       have n8_ := Aside0.mk (blk_below (bK BK324.out) hb)
       have n9_ := Aside0.mk (blk_below (bK BK329.out) hb)
       have n10_ := Aside0.mk (blk_below (bK BK349.out) hb)
       have n11_ := Aside0.mk (blk_below (bK BK362.out) hb)
       have n12_ := Aside0.mk (below_step (by repeat (first | (with_reducible first | exact HB.out | apply below_alloc | apply pw_below_drewN | apply below_drew1 | refine below_set ?_ GE324.out | refine below_set ?_ GE329.out | refine below_set ?_ GE349.out | refine below_set ?_ GE362.out) | exact HB.out)) hb)
       clear HO_325001
       clear HO_330001
       clear HO344
       clear HO348
       clear HO353
       clear HO357
       clear HO361
       clear HO366
       clear BK324
       clear BK329
       clear BK349
       clear BK362
       clear HB
       have HO_325001 := n0_
       have HO_330001 := n1_
       have HO344 := n2_
       have HO348 := n3_
       have HO353 := n4_
       have HO357 := n5_
       have HO361 := n6_
       have HO366 := n7_
       have BK324 := n8_
       have BK329 := n9_
       have BK349 := n10_
       have BK362 := n11_
       have HB := n12_
       clear n0_ n1_ n2_ n3_ n4_ n5_ n6_ n7_ n8_ n9_ n10_ n11_ n12_
       (try clear hb)
       (try clear hb2)
       (try clear hk)
       (try clear hi)
       refine hK.out _ _ ⟨(blk_cell BK329.out 0).trans rfl, (blk_cell BK329.out 1).trans rfl, (blk_cell BK324.out 0).trans rfl, (blk_cell BK324.out 1).trans rfl, (blk_cell BK349.out 0).trans rfl, (blk_cell BK349.out 1).trans rfl, (blk_cell BK362.out 0).trans rfl, (blk_cell BK362.out 1).trans rfl⟩ (fun hHeld => ?_)
       clear hK K
       refine norm_ (a' := ?_) ?_ ?_
       rotate_left
       ·show Act.put _ (some 42) _ = _
        simp only [Act.put, List.setIfInBounds_toArray, List.set_cons_zero, List.set_cons_succ, i64_w, i32_w]
        rfl
       refine pure_ (i := 8) (N := some 43) (v := ?_) (a' := ?_) #[true, true, true, true, true, true, true, true, true, false, false, false, false, false] rfl rfl (any_of HT_.out (by kernel_rfl)) (fun _ _ _ h => h) (Or.inl ⟨by rfl, ?_⟩) ?_ ?_
       rotate_left
       ·intro w'
        go_simp
        with_reducible rfl
       rotate_left
       ·simp only [Act.put, List.setIfInBounds_toArray, List.set_cons_zero, List.set_cons_succ, i64_w, i32_w]
        rfl
       refine pure_ (i := 9) (N := some 44) (v := ?_) (a' := ?_) #[true, true, true, true, true, true, true, true, true, true, false, false, false, false] rfl rfl (any_of HT_.out (by kernel_rfl)) (fun _ _ _ h => h) (Or.inl ⟨by rfl, ?_⟩) ?_ ?_
       rotate_left
       ·intro w'
        go_simp
        with_reducible rfl
       rotate_left
       ·simp only [Act.put, List.setIfInBounds_toArray, List.set_cons_zero, List.set_cons_succ, i64_w, i32_w]
        rfl
       refine take_ (i := 10) (N := some 45) (v := ?_) (a' := ?_) #[true, true, true, true, true, true, true, true, true, true, true, false, false, false] rfl rfl (take_ofW HT_.out HW_.out (by kernel_rfl)) (fun _ _ _ h => h) (Or.inl ⟨by rfl, ?_⟩) hHeld ?_ ?_
       rotate_left
       ·rintro w' ⟨s0, s1, s2, s3, s4, s5, s6, s7⟩
        go_simp
        with_reducible rfl
       rotate_left
       ·simp only [Act.put, List.setIfInBounds_toArray, List.set_cons_zero, List.set_cons_succ, i64_w, i32_w]
        rfl
       refine one_ (i := 11) (N := some 46) #[true, true, true, true, true, true, true, true, true, true, true, true, false, false] rfl rfl (one_of HT_.out (by kernel_rfl)) (by decide) (fun K hK => ?_)
       refine goes_ Try.func22 (by kernel_rfl) rfl #[.agg #[.int .i64 t325, .slice Ao14 t326.length co14]] (by rfl) rfl rfl (by (try simp only [List.map_toArray, List.map_cons, List.map_nil]); first | done | rfl | (simp only [List.length_drop, List.length_take]; rfl)) ?_
       with_reducible refine (impl_GridOk.calls kj4 t325 _ _ t326 t369 _ ?side1 ?side2 A47.out).mono ?_
       (case side1 => repeat (first | exact (Kd.Q_reads' HO_330001.out).2.2 | (with_reducible refine Kd.C_alloc ?_ _) | (with_reducible refine Kd.C_drewN ?_ _) | (with_reducible refine Kd.C_drew ?_)))
       (case side2 => exact (Kd.Q_reads' HO_330001.out).2.1)
       rintro e w76 ⟨rfl, hb⟩
       refine ⟨_, rfl, ?_⟩
       have n0_ := Aside0.mk (Kd.Q_below (by (with_reducible repeat (first | apply Kd.Q_alloc | apply Kd.Q_drewN | apply Kd.Q_drew)); exact HO_325001.out) hb)
       have n1_ := Aside0.mk (Kd.Q_below (by (with_reducible repeat (first | apply Kd.Q_alloc | apply Kd.Q_drewN | apply Kd.Q_drew)); exact HO_330001.out) hb)
       have n2_ := Aside0.mk (Kd.R_below (kR HO344.out) hb)
       have n3_ := Aside0.mk (Kd.R_below (kR HO348.out) hb)
       have n4_ := Aside0.mk (Kd.R_below (kR HO353.out) hb)
       have n5_ := Aside0.mk (Kd.R_below (kR HO357.out) hb)
       have n6_ := Aside0.mk (Kd.R_below (kR HO361.out) hb)
       have n7_ := Aside0.mk (Kd.R_below (kR HO366.out) hb)
       have n8_ := Aside0.mk (blk_below (bK BK324.out) hb)
       have n9_ := Aside0.mk (blk_below (bK BK329.out) hb)
       have n10_ := Aside0.mk (blk_below (bK BK349.out) hb)
       have n11_ := Aside0.mk (blk_below (bK BK362.out) hb)
       have n12_ := Aside0.mk (below_step (by repeat (first | (with_reducible first | exact HB.out | apply below_alloc | apply pw_below_drewN | apply below_drew1 | refine below_set ?_ GE324.out | refine below_set ?_ GE329.out | refine below_set ?_ GE349.out | refine below_set ?_ GE362.out) | exact HB.out)) hb)
       clear HO_325001
       clear HO_330001
       clear HO344
       clear HO348
       clear HO353
       clear HO357
       clear HO361
       clear HO366
       clear BK324
       clear BK329
       clear BK349
       clear BK362
       clear HB
       have HO_325001 := n0_
       have HO_330001 := n1_
       have HO344 := n2_
       have HO348 := n3_
       have HO353 := n4_
       have HO357 := n5_
       have HO361 := n6_
       have HO366 := n7_
       have BK324 := n8_
       have BK329 := n9_
       have BK349 := n10_
       have BK362 := n11_
       have HB := n12_
       clear n0_ n1_ n2_ n3_ n4_ n5_ n6_ n7_ n8_ n9_ n10_ n11_ n12_
       (try clear hb)
       (try clear hb2)
       (try clear hk)
       (try clear hi)
       refine hK.out _ _ ⟨(blk_cell BK329.out 0).trans rfl, (blk_cell BK329.out 1).trans rfl, (blk_cell BK324.out 0).trans rfl, (blk_cell BK324.out 1).trans rfl, (blk_cell BK349.out 0).trans rfl, (blk_cell BK349.out 1).trans rfl, (blk_cell BK362.out 0).trans rfl, (blk_cell BK362.out 1).trans rfl⟩ (fun hHeld => ?_)
       clear hK K
       refine norm_ (a' := ?_) ?_ ?_
       rotate_left
       ·show Act.put _ (some 46) _ = _
        simp only [Act.put, List.setIfInBounds_toArray, List.set_cons_zero, List.set_cons_succ, i64_w, i32_w]
        rfl
       refine pure_ (i := 12) (N := some 47) (v := ?_) (a' := ?_) #[true, true, true, true, true, true, true, true, true, true, true, true, true, false] rfl rfl (any_of HT_.out (by kernel_rfl)) (fun _ _ _ h => h) (Or.inl ⟨by rfl, ?_⟩) ?_ ?_
       rotate_left
       ·intro w'
        go_simp
        with_reducible rfl
       rotate_left
       ·simp only [Act.put, List.setIfInBounds_toArray, List.set_cons_zero, List.set_cons_succ, i64_w, i32_w]
        rfl
       refine pure_ (i := 13) (N := some 2) (v := ?_) (a' := ?_) #[true, true, true, true, true, true, true, true, true, true, true, true, true, true] rfl rfl (any_of HT_.out (by kernel_rfl)) (fun _ _ _ h => h) (Or.inl ⟨by rfl, ?_⟩) ?_ ?_
       rotate_left
       ·intro w'
        go_simp
        with_reducible rfl
       rotate_left
       ·simp only [Act.put, List.setIfInBounds_toArray, List.set_cons_zero, List.set_cons_succ, i64_w, i32_w]
        rfl
       refine done_ (done_of HT_.out (by kernel_rfl)) ?_
       try go_wp2
       go_ret
       exact ⟨by first | rfl | (simp [errW_none, errW_some] <;> rfl) | (simp [*, errW_none, errW_some] <;> rfl) | (exfalso; simp_all; done), by repeat (first | (with_reducible first | exact HB.out | apply below_alloc | apply pw_below_drewN | apply below_drew1 | refine below_set ?_ GE324.out | refine below_set ?_ GE329.out | refine below_set ?_ GE349.out | refine below_set ?_ GE362.out) | exact HB.out)⟩
      ·replace c46 := Bool.eq_false_iff.mpr c46
       subst c46
       have H1 : (some false) = some r := by rw [if_neg (show ¬ (false = true) by decide)] at H; exact H
       clear H
       have H := H1
       clear H1
       obtain rfl := Option.some.inj H
       exact absurd HRT.out (by decide)
     ·replace c44 := Bool.eq_false_iff.mpr c44
      subst c44
      have H1 : (some false) = some r := by rw [if_neg (show ¬ (false = true) by decide)] at H; exact H
      clear H
      have H := H1
      clear H1
      obtain rfl := Option.some.inj H
      exact absurd HRT.out (by decide)

/-- THE ONE PURE STATEMENT of laws_FnFlipTwice: yours. -/
def laws_FnFlipTwice.Pure : Prop := ∀ (l0 : List Int), l0.length ≤ maxLen → l0.length * 1 ≤ 140737488351232 → (∀ x ∈ l0, (Lit.int .u8 x).wf = true) → ∃ k, laws_FnFlipTwice.f k l0 = some true
theorem laws_FnFlipTwice.walk (P : laws_FnFlipTwice.Pure) (a0 : Option Addr) (len0 cap0 : Nat) (z0 : List Int) (w : World) (w0 : (a0 = none ∧ len0 = 0 ∧ cap0 = 0 ∧ z0 = []) ∨ ∃ x, a0 = some x ∧ len0 ≤ cap0 ∧ cap0 ≤ maxLen ∧ z0.length = cap0 ∧ (∀ i, i < z0.length → w.cell? (x.add i) = some (.int .u8 (z0.getD i 0))) ∧ ∀ n ∈ z0, (Lit.int .u8 n).wf = true) (y0 : len0 * 1 ≤ 140737488351232) :
  Calls Try.prog 6 #[.slice a0 len0 cap0] w fun e w' => e = .returned (.bool true) ∧ Below w.heap.size w w' := by
 obtain ⟨l0, rfl, hr0, hm0, hw0, hc0⟩ := ReadsInt.ofRowC w0
 obtain ⟨k, h⟩ := P l0 hm0 y0 hw0
 refine (laws_FnFlipTwice.calls k _ _ l0 true w (Kd.C_of_reads (d := (0 : Int)) (h1 := fun _ => rfl) hr0) hc0 h rfl).mono ?_
 rintro e w' ⟨rfl, hd⟩
 exact ⟨rfl, hd⟩

end Go.Proofs.Ytbnofnamkgfadaa.P
