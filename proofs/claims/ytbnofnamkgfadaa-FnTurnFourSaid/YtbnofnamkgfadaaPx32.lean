/- PROVED: contracts of functions of the program, the reference and the statements; written by this session's driver (pk.py) through its own changed copy of the kit's print. No condition. -/
import Derived.Test.YtbnofnamkgfadaaPx0
import Derived.Test.YtbnofnamkgfadaaPx1
import Derived.Test.YtbnofnamkgfadaaPx8
import Derived.Test.YtbnofnamkgfadaaPx15
import Derived.Test.YtbnofnamkgfadaaPx17
import Derived.Test.YtbnofnamkgfadaaPx26
import Derived.Test.YtbnofnamkgfadaaPx30
import Derived.Test.YtbnofnamkgfadaaH3Turn
namespace Go.Proofs.Ytbnofnamkgfadaa.P
open Go.RowKit Go.Proofs.YtbnofnamkgfadaaW.PrintWords Go.Proofs.YtbnofnamkgfadaaW.PrintLast Go.Proofs.YtbnofnamkgfadaaW.PrintMore
attribute [local go_sem] max2_int min2_int max_two min_two max_three min_three max_four min_four   -- for this text's walks alone
set_option linter.unusedVariables false
set_option linter.unusedSimpArgs false

attribute [local go_sem high] eqA24
/-! ### laws_FnTurnFour: function 4 -/
mutual
def laws_FnTurnFour.j0 : Nat → Bool → Int → List (S24) → Int → List (S24) → Option (Bool)
 | 0, _, _, _, _, _ => none
 | k + 1, x24, x236000, x236001, x241000, x241001 => if x24 = true then ((spec_GridTurn.f k x236000 x236001).bind fun bt247 => ((laws_llGrid.f k x241000 x241001 bt247.1 bt247.2).bind fun t251 => (some t251))) else ((impl_GridTurn.f x241000 x241001).bind fun bt252 => (laws_FnTurnFour.l0 k (x236001.length : Int) 0 x236000 x236001 x241000 x241001 bt252.1 bt252.2))
def laws_FnTurnFour.l0 : Nat → Int → Int → Int → List (S24) → Int → List (S24) → Int → List (S24) → Option (Bool)
 | 0, _, _, _, _, _, _, _, _ => none
 | k + 1, x6, x7, x236000, x236001, x241000, x241001, x257000, x257001 => if x7 < x6 then (if 0 ≤ (wrap64 ((wrap64 (x6 - 1)) - x7)) then (if (wrap64 ((wrap64 (x6 - 1)) - x7)) < (x257001.length : Int) then (if 0 ≤ x7 then (if x7 < (x236001.length : Int) then (if (!(((rd_T24 x257001 (wrap64 ((wrap64 (x6 - 1)) - x7))).f0) == ((rd_T24 x236001 x7).f0)) || (!(((rd_T24 x257001 (wrap64 ((wrap64 (x6 - 1)) - x7))).f1) == ((rd_T24 x236001 x7).f1)))) = true then (some false) else (laws_FnTurnFour.l0 k x6 (wrap64 (x7 + 1)) x236000 x236001 x241000 x241001 x257000 x257001)) else (none)) else (none)) else (none)) else (none)) else (if x257000 = x236000 then ((impl_GridTurn.f x257000 x257001).bind fun bt259 => ((impl_GridTurn.f bt259.1 bt259.2).bind fun bt263 => ((laws_llGrid.f k bt263.1 bt263.2 x236000 x236001).bind fun t267 => (if t267 = true then ((impl_GridOk.f k x241000 x241001).bind fun t268 => (some t268)) else (some false))))) else (some false))
end
def laws_FnTurnFour.f (k : Nat) (l0 : List Int) : Option (Bool) := if (l0.length : Int) > 1048576 then (some true) else ((spec_DrawGridTurn.f k l0).bind fun bt231 => ((impl_GridTurn.f bt231.1 bt231.2).bind fun bt236 => ((spec_GridTurn.f k bt231.1 bt231.2).bind fun bt241 => ((laws_llGrid.f k bt236.1 bt236.2 bt241.1 bt241.2).bind fun t245 => (if t245 = true then ((spec_GridOk.f k bt231.1 bt231.2).bind fun t246 => (laws_FnTurnFour.j0 k (!t246) bt231.1 bt231.2 bt236.1 bt236.2)) else (laws_FnTurnFour.j0 k true bt231.1 bt231.2 bt236.1 bt236.2))))))
theorem laws_FnTurnFour.mono_l : ∀ k, (∀ y0 y1 y2 y3 y4, LeO (laws_FnTurnFour.j0 k y0 y1 y2 y3 y4) (laws_FnTurnFour.j0 (k + 1) y0 y1 y2 y3 y4)) ∧ (∀ y0 y1 y2 y3 y4 y5 y6 y7, LeO (laws_FnTurnFour.l0 k y0 y1 y2 y3 y4 y5 y6 y7) (laws_FnTurnFour.l0 (k + 1) y0 y1 y2 y3 y4 y5 y6 y7))
 | 0 => ⟨fun _ _ _ _ _ r h => by simp [laws_FnTurnFour.j0] at h, fun _ _ _ _ _ _ _ _ r h => by simp [laws_FnTurnFour.l0] at h⟩
 | k + 1 => by
  obtain ⟨ih0, ih1⟩ := laws_FnTurnFour.mono_l k
  refine ⟨?_, ?_⟩
  ·intro y0 y1 y2 y3 y4
   unfold laws_FnTurnFour.j0
   repeat' first
   | (with_reducible exact ih0 _ _ _ _ _)
   | (with_reducible exact ih1 _ _ _ _ _ _ _ _)
   | (with_reducible exact impl_GridOk.mono _ _ _)
   | (with_reducible exact laws_llGrid.mono _ _ _ _ _)
   | (with_reducible exact spec_DrawGridTurn.mono _ _)
   | (with_reducible exact spec_GridOk.mono _ _ _)
   | (with_reducible exact spec_GridTurn.mono _ _ _)
   | (with_reducible exact LeO.refl _)
   | (with_reducible exact LeO.none _)
   | (with_reducible refine LeO.ite ?_ ?_)
   | (with_reducible refine LeO.bind ?_ (fun _ => ?_))
   | exact ih0 _ _ _ _ _
   | exact ih1 _ _ _ _ _ _ _ _
   | exact impl_GridOk.mono _ _ _
   | exact laws_llGrid.mono _ _ _ _ _
   | exact spec_DrawGridTurn.mono _ _
   | exact spec_GridOk.mono _ _ _
   | exact spec_GridTurn.mono _ _ _
   | exact LeO.none _
   | refine LeO.ite ?_ ?_
   | refine LeO.bind ?_ (fun _ => ?_)
  ·intro y0 y1 y2 y3 y4 y5 y6 y7
   unfold laws_FnTurnFour.l0
   repeat' first
   | (with_reducible exact ih0 _ _ _ _ _)
   | (with_reducible exact ih1 _ _ _ _ _ _ _ _)
   | (with_reducible exact impl_GridOk.mono _ _ _)
   | (with_reducible exact laws_llGrid.mono _ _ _ _ _)
   | (with_reducible exact spec_DrawGridTurn.mono _ _)
   | (with_reducible exact spec_GridOk.mono _ _ _)
   | (with_reducible exact spec_GridTurn.mono _ _ _)
   | (with_reducible exact LeO.refl _)
   | (with_reducible exact LeO.none _)
   | (with_reducible refine LeO.ite ?_ ?_)
   | (with_reducible refine LeO.bind ?_ (fun _ => ?_))
   | exact ih0 _ _ _ _ _
   | exact ih1 _ _ _ _ _ _ _ _
   | exact impl_GridOk.mono _ _ _
   | exact laws_llGrid.mono _ _ _ _ _
   | exact spec_DrawGridTurn.mono _ _
   | exact spec_GridOk.mono _ _ _
   | exact spec_GridTurn.mono _ _ _
   | exact LeO.none _
   | refine LeO.ite ?_ ?_
   | refine LeO.bind ?_ (fun _ => ?_)
theorem laws_FnTurnFour.mono : ∀ a0 k, LeO (laws_FnTurnFour.f k a0) (laws_FnTurnFour.f (k + 1) a0) := by
 intro a0 k
 obtain ⟨ih0, ih1⟩ := laws_FnTurnFour.mono_l k
 unfold laws_FnTurnFour.f
 repeat' first
   | (with_reducible exact ih0 _ _ _ _ _)
   | (with_reducible exact ih1 _ _ _ _ _ _ _ _)
   | (with_reducible exact impl_GridOk.mono _ _ _)
   | (with_reducible exact laws_llGrid.mono _ _ _ _ _)
   | (with_reducible exact spec_DrawGridTurn.mono _ _)
   | (with_reducible exact spec_GridOk.mono _ _ _)
   | (with_reducible exact spec_GridTurn.mono _ _ _)
   | (with_reducible exact LeO.refl _)
   | (with_reducible exact LeO.none _)
   | (with_reducible refine LeO.ite ?_ ?_)
   | (with_reducible refine LeO.bind ?_ (fun _ => ?_))
   | exact ih0 _ _ _ _ _
   | exact ih1 _ _ _ _ _ _ _ _
   | exact impl_GridOk.mono _ _ _
   | exact laws_llGrid.mono _ _ _ _ _
   | exact spec_DrawGridTurn.mono _ _
   | exact spec_GridOk.mono _ _ _
   | exact spec_GridTurn.mono _ _ _
   | exact LeO.none _
   | refine LeO.ite ?_ ?_
   | refine LeO.bind ?_ (fun _ => ?_)
def laws_FnTurnFour.T5 : Bool × List (List Nat × List Nat) := (true, [([], []), ([], []), ([1], [1]), ([0, 2, 2], [0, 2]), ([3], [3]), ([4, 3], [4]), ([5], [5]), ([6, 5, 5], [5, 6]), ([7, 5], [5, 7]), ([5, 8], [5, 8])])
def laws_FnTurnFour.B5 : List Nat := [0, 0, 2, 7, 15, 31, 63, 127, 255, 511]
theorem laws_FnTurnFour.tab5 : rtab .any (opsOf Try.f4 5) = laws_FnTurnFour.T5 := by kernel_rfl
theorem laws_FnTurnFour.bits5 : waitsOk laws_FnTurnFour.T5.2 laws_FnTurnFour.B5 = true := by kernel_rfl
def laws_FnTurnFour.T12 : Bool × List (List Nat × List Nat) := (true, [([], []), ([0], [0]), ([], []), ([2], [2]), ([], []), ([3, 4], [3, 4]), ([1, 5], [1, 5]), ([6], [6]), ([], []), ([8], [8]), ([], []), ([9, 10], [9, 10]), ([11], [11]), ([7, 12], [7, 12])])
def laws_FnTurnFour.B12 : List Nat := [0, 1, 0, 4, 0, 28, 63, 127, 0, 256, 0, 1792, 3840, 8191]
theorem laws_FnTurnFour.tab12 : rtab .any (opsOf Try.f4 12) = laws_FnTurnFour.T12 := by kernel_rfl
theorem laws_FnTurnFour.bits12 : waitsOk laws_FnTurnFour.T12.2 laws_FnTurnFour.B12 = true := by kernel_rfl
def laws_FnTurnFour.T14 : Bool × List (List Nat × List Nat) := (true, [([], []), ([0], [0]), ([], []), ([2], [2]), ([1, 3], [1, 3]), ([4], [4]), ([5], [5]), ([6, 5, 5], [5, 6]), ([7, 7, 5], [5, 7]), ([5], [5]), ([8, 9, 8, 5], [5, 8, 9]), ([5, 10], [5, 10]), ([11, 10], [11]), ([12], [12]), ([13, 12, 12], [12, 13]), ([12, 14], [12, 14]), ([15, 14, 0, 1, 2, 3, 4, 5, 6, 7, 8, 9, 10, 11, 12, 13, 14, 15], [15])])
def laws_FnTurnFour.B14 : List Nat := [0, 1, 0, 4, 15, 31, 63, 127, 255, 63, 1023, 2047, 4095, 8191, 16383, 32767, 65535]
theorem laws_FnTurnFour.tab14 : rtab .any (opsOf Try.f4 14) = laws_FnTurnFour.T14 := by kernel_rfl
theorem laws_FnTurnFour.bits14 : waitsOk laws_FnTurnFour.T14.2 laws_FnTurnFour.B14 = true := by kernel_rfl
set_option maxHeartbeats 8000000 in
set_option maxRecDepth 100000 in
theorem laws_FnTurnFour.calls (k : Nat) (A0 : Option Addr) (c0 : Nat) (l0 : List Int) (r : Bool) (w : World) (hr0 : Kd.C (Kd.int .u8) w A0 l0.length l0) (hc0 : l0.length ≤ c0) (h : laws_FnTurnFour.f k l0 = some r) (hrt : r = true) :
  Calls Try.prog 4 #[.slice A0 l0.length c0] w fun e w' => e = .returned (.bool r) ∧ Below w.heap.size w w' := by
 have HRT := Aside0.mk hrt
 clear hrt
 have hu30 := Try.underlying30
 have hu24 := Try.underlying24
 have HR0 := Aside0.mk hr0
 have HC0 := Aside0.mk hc0
 clear hr0 hc0
 have HB := Aside0.mk (Below.refl w.heap.size w)
 have H : (if (l0.length : Int) > 1048576 then (some true) else ((spec_DrawGridTurn.f k l0).bind fun bt231 => ((impl_GridTurn.f bt231.1 bt231.2).bind fun bt236 => ((spec_GridTurn.f k bt231.1 bt231.2).bind fun bt241 => ((laws_llGrid.f k bt236.1 bt236.2 bt241.1 bt241.2).bind fun t245 => (if t245 = true then ((spec_GridOk.f k bt231.1 bt231.2).bind fun t246 => (laws_FnTurnFour.j0 k (!t246) bt231.1 bt231.2 bt236.1 bt236.2)) else (laws_FnTurnFour.j0 k true bt231.1 bt231.2 bt236.1 bt236.2))))))) = some r := h
 clear h
 by_cases c2 : (l0.length : Int) > 1048576
 ·rw [if_pos c2] at H
  have c2b0 : decide (1048576 < (l0.length : Int)) = true := decide_eq_true c2
  have c2b1 : decide (1048576 < l0.length) = true := decide_eq_true (by omega)
  clear c2
  obtain rfl := Option.some.inj H
  go_enter Try.func4, Try.ntmps4
  go_wp2
  go_ret
  exact ⟨by first | rfl | (simp [errW_none, errW_some] <;> rfl) | (simp [*, errW_none, errW_some] <;> rfl) | (exfalso; simp_all; done), by repeat (first | (with_reducible first | exact HB.out | apply below_alloc | apply pw_below_drewN | apply below_drew1) | exact HB.out)⟩
 ·rw [if_neg c2] at H
  have c2b0 : decide (1048576 < (l0.length : Int)) = false := decide_eq_false c2
  have c2b1 : decide (1048576 < l0.length) = false := decide_eq_false (by omega)
  clear c2
  replace H := Option.bind_eq_some_iff.mp H
  obtain ⟨⟨t231, t232⟩, A30, H⟩ := H
  replace H : ((impl_GridTurn.f t231 t232).bind fun bt236 => ((spec_GridTurn.f k t231 t232).bind fun bt241 => ((laws_llGrid.f k bt236.1 bt236.2 bt241.1 bt241.2).bind fun t245 => (if t245 = true then ((spec_GridOk.f k t231 t232).bind fun t246 => (laws_FnTurnFour.j0 k (!t246) t231 t232 bt236.1 bt236.2)) else (laws_FnTurnFour.j0 k true t231 t232 bt236.1 bt236.2))))) = some r := H
  have A3 := Aside0.mk A30
  clear A30
  replace H := Option.bind_eq_some_iff.mp H
  obtain ⟨⟨t236, t237⟩, A40, H⟩ := H
  replace H : ((spec_GridTurn.f k t231 t232).bind fun bt241 => ((laws_llGrid.f k t236 t237 bt241.1 bt241.2).bind fun t245 => (if t245 = true then ((spec_GridOk.f k t231 t232).bind fun t246 => (laws_FnTurnFour.j0 k (!t246) t231 t232 t236 t237)) else (laws_FnTurnFour.j0 k true t231 t232 t236 t237)))) = some r := H
  have A4 := Aside0.mk A40
  clear A40
  have HC5 := Aside0.mk H
  clear H
  go_enter Try.func4, Try.ntmps4
  go_upto_region 5 with (first | ((with_reducible refine gate_callee (f := 17) rfl ?_); refine goesL_ (some 12) rfl rfl Try.func17 (by kernel_rfl) rfl #[.slice A0 l0.length c0] rfl (by (try simp only [List.map_toArray, List.map_cons, List.map_nil]); first | done | rfl | (simp only [List.length_drop, List.length_take]; rfl)) ?_; (with_reducible refine (spec_DrawGridTurn.calls k _ _ l0 t231 t232 _ ?side1 ?side2 A3.out).mono ?_); (case side1 => repeat (first | exact HR0.out | (with_reducible refine Kd.C_alloc ?_ _) | (with_reducible refine Kd.C_drewN ?_ _) | (with_reducible refine Kd.C_drew ?_))); (case side2 => exact HC0.out); rintro e w6 ⟨v233, rfl, ho0, hb⟩; refine ⟨_, rfl, ?_⟩; have n0_ := Aside0.mk (Kd.Q_lower ho0 (below_size (by repeat (first | (with_reducible first | exact HB.out | apply below_alloc | apply pw_below_drewN | apply below_drew1) | exact HB.out)))); have n1_ := Aside0.mk (below_step (by repeat (first | (with_reducible first | exact HB.out | apply below_alloc | apply pw_below_drewN | apply below_drew1) | exact HB.out)) hb); clear HB; have HO234 := n0_; have HB := n1_; clear n0_ n1_; (try clear hb); (try clear hb2); (try clear hk); (try clear hi); (try clear ho0)) | ((with_reducible refine gate_dst (N := 3) rfl ?_); refine box_event ?hg (N := 3) ?hd (cs := #[.int .i64 0, .slice none 0 0]) (t := 30) ?hr ?_; (case hd => rfl); (case hg => rfl); (case hr => first | (go_simp; done) | (go_simp; rfl)); intro gb235 hg w7 hbox hb; have n0_ := Aside0.mk (Kd.Q_below (by (with_reducible repeat (first | apply Kd.Q_alloc | apply Kd.Q_drewN | apply Kd.Q_drew)); exact HO234.out) hb); have n1_ := Aside0.mk (below_step (by repeat (first | (with_reducible first | exact HB.out | apply below_alloc | apply pw_below_drewN | apply below_drew1) | exact HB.out)) hb); have n2_ := Aside0.mk (hbox); have n3_ := Aside0.mk ((by rw [hg]; exact (below_size (by repeat (first | (with_reducible first | exact HB.out | apply below_alloc | apply pw_below_drewN | apply below_drew1) | exact HB.out))) : w.heap.size ≤ gb235)); have n4_ := Aside0.mk ((by rw [hg]; exact (below_size (by repeat (first | (with_reducible first | exact HB.out | apply below_alloc | apply pw_below_drewN | apply below_drew1) | exact HB.out))) : w.heap.size ≤ gb235)); clear HO234; clear HB; have HO234 := n0_; have HB := n1_; have BK235 := n2_; have GW235 := n3_; have GE235 := n4_; clear n0_ n1_ n2_ n3_ n4_; clear hb hbox hg; have hcz8_0 : w7.cell? ⟨gb235, 0, none⟩ = some (.int .i64 0) := (blk_cell BK235.out 0).trans rfl; have hcz8_1 : w7.cell? ⟨gb235, 1, none⟩ = some (.slice none 0 0) := (blk_cell BK235.out 1).trans rfl; have hfz8_0 := blk_frozen BK235.out 0; have hfz8_1 := blk_frozen BK235.out 1; obtain ⟨Ao9, co9, eo9, _⟩ := Kd.Q_slice HO234.out; subst eo9) | ((with_reducible refine gate_callee (f := 18) rfl ?_); refine goesL_ (some 14) rfl rfl Try.func18 (by kernel_rfl) rfl #[.agg #[.int .i64 t231, .slice Ao9 t232.length co9]] rfl (by (try simp only [List.map_toArray, List.map_cons, List.map_nil]); first | done | rfl | (simp only [List.length_drop, List.length_take]; rfl)) ?_; (with_reducible refine (impl_GridTurn.calls t231 _ _ t232 t236 t237 _ ?side1 ?side2 A4.out).mono ?_); (case side1 => refine (Kd.Q_reads' (e := 24) (base := w.heap.size) (ok := fun k_ => True) (n := t232.length) (c := co9) ?_).2.2; exact (by (with_reducible repeat (first | apply Kd.Q_alloc | apply Kd.Q_drewN | apply Kd.Q_drew)); exact (Kd.Q_mono (Kd.Q_far (p := ⟨gb235, 1, none⟩) (Kd.Q_far (p := ⟨gb235, 0, none⟩) (Kd.Q_types HO234.out BK235.out (by decide)) (fun _ hk => hk.2) (.int .i64 t231)) (fun _ hk => hk.2) (.slice Ao9 t232.length co9)) (fun _ h_ => h_.1)))); (case side2 => exact (Kd.Q_reads' HO234.out).2.1); rintro e w10 ⟨v238, rfl, ho0, hb⟩; refine ⟨_, rfl, ?_⟩; have n0_ := Aside0.mk (Kd.Q_elder' (by (with_reducible repeat (first | apply Kd.Q_alloc | apply Kd.Q_drewN | apply Kd.Q_drew)); exact (Kd.Q_mono (Kd.Q_far (p := ⟨gb235, 1, none⟩) (Kd.Q_far (p := ⟨gb235, 0, none⟩) (Kd.Q_types HO234.out BK235.out (by decide)) (fun _ hk => hk.2) (.int .i64 t231)) (fun _ hk => hk.2) (.slice Ao9 t232.length co9)) (fun _ h_ => h_.1))) (Kd.R_base ho0) hb); have n1_ := Aside0.mk (Kd.R_lower (Kd.R_new' ho0 (Kd.Q_lt (by (with_reducible repeat (first | apply Kd.Q_alloc | apply Kd.Q_drewN | apply Kd.Q_drew)); exact (Kd.Q_mono (Kd.Q_far (p := ⟨gb235, 1, none⟩) (Kd.Q_far (p := ⟨gb235, 0, none⟩) (Kd.Q_types HO234.out BK235.out (by decide)) (fun _ hk => hk.2) (.int .i64 t231)) (fun _ hk => hk.2) (.slice Ao9 t232.length co9)) (fun _ h_ => h_.1))))) (below_size (by repeat (first | (with_reducible first | exact HB.out | apply below_alloc | apply pw_below_drewN | apply below_drew1 | refine below_set ?_ GE235.out) | exact HB.out)))); have n2_ := Aside0.mk (blk_below (g := gb235) (o := .cells #[.int .i64 t231, .slice Ao9 t232.length co9] 30 (0, 0)) (by (with_reducible repeat (first | refine blk_drewN ?_ _ | refine blk_drew ?_ | refine blk_alloc ?_ _)); refine blk_put (cs := #[.int .i64 t231, .slice none 0 0]) ?_ 1 _ rfl; (with_reducible repeat (first | refine blk_drewN ?_ _ | refine blk_drew ?_ | refine blk_alloc ?_ _)); refine blk_put (cs := #[.int .i64 0, .slice none 0 0]) ?_ 0 _ rfl; (with_reducible repeat (first | refine blk_drewN ?_ _ | refine blk_drew ?_ | refine blk_alloc ?_ _)); exact BK235.out) hb); have n3_ := Aside0.mk (below_step (by repeat (first | (with_reducible first | exact HB.out | apply below_alloc | apply pw_below_drewN | apply below_drew1 | refine below_set ?_ GE235.out) | exact HB.out)) hb); clear HO234; clear BK235; clear HB; have HO234 := n0_; have HO239 := n1_; have BK235 := n2_; have HB := n3_; clear n0_ n1_ n2_ n3_; (try clear hb); (try clear hb2); (try clear hk); (try clear hi); (try clear ho0)) | ((with_reducible refine gate_dst (N := 4) rfl ?_); refine box_event ?hg (N := 4) ?hd (cs := #[.int .i64 0, .slice none 0 0]) (t := 30) ?hr ?_; (case hd => rfl); (case hg => rfl); (case hr => first | (go_simp; done) | (go_simp; rfl)); intro gb240 hg w11 hbox hb; have n0_ := Aside0.mk (Kd.Q_below (by (with_reducible repeat (first | apply Kd.Q_alloc | apply Kd.Q_drewN | apply Kd.Q_drew)); exact HO234.out) hb); have n1_ := Aside0.mk (Kd.R_below (kR HO239.out) hb); have n2_ := Aside0.mk (blk_below (bK BK235.out) hb); have n3_ := Aside0.mk (below_step (by repeat (first | (with_reducible first | exact HB.out | apply below_alloc | apply pw_below_drewN | apply below_drew1 | refine below_set ?_ GE235.out) | exact HB.out)) hb); have n4_ := Aside0.mk (hbox); have n5_ := Aside0.mk ((by rw [hg]; exact (below_size (by repeat (first | (with_reducible first | exact HB.out | apply below_alloc | apply pw_below_drewN | apply below_drew1 | refine below_set ?_ GE235.out) | exact HB.out))) : w.heap.size ≤ gb240)); have n6_ := Aside0.mk ((by rw [hg]; exact (below_size (by repeat (first | (with_reducible first | exact HB.out | apply below_alloc | apply pw_below_drewN | apply below_drew1 | refine below_set ?_ GE235.out) | exact HB.out))) : w.heap.size ≤ gb240)); have n7_ := Aside0.mk ((by rw [hg]; exact Nat.ne_of_lt (blk_lt (bK BK235.out)) : gb235 ≠ gb240)); have n8_ := Aside0.mk ((by rw [hg]; exact Nat.ne_of_gt (blk_lt (bK BK235.out)) : gb240 ≠ gb235)); clear HO234; clear HO239; clear BK235; clear HB; have HO234 := n0_; have HO239 := n1_; have BK235 := n2_; have HB := n3_; have BK240 := n4_; have GW240 := n5_; have GE240 := n6_; have NB235_240 := n7_; have NB240_235 := n8_; clear n0_ n1_ n2_ n3_ n4_ n5_ n6_ n7_ n8_; clear hb hbox hg; have hnb12 := NB240_235.out; have hnc12 := NB235_240.out; have hcz13_0 : w11.cell? ⟨gb240, 0, none⟩ = some (.int .i64 0) := (blk_cell BK240.out 0).trans rfl; have hcz13_1 : w11.cell? ⟨gb240, 1, none⟩ = some (.slice none 0 0) := (blk_cell BK240.out 1).trans rfl; have hfz13_0 := blk_frozen BK240.out 0; have hfz13_1 := blk_frozen BK240.out 1; obtain ⟨Ao14, co14, eo14⟩ := Kd.R_slice HO239.out; subst eo14))
  (try simp only [Act.put, List.setIfInBounds_toArray, List.set_cons_zero, List.set_cons_succ])
  go_cut [24] (fun v24 wc => ∃ (kq : Nat) (x24_4 : Bool), v24 = .bool x24_4 ∧ Aside0 (laws_FnTurnFour.j0 kq x24_4 t231 t232 t236 t237 = some r) ∧ Aside0 (kq ≤ k) ∧ Aside0 (Kd.Q k24 24 wc w.heap.size (fun k_ => some k_ ≠ ((.slice Ao14 t237.length co14) : Value).ownBlock) (.slice Ao9 t232.length co9) t232) ∧ Aside0 (Kd.Q k24 24 wc w.heap.size (fun k_ => some k_ ≠ ((.slice Ao9 t232.length co9) : Value).ownBlock) (.slice Ao14 t237.length co14) t237) ∧ Aside0 (wc.heap[gb235]? = some (.cells #[.int .i64 t231, (.slice Ao9 t232.length co9)] 30 (0, 0))) ∧ Aside0 (wc.heap[gb240]? = some (.cells #[.int .i64 t236, (.slice Ao14 t237.length co14)] 30 (0, 0))) ∧ Aside0 (Below w.heap.size w wc))
  case first =>
   have H := HC5.out
   clear HC5
   replace H := Option.bind_eq_some_iff.mp H
   obtain ⟨⟨t241, t242⟩, A150, H⟩ := H
   replace H : ((laws_llGrid.f k t236 t237 t241 t242).bind fun t245 => (if t245 = true then ((spec_GridOk.f k t231 t232).bind fun t246 => (laws_FnTurnFour.j0 k (!t246) t231 t232 t236 t237)) else (laws_FnTurnFour.j0 k true t231 t232 t236 t237))) = some r := H
   have A15 := Aside0.mk A150
   clear A150
   replace H := Option.bind_eq_some_iff.mp H
   obtain ⟨t245, A160, H⟩ := H
   replace H : (if t245 = true then ((spec_GridOk.f k t231 t232).bind fun t246 => (laws_FnTurnFour.j0 k (!t246) t231 t232 t236 t237)) else (laws_FnTurnFour.j0 k true t231 t232 t236 t237)) = some r := H
   have A16 := Aside0.mk A160
   clear A160
   by_cases c17 : t245 = true
   ·subst c17
    have H1 : ((spec_GridOk.f k t231 t232).bind fun t246 => (laws_FnTurnFour.j0 k (!t246) t231 t232 t236 t237)) = some r := by rw [if_pos rfl] at H; exact H
    clear H
    have H := H1
    clear H1
    replace H := Option.bind_eq_some_iff.mp H
    obtain ⟨t246, A180, H⟩ := H
    replace H : (laws_FnTurnFour.j0 k (!t246) t231 t232 t236 t237) = some r := H
    have A18 := Aside0.mk A180
    clear A180
    have H' := Aside0.mk H
    clear H
    try go_wp2
    have n0_ : Aside0 (Kd.Q k24 24 ((w11.setCell ⟨gb240, 0, none⟩ (.int .i64 t236)).setCell ⟨gb240, 1, none⟩ (.slice Ao14 t237.length co14)) w.heap.size (fun k_ => some k_ ≠ (.slice Ao14 t237.length co14 : Value).ownBlock) (.slice Ao9 t232.length co9) t232) := ⟨by (with_reducible repeat (first | apply Kd.Q_alloc | apply Kd.Q_drewN | apply Kd.Q_drew)); exact Kd.Q_mono (Kd.Q_far (p := ⟨gb240, 1, none⟩) (Kd.Q_far (p := ⟨gb240, 0, none⟩) (Kd.Q_types HO234.out BK240.out (by decide)) (fun _ hk => hk.2) (.int .i64 t236)) (fun _ hk => hk.2) (.slice Ao14 t237.length co14)) (fun _ hk => hk.1.2)⟩
    have n1_ : Aside0 (Kd.R k24 24 ((w11.setCell ⟨gb240, 0, none⟩ (.int .i64 t236)).setCell ⟨gb240, 1, none⟩ (.slice Ao14 t237.length co14)) w.heap.size (fun k_ => some k_ ≠ (.slice Ao9 t232.length co9 : Value).ownBlock) (.slice Ao14 t237.length co14) t237) := ⟨by (with_reducible repeat (first | apply Kd.R_alloc | apply Kd.R_drewN | apply Kd.R_drew)); exact Kd.R_mono (Kd.R_far (p := ⟨gb240, 1, none⟩) (Kd.R_far (p := ⟨gb240, 0, none⟩) (Kd.R_types HO239.out BK240.out (by decide)) (fun _ hk => hk.2) (.int .i64 t236)) (fun _ hk => hk.2) (.slice Ao14 t237.length co14)) (fun _ hk => hk.1.2)⟩
    have n2_ : Aside0 (((w11.setCell ⟨gb240, 0, none⟩ (.int .i64 t236)).setCell ⟨gb240, 1, none⟩ (.slice Ao14 t237.length co14)).heap[gb235]? = some (.cells #[.int .i64 t231, .slice Ao9 t232.length co9] 30 (0, 0))) := ⟨by (with_reducible repeat (first | refine blk_drewN ?_ _ | refine blk_drew ?_ | refine blk_alloc ?_ _)); refine blk_far ?_ NB235_240.out _; (with_reducible repeat (first | refine blk_drewN ?_ _ | refine blk_drew ?_ | refine blk_alloc ?_ _)); refine blk_far ?_ NB235_240.out _; (with_reducible repeat (first | refine blk_drewN ?_ _ | refine blk_drew ?_ | refine blk_alloc ?_ _)); exact BK235.out⟩
    have n3_ : Aside0 (((w11.setCell ⟨gb240, 0, none⟩ (.int .i64 t236)).setCell ⟨gb240, 1, none⟩ (.slice Ao14 t237.length co14)).heap[gb240]? = some (.cells #[.int .i64 t236, .slice Ao14 t237.length co14] 30 (0, 0))) := ⟨by (with_reducible repeat (first | refine blk_drewN ?_ _ | refine blk_drew ?_ | refine blk_alloc ?_ _)); refine blk_put (cs := #[.int .i64 t236, .slice none 0 0]) ?_ 1 _ rfl; (with_reducible repeat (first | refine blk_drewN ?_ _ | refine blk_drew ?_ | refine blk_alloc ?_ _)); refine blk_put (cs := #[.int .i64 0, .slice none 0 0]) ?_ 0 _ rfl; (with_reducible repeat (first | refine blk_drewN ?_ _ | refine blk_drew ?_ | refine blk_alloc ?_ _)); exact BK240.out⟩
    have n4_ : Aside0 (Below w.heap.size w ((w11.setCell ⟨gb240, 0, none⟩ (.int .i64 t236)).setCell ⟨gb240, 1, none⟩ (.slice Ao14 t237.length co14))) := ⟨by repeat (first | (with_reducible first | exact HB.out | apply below_alloc | apply pw_below_drewN | apply below_drew1 | refine below_set ?_ GE235.out | refine below_set ?_ GE240.out) | exact HB.out)⟩
    (try clear HO234)
    (try clear HO239)
    (try clear BK235)
    (try clear BK240)
    (try clear HB)
    generalize ((w11.setCell ⟨gb240, 0, none⟩ (.int .i64 t236)).setCell ⟨gb240, 1, none⟩ (.slice Ao14 t237.length co14)) = w19 at n0_ n1_ n2_ n3_ n4_ ⊢
    have HO234 := n0_
    have HO239 := n1_
    have BK235 := n2_
    have BK240 := n3_
    have HB := n4_
    clear n0_ n1_ n2_ n3_ n4_
    have n0_ := Aside0.mk (Kd.Q_drew HO234.out)
    have n1_ := Aside0.mk (Kd.R_drew HO239.out)
    have n2_ := Aside0.mk (blk_drew BK235.out)
    have n3_ := Aside0.mk (blk_drew BK240.out)
    have n4_ := Aside0.mk (below_drew1 HB.out)
    clear HO234
    clear HO239
    clear BK235
    clear BK240
    clear HB
    have HO234 := n0_
    have HO239 := n1_
    have BK235 := n2_
    have BK240 := n3_
    have HB := n4_
    clear n0_ n1_ n2_ n3_ n4_
    refine start_ (n := 10) (S := fun w' => w'.cell? ⟨gb240, 0, none⟩ = some (.int .i64 t236) ∧ w'.cell? ⟨gb240, 1, none⟩ = some (.slice Ao14 t237.length co14) ∧ w'.cell? ⟨gb235, 0, none⟩ = some (.int .i64 t231) ∧ w'.cell? ⟨gb235, 1, none⟩ = some (.slice Ao9 t232.length co9)) (ds := []) #[false, false, false, false, false, false, false, false, false, false] (by kernel_rfl) rfl rfl ⟨(blk_cell BK240.out 0).trans rfl, (blk_cell BK240.out 1).trans rfl, (blk_cell BK235.out 0).trans rfl, (blk_cell BK235.out 1).trans rfl⟩ (fun hHeld => ?_); refine with_tabW laws_FnTurnFour.tab5 laws_FnTurnFour.bits5 (fun HT_ HW_ => ?_)
    generalize w19.drew = w20 at HO234 HO239 BK235 BK240 HB hHeld ⊢
    refine take_ (i := 0) (N := some 15) (v := ?_) (a' := ?_) #[true, false, false, false, false, false, false, false, false, false] rfl rfl (take_ofW HT_.out HW_.out (by kernel_rfl)) (fun _ _ _ h => h) (Or.inl ⟨by rfl, ?_⟩) hHeld ?_ ?_
    rotate_left
    ·rintro w' ⟨s0, s1, s2, s3⟩
     go_simp
     with_reducible rfl
    rotate_left
    ·simp only [Act.put, List.setIfInBounds_toArray, List.set_cons_zero, List.set_cons_succ, i64_w, i32_w]
     rfl
    refine take_ (i := 1) (N := some 16) (v := ?_) (a' := ?_) #[true, true, false, false, false, false, false, false, false, false] rfl rfl (take_ofW HT_.out HW_.out (by kernel_rfl)) (fun _ _ _ h => h) (Or.inl ⟨by rfl, ?_⟩) hHeld ?_ ?_
    rotate_left
    ·rintro w' ⟨s0, s1, s2, s3⟩
     go_simp
     with_reducible rfl
    rotate_left
    ·simp only [Act.put, List.setIfInBounds_toArray, List.set_cons_zero, List.set_cons_succ, i64_w, i32_w]
     rfl
    refine one_ (i := 2) (N := some 17) #[true, true, true, false, false, false, false, false, false, false] rfl rfl (one_of HT_.out (by kernel_rfl)) (by decide) (fun K hK => ?_)
    refine goes_ Try.func20 (by kernel_rfl) rfl #[.agg #[.int .i64 t231, .slice Ao9 t232.length co9]] (by rfl) rfl rfl (by (try simp only [List.map_toArray, List.map_cons, List.map_nil]); first | done | rfl | (simp only [List.length_drop, List.length_take]; rfl)) ?_
    with_reducible refine (spec_GridTurn.calls k t231 _ _ t232 t241 t242 _ ?side1 ?side2 A15.out).mono ?_
    (case side1 => repeat (first | exact (Kd.Q_reads' HO234.out).2.2 | (with_reducible refine Kd.C_alloc ?_ _) | (with_reducible refine Kd.C_drewN ?_ _) | (with_reducible refine Kd.C_drew ?_)))
    (case side2 => exact (Kd.Q_reads' HO234.out).2.1)
    rintro e w21 ⟨v243, rfl, ho0, hb⟩
    refine ⟨_, rfl, ?_⟩
    have n0_ := Aside0.mk (Kd.Q_elder' (by (with_reducible repeat (first | apply Kd.Q_alloc | apply Kd.Q_drewN | apply Kd.Q_drew)); exact HO234.out) (Kd.R_base ho0) hb)
    have n1_ := Aside0.mk (Kd.R_elder' (kR HO239.out) (Kd.R_base ho0) hb)
    have n2_ := Aside0.mk (Kd.R_lower (Kd.R_new' (Kd.R_new' ho0 (Kd.Q_lt (by (with_reducible repeat (first | apply Kd.Q_alloc | apply Kd.Q_drewN | apply Kd.Q_drew)); exact HO234.out))) (Kd.R_lt (kR HO239.out))) (below_size (by repeat (first | (with_reducible first | exact HB.out | apply below_alloc | apply pw_below_drewN | apply below_drew1 | refine below_set ?_ GE235.out | refine below_set ?_ GE240.out) | exact HB.out))))
    have n3_ := Aside0.mk (blk_below (bK BK235.out) hb)
    have n4_ := Aside0.mk (blk_below (bK BK240.out) hb)
    have n5_ := Aside0.mk (below_step (by repeat (first | (with_reducible first | exact HB.out | apply below_alloc | apply pw_below_drewN | apply below_drew1 | refine below_set ?_ GE235.out | refine below_set ?_ GE240.out) | exact HB.out)) hb)
    clear HO234
    clear HO239
    clear BK235
    clear BK240
    clear HB
    have HO234 := n0_
    have HO239 := n1_
    have HO244 := n2_
    have BK235 := n3_
    have BK240 := n4_
    have HB := n5_
    clear n0_ n1_ n2_ n3_ n4_ n5_
    (try clear hb)
    (try clear hb2)
    (try clear hk)
    (try clear hi)
    (try clear ho0)
    obtain ⟨Ao22, co22, eo22⟩ := Kd.R_slice HO244.out
    (first | subst eo22 | (injection eo22 with f1_ f2_ f3_; have f4_ := f1_.symm; have f5_ := f3_.symm; clear f1_ f2_ f3_; subst f4_; subst f5_))
    refine hK.out _ _ ⟨(blk_cell BK240.out 0).trans rfl, (blk_cell BK240.out 1).trans rfl, (blk_cell BK235.out 0).trans rfl, (blk_cell BK235.out 1).trans rfl⟩ (fun hHeld => ?_)
    clear hK K
    refine norm_ (a' := ?_) ?_ ?_
    rotate_left
    ·show Act.put _ (some 17) _ = _
     simp only [Act.put, List.setIfInBounds_toArray, List.set_cons_zero, List.set_cons_succ, i64_w, i32_w]
     rfl
    refine one_ (i := 3) (N := some 18) #[true, true, true, true, false, false, false, false, false, false] rfl rfl (one_of HT_.out (by kernel_rfl)) (by decide) (fun K hK => ?_)
    refine goes_ Try.func19 (by kernel_rfl) rfl #[.agg #[.int .i64 t236, .slice Ao14 t237.length co14], .agg #[.int .i64 t241, .slice Ao22 t242.length co22]] (by rfl) rfl rfl (by (try simp only [List.map_toArray, List.map_cons, List.map_nil]); first | done | rfl | (simp only [List.length_drop, List.length_take]; rfl)) ?_
    with_reducible refine (laws_llGrid.calls k t236 _ _ t237 t241 _ _ t242 true _ ?side1 ?side2 ?side3 ?side4 A16.out).mono ?_
    (case side1 => repeat (first | exact (Kd.R_reads' HO239.out).2.2 | (with_reducible refine Kd.C_alloc ?_ _) | (with_reducible refine Kd.C_drewN ?_ _) | (with_reducible refine Kd.C_drew ?_)))
    (case side2 => exact (Kd.R_reads' HO239.out).2.1)
    (case side3 => repeat (first | exact (Kd.R_reads' HO244.out).2.2 | (with_reducible refine Kd.C_alloc ?_ _) | (with_reducible refine Kd.C_drewN ?_ _) | (with_reducible refine Kd.C_drew ?_)))
    (case side4 => exact (Kd.R_reads' HO244.out).2.1)
    rintro e w23 ⟨rfl, hb⟩
    refine ⟨_, rfl, ?_⟩
    have n0_ := Aside0.mk (Kd.Q_below (by (with_reducible repeat (first | apply Kd.Q_alloc | apply Kd.Q_drewN | apply Kd.Q_drew)); exact HO234.out) hb)
    have n1_ := Aside0.mk (Kd.R_below (kR HO239.out) hb)
    have n2_ := Aside0.mk (Kd.R_below (kR HO244.out) hb)
    have n3_ := Aside0.mk (blk_below (bK BK235.out) hb)
    have n4_ := Aside0.mk (blk_below (bK BK240.out) hb)
    have n5_ := Aside0.mk (below_step (by repeat (first | (with_reducible first | exact HB.out | apply below_alloc | apply pw_below_drewN | apply below_drew1 | refine below_set ?_ GE235.out | refine below_set ?_ GE240.out) | exact HB.out)) hb)
    clear HO234
    clear HO239
    clear HO244
    clear BK235
    clear BK240
    clear HB
    have HO234 := n0_
    have HO239 := n1_
    have HO244 := n2_
    have BK235 := n3_
    have BK240 := n4_
    have HB := n5_
    clear n0_ n1_ n2_ n3_ n4_ n5_
    (try clear hb)
    (try clear hb2)
    (try clear hk)
    (try clear hi)
    refine hK.out _ _ ⟨(blk_cell BK240.out 0).trans rfl, (blk_cell BK240.out 1).trans rfl, (blk_cell BK235.out 0).trans rfl, (blk_cell BK235.out 1).trans rfl⟩ (fun hHeld => ?_)
    clear hK K
    refine norm_ (a' := ?_) ?_ ?_
    rotate_left
    ·show Act.put _ (some 18) _ = _
     simp only [Act.put, List.setIfInBounds_toArray, List.set_cons_zero, List.set_cons_succ, i64_w, i32_w]
     rfl
    refine pure_ (i := 4) (N := some 19) (v := ?_) (a' := ?_) #[true, true, true, true, true, false, false, false, false, false] rfl rfl (any_of HT_.out (by kernel_rfl)) (fun _ _ _ h => h) (Or.inl ⟨by rfl, ?_⟩) ?_ ?_
    rotate_left
    ·intro w'
     go_simp
     with_reducible rfl
    rotate_left
    ·simp only [Act.put, List.setIfInBounds_toArray, List.set_cons_zero, List.set_cons_succ, i64_w, i32_w]
     rfl
    refine pure_ (i := 5) (N := some 20) (v := ?_) (a' := ?_) #[true, true, true, true, true, true, false, false, false, false] rfl rfl (any_of HT_.out (by kernel_rfl)) (fun _ _ _ h => h) (Or.inl ⟨by rfl, ?_⟩) ?_ ?_
    rotate_left
    ·intro w'
     go_simp
     with_reducible rfl
    rotate_left
    ·simp only [Act.put, List.setIfInBounds_toArray, List.set_cons_zero, List.set_cons_succ, i64_w, i32_w]
     rfl
    refine take_ (i := 6) (N := some 21) (v := ?_) (a' := ?_) #[true, true, true, true, true, true, true, false, false, false] rfl rfl (take_ofW HT_.out HW_.out (by kernel_rfl)) (fun _ _ _ h => h) (Or.inl ⟨by rfl, ?_⟩) hHeld ?_ ?_
    rotate_left
    ·rintro w' ⟨s0, s1, s2, s3⟩
     go_simp
     with_reducible rfl
    rotate_left
    ·simp only [Act.put, List.setIfInBounds_toArray, List.set_cons_zero, List.set_cons_succ, i64_w, i32_w]
     rfl
    refine one_ (i := 7) (N := some 22) #[true, true, true, true, true, true, true, true, false, false] rfl rfl (one_of HT_.out (by kernel_rfl)) (by decide) (fun K hK => ?_)
    refine goes_ Try.func21 (by kernel_rfl) rfl #[.agg #[.int .i64 t231, .slice Ao9 t232.length co9]] (by rfl) rfl rfl (by (try simp only [List.map_toArray, List.map_cons, List.map_nil]); first | done | rfl | (simp only [List.length_drop, List.length_take]; rfl)) ?_
    with_reducible refine (spec_GridOk.calls k t231 _ _ t232 t246 _ ?side1 ?side2 A18.out).mono ?_
    (case side1 => repeat (first | exact (Kd.Q_reads' HO234.out).2.2 | (with_reducible refine Kd.C_alloc ?_ _) | (with_reducible refine Kd.C_drewN ?_ _) | (with_reducible refine Kd.C_drew ?_)))
    (case side2 => exact (Kd.Q_reads' HO234.out).2.1)
    rintro e w24 ⟨rfl, hb⟩
    refine ⟨_, rfl, ?_⟩
    have n0_ := Aside0.mk (Kd.Q_below (by (with_reducible repeat (first | apply Kd.Q_alloc | apply Kd.Q_drewN | apply Kd.Q_drew)); exact HO234.out) hb)
    have n1_ := Aside0.mk (Kd.R_below (kR HO239.out) hb)
    have n2_ := Aside0.mk (Kd.R_below (kR HO244.out) hb)
    have n3_ := Aside0.mk (blk_below (bK BK235.out) hb)
    have n4_ := Aside0.mk (blk_below (bK BK240.out) hb)
    have n5_ := Aside0.mk (below_step (by repeat (first | (with_reducible first | exact HB.out | apply below_alloc | apply pw_below_drewN | apply below_drew1 | refine below_set ?_ GE235.out | refine below_set ?_ GE240.out) | exact HB.out)) hb)
    clear HO234
    clear HO239
    clear HO244
    clear BK235
    clear BK240
    clear HB
    have HO234 := n0_
    have HO239 := n1_
    have HO244 := n2_
    have BK235 := n3_
    have BK240 := n4_
    have HB := n5_
    clear n0_ n1_ n2_ n3_ n4_ n5_
    (try clear hb)
    (try clear hb2)
    (try clear hk)
    (try clear hi)
    refine hK.out _ _ ⟨(blk_cell BK240.out 0).trans rfl, (blk_cell BK240.out 1).trans rfl, (blk_cell BK235.out 0).trans rfl, (blk_cell BK235.out 1).trans rfl⟩ (fun hHeld => ?_)
    clear hK K
    refine norm_ (a' := ?_) ?_ ?_
    rotate_left
    ·show Act.put _ (some 22) _ = _
     simp only [Act.put, List.setIfInBounds_toArray, List.set_cons_zero, List.set_cons_succ, i64_w, i32_w]
     rfl
    refine pure_ (i := 8) (N := some 23) (v := ?_) (a' := ?_) #[true, true, true, true, true, true, true, true, true, false] rfl rfl (any_of HT_.out (by kernel_rfl)) (fun _ _ _ h => h) (Or.inl ⟨by rfl, ?_⟩) ?_ ?_
    rotate_left
    ·intro w'
     go_simp
     with_reducible rfl
    rotate_left
    ·simp only [Act.put, List.setIfInBounds_toArray, List.set_cons_zero, List.set_cons_succ, i64_w, i32_w]
     rfl
    refine pure_ (i := 9) (N := some 24) (v := ?_) (a' := ?_) #[true, true, true, true, true, true, true, true, true, true] rfl rfl (any_of HT_.out (by kernel_rfl)) (fun _ _ _ h => h) (Or.inl ⟨by rfl, ?_⟩) ?_ ?_
    rotate_left
    ·intro w'
     go_simp
     with_reducible rfl
    rotate_left
    ·simp only [Act.put, List.setIfInBounds_toArray, List.set_cons_zero, List.set_cons_succ, i64_w, i32_w]
     rfl
    refine done_ (done_of HT_.out (by kernel_rfl)) ?_
    try go_wp2
    go_meet
    case rel => exact ⟨_, (!t246), (by first | rfl | (simp; done) | (simp [*]; done)), H', ⟨by first | omega | exact Nat.le_refl _⟩, ⟨by (with_reducible repeat (first | apply Kd.Q_alloc | apply Kd.Q_drewN | apply Kd.Q_drew)); exact Kd.Q_mono HO234.out (fun _ hk => hk.1)⟩, ⟨Kd.Q_of_R (by (with_reducible repeat (first | apply Kd.R_alloc | apply Kd.R_drewN | apply Kd.R_drew)); exact Kd.R_mono HO239.out (fun _ hk => hk.1))⟩, ⟨by (with_reducible repeat (first | refine blk_drewN ?_ _ | refine blk_drew ?_ | refine blk_alloc ?_ _)); exact BK235.out⟩, ⟨by (with_reducible repeat (first | refine blk_drewN ?_ _ | refine blk_drew ?_ | refine blk_alloc ?_ _)); exact BK240.out⟩, ⟨by repeat (first | (with_reducible first | exact HB.out | apply below_alloc | apply pw_below_drewN | apply below_drew1 | refine below_set ?_ GE235.out | refine below_set ?_ GE240.out) | exact HB.out)⟩⟩
   ·replace c17 := Bool.eq_false_iff.mpr c17
    subst c17
    have H1 : (laws_FnTurnFour.j0 k true t231 t232 t236 t237) = some r := by rw [if_neg (show ¬ (false = true) by decide)] at H; exact H
    clear H
    have H := H1
    clear H1
    have H' := Aside0.mk H
    clear H
    try go_wp2
    have n0_ : Aside0 (Kd.Q k24 24 ((w11.setCell ⟨gb240, 0, none⟩ (.int .i64 t236)).setCell ⟨gb240, 1, none⟩ (.slice Ao14 t237.length co14)) w.heap.size (fun k_ => some k_ ≠ (.slice Ao14 t237.length co14 : Value).ownBlock) (.slice Ao9 t232.length co9) t232) := ⟨by (with_reducible repeat (first | apply Kd.Q_alloc | apply Kd.Q_drewN | apply Kd.Q_drew)); exact Kd.Q_mono (Kd.Q_far (p := ⟨gb240, 1, none⟩) (Kd.Q_far (p := ⟨gb240, 0, none⟩) (Kd.Q_types HO234.out BK240.out (by decide)) (fun _ hk => hk.2) (.int .i64 t236)) (fun _ hk => hk.2) (.slice Ao14 t237.length co14)) (fun _ hk => hk.1.2)⟩
    have n1_ : Aside0 (Kd.R k24 24 ((w11.setCell ⟨gb240, 0, none⟩ (.int .i64 t236)).setCell ⟨gb240, 1, none⟩ (.slice Ao14 t237.length co14)) w.heap.size (fun k_ => some k_ ≠ (.slice Ao9 t232.length co9 : Value).ownBlock) (.slice Ao14 t237.length co14) t237) := ⟨by (with_reducible repeat (first | apply Kd.R_alloc | apply Kd.R_drewN | apply Kd.R_drew)); exact Kd.R_mono (Kd.R_far (p := ⟨gb240, 1, none⟩) (Kd.R_far (p := ⟨gb240, 0, none⟩) (Kd.R_types HO239.out BK240.out (by decide)) (fun _ hk => hk.2) (.int .i64 t236)) (fun _ hk => hk.2) (.slice Ao14 t237.length co14)) (fun _ hk => hk.1.2)⟩
    have n2_ : Aside0 (((w11.setCell ⟨gb240, 0, none⟩ (.int .i64 t236)).setCell ⟨gb240, 1, none⟩ (.slice Ao14 t237.length co14)).heap[gb235]? = some (.cells #[.int .i64 t231, .slice Ao9 t232.length co9] 30 (0, 0))) := ⟨by (with_reducible repeat (first | refine blk_drewN ?_ _ | refine blk_drew ?_ | refine blk_alloc ?_ _)); refine blk_far ?_ NB235_240.out _; (with_reducible repeat (first | refine blk_drewN ?_ _ | refine blk_drew ?_ | refine blk_alloc ?_ _)); refine blk_far ?_ NB235_240.out _; (with_reducible repeat (first | refine blk_drewN ?_ _ | refine blk_drew ?_ | refine blk_alloc ?_ _)); exact BK235.out⟩
    have n3_ : Aside0 (((w11.setCell ⟨gb240, 0, none⟩ (.int .i64 t236)).setCell ⟨gb240, 1, none⟩ (.slice Ao14 t237.length co14)).heap[gb240]? = some (.cells #[.int .i64 t236, .slice Ao14 t237.length co14] 30 (0, 0))) := ⟨by (with_reducible repeat (first | refine blk_drewN ?_ _ | refine blk_drew ?_ | refine blk_alloc ?_ _)); refine blk_put (cs := #[.int .i64 t236, .slice none 0 0]) ?_ 1 _ rfl; (with_reducible repeat (first | refine blk_drewN ?_ _ | refine blk_drew ?_ | refine blk_alloc ?_ _)); refine blk_put (cs := #[.int .i64 0, .slice none 0 0]) ?_ 0 _ rfl; (with_reducible repeat (first | refine blk_drewN ?_ _ | refine blk_drew ?_ | refine blk_alloc ?_ _)); exact BK240.out⟩
    have n4_ : Aside0 (Below w.heap.size w ((w11.setCell ⟨gb240, 0, none⟩ (.int .i64 t236)).setCell ⟨gb240, 1, none⟩ (.slice Ao14 t237.length co14))) := ⟨by repeat (first | (with_reducible first | exact HB.out | apply below_alloc | apply pw_below_drewN | apply below_drew1 | refine below_set ?_ GE235.out | refine below_set ?_ GE240.out) | exact HB.out)⟩
    (try clear HO234)
    (try clear HO239)
    (try clear BK235)
    (try clear BK240)
    (try clear HB)
    generalize ((w11.setCell ⟨gb240, 0, none⟩ (.int .i64 t236)).setCell ⟨gb240, 1, none⟩ (.slice Ao14 t237.length co14)) = w25 at n0_ n1_ n2_ n3_ n4_ ⊢
    have HO234 := n0_
    have HO239 := n1_
    have BK235 := n2_
    have BK240 := n3_
    have HB := n4_
    clear n0_ n1_ n2_ n3_ n4_
    have n0_ := Aside0.mk (Kd.Q_drew HO234.out)
    have n1_ := Aside0.mk (Kd.R_drew HO239.out)
    have n2_ := Aside0.mk (blk_drew BK235.out)
    have n3_ := Aside0.mk (blk_drew BK240.out)
    have n4_ := Aside0.mk (below_drew1 HB.out)
    clear HO234
    clear HO239
    clear BK235
    clear BK240
    clear HB
    have HO234 := n0_
    have HO239 := n1_
    have BK235 := n2_
    have BK240 := n3_
    have HB := n4_
    clear n0_ n1_ n2_ n3_ n4_
    refine start_ (n := 10) (S := fun w' => w'.cell? ⟨gb240, 0, none⟩ = some (.int .i64 t236) ∧ w'.cell? ⟨gb240, 1, none⟩ = some (.slice Ao14 t237.length co14) ∧ w'.cell? ⟨gb235, 0, none⟩ = some (.int .i64 t231) ∧ w'.cell? ⟨gb235, 1, none⟩ = some (.slice Ao9 t232.length co9)) (ds := []) #[false, false, false, false, false, false, false, false, false, false] (by kernel_rfl) rfl rfl ⟨(blk_cell BK240.out 0).trans rfl, (blk_cell BK240.out 1).trans rfl, (blk_cell BK235.out 0).trans rfl, (blk_cell BK235.out 1).trans rfl⟩ (fun hHeld => ?_); refine with_tabW laws_FnTurnFour.tab5 laws_FnTurnFour.bits5 (fun HT_ HW_ => ?_)
    generalize w25.drew = w26 at HO234 HO239 BK235 BK240 HB hHeld ⊢
    refine take_ (i := 0) (N := some 15) (v := ?_) (a' := ?_) #[true, false, false, false, false, false, false, false, false, false] rfl rfl (take_ofW HT_.out HW_.out (by kernel_rfl)) (fun _ _ _ h => h) (Or.inl ⟨by rfl, ?_⟩) hHeld ?_ ?_
    rotate_left
    ·rintro w' ⟨s0, s1, s2, s3⟩
     go_simp
     with_reducible rfl
    rotate_left
    ·simp only [Act.put, List.setIfInBounds_toArray, List.set_cons_zero, List.set_cons_succ, i64_w, i32_w]
     rfl
    refine take_ (i := 1) (N := some 16) (v := ?_) (a' := ?_) #[true, true, false, false, false, false, false, false, false, false] rfl rfl (take_ofW HT_.out HW_.out (by kernel_rfl)) (fun _ _ _ h => h) (Or.inl ⟨by rfl, ?_⟩) hHeld ?_ ?_
    rotate_left
    ·rintro w' ⟨s0, s1, s2, s3⟩
     go_simp
     with_reducible rfl
    rotate_left
    ·simp only [Act.put, List.setIfInBounds_toArray, List.set_cons_zero, List.set_cons_succ, i64_w, i32_w]
     rfl
    refine one_ (i := 2) (N := some 17) #[true, true, true, false, false, false, false, false, false, false] rfl rfl (one_of HT_.out (by kernel_rfl)) (by decide) (fun K hK => ?_)
    refine goes_ Try.func20 (by kernel_rfl) rfl #[.agg #[.int .i64 t231, .slice Ao9 t232.length co9]] (by rfl) rfl rfl (by (try simp only [List.map_toArray, List.map_cons, List.map_nil]); first | done | rfl | (simp only [List.length_drop, List.length_take]; rfl)) ?_
    with_reducible refine (spec_GridTurn.calls k t231 _ _ t232 t241 t242 _ ?side1 ?side2 A15.out).mono ?_
    (case side1 => repeat (first | exact (Kd.Q_reads' HO234.out).2.2 | (with_reducible refine Kd.C_alloc ?_ _) | (with_reducible refine Kd.C_drewN ?_ _) | (with_reducible refine Kd.C_drew ?_)))
    (case side2 => exact (Kd.Q_reads' HO234.out).2.1)
    rintro e w27 ⟨v243, rfl, ho0, hb⟩
    refine ⟨_, rfl, ?_⟩
    have n0_ := Aside0.mk (Kd.Q_elder' (by (with_reducible repeat (first | apply Kd.Q_alloc | apply Kd.Q_drewN | apply Kd.Q_drew)); exact HO234.out) (Kd.R_base ho0) hb)
    have n1_ := Aside0.mk (Kd.R_elder' (kR HO239.out) (Kd.R_base ho0) hb)
    have n2_ := Aside0.mk (Kd.R_lower (Kd.R_new' (Kd.R_new' ho0 (Kd.Q_lt (by (with_reducible repeat (first | apply Kd.Q_alloc | apply Kd.Q_drewN | apply Kd.Q_drew)); exact HO234.out))) (Kd.R_lt (kR HO239.out))) (below_size (by repeat (first | (with_reducible first | exact HB.out | apply below_alloc | apply pw_below_drewN | apply below_drew1 | refine below_set ?_ GE235.out | refine below_set ?_ GE240.out) | exact HB.out))))
    have n3_ := Aside0.mk (blk_below (bK BK235.out) hb)
    have n4_ := Aside0.mk (blk_below (bK BK240.out) hb)
    have n5_ := Aside0.mk (below_step (by repeat (first | (with_reducible first | exact HB.out | apply below_alloc | apply pw_below_drewN | apply below_drew1 | refine below_set ?_ GE235.out | refine below_set ?_ GE240.out) | exact HB.out)) hb)
    clear HO234
    clear HO239
    clear BK235
    clear BK240
    clear HB
    have HO234 := n0_
    have HO239 := n1_
    have HO244 := n2_
    have BK235 := n3_
    have BK240 := n4_
    have HB := n5_
    clear n0_ n1_ n2_ n3_ n4_ n5_
    (try clear hb)
    (try clear hb2)
    (try clear hk)
    (try clear hi)
    (try clear ho0)
    obtain ⟨Ao28, co28, eo28⟩ := Kd.R_slice HO244.out
    (first | subst eo28 | (injection eo28 with f1_ f2_ f3_; have f4_ := f1_.symm; have f5_ := f3_.symm; clear f1_ f2_ f3_; subst f4_; subst f5_))
    refine hK.out _ _ ⟨(blk_cell BK240.out 0).trans rfl, (blk_cell BK240.out 1).trans rfl, (blk_cell BK235.out 0).trans rfl, (blk_cell BK235.out 1).trans rfl⟩ (fun hHeld => ?_)
    clear hK K
    refine norm_ (a' := ?_) ?_ ?_
    rotate_left
    ·show Act.put _ (some 17) _ = _
     simp only [Act.put, List.setIfInBounds_toArray, List.set_cons_zero, List.set_cons_succ, i64_w, i32_w]
     rfl
    refine one_ (i := 3) (N := some 18) #[true, true, true, true, false, false, false, false, false, false] rfl rfl (one_of HT_.out (by kernel_rfl)) (by decide) (fun K hK => ?_)
    refine goes_ Try.func19 (by kernel_rfl) rfl #[.agg #[.int .i64 t236, .slice Ao14 t237.length co14], .agg #[.int .i64 t241, .slice Ao28 t242.length co28]] (by rfl) rfl rfl (by (try simp only [List.map_toArray, List.map_cons, List.map_nil]); first | done | rfl | (simp only [List.length_drop, List.length_take]; rfl)) ?_
    with_reducible refine (laws_llGrid.calls k t236 _ _ t237 t241 _ _ t242 false _ ?side1 ?side2 ?side3 ?side4 A16.out).mono ?_
    (case side1 => repeat (first | exact (Kd.R_reads' HO239.out).2.2 | (with_reducible refine Kd.C_alloc ?_ _) | (with_reducible refine Kd.C_drewN ?_ _) | (with_reducible refine Kd.C_drew ?_)))
    (case side2 => exact (Kd.R_reads' HO239.out).2.1)
    (case side3 => repeat (first | exact (Kd.R_reads' HO244.out).2.2 | (with_reducible refine Kd.C_alloc ?_ _) | (with_reducible refine Kd.C_drewN ?_ _) | (with_reducible refine Kd.C_drew ?_)))
    (case side4 => exact (Kd.R_reads' HO244.out).2.1)
    rintro e w29 ⟨rfl, hb⟩
    refine ⟨_, rfl, ?_⟩
    have n0_ := Aside0.mk (Kd.Q_below (by (with_reducible repeat (first | apply Kd.Q_alloc | apply Kd.Q_drewN | apply Kd.Q_drew)); exact HO234.out) hb)
    have n1_ := Aside0.mk (Kd.R_below (kR HO239.out) hb)
    have n2_ := Aside0.mk (Kd.R_below (kR HO244.out) hb)
    have n3_ := Aside0.mk (blk_below (bK BK235.out) hb)
    have n4_ := Aside0.mk (blk_below (bK BK240.out) hb)
    have n5_ := Aside0.mk (below_step (by repeat (first | (with_reducible first | exact HB.out | apply below_alloc | apply pw_below_drewN | apply below_drew1 | refine below_set ?_ GE235.out | refine below_set ?_ GE240.out) | exact HB.out)) hb)
    clear HO234
    clear HO239
    clear HO244
    clear BK235
    clear BK240
    clear HB
    have HO234 := n0_
    have HO239 := n1_
    have HO244 := n2_
    have BK235 := n3_
    have BK240 := n4_
    have HB := n5_
    clear n0_ n1_ n2_ n3_ n4_ n5_
    (try clear hb)
    (try clear hb2)
    (try clear hk)
    (try clear hi)
    refine hK.out _ _ ⟨(blk_cell BK240.out 0).trans rfl, (blk_cell BK240.out 1).trans rfl, (blk_cell BK235.out 0).trans rfl, (blk_cell BK235.out 1).trans rfl⟩ (fun hHeld => ?_)
    clear hK K
    refine norm_ (a' := ?_) ?_ ?_
    rotate_left
    ·show Act.put _ (some 18) _ = _
     simp only [Act.put, List.setIfInBounds_toArray, List.set_cons_zero, List.set_cons_succ, i64_w, i32_w]
     rfl
    refine pure_ (i := 4) (N := some 19) (v := ?_) (a' := ?_) #[true, true, true, true, true, false, false, false, false, false] rfl rfl (any_of HT_.out (by kernel_rfl)) (fun _ _ _ h => h) (Or.inl ⟨by rfl, ?_⟩) ?_ ?_
    rotate_left
    ·intro w'
     go_simp
     with_reducible rfl
    rotate_left
    ·simp only [Act.put, List.setIfInBounds_toArray, List.set_cons_zero, List.set_cons_succ, i64_w, i32_w]
     rfl
    refine pure_ (i := 5) (N := some 20) (v := ?_) (a' := ?_) #[true, true, true, true, true, true, false, false, false, false] rfl rfl (any_of HT_.out (by kernel_rfl)) (fun _ _ _ h => h) (Or.inl ⟨by rfl, ?_⟩) ?_ ?_
    rotate_left
    ·intro w'
     go_simp
     with_reducible rfl
    rotate_left
    ·simp only [Act.put, List.setIfInBounds_toArray, List.set_cons_zero, List.set_cons_succ, i64_w, i32_w]
     rfl
    refine pure_ (i := 6) (N := some 21) (v := undef) (a' := ?_) #[true, true, true, true, true, true, true, false, false, false] rfl rfl (any_of HT_.out (by kernel_rfl)) (fun _ _ _ h => h) (Or.inr ⟨by rfl, rfl⟩) ?_ ?_
    rotate_left
    ·simp only [Act.put, List.setIfInBounds_toArray, List.set_cons_zero, List.set_cons_succ, i64_w, i32_w]
     rfl
    refine pure_ (i := 7) (N := some 22) (v := undef) (a' := ?_) #[true, true, true, true, true, true, true, true, false, false] rfl rfl (any_of HT_.out (by kernel_rfl)) (fun _ _ _ h => h) (Or.inr ⟨by rfl, rfl⟩) ?_ ?_
    rotate_left
    ·simp only [Act.put, List.setIfInBounds_toArray, List.set_cons_zero, List.set_cons_succ, i64_w, i32_w]
     rfl
    refine pure_ (i := 8) (N := some 23) (v := undef) (a' := ?_) #[true, true, true, true, true, true, true, true, true, false] rfl rfl (any_of HT_.out (by kernel_rfl)) (fun _ _ _ h => h) (Or.inr ⟨by rfl, rfl⟩) ?_ ?_
    rotate_left
    ·simp only [Act.put, List.setIfInBounds_toArray, List.set_cons_zero, List.set_cons_succ, i64_w, i32_w]
     rfl
    refine pure_ (i := 9) (N := some 24) (v := ?_) (a' := ?_) #[true, true, true, true, true, true, true, true, true, true] rfl rfl (any_of HT_.out (by kernel_rfl)) (fun _ _ _ h => h) (Or.inl ⟨by rfl, ?_⟩) ?_ ?_
    rotate_left
    ·intro w'
     go_simp
     with_reducible rfl
    rotate_left
    ·simp only [Act.put, List.setIfInBounds_toArray, List.set_cons_zero, List.set_cons_succ, i64_w, i32_w]
     rfl
    refine done_ (done_of HT_.out (by kernel_rfl)) ?_
    try go_wp2
    go_meet
    case rel => exact ⟨_, (true), (by first | rfl | (simp; done) | (simp [*]; done)), H', ⟨by first | omega | exact Nat.le_refl _⟩, ⟨by (with_reducible repeat (first | apply Kd.Q_alloc | apply Kd.Q_drewN | apply Kd.Q_drew)); exact Kd.Q_mono HO234.out (fun _ hk => hk.1)⟩, ⟨Kd.Q_of_R (by (with_reducible repeat (first | apply Kd.R_alloc | apply Kd.R_drewN | apply Kd.R_drew)); exact Kd.R_mono HO239.out (fun _ hk => hk.1))⟩, ⟨by (with_reducible repeat (first | refine blk_drewN ?_ _ | refine blk_drew ?_ | refine blk_alloc ?_ _)); exact BK235.out⟩, ⟨by (with_reducible repeat (first | refine blk_drewN ?_ _ | refine blk_drew ?_ | refine blk_alloc ?_ _)); exact BK240.out⟩, ⟨by repeat (first | (with_reducible first | exact HB.out | apply below_alloc | apply pw_below_drewN | apply below_drew1 | refine below_set ?_ GE235.out | refine below_set ?_ GE240.out) | exact HB.out)⟩⟩
  case rest =>
   clear HC5
   try clear c1
   try clear c2
   try clear c2b0
   try clear c2b1
   try clear p2
   try clear c4
   try clear c12
   try clear c17
   try clear c18
   try clear c19
   try clear c20
   try clear c21
   try clear hcz13_0
   try clear hcz13_1
   try clear hcz8_0
   try clear hcz8_1
   try clear hfz13_0
   try clear hfz13_1
   try clear hfz8_0
   try clear hfz8_1
   obtain ⟨kq, x24_4, rfl, HA, HJ4, HO_236001, HO_241001, BK235, BK240, HB⟩ := hcut
   cases kq with
   | zero => exact absurd HA.out (by simp [laws_FnTurnFour.j0])
   | succ kj4 =>
    have H := HA.out
    clear HA
    simp only [laws_FnTurnFour.j0] at H
    by_cases c30 : x24_4 = true
    ·subst c30
     have H1 : ((spec_GridTurn.f kj4 t231 t232).bind fun bt247 => ((laws_llGrid.f kj4 t236 t237 bt247.1 bt247.2).bind fun t251 => (some t251))) = some r := by rw [if_pos rfl] at H; exact H
     clear H
     have H := H1
     clear H1
     replace H := Option.bind_eq_some_iff.mp H
     obtain ⟨⟨t247, t248⟩, A310, H⟩ := H
     replace H : ((laws_llGrid.f kj4 t236 t237 t247 t248).bind fun t251 => (some t251)) = some r := H
     have A31 := Aside0.mk A310
     clear A310
     replace H := Option.bind_eq_some_iff.mp H
     obtain ⟨t251, A320, H⟩ := H
     replace H : (some t251) = some r := H
     have A32 := Aside0.mk A320
     clear A320
     obtain rfl := Option.some.inj H
     try go_wp2
     have n0_ := Aside0.mk (Kd.Q_drew HO_236001.out)
     have n1_ := Aside0.mk (Kd.Q_drew HO_241001.out)
     have n2_ := Aside0.mk (blk_drew BK235.out)
     have n3_ := Aside0.mk (blk_drew BK240.out)
     have n4_ := Aside0.mk (below_drew1 HB.out)
     clear HO_236001
     clear HO_241001
     clear BK235
     clear BK240
     clear HB
     have HO_236001 := n0_
     have HO_241001 := n1_
     have BK235 := n2_
     have BK240 := n3_
     have HB := n4_
     clear n0_ n1_ n2_ n3_ n4_
     refine start_ (n := 5) (S := fun w' => w'.cell? ⟨gb240, 0, none⟩ = some (.int .i64 t236) ∧ w'.cell? ⟨gb240, 1, none⟩ = some (.slice Ao14 t237.length co14) ∧ w'.cell? ⟨gb235, 0, none⟩ = some (.int .i64 t231) ∧ w'.cell? ⟨gb235, 1, none⟩ = some (.slice Ao9 t232.length co9)) (ds := []) #[false, false, false, false, false] (by kernel_rfl) rfl rfl ⟨(blk_cell BK240.out 0).trans rfl, (blk_cell BK240.out 1).trans rfl, (blk_cell BK235.out 0).trans rfl, (blk_cell BK235.out 1).trans rfl⟩ (fun hHeld => ?_)
     generalize wc.drew = w33 at HO_236001 HO_241001 BK235 BK240 HB hHeld ⊢
     refine take_ (i := 0) (N := some 25) (v := ?_) (a' := ?_) #[true, false, false, false, false] rfl rfl (by kernel_rfl) (fun _ _ _ h => h) (Or.inl ⟨by rfl, ?_⟩) hHeld ?_ ?_
     rotate_left
     ·rintro w' ⟨s0, s1, s2, s3⟩
      go_simp
      with_reducible rfl
     rotate_left
     ·simp only [Act.put, List.setIfInBounds_toArray, List.set_cons_zero, List.set_cons_succ, i64_w, i32_w]
      rfl
     refine take_ (i := 1) (N := some 26) (v := ?_) (a' := ?_) #[true, true, false, false, false] rfl rfl (by kernel_rfl) (fun _ _ _ h => h) (Or.inl ⟨by rfl, ?_⟩) hHeld ?_ ?_
     rotate_left
     ·rintro w' ⟨s0, s1, s2, s3⟩
      go_simp
      with_reducible rfl
     rotate_left
     ·simp only [Act.put, List.setIfInBounds_toArray, List.set_cons_zero, List.set_cons_succ, i64_w, i32_w]
      rfl
     refine one_ (i := 2) (N := some 27) #[true, true, true, false, false] rfl rfl (by kernel_rfl) (by decide) (fun K hK => ?_)
     refine goes_ Try.func20 (by kernel_rfl) rfl #[.agg #[.int .i64 t231, .slice Ao9 t232.length co9]] (by rfl) rfl rfl (by (try simp only [List.map_toArray, List.map_cons, List.map_nil]); first | done | rfl | (simp only [List.length_drop, List.length_take]; rfl)) ?_
     with_reducible refine (spec_GridTurn.calls kj4 t231 _ _ t232 t247 t248 _ ?side1 ?side2 A31.out).mono ?_
     (case side1 => repeat (first | exact (Kd.Q_reads' HO_236001.out).2.2 | (with_reducible refine Kd.C_alloc ?_ _) | (with_reducible refine Kd.C_drewN ?_ _) | (with_reducible refine Kd.C_drew ?_)))
     (case side2 => exact (Kd.Q_reads' HO_236001.out).2.1)
     rintro e w34 ⟨v249, rfl, ho0, hb⟩
     refine ⟨_, rfl, ?_⟩
     have n0_ := Aside0.mk (Kd.Q_elder' (by (with_reducible repeat (first | apply Kd.Q_alloc | apply Kd.Q_drewN | apply Kd.Q_drew)); exact HO_236001.out) (Kd.R_base ho0) hb)
     have n1_ := Aside0.mk (Kd.Q_elder' (by (with_reducible repeat (first | apply Kd.Q_alloc | apply Kd.Q_drewN | apply Kd.Q_drew)); exact HO_241001.out) (Kd.R_base ho0) hb)
     have n2_ := Aside0.mk (Kd.R_lower (Kd.R_new' (Kd.R_new' ho0 (Kd.Q_lt (by (with_reducible repeat (first | apply Kd.Q_alloc | apply Kd.Q_drewN | apply Kd.Q_drew)); exact HO_236001.out))) (Kd.Q_lt (by (with_reducible repeat (first | apply Kd.Q_alloc | apply Kd.Q_drewN | apply Kd.Q_drew)); exact HO_241001.out))) (below_size (by repeat (first | (with_reducible first | exact HB.out | apply below_alloc | apply pw_below_drewN | apply below_drew1 | refine below_set ?_ GE235.out | refine below_set ?_ GE240.out) | exact HB.out))))
     have n3_ := Aside0.mk (blk_below (bK BK235.out) hb)
     have n4_ := Aside0.mk (blk_below (bK BK240.out) hb)
     have n5_ := Aside0.mk (below_step (by repeat (first | (with_reducible first | exact HB.out | apply below_alloc | apply pw_below_drewN | apply below_drew1 | refine below_set ?_ GE235.out | refine below_set ?_ GE240.out) | exact HB.out)) hb)
     clear HO_236001
     clear HO_241001
     clear BK235
     clear BK240
     clear HB
     have HO_236001 := n0_
     have HO_241001 := n1_
     have HO250 := n2_
     have BK235 := n3_
     have BK240 := n4_
     have HB := n5_
     clear n0_ n1_ n2_ n3_ n4_ n5_
     (try clear hb)
     (try clear hb2)
     (try clear hk)
     (try clear hi)
     (try clear ho0)
     obtain ⟨Ao35, co35, eo35⟩ := Kd.R_slice HO250.out
     (first | subst eo35 | (injection eo35 with f1_ f2_ f3_; have f4_ := f1_.symm; have f5_ := f3_.symm; clear f1_ f2_ f3_; subst f4_; subst f5_))
     refine hK.out _ _ ⟨(blk_cell BK240.out 0).trans rfl, (blk_cell BK240.out 1).trans rfl, (blk_cell BK235.out 0).trans rfl, (blk_cell BK235.out 1).trans rfl⟩ (fun hHeld => ?_)
     clear hK K
     refine norm_ (a' := ?_) ?_ ?_
     rotate_left
     ·show Act.put _ (some 27) _ = _
      simp only [Act.put, List.setIfInBounds_toArray, List.set_cons_zero, List.set_cons_succ, i64_w, i32_w]
      rfl
     refine one_ (i := 3) (N := some 28) #[true, true, true, true, false] rfl rfl (by kernel_rfl) (by decide) (fun K hK => ?_)
     refine goes_ Try.func19 (by kernel_rfl) rfl #[.agg #[.int .i64 t236, .slice Ao14 t237.length co14], .agg #[.int .i64 t247, .slice Ao35 t248.length co35]] (by rfl) rfl rfl (by (try simp only [List.map_toArray, List.map_cons, List.map_nil]); first | done | rfl | (simp only [List.length_drop, List.length_take]; rfl)) ?_
     with_reducible refine (laws_llGrid.calls kj4 t236 _ _ t237 t247 _ _ t248 t251 _ ?side1 ?side2 ?side3 ?side4 A32.out).mono ?_
     (case side1 => repeat (first | exact (Kd.Q_reads' HO_241001.out).2.2 | (with_reducible refine Kd.C_alloc ?_ _) | (with_reducible refine Kd.C_drewN ?_ _) | (with_reducible refine Kd.C_drew ?_)))
     (case side2 => exact (Kd.Q_reads' HO_241001.out).2.1)
     (case side3 => repeat (first | exact (Kd.R_reads' HO250.out).2.2 | (with_reducible refine Kd.C_alloc ?_ _) | (with_reducible refine Kd.C_drewN ?_ _) | (with_reducible refine Kd.C_drew ?_)))
     (case side4 => exact (Kd.R_reads' HO250.out).2.1)
     rintro e w36 ⟨rfl, hb⟩
     refine ⟨_, rfl, ?_⟩
     have n0_ := Aside0.mk (Kd.Q_below (by (with_reducible repeat (first | apply Kd.Q_alloc | apply Kd.Q_drewN | apply Kd.Q_drew)); exact HO_236001.out) hb)
     have n1_ := Aside0.mk (Kd.Q_below (by (with_reducible repeat (first | apply Kd.Q_alloc | apply Kd.Q_drewN | apply Kd.Q_drew)); exact HO_241001.out) hb)
     have n2_ := Aside0.mk (Kd.R_below (kR HO250.out) hb)
     have n3_ := Aside0.mk (blk_below (bK BK235.out) hb)
     have n4_ := Aside0.mk (blk_below (bK BK240.out) hb)
     have n5_ := Aside0.mk (below_step (by repeat (first | (with_reducible first | exact HB.out | apply below_alloc | apply pw_below_drewN | apply below_drew1 | refine below_set ?_ GE235.out | refine below_set ?_ GE240.out) | exact HB.out)) hb)
     clear HO_236001
     clear HO_241001
     clear HO250
     clear BK235
     clear BK240
     clear HB
     have HO_236001 := n0_
     have HO_241001 := n1_
     have HO250 := n2_
     have BK235 := n3_
     have BK240 := n4_
     have HB := n5_
     clear n0_ n1_ n2_ n3_ n4_ n5_
     (try clear hb)
     (try clear hb2)
     (try clear hk)
     (try clear hi)
     refine hK.out _ _ ⟨(blk_cell BK240.out 0).trans rfl, (blk_cell BK240.out 1).trans rfl, (blk_cell BK235.out 0).trans rfl, (blk_cell BK235.out 1).trans rfl⟩ (fun hHeld => ?_)
     clear hK K
     refine norm_ (a' := ?_) ?_ ?_
     rotate_left
     ·show Act.put _ (some 28) _ = _
      simp only [Act.put, List.setIfInBounds_toArray, List.set_cons_zero, List.set_cons_succ, i64_w, i32_w]
      rfl
     refine pure_ (i := 4) (N := some 2) (v := ?_) (a' := ?_) #[true, true, true, true, true] rfl rfl (by kernel_rfl) (fun _ _ _ h => h) (Or.inl ⟨by rfl, ?_⟩) ?_ ?_
     rotate_left
     ·intro w'
      go_simp
      with_reducible rfl
     rotate_left
     ·simp only [Act.put, List.setIfInBounds_toArray, List.set_cons_zero, List.set_cons_succ, i64_w, i32_w]
      rfl
     refine done_ (by kernel_rfl) ?_
     try go_wp2
     go_ret
     exact ⟨by first | rfl | (simp [errW_none, errW_some] <;> rfl) | (simp [*, errW_none, errW_some] <;> rfl) | (exfalso; simp_all; done), by repeat (first | (with_reducible first | exact HB.out | apply below_alloc | apply pw_below_drewN | apply below_drew1 | refine below_set ?_ GE235.out | refine below_set ?_ GE240.out) | exact HB.out)⟩
    ·replace c30 := Bool.eq_false_iff.mpr c30
     subst c30
     have H1 : ((impl_GridTurn.f t236 t237).bind fun bt252 => (laws_FnTurnFour.l0 kj4 (t232.length : Int) 0 t231 t232 t236 t237 bt252.1 bt252.2)) = some r := by rw [if_neg (show ¬ (false = true) by decide)] at H; exact H
     clear H
     have H := H1
     clear H1
     replace H := Option.bind_eq_some_iff.mp H
     obtain ⟨⟨t252, t253⟩, A370, H⟩ := H
     replace H : (laws_FnTurnFour.l0 kj4 (t232.length : Int) 0 t231 t232 t236 t237 t252 t253) = some r := H
     have A37 := Aside0.mk A370
     clear A370
     have H' := Aside0.mk H
     clear H
     have hnb38 := NB240_235.out
     have hnc38 := NB235_240.out
     have hcz39_0 : wc.cell? ⟨gb240, 0, none⟩ = some (.int .i64 t236) := (blk_cell BK240.out 0).trans rfl
     have hcz39_1 : wc.cell? ⟨gb240, 1, none⟩ = some (.slice Ao14 t237.length co14) := (blk_cell BK240.out 1).trans rfl
     have hfz39_0 := blk_frozen BK240.out 0
     have hfz39_1 := blk_frozen BK240.out 1
     go_wp2_with (first | ((with_reducible refine gate_callee (f := 18) rfl ?_); refine goesL_ (some 30) rfl rfl Try.func18 (by kernel_rfl) rfl #[.agg #[.int .i64 t236, .slice Ao14 t237.length co14]] rfl (by (try simp only [List.map_toArray, List.map_cons, List.map_nil]); first | done | rfl | (simp only [List.length_drop, List.length_take]; rfl)) ?_; (with_reducible refine (impl_GridTurn.calls t236 _ _ t237 t252 t253 _ ?side1 ?side2 A37.out).mono ?_); (case side1 => repeat (first | exact (Kd.Q_reads' HO_241001.out).2.2 | (with_reducible refine Kd.C_alloc ?_ _) | (with_reducible refine Kd.C_drewN ?_ _) | (with_reducible refine Kd.C_drew ?_))); (case side2 => exact (Kd.Q_reads' HO_241001.out).2.1); rintro e w40 ⟨v254, rfl, ho0, hb⟩; refine ⟨_, rfl, ?_⟩; have n0_ := Aside0.mk (Kd.Q_elder' (by (with_reducible repeat (first | apply Kd.Q_alloc | apply Kd.Q_drewN | apply Kd.Q_drew)); exact HO_236001.out) (Kd.R_base ho0) hb); have n1_ := Aside0.mk (Kd.Q_elder' (by (with_reducible repeat (first | apply Kd.Q_alloc | apply Kd.Q_drewN | apply Kd.Q_drew)); exact HO_241001.out) (Kd.R_base ho0) hb); have n2_ := Aside0.mk (Kd.R_lower (Kd.R_new' (Kd.R_new' ho0 (Kd.Q_lt (by (with_reducible repeat (first | apply Kd.Q_alloc | apply Kd.Q_drewN | apply Kd.Q_drew)); exact HO_236001.out))) (Kd.Q_lt (by (with_reducible repeat (first | apply Kd.Q_alloc | apply Kd.Q_drewN | apply Kd.Q_drew)); exact HO_241001.out))) (below_size (by repeat (first | (with_reducible first | exact HB.out | apply below_alloc | apply pw_below_drewN | apply below_drew1 | refine below_set ?_ GE235.out | refine below_set ?_ GE240.out) | exact HB.out)))); have n3_ := Aside0.mk (blk_below (bK BK235.out) hb); have n4_ := Aside0.mk (blk_below (bK BK240.out) hb); have n5_ := Aside0.mk (below_step (by repeat (first | (with_reducible first | exact HB.out | apply below_alloc | apply pw_below_drewN | apply below_drew1 | refine below_set ?_ GE235.out | refine below_set ?_ GE240.out) | exact HB.out)) hb); clear HO_236001; clear HO_241001; clear BK235; clear BK240; clear HB; have HO_236001 := n0_; have HO_241001 := n1_; have HO255 := n2_; have BK235 := n3_; have BK240 := n4_; have HB := n5_; clear n0_ n1_ n2_ n3_ n4_ n5_; (try clear hb); (try clear hb2); (try clear hk); (try clear hi); (try clear ho0)) | ((with_reducible refine gate_dst (N := 5) rfl ?_); refine box_event ?hg (N := 5) ?hd (cs := #[.int .i64 0, .slice none 0 0]) (t := 30) ?hr ?_; (case hd => rfl); (case hg => rfl); (case hr => first | (go_simp; done) | (go_simp; rfl)); intro gb256 hg w41 hbox hb; have n0_ := Aside0.mk (Kd.Q_below (by (with_reducible repeat (first | apply Kd.Q_alloc | apply Kd.Q_drewN | apply Kd.Q_drew)); exact HO_236001.out) hb); have n1_ := Aside0.mk (Kd.Q_below (by (with_reducible repeat (first | apply Kd.Q_alloc | apply Kd.Q_drewN | apply Kd.Q_drew)); exact HO_241001.out) hb); have n2_ := Aside0.mk (Kd.R_below (kR HO255.out) hb); have n3_ := Aside0.mk (blk_below (bK BK235.out) hb); have n4_ := Aside0.mk (blk_below (bK BK240.out) hb); have n5_ := Aside0.mk (below_step (by repeat (first | (with_reducible first | exact HB.out | apply below_alloc | apply pw_below_drewN | apply below_drew1 | refine below_set ?_ GE235.out | refine below_set ?_ GE240.out) | exact HB.out)) hb); have n6_ := Aside0.mk (hbox); have n7_ := Aside0.mk ((by rw [hg]; exact (below_size (by repeat (first | (with_reducible first | exact HB.out | apply below_alloc | apply pw_below_drewN | apply below_drew1 | refine below_set ?_ GE235.out | refine below_set ?_ GE240.out) | exact HB.out))) : w.heap.size ≤ gb256)); have n8_ := Aside0.mk ((by rw [hg]; exact (below_size (by repeat (first | (with_reducible first | exact HB.out | apply below_alloc | apply pw_below_drewN | apply below_drew1 | refine below_set ?_ GE235.out | refine below_set ?_ GE240.out) | exact HB.out))) : w.heap.size ≤ gb256)); have n9_ := Aside0.mk ((by rw [hg]; exact Nat.ne_of_lt (blk_lt (bK BK235.out)) : gb235 ≠ gb256)); have n10_ := Aside0.mk ((by rw [hg]; exact Nat.ne_of_gt (blk_lt (bK BK235.out)) : gb256 ≠ gb235)); have n11_ := Aside0.mk ((by rw [hg]; exact Nat.ne_of_lt (blk_lt (bK BK240.out)) : gb240 ≠ gb256)); have n12_ := Aside0.mk ((by rw [hg]; exact Nat.ne_of_gt (blk_lt (bK BK240.out)) : gb256 ≠ gb240)); clear HO_236001; clear HO_241001; clear HO255; clear BK235; clear BK240; clear HB; have HO_236001 := n0_; have HO_241001 := n1_; have HO255 := n2_; have BK235 := n3_; have BK240 := n4_; have HB := n5_; have BK256 := n6_; have GW256 := n7_; have GE256 := n8_; have NB235_256 := n9_; have NB256_235 := n10_; have NB240_256 := n11_; have NB256_240 := n12_; clear n0_ n1_ n2_ n3_ n4_ n5_ n6_ n7_ n8_ n9_ n10_ n11_ n12_; clear hb hbox hg; have hnb42 := NB256_235.out; have hnc42 := NB235_256.out; have hnb43 := NB256_240.out; have hnc43 := NB240_256.out; have hcz44_0 : w41.cell? ⟨gb256, 0, none⟩ = some (.int .i64 0) := (blk_cell BK256.out 0).trans rfl; have hcz44_1 : w41.cell? ⟨gb256, 1, none⟩ = some (.slice none 0 0) := (blk_cell BK256.out 1).trans rfl; have hfz44_0 := blk_frozen BK256.out 0; have hfz44_1 := blk_frozen BK256.out 1; obtain ⟨Ao45, co45, eo45⟩ := Kd.R_slice HO255.out; subst eo45; have hcz46_0 : w41.cell? ⟨gb235, 0, none⟩ = some (.int .i64 t231) := (blk_cell BK235.out 0).trans rfl; have hcz46_1 : w41.cell? ⟨gb235, 1, none⟩ = some (.slice Ao9 t232.length co9) := (blk_cell BK235.out 1).trans rfl; have hfz46_0 := blk_frozen BK235.out 0; have hfz46_1 := blk_frozen BK235.out 1))
     go_loopg [7] kj4 (fun kq v7 w' => ∃ (x7_2 : Int), v7 = .int .i64 x7_2 ∧ Aside0 (laws_FnTurnFour.l0 kq (t232.length : Int) x7_2 t231 t232 t236 t237 t252 t253 = some r) ∧ Aside0 (kq ≤ kj4) ∧ Aside0 (Kd.Q k24 24 w' w.heap.size (fun k_ => some k_ ≠ ((.slice Ao14 t237.length co14) : Value).ownBlock ∧ some k_ ≠ ((.slice Ao45 t253.length co45) : Value).ownBlock) (.slice Ao9 t232.length co9) t232) ∧ Aside0 (Kd.Q k24 24 w' w.heap.size (fun k_ => some k_ ≠ ((.slice Ao9 t232.length co9) : Value).ownBlock ∧ some k_ ≠ ((.slice Ao45 t253.length co45) : Value).ownBlock) (.slice Ao14 t237.length co14) t237) ∧ Aside0 (Kd.Q k24 24 w' w.heap.size (fun k_ => some k_ ≠ ((.slice Ao9 t232.length co9) : Value).ownBlock ∧ some k_ ≠ ((.slice Ao14 t237.length co14) : Value).ownBlock) (.slice Ao45 t253.length co45) t253) ∧ Aside0 (w'.heap[gb235]? = some (.cells #[.int .i64 t231, (.slice Ao9 t232.length co9)] 30 (0, 0))) ∧ Aside0 (w'.heap[gb240]? = some (.cells #[.int .i64 t236, (.slice Ao14 t237.length co14)] 30 (0, 0))) ∧ Aside0 (w'.heap[gb256]? = some (.cells #[.int .i64 t252, (.slice Ao45 t253.length co45)] 30 (0, 0))) ∧ Aside0 (Below w.heap.size w w'))
     case atStart => exact ⟨(0), (by first | rfl | (simp; done) | (simp [*]; done)), H', ⟨Nat.le_refl _⟩, ⟨by (with_reducible repeat (first | apply Kd.Q_alloc | apply Kd.Q_drewN | apply Kd.Q_drew)); exact Kd.Q_mono (Kd.Q_far (p := ⟨gb256, 1, none⟩) (Kd.Q_far (p := ⟨gb256, 0, none⟩) (Kd.Q_types HO_236001.out BK256.out (by decide)) (fun _ hk => hk.2) (.int .i64 t252)) (fun _ hk => hk.2) (.slice Ao45 t253.length co45)) (fun _ hk => ⟨hk.1.1, hk.1.2⟩)⟩, ⟨by (with_reducible repeat (first | apply Kd.Q_alloc | apply Kd.Q_drewN | apply Kd.Q_drew)); exact Kd.Q_mono (Kd.Q_far (p := ⟨gb256, 1, none⟩) (Kd.Q_far (p := ⟨gb256, 0, none⟩) (Kd.Q_types HO_241001.out BK256.out (by decide)) (fun _ hk => hk.2) (.int .i64 t252)) (fun _ hk => hk.2) (.slice Ao45 t253.length co45)) (fun _ hk => ⟨hk.1.1, hk.1.2⟩)⟩, ⟨Kd.Q_of_R (by (with_reducible repeat (first | apply Kd.R_alloc | apply Kd.R_drewN | apply Kd.R_drew)); exact Kd.R_mono (Kd.R_far (p := ⟨gb256, 1, none⟩) (Kd.R_far (p := ⟨gb256, 0, none⟩) (Kd.R_types HO255.out BK256.out (by decide)) (fun _ hk => hk.2) (.int .i64 t252)) (fun _ hk => hk.2) (.slice Ao45 t253.length co45)) (fun _ hk => ⟨hk.1.1.2, hk.1.2⟩))⟩, ⟨by (with_reducible repeat (first | refine blk_drewN ?_ _ | refine blk_drew ?_ | refine blk_alloc ?_ _)); refine blk_far ?_ NB235_256.out _; (with_reducible repeat (first | refine blk_drewN ?_ _ | refine blk_drew ?_ | refine blk_alloc ?_ _)); refine blk_far ?_ NB235_256.out _; (with_reducible repeat (first | refine blk_drewN ?_ _ | refine blk_drew ?_ | refine blk_alloc ?_ _)); exact BK235.out⟩, ⟨by (with_reducible repeat (first | refine blk_drewN ?_ _ | refine blk_drew ?_ | refine blk_alloc ?_ _)); refine blk_far ?_ NB240_256.out _; (with_reducible repeat (first | refine blk_drewN ?_ _ | refine blk_drew ?_ | refine blk_alloc ?_ _)); refine blk_far ?_ NB240_256.out _; (with_reducible repeat (first | refine blk_drewN ?_ _ | refine blk_drew ?_ | refine blk_alloc ?_ _)); exact BK240.out⟩, ⟨by (with_reducible repeat (first | refine blk_drewN ?_ _ | refine blk_drew ?_ | refine blk_alloc ?_ _)); refine blk_put (cs := #[.int .i64 t252, .slice none 0 0]) ?_ 1 _ rfl; (with_reducible repeat (first | refine blk_drewN ?_ _ | refine blk_drew ?_ | refine blk_alloc ?_ _)); refine blk_put (cs := #[.int .i64 0, .slice none 0 0]) ?_ 0 _ rfl; (with_reducible repeat (first | refine blk_drewN ?_ _ | refine blk_drew ?_ | refine blk_alloc ?_ _)); exact BK256.out⟩, ⟨by repeat (first | (with_reducible first | exact HB.out | apply below_alloc | apply pw_below_drewN | apply below_drew1 | refine below_set ?_ GE235.out | refine below_set ?_ GE240.out | refine below_set ?_ GE256.out) | exact HB.out)⟩⟩
     case round =>
      clear H'
      try clear c1
      try clear c2
      try clear c2b0
      try clear c2b1
      try clear p2
      try clear c3
      try clear c4
      try clear c12
      try clear c17
      try clear c18
      try clear c19
      try clear c20
      try clear c21
      try clear c30
      try clear c38
      try clear c42
      try clear c43
      try clear hcz13_0
      try clear hcz13_1
      try clear hcz39_0
      try clear hcz39_1
      try clear hcz44_0
      try clear hcz44_1
      try clear hcz46_0
      try clear hcz46_1
      try clear hcz8_0
      try clear hcz8_1
      try clear hfz13_0
      try clear hfz13_1
      try clear hfz39_0
      try clear hfz39_1
      try clear hfz44_0
      try clear hfz44_1
      try clear hfz46_0
      try clear hfz46_1
      try clear hfz8_0
      try clear hfz8_1
      try clear p2
      obtain ⟨x7_2, rfl, HA, HK2, HO_236001, HO_241001, HO_257001, BK235, BK240, BK256, HB⟩ := hrel
      cases gk with
      | zero => exact absurd HA.out (by simp [laws_FnTurnFour.l0])
      | succ k2 =>
       have H := HA.out
       clear HA
       simp only [laws_FnTurnFour.l0] at H
       by_cases c47 : x7_2 < (t232.length : Int)
       ·rw [if_pos c47] at H
        have c47b0 : decide (x7_2 < (t232.length : Int)) = true := decide_eq_true c47
        clear c47
        obtain ⟨ji48, hji48⟩ : ∃ j_ : Int, (wrap64 ((wrap64 ((t232.length : Int) - 1)) - x7_2)) = j_ := ⟨_, rfl⟩
        replace H : (if 0 ≤ (ji48) then (if (ji48) < (t253.length : Int) then (if 0 ≤ x7_2 then (if x7_2 < (t232.length : Int) then (if (!(((rd_T24 t253 (ji48)).f0) == ((rd_T24 t232 x7_2).f0)) || (!(((rd_T24 t253 (ji48)).f1) == ((rd_T24 t232 x7_2).f1)))) = true then (some false) else (laws_FnTurnFour.l0 k2 (t232.length : Int) (wrap64 (x7_2 + 1)) t231 t232 t236 t237 t252 t253)) else (none)) else (none)) else (none)) else (none)) = some r := by first | (rw [hji48] at H; exact H) | (simp only [hji48] at H ⊢; exact H)
        have hji48w : (IntKind.i64.wrap ((wrap64 ((t232.length : Int) - 1)) - x7_2)) = ji48 := (i64_w _).trans hji48
        by_cases c49 : 0 ≤ (ji48)
        ·rw [if_pos c49] at H
         have c49b0 : decide (0 ≤ (ji48)) = true := decide_eq_true c49
         clear c49
         by_cases c50 : (ji48) < (t253.length : Int)
         ·rw [if_pos c50] at H
          have c50b0 : decide ((ji48) < (t253.length : Int)) = true := decide_eq_true c50
          clear c50
          by_cases c51 : 0 ≤ x7_2
          ·rw [if_pos c51] at H
           have c51b0 : decide (0 ≤ x7_2) = true := decide_eq_true c51
           clear c51
           by_cases c52 : x7_2 < (t232.length : Int)
           ·rw [if_pos c52] at H
            have c52b0 : decide (x7_2 < (t232.length : Int)) = true := decide_eq_true c52
            clear c52
            by_cases c53 : (!(((rd_T24 t253 (ji48)).f0) == ((rd_T24 t232 x7_2).f0)) || (!(((rd_T24 t253 (ji48)).f1) == ((rd_T24 t232 x7_2).f1)))) = true
            ·rw [if_pos c53] at H
             have c53b0 : (!(((rd_T24 t253 (ji48)).f0) == ((rd_T24 t232 x7_2).f0)) || (!(((rd_T24 t253 (ji48)).f1) == ((rd_T24 t232 x7_2).f1)))) = true := c53
             clear c53
             obtain rfl := Option.some.inj H
             exact absurd HRT.out (by decide)
            ·rw [if_neg c53] at H
             have c53b0 : (!(((rd_T24 t253 (ji48)).f0) == ((rd_T24 t232 x7_2).f0)) || (!(((rd_T24 t253 (ji48)).f1) == ((rd_T24 t232 x7_2).f1)))) = false := by simpa using c53
             clear c53
             have H' := Aside0.mk H
             clear H
             try go_wp2
             have n0_ := Aside0.mk (Kd.Q_drew HO_236001.out)
             have n1_ := Aside0.mk (Kd.Q_drew HO_241001.out)
             have n2_ := Aside0.mk (Kd.Q_drew HO_257001.out)
             have n3_ := Aside0.mk (blk_drew BK235.out)
             have n4_ := Aside0.mk (blk_drew BK240.out)
             have n5_ := Aside0.mk (blk_drew BK256.out)
             have n6_ := Aside0.mk (below_drew1 HB.out)
             clear HO_236001
             clear HO_241001
             clear HO_257001
             clear BK235
             clear BK240
             clear BK256
             clear HB
             have HO_236001 := n0_
             have HO_241001 := n1_
             have HO_257001 := n2_
             have BK235 := n3_
             have BK240 := n4_
             have BK256 := n5_
             have HB := n6_
             clear n0_ n1_ n2_ n3_ n4_ n5_ n6_
             have p257 : 0 ≤ ((ji48) : Int) := of_decide_eq_true (by first | (with_reducible assumption) | assumption)
             have q257 : (ji48) < (t253.length : Int) := of_decide_eq_true (by first | (with_reducible assumption) | assumption)
             obtain ⟨ad257, e257, hx257_0, hx257_1⟩ := at_T24 (Kd.Q_reads' HO_257001.out).2.2 (ji48) p257 q257
             cases e257
             replace p257 := eq_true p257
             replace q257 := eq_true q257
             have p258 : 0 ≤ (x7_2 : Int) := of_decide_eq_true (by first | (with_reducible assumption) | assumption)
             have q258 : x7_2 < (t232.length : Int) := of_decide_eq_true (by first | (with_reducible assumption) | assumption)
             obtain ⟨ad258, e258, hx258_0, hx258_1⟩ := at_T24 (Kd.Q_reads' HO_236001.out).2.2 x7_2 p258 q258
             cases e258
             replace p258 := eq_true p258
             replace q258 := eq_true q258
             refine start_ (n := 14) (S := fun w' => w'.cell? ⟨gb256, 0, none⟩ = some (.int .i64 t252) ∧ w'.cell? ⟨gb256, 1, none⟩ = some (.slice (some ad257) t253.length co45) ∧ w'.cell? ⟨gb235, 0, none⟩ = some (.int .i64 t231) ∧ w'.cell? ⟨gb235, 1, none⟩ = some (.slice (some ad258) t232.length co9) ∧ w'.cell? (ad257.add (((ji48)).toNat * 2)) = some (.int .i64 ((rd_T24 t253 (ji48)).f0)) ∧ w'.cell? ⟨(ad257.add (((ji48)).toNat * 2)).block, (ad257.add (((ji48)).toNat * 2)).off + 1, none⟩ = some (.int .i64 ((rd_T24 t253 (ji48)).f1)) ∧ w'.cell? (ad258.add ((x7_2).toNat * 2)) = some (.int .i64 ((rd_T24 t232 x7_2).f0)) ∧ w'.cell? ⟨(ad258.add ((x7_2).toNat * 2)).block, (ad258.add ((x7_2).toNat * 2)).off + 1, none⟩ = some (.int .i64 ((rd_T24 t232 x7_2).f1))) (ds := []) #[false, false, false, false, false, false, false, false, false, false, false, false, false, false] (by kernel_rfl) rfl rfl ⟨(blk_cell BK256.out 0).trans rfl, (blk_cell BK256.out 1).trans rfl, (blk_cell BK235.out 0).trans rfl, (blk_cell BK235.out 1).trans rfl, hx257_0, hx257_1, hx258_0, hx258_1⟩ (fun hHeld => ?_); refine with_tabW laws_FnTurnFour.tab12 laws_FnTurnFour.bits12 (fun HT_ HW_ => ?_)
             generalize wr.drew = w54 at HO_236001 HO_241001 HO_257001 BK235 BK240 BK256 HB hx257_0 hx257_1 hx258_0 hx258_1 hHeld ⊢
             refine pure_ (i := 0) (N := some 39) (v := ?_) (a' := ?_) #[true, false, false, false, false, false, false, false, false, false, false, false, false, false] rfl rfl (any_of HT_.out (by kernel_rfl)) (fun _ _ _ h => h) (Or.inl ⟨by rfl, ?_⟩) ?_ ?_
             rotate_left
             ·intro w'
              go_simp
              with_reducible rfl
             rotate_left
             ·simp only [Act.put, List.setIfInBounds_toArray, List.set_cons_zero, List.set_cons_succ, i64_w, i32_w]
              rfl
             refine pure_ (i := 2) (N := some 41) (v := ?_) (a' := ?_) #[true, false, true, false, false, false, false, false, false, false, false, false, false, false] rfl rfl (any_of HT_.out (by kernel_rfl)) (fun _ _ _ h => h) (Or.inl ⟨by rfl, ?_⟩) ?_ ?_
             rotate_left
             ·intro w'
              go_simp
              with_reducible rfl
             rotate_left
             ·simp only [Act.put, List.setIfInBounds_toArray, List.set_cons_zero, List.set_cons_succ, i64_w, i32_w]
              rfl
             refine pure_ (i := 3) (N := some 42) (v := ?_) (a' := ?_) #[true, false, true, true, false, false, false, false, false, false, false, false, false, false] rfl rfl (any_of HT_.out (by kernel_rfl)) (fun _ _ _ h => h) (Or.inl ⟨by rfl, ?_⟩) ?_ ?_
             rotate_left
             ·intro w'
              go_simp
              with_reducible rfl
             rotate_left
             ·simp only [Act.put, List.setIfInBounds_toArray, List.set_cons_zero, List.set_cons_succ, i64_w, i32_w]
              rfl
             refine pure_ (i := 4) (N := some 43) (v := ?_) (a' := ?_) #[true, false, true, true, true, false, false, false, false, false, false, false, false, false] rfl rfl (any_of HT_.out (by kernel_rfl)) (fun _ _ _ h => h) (Or.inl ⟨by rfl, ?_⟩) ?_ ?_
             rotate_left
             ·intro w'
              go_simp
              with_reducible rfl
             rotate_left
             ·simp only [Act.put, List.setIfInBounds_toArray, List.set_cons_zero, List.set_cons_succ, i64_w, i32_w]
              rfl
             refine pure_ (i := 5) (N := some 44) (v := ?_) (a' := ?_) #[true, false, true, true, true, true, false, false, false, false, false, false, false, false] rfl rfl (any_of HT_.out (by kernel_rfl)) (fun _ _ _ h => h) (Or.inl ⟨by rfl, ?_⟩) ?_ ?_
             rotate_left
             ·intro w'
              go_simp
              with_reducible rfl
             rotate_left
             ·simp only [Act.put, List.setIfInBounds_toArray, List.set_cons_zero, List.set_cons_succ, i64_w, i32_w]
              rfl
             refine pure_ (i := 8) (N := some 47) (v := ?_) (a' := ?_) #[true, false, true, true, true, true, false, false, true, false, false, false, false, false] rfl rfl (any_of HT_.out (by kernel_rfl)) (fun _ _ _ h => h) (Or.inl ⟨by rfl, ?_⟩) ?_ ?_
             rotate_left
             ·intro w'
              go_simp
              with_reducible rfl
             rotate_left
             ·simp only [Act.put, List.setIfInBounds_toArray, List.set_cons_zero, List.set_cons_succ, i64_w, i32_w]
              rfl
             refine pure_ (i := 10) (N := some 49) (v := ?_) (a' := ?_) #[true, false, true, true, true, true, false, false, true, false, true, false, false, false] rfl rfl (any_of HT_.out (by kernel_rfl)) (fun _ _ _ h => h) (Or.inl ⟨by rfl, ?_⟩) ?_ ?_
             rotate_left
             ·intro w'
              go_simp
              with_reducible rfl
             rotate_left
             ·simp only [Act.put, List.setIfInBounds_toArray, List.set_cons_zero, List.set_cons_succ, i64_w, i32_w]
              rfl
             refine take_ (i := 1) (N := some 40) (v := ?_) (a' := ?_) #[true, true, true, true, true, true, false, false, true, false, true, false, false, false] rfl rfl (take_ofW HT_.out HW_.out (by kernel_rfl)) (fun _ _ _ h => h) (Or.inl ⟨by rfl, ?_⟩) hHeld ?_ ?_
             rotate_left
             ·rintro w' ⟨s0, s1, s2, s3, s4, s5, s6, s7⟩
              go_simp
              with_reducible rfl
             rotate_left
             ·simp only [Act.put, List.setIfInBounds_toArray, List.set_cons_zero, List.set_cons_succ, i64_w, i32_w]
              rfl
             refine pure_ (i := 6) (N := some 45) (v := ?_) (a' := ?_) #[true, true, true, true, true, true, true, false, true, false, true, false, false, false] rfl rfl (any_of HT_.out (by kernel_rfl)) (fun _ _ _ h => h) (Or.inl ⟨by rfl, ?_⟩) ?_ ?_
             rotate_left
             ·intro w'
              go_simp
              with_reducible rfl
             rotate_left
             ·simp only [Act.put, List.setIfInBounds_toArray, List.set_cons_zero, List.set_cons_succ, i64_w, i32_w]
              rfl
             refine take_ (i := 7) (N := some 46) (v := ?_) (a' := ?_) #[true, true, true, true, true, true, true, true, true, false, true, false, false, false] rfl rfl (take_ofW HT_.out HW_.out (by kernel_rfl)) (fun _ _ _ h => h) (Or.inl ⟨by rfl, ?_⟩) hHeld ?_ ?_
             rotate_left
             ·rintro w' ⟨s0, s1, s2, s3, s4, s5, s6, s7⟩
              go_simp
              with_reducible rfl
             rotate_left
             ·simp only [Act.put, List.setIfInBounds_toArray, List.set_cons_zero, List.set_cons_succ, i64_w, i32_w]
              rfl
             refine take_ (i := 9) (N := some 48) (v := ?_) (a' := ?_) #[true, true, true, true, true, true, true, true, true, true, true, false, false, false] rfl rfl (take_ofW HT_.out HW_.out (by kernel_rfl)) (fun _ _ _ h => h) (Or.inl ⟨by rfl, ?_⟩) hHeld ?_ ?_
             rotate_left
             ·rintro w' ⟨s0, s1, s2, s3, s4, s5, s6, s7⟩
              go_simp
              with_reducible rfl
             rotate_left
             ·simp only [Act.put, List.setIfInBounds_toArray, List.set_cons_zero, List.set_cons_succ, i64_w, i32_w]
              rfl
             refine pure_ (i := 11) (N := some 50) (v := ?_) (a' := ?_) #[true, true, true, true, true, true, true, true, true, true, true, true, false, false] rfl rfl (any_of HT_.out (by kernel_rfl)) (fun _ _ _ h => h) (Or.inl ⟨by rfl, ?_⟩) ?_ ?_
             rotate_left
             ·intro w'
              go_simp
              with_reducible rfl
             rotate_left
             ·simp only [Act.put, List.setIfInBounds_toArray, List.set_cons_zero, List.set_cons_succ, i64_w, i32_w]
              rfl
             refine take_ (i := 12) (N := some 51) (v := ?_) (a' := ?_) #[true, true, true, true, true, true, true, true, true, true, true, true, true, false] rfl rfl (take_ofW HT_.out HW_.out (by kernel_rfl)) (fun _ _ _ h => h) (Or.inl ⟨by rfl, ?_⟩) hHeld ?_ ?_
             rotate_left
             ·rintro w' ⟨s0, s1, s2, s3, s4, s5, s6, s7⟩
              go_simp
              with_reducible rfl
             rotate_left
             ·simp only [Act.put, List.setIfInBounds_toArray, List.set_cons_zero, List.set_cons_succ, i64_w, i32_w]
              rfl
             refine pure_ (i := 13) (N := some 52) (v := ?_) (a' := ?_) #[true, true, true, true, true, true, true, true, true, true, true, true, true, true] rfl rfl (any_of HT_.out (by kernel_rfl)) (fun _ _ _ h => h) (Or.inl ⟨by rfl, ?_⟩) ?_ ?_
             rotate_left
             ·intro w'
              go_simp
              with_reducible rfl
             rotate_left
             ·simp only [Act.put, List.setIfInBounds_toArray, List.set_cons_zero, List.set_cons_succ, i64_w, i32_w]
              rfl
             refine done_ (done_of HT_.out (by kernel_rfl)) ?_
             try go_wp2
             go_roundg k2
             case measure => have := HJ4.out; have := HK2.out; omega
             case rel => exact ⟨(wrap64 (x7_2 + 1)), (by first | rfl | (simp; done) | (simp [*]; done)), H', ⟨by have := HJ4.out; have := HK2.out; omega⟩, ⟨by (with_reducible repeat (first | apply Kd.Q_alloc | apply Kd.Q_drewN | apply Kd.Q_drew)); exact HO_236001.out⟩, ⟨by (with_reducible repeat (first | apply Kd.Q_alloc | apply Kd.Q_drewN | apply Kd.Q_drew)); exact HO_241001.out⟩, ⟨by (with_reducible repeat (first | apply Kd.Q_alloc | apply Kd.Q_drewN | apply Kd.Q_drew)); exact HO_257001.out⟩, ⟨by (with_reducible repeat (first | refine blk_drewN ?_ _ | refine blk_drew ?_ | refine blk_alloc ?_ _)); exact BK235.out⟩, ⟨by (with_reducible repeat (first | refine blk_drewN ?_ _ | refine blk_drew ?_ | refine blk_alloc ?_ _)); exact BK240.out⟩, ⟨by (with_reducible repeat (first | refine blk_drewN ?_ _ | refine blk_drew ?_ | refine blk_alloc ?_ _)); exact BK256.out⟩, ⟨by repeat (first | (with_reducible first | exact HB.out | apply below_alloc | apply pw_below_drewN | apply below_drew1 | refine below_set ?_ GE235.out | refine below_set ?_ GE240.out | refine below_set ?_ GE256.out) | exact HB.out)⟩⟩
           ·rw [if_neg c52] at H
            exact absurd H (by simp)
          ·rw [if_neg c51] at H
           exact absurd H (by simp)
         ·rw [if_neg c50] at H
          exact absurd H (by simp)
        ·rw [if_neg c49] at H
         exact absurd H (by simp)
       ·rw [if_neg c47] at H
        have c47b0 : decide (x7_2 < (t232.length : Int)) = false := decide_eq_false c47
        clear c47
        by_cases c55 : t252 = t231
        ·rw [if_pos c55] at H
         have c55b0 : (t252 == t231) = true := beq_iff_eq.mpr c55
         have c55b1 : (t252 != t231) = false := bne_eq_false_iff_eq.mpr c55
         clear c55
         replace H := Option.bind_eq_some_iff.mp H
         obtain ⟨⟨t259, t260⟩, A560, H⟩ := H
         replace H : ((impl_GridTurn.f t259 t260).bind fun bt263 => ((laws_llGrid.f k2 bt263.1 bt263.2 t231 t232).bind fun t267 => (if t267 = true then ((impl_GridOk.f k2 t236 t237).bind fun t268 => (some t268)) else (some false)))) = some r := H
         have A56 := Aside0.mk A560
         clear A560
         replace H := Option.bind_eq_some_iff.mp H
         obtain ⟨⟨t263, t264⟩, A570, H⟩ := H
         replace H : ((laws_llGrid.f k2 t263 t264 t231 t232).bind fun t267 => (if t267 = true then ((impl_GridOk.f k2 t236 t237).bind fun t268 => (some t268)) else (some false))) = some r := H
         have A57 := Aside0.mk A570
         clear A570
         replace H := Option.bind_eq_some_iff.mp H
         obtain ⟨t267, A580, H⟩ := H
         replace H : (if t267 = true then ((impl_GridOk.f k2 t236 t237).bind fun t268 => (some t268)) else (some false)) = some r := H
         have A58 := Aside0.mk A580
         clear A580
         by_cases c59 : t267 = true
         ·subst c59
          have H1 : ((impl_GridOk.f k2 t236 t237).bind fun t268 => (some t268)) = some r := by rw [if_pos rfl] at H; exact H
          clear H
          have H := H1
          clear H1
          replace H := Option.bind_eq_some_iff.mp H
          obtain ⟨t268, A600, H⟩ := H
          replace H : (some t268) = some r := H
          have A60 := Aside0.mk A600
          clear A600
          obtain rfl := Option.some.inj H
          try go_wp2
          have n0_ := Aside0.mk (Kd.Q_drew HO_236001.out)
          have n1_ := Aside0.mk (Kd.Q_drew HO_241001.out)
          have n2_ := Aside0.mk (Kd.Q_drew HO_257001.out)
          have n3_ := Aside0.mk (blk_drew BK235.out)
          have n4_ := Aside0.mk (blk_drew BK240.out)
          have n5_ := Aside0.mk (blk_drew BK256.out)
          have n6_ := Aside0.mk (below_drew1 HB.out)
          clear HO_236001
          clear HO_241001
          clear HO_257001
          clear BK235
          clear BK240
          clear BK256
          clear HB
          have HO_236001 := n0_
          have HO_241001 := n1_
          have HO_257001 := n2_
          have BK235 := n3_
          have BK240 := n4_
          have BK256 := n5_
          have HB := n6_
          clear n0_ n1_ n2_ n3_ n4_ n5_ n6_
          refine start_ (n := 17) (S := fun w' => w'.cell? ⟨gb256, 0, none⟩ = some (.int .i64 t252) ∧ w'.cell? ⟨gb256, 1, none⟩ = some (.slice Ao45 t253.length co45) ∧ w'.cell? ⟨gb235, 0, none⟩ = some (.int .i64 t231) ∧ w'.cell? ⟨gb235, 1, none⟩ = some (.slice Ao9 t232.length co9) ∧ w'.cell? ⟨gb240, 0, none⟩ = some (.int .i64 t236) ∧ w'.cell? ⟨gb240, 1, none⟩ = some (.slice Ao14 t237.length co14)) (ds := []) #[false, false, false, false, false, false, false, false, false, false, false, false, false, false, false, false, false] (by kernel_rfl) rfl rfl ⟨(blk_cell BK256.out 0).trans rfl, (blk_cell BK256.out 1).trans rfl, (blk_cell BK235.out 0).trans rfl, (blk_cell BK235.out 1).trans rfl, (blk_cell BK240.out 0).trans rfl, (blk_cell BK240.out 1).trans rfl⟩ (fun hHeld => ?_); refine with_tabW laws_FnTurnFour.tab14 laws_FnTurnFour.bits14 (fun HT_ HW_ => ?_)
          generalize wr.drew = w61 at HO_236001 HO_241001 HO_257001 BK235 BK240 BK256 HB hHeld ⊢
          refine pure_ (i := 0) (N := some 53) (v := ?_) (a' := ?_) #[true, false, false, false, false, false, false, false, false, false, false, false, false, false, false, false, false] rfl rfl (any_of HT_.out (by kernel_rfl)) (fun _ _ _ h => h) (Or.inl ⟨by rfl, ?_⟩) ?_ ?_
          rotate_left
          ·intro w'
           go_simp
           with_reducible rfl
          rotate_left
          ·simp only [Act.put, List.setIfInBounds_toArray, List.set_cons_zero, List.set_cons_succ, i64_w, i32_w]
           rfl
          refine pure_ (i := 2) (N := some 55) (v := ?_) (a' := ?_) #[true, false, true, false, false, false, false, false, false, false, false, false, false, false, false, false, false] rfl rfl (any_of HT_.out (by kernel_rfl)) (fun _ _ _ h => h) (Or.inl ⟨by rfl, ?_⟩) ?_ ?_
          rotate_left
          ·intro w'
           go_simp
           with_reducible rfl
          rotate_left
          ·simp only [Act.put, List.setIfInBounds_toArray, List.set_cons_zero, List.set_cons_succ, i64_w, i32_w]
           rfl
          refine take_ (i := 1) (N := some 54) (v := ?_) (a' := ?_) #[true, true, true, false, false, false, false, false, false, false, false, false, false, false, false, false, false] rfl rfl (take_ofW HT_.out HW_.out (by kernel_rfl)) (fun _ _ _ h => h) (Or.inl ⟨by rfl, ?_⟩) hHeld ?_ ?_
          rotate_left
          ·rintro w' ⟨s0, s1, s2, s3, s4, s5⟩
           go_simp
           with_reducible rfl
          rotate_left
          ·simp only [Act.put, List.setIfInBounds_toArray, List.set_cons_zero, List.set_cons_succ, i64_w, i32_w]
           rfl
          refine take_ (i := 3) (N := some 56) (v := ?_) (a' := ?_) #[true, true, true, true, false, false, false, false, false, false, false, false, false, false, false, false, false] rfl rfl (take_ofW HT_.out HW_.out (by kernel_rfl)) (fun _ _ _ h => h) (Or.inl ⟨by rfl, ?_⟩) hHeld ?_ ?_
          rotate_left
          ·rintro w' ⟨s0, s1, s2, s3, s4, s5⟩
           go_simp
           with_reducible rfl
          rotate_left
          ·simp only [Act.put, List.setIfInBounds_toArray, List.set_cons_zero, List.set_cons_succ, i64_w, i32_w]
           rfl
          refine pure_ (i := 4) (N := some 57) (v := ?_) (a' := ?_) #[true, true, true, true, true, false, false, false, false, false, false, false, false, false, false, false, false] rfl rfl (any_of HT_.out (by kernel_rfl)) (fun _ _ _ h => h) (Or.inl ⟨by rfl, ?_⟩) ?_ ?_
          rotate_left
          ·intro w'
           go_simp
           with_reducible rfl
          rotate_left
          ·simp only [Act.put, List.setIfInBounds_toArray, List.set_cons_zero, List.set_cons_succ, i64_w, i32_w]
           rfl
          refine pure_ (i := 5) (N := some 58) (v := ?_) (a' := ?_) #[true, true, true, true, true, true, false, false, false, false, false, false, false, false, false, false, false] rfl rfl (any_of HT_.out (by kernel_rfl)) (fun _ _ _ h => h) (Or.inl ⟨by rfl, ?_⟩) ?_ ?_
          rotate_left
          ·intro w'
           go_simp
           with_reducible rfl
          rotate_left
          ·simp only [Act.put, List.setIfInBounds_toArray, List.set_cons_zero, List.set_cons_succ, i64_w, i32_w]
           rfl
          refine take_ (i := 6) (N := some 59) (v := ?_) (a' := ?_) #[true, true, true, true, true, true, true, false, false, false, false, false, false, false, false, false, false] rfl rfl (take_ofW HT_.out HW_.out (by kernel_rfl)) (fun _ _ _ h => h) (Or.inl ⟨by rfl, ?_⟩) hHeld ?_ ?_
          rotate_left
          ·rintro w' ⟨s0, s1, s2, s3, s4, s5⟩
           go_simp
           with_reducible rfl
          rotate_left
          ·simp only [Act.put, List.setIfInBounds_toArray, List.set_cons_zero, List.set_cons_succ, i64_w, i32_w]
           rfl
          refine take_ (i := 9) (N := some 62) (v := ?_) (a' := ?_) #[true, true, true, true, true, true, true, false, false, true, false, false, false, false, false, false, false] rfl rfl (take_ofW HT_.out HW_.out (by kernel_rfl)) (fun _ _ _ h => h) (Or.inl ⟨by rfl, ?_⟩) hHeld ?_ ?_
          rotate_left
          ·rintro w' ⟨s0, s1, s2, s3, s4, s5⟩
           go_simp
           with_reducible rfl
          rotate_left
          ·simp only [Act.put, List.setIfInBounds_toArray, List.set_cons_zero, List.set_cons_succ, i64_w, i32_w]
           rfl
          refine one_ (i := 7) (N := some 60) #[true, true, true, true, true, true, true, true, false, true, false, false, false, false, false, false, false] rfl rfl (one_of HT_.out (by kernel_rfl)) (by decide) (fun K hK => ?_)
          refine goes_ Try.func18 (by kernel_rfl) rfl #[.agg #[.int .i64 t252, .slice Ao45 t253.length co45]] (by rfl) rfl rfl (by (try simp only [List.map_toArray, List.map_cons, List.map_nil]); first | done | rfl | (simp only [List.length_drop, List.length_take]; rfl)) ?_
          with_reducible refine (impl_GridTurn.calls t252 _ _ t253 t259 t260 _ ?side1 ?side2 A56.out).mono ?_
          (case side1 => repeat (first | exact (Kd.Q_reads' HO_257001.out).2.2 | (with_reducible refine Kd.C_alloc ?_ _) | (with_reducible refine Kd.C_drewN ?_ _) | (with_reducible refine Kd.C_drew ?_)))
          (case side2 => exact (Kd.Q_reads' HO_257001.out).2.1)
          rintro e w62 ⟨v261, rfl, ho0, hb⟩
          refine ⟨_, rfl, ?_⟩
          have n0_ := Aside0.mk (Kd.Q_elder' (by (with_reducible repeat (first | apply Kd.Q_alloc | apply Kd.Q_drewN | apply Kd.Q_drew)); exact HO_236001.out) (Kd.R_base ho0) hb)
          have n1_ := Aside0.mk (Kd.Q_elder' (by (with_reducible repeat (first | apply Kd.Q_alloc | apply Kd.Q_drewN | apply Kd.Q_drew)); exact HO_241001.out) (Kd.R_base ho0) hb)
          have n2_ := Aside0.mk (Kd.Q_elder' (by (with_reducible repeat (first | apply Kd.Q_alloc | apply Kd.Q_drewN | apply Kd.Q_drew)); exact HO_257001.out) (Kd.R_base ho0) hb)
          have n3_ := Aside0.mk (Kd.R_lower (Kd.R_new' (Kd.R_new' (Kd.R_new' ho0 (Kd.Q_lt (by (with_reducible repeat (first | apply Kd.Q_alloc | apply Kd.Q_drewN | apply Kd.Q_drew)); exact HO_236001.out))) (Kd.Q_lt (by (with_reducible repeat (first | apply Kd.Q_alloc | apply Kd.Q_drewN | apply Kd.Q_drew)); exact HO_241001.out))) (Kd.Q_lt (by (with_reducible repeat (first | apply Kd.Q_alloc | apply Kd.Q_drewN | apply Kd.Q_drew)); exact HO_257001.out))) (below_size (by repeat (first | (with_reducible first | exact HB.out | apply below_alloc | apply pw_below_drewN | apply below_drew1 | refine below_set ?_ GE235.out | refine below_set ?_ GE240.out | refine below_set ?_ GE256.out) | exact HB.out))))
          have n4_ := Aside0.mk (blk_below (bK BK235.out) hb)
          have n5_ := Aside0.mk (blk_below (bK BK240.out) hb)
          have n6_ := Aside0.mk (blk_below (bK BK256.out) hb)
          have n7_ := Aside0.mk (below_step (by repeat (first | (with_reducible first | exact HB.out | apply below_alloc | apply pw_below_drewN | apply below_drew1 | refine below_set ?_ GE235.out | refine below_set ?_ GE240.out | refine below_set ?_ GE256.out) | exact HB.out)) hb)
          clear HO_236001
          clear HO_241001
          clear HO_257001
          clear BK235
          clear BK240
          clear BK256
          clear HB
          have HO_236001 := n0_
          have HO_241001 := n1_
          have HO_257001 := n2_
          have HO262 := n3_
          have BK235 := n4_
          have BK240 := n5_
          have BK256 := n6_
          have HB := n7_
          clear n0_ n1_ n2_ n3_ n4_ n5_ n6_ n7_
          (try clear hb)
          (try clear hb2)
          (try clear hk)
          (try clear hi)
          (try clear ho0)
          obtain ⟨Ao63, co63, eo63⟩ := Kd.R_slice HO262.out
          (first | subst eo63 | (injection eo63 with f1_ f2_ f3_; have f4_ := f1_.symm; have f5_ := f3_.symm; clear f1_ f2_ f3_; subst f4_; subst f5_))
          refine hK.out _ _ ⟨(blk_cell BK256.out 0).trans rfl, (blk_cell BK256.out 1).trans rfl, (blk_cell BK235.out 0).trans rfl, (blk_cell BK235.out 1).trans rfl, (blk_cell BK240.out 0).trans rfl, (blk_cell BK240.out 1).trans rfl⟩ (fun hHeld => ?_)
          clear hK K
          refine norm_ (a' := ?_) ?_ ?_
          rotate_left
          ·show Act.put _ (some 60) _ = _
           simp only [Act.put, List.setIfInBounds_toArray, List.set_cons_zero, List.set_cons_succ, i64_w, i32_w]
           rfl
          refine one_ (i := 8) (N := some 61) #[true, true, true, true, true, true, true, true, true, true, false, false, false, false, false, false, false] rfl rfl (one_of HT_.out (by kernel_rfl)) (by decide) (fun K hK => ?_)
          refine goes_ Try.func18 (by kernel_rfl) rfl #[.agg #[.int .i64 t259, .slice Ao63 t260.length co63]] (by rfl) rfl rfl (by (try simp only [List.map_toArray, List.map_cons, List.map_nil]); first | done | rfl | (simp only [List.length_drop, List.length_take]; rfl)) ?_
          with_reducible refine (impl_GridTurn.calls t259 _ _ t260 t263 t264 _ ?side1 ?side2 A57.out).mono ?_
          (case side1 => repeat (first | exact (Kd.R_reads' HO262.out).2.2 | (with_reducible refine Kd.C_alloc ?_ _) | (with_reducible refine Kd.C_drewN ?_ _) | (with_reducible refine Kd.C_drew ?_)))
          (case side2 => exact (Kd.R_reads' HO262.out).2.1)
          rintro e w64 ⟨v265, rfl, ho0, hb⟩
          refine ⟨_, rfl, ?_⟩
          have n0_ := Aside0.mk (Kd.Q_elder' (by (with_reducible repeat (first | apply Kd.Q_alloc | apply Kd.Q_drewN | apply Kd.Q_drew)); exact HO_236001.out) (Kd.R_base ho0) hb)
          have n1_ := Aside0.mk (Kd.Q_elder' (by (with_reducible repeat (first | apply Kd.Q_alloc | apply Kd.Q_drewN | apply Kd.Q_drew)); exact HO_241001.out) (Kd.R_base ho0) hb)
          have n2_ := Aside0.mk (Kd.Q_elder' (by (with_reducible repeat (first | apply Kd.Q_alloc | apply Kd.Q_drewN | apply Kd.Q_drew)); exact HO_257001.out) (Kd.R_base ho0) hb)
          have n3_ := Aside0.mk (Kd.R_elder' (kR HO262.out) (Kd.R_base ho0) hb)
          have n4_ := Aside0.mk (Kd.R_lower (Kd.R_new' (Kd.R_new' (Kd.R_new' (Kd.R_new' ho0 (Kd.Q_lt (by (with_reducible repeat (first | apply Kd.Q_alloc | apply Kd.Q_drewN | apply Kd.Q_drew)); exact HO_236001.out))) (Kd.Q_lt (by (with_reducible repeat (first | apply Kd.Q_alloc | apply Kd.Q_drewN | apply Kd.Q_drew)); exact HO_241001.out))) (Kd.Q_lt (by (with_reducible repeat (first | apply Kd.Q_alloc | apply Kd.Q_drewN | apply Kd.Q_drew)); exact HO_257001.out))) (Kd.R_lt (kR HO262.out))) (below_size (by repeat (first | (with_reducible first | exact HB.out | apply below_alloc | apply pw_below_drewN | apply below_drew1 | refine below_set ?_ GE235.out | refine below_set ?_ GE240.out | refine below_set ?_ GE256.out) | exact HB.out))))
          have n5_ := Aside0.mk (blk_below (bK BK235.out) hb)
          have n6_ := Aside0.mk (blk_below (bK BK240.out) hb)
          have n7_ := Aside0.mk (blk_below (bK BK256.out) hb)
          have n8_ := Aside0.mk (below_step (by repeat (first | (with_reducible first | exact HB.out | apply below_alloc | apply pw_below_drewN | apply below_drew1 | refine below_set ?_ GE235.out | refine below_set ?_ GE240.out | refine below_set ?_ GE256.out) | exact HB.out)) hb)
          clear HO_236001
          clear HO_241001
          clear HO_257001
          clear HO262
          clear BK235
          clear BK240
          clear BK256
          clear HB
          have HO_236001 := n0_
          have HO_241001 := n1_
          have HO_257001 := n2_
          have HO262 := n3_
          have HO266 := n4_
          have BK235 := n5_
          have BK240 := n6_
          have BK256 := n7_
          have HB := n8_
          clear n0_ n1_ n2_ n3_ n4_ n5_ n6_ n7_ n8_
          (try clear hb)
          (try clear hb2)
          (try clear hk)
          (try clear hi)
          (try clear ho0)
          obtain ⟨Ao65, co65, eo65⟩ := Kd.R_slice HO266.out
          (first | subst eo65 | (injection eo65 with f1_ f2_ f3_; have f4_ := f1_.symm; have f5_ := f3_.symm; clear f1_ f2_ f3_; subst f4_; subst f5_))
          refine hK.out _ _ ⟨(blk_cell BK256.out 0).trans rfl, (blk_cell BK256.out 1).trans rfl, (blk_cell BK235.out 0).trans rfl, (blk_cell BK235.out 1).trans rfl, (blk_cell BK240.out 0).trans rfl, (blk_cell BK240.out 1).trans rfl⟩ (fun hHeld => ?_)
          clear hK K
          refine norm_ (a' := ?_) ?_ ?_
          rotate_left
          ·show Act.put _ (some 61) _ = _
           simp only [Act.put, List.setIfInBounds_toArray, List.set_cons_zero, List.set_cons_succ, i64_w, i32_w]
           rfl
          refine one_ (i := 10) (N := some 63) #[true, true, true, true, true, true, true, true, true, true, true, false, false, false, false, false, false] rfl rfl (one_of HT_.out (by kernel_rfl)) (by decide) (fun K hK => ?_)
          refine goes_ Try.func19 (by kernel_rfl) rfl #[.agg #[.int .i64 t263, .slice Ao65 t264.length co65], .agg #[.int .i64 t231, .slice Ao9 t232.length co9]] (by rfl) rfl rfl (by (try simp only [List.map_toArray, List.map_cons, List.map_nil]); first | done | rfl | (simp only [List.length_drop, List.length_take]; rfl)) ?_
          with_reducible refine (laws_llGrid.calls k2 t263 _ _ t264 t231 _ _ t232 true _ ?side1 ?side2 ?side3 ?side4 A58.out).mono ?_
          (case side1 => repeat (first | exact (Kd.R_reads' HO266.out).2.2 | (with_reducible refine Kd.C_alloc ?_ _) | (with_reducible refine Kd.C_drewN ?_ _) | (with_reducible refine Kd.C_drew ?_)))
          (case side2 => exact (Kd.R_reads' HO266.out).2.1)
          (case side3 => repeat (first | exact (Kd.Q_reads' HO_236001.out).2.2 | (with_reducible refine Kd.C_alloc ?_ _) | (with_reducible refine Kd.C_drewN ?_ _) | (with_reducible refine Kd.C_drew ?_)))
          (case side4 => exact (Kd.Q_reads' HO_236001.out).2.1)
          rintro e w66 ⟨rfl, hb⟩
          refine ⟨_, rfl, ?_⟩
          have n0_ := Aside0.mk (Kd.Q_below (by (with_reducible repeat (first | apply Kd.Q_alloc | apply Kd.Q_drewN | apply Kd.Q_drew)); exact HO_236001.out) hb)
          have n1_ := Aside0.mk (Kd.Q_below (by (with_reducible repeat (first | apply Kd.Q_alloc | apply Kd.Q_drewN | apply Kd.Q_drew)); exact HO_241001.out) hb)
          have n2_ := Aside0.mk (Kd.Q_below (by (with_reducible repeat (first | apply Kd.Q_alloc | apply Kd.Q_drewN | apply Kd.Q_drew)); exact HO_257001.out) hb)
          have n3_ := Aside0.mk (Kd.R_below (kR HO262.out) hb)
          have n4_ := Aside0.mk (Kd.R_below (kR HO266.out) hb)
          have n5_ := Aside0.mk (blk_below (bK BK235.out) hb)
          have n6_ := Aside0.mk (blk_below (bK BK240.out) hb)
          have n7_ := Aside0.mk (blk_below (bK BK256.out) hb)
          have n8_ := Aside0.mk (below_step (by repeat (first | (with_reducible first | exact HB.out | apply below_alloc | apply pw_below_drewN | apply below_drew1 | refine below_set ?_ GE235.out | refine below_set ?_ GE240.out | refine below_set ?_ GE256.out) | exact HB.out)) hb)
          clear HO_236001
          clear HO_241001
          clear HO_257001
          clear HO262
          clear HO266
          clear BK235
          clear BK240
          clear BK256
          clear HB
          have HO_236001 := n0_
          have HO_241001 := n1_
          have HO_257001 := n2_
          have HO262 := n3_
          have HO266 := n4_
          have BK235 := n5_
          have BK240 := n6_
          have BK256 := n7_
          have HB := n8_
          clear n0_ n1_ n2_ n3_ n4_ n5_ n6_ n7_ n8_
          (try clear hb)
          (try clear hb2)
          (try clear hk)
          (try clear hi)
          refine hK.out _ _ ⟨(blk_cell BK256.out 0).trans rfl, (blk_cell BK256.out 1).trans rfl, (blk_cell BK235.out 0).trans rfl, (blk_cell BK235.out 1).trans rfl, (blk_cell BK240.out 0).trans rfl, (blk_cell BK240.out 1).trans rfl⟩ (fun hHeld => ?_)
          clear hK K
          refine norm_ (a' := ?_) ?_ ?_
          rotate_left
          ·show Act.put _ (some 63) _ = _
           simp only [Act.put, List.setIfInBounds_toArray, List.set_cons_zero, List.set_cons_succ, i64_w, i32_w]
           rfl
          refine pure_ (i := 11) (N := some 64) (v := ?_) (a' := ?_) #[true, true, true, true, true, true, true, true, true, true, true, true, false, false, false, false, false] rfl rfl (any_of HT_.out (by kernel_rfl)) (fun _ _ _ h => h) (Or.inl ⟨by rfl, ?_⟩) ?_ ?_
          rotate_left
          ·intro w'
           go_simp
           with_reducible rfl
          rotate_left
          ·simp only [Act.put, List.setIfInBounds_toArray, List.set_cons_zero, List.set_cons_succ, i64_w, i32_w]
           rfl
          refine pure_ (i := 12) (N := some 65) (v := ?_) (a' := ?_) #[true, true, true, true, true, true, true, true, true, true, true, true, true, false, false, false, false] rfl rfl (any_of HT_.out (by kernel_rfl)) (fun _ _ _ h => h) (Or.inl ⟨by rfl, ?_⟩) ?_ ?_
          rotate_left
          ·intro w'
           go_simp
           with_reducible rfl
          rotate_left
          ·simp only [Act.put, List.setIfInBounds_toArray, List.set_cons_zero, List.set_cons_succ, i64_w, i32_w]
           rfl
          refine take_ (i := 13) (N := some 66) (v := ?_) (a' := ?_) #[true, true, true, true, true, true, true, true, true, true, true, true, true, true, false, false, false] rfl rfl (take_ofW HT_.out HW_.out (by kernel_rfl)) (fun _ _ _ h => h) (Or.inl ⟨by rfl, ?_⟩) hHeld ?_ ?_
          rotate_left
          ·rintro w' ⟨s0, s1, s2, s3, s4, s5⟩
           go_simp
           with_reducible rfl
          rotate_left
          ·simp only [Act.put, List.setIfInBounds_toArray, List.set_cons_zero, List.set_cons_succ, i64_w, i32_w]
           rfl
          refine one_ (i := 14) (N := some 67) #[true, true, true, true, true, true, true, true, true, true, true, true, true, true, true, false, false] rfl rfl (one_of HT_.out (by kernel_rfl)) (by decide) (fun K hK => ?_)
          refine goes_ Try.func22 (by kernel_rfl) rfl #[.agg #[.int .i64 t236, .slice Ao14 t237.length co14]] (by rfl) rfl rfl (by (try simp only [List.map_toArray, List.map_cons, List.map_nil]); first | done | rfl | (simp only [List.length_drop, List.length_take]; rfl)) ?_
          with_reducible refine (impl_GridOk.calls k2 t236 _ _ t237 t268 _ ?side1 ?side2 A60.out).mono ?_
          (case side1 => repeat (first | exact (Kd.Q_reads' HO_241001.out).2.2 | (with_reducible refine Kd.C_alloc ?_ _) | (with_reducible refine Kd.C_drewN ?_ _) | (with_reducible refine Kd.C_drew ?_)))
          (case side2 => exact (Kd.Q_reads' HO_241001.out).2.1)
          rintro e w67 ⟨rfl, hb⟩
          refine ⟨_, rfl, ?_⟩
          have n0_ := Aside0.mk (Kd.Q_below (by (with_reducible repeat (first | apply Kd.Q_alloc | apply Kd.Q_drewN | apply Kd.Q_drew)); exact HO_236001.out) hb)
          have n1_ := Aside0.mk (Kd.Q_below (by (with_reducible repeat (first | apply Kd.Q_alloc | apply Kd.Q_drewN | apply Kd.Q_drew)); exact HO_241001.out) hb)
          have n2_ := Aside0.mk (Kd.Q_below (by (with_reducible repeat (first | apply Kd.Q_alloc | apply Kd.Q_drewN | apply Kd.Q_drew)); exact HO_257001.out) hb)
          have n3_ := Aside0.mk (Kd.R_below (kR HO262.out) hb)
          have n4_ := Aside0.mk (Kd.R_below (kR HO266.out) hb)
          have n5_ := Aside0.mk (blk_below (bK BK235.out) hb)
          have n6_ := Aside0.mk (blk_below (bK BK240.out) hb)
          have n7_ := Aside0.mk (blk_below (bK BK256.out) hb)
          have n8_ := Aside0.mk (below_step (by repeat (first | (with_reducible first | exact HB.out | apply below_alloc | apply pw_below_drewN | apply below_drew1 | refine below_set ?_ GE235.out | refine below_set ?_ GE240.out | refine below_set ?_ GE256.out) | exact HB.out)) hb)
          clear HO_236001
          clear HO_241001
          clear HO_257001
          clear HO262
          clear HO266
          clear BK235
          clear BK240
          clear BK256
          clear HB
          have HO_236001 := n0_
          have HO_241001 := n1_
          have HO_257001 := n2_
          have HO262 := n3_
          have HO266 := n4_
          have BK235 := n5_
          have BK240 := n6_
          have BK256 := n7_
          have HB := n8_
          clear n0_ n1_ n2_ n3_ n4_ n5_ n6_ n7_ n8_
          (try clear hb)
          (try clear hb2)
          (try clear hk)
          (try clear hi)
          refine hK.out _ _ ⟨(blk_cell BK256.out 0).trans rfl, (blk_cell BK256.out 1).trans rfl, (blk_cell BK235.out 0).trans rfl, (blk_cell BK235.out 1).trans rfl, (blk_cell BK240.out 0).trans rfl, (blk_cell BK240.out 1).trans rfl⟩ (fun hHeld => ?_)
          clear hK K
          refine norm_ (a' := ?_) ?_ ?_
          rotate_left
          ·show Act.put _ (some 67) _ = _
           simp only [Act.put, List.setIfInBounds_toArray, List.set_cons_zero, List.set_cons_succ, i64_w, i32_w]
           rfl
          refine pure_ (i := 15) (N := some 68) (v := ?_) (a' := ?_) #[true, true, true, true, true, true, true, true, true, true, true, true, true, true, true, true, false] rfl rfl (any_of HT_.out (by kernel_rfl)) (fun _ _ _ h => h) (Or.inl ⟨by rfl, ?_⟩) ?_ ?_
          rotate_left
          ·intro w'
           go_simp
           with_reducible rfl
          rotate_left
          ·simp only [Act.put, List.setIfInBounds_toArray, List.set_cons_zero, List.set_cons_succ, i64_w, i32_w]
           rfl
          refine pure_ (i := 16) (N := some 2) (v := ?_) (a' := ?_) #[true, true, true, true, true, true, true, true, true, true, true, true, true, true, true, true, true] rfl rfl (any_of HT_.out (by kernel_rfl)) (fun _ _ _ h => h) (Or.inl ⟨by rfl, ?_⟩) ?_ ?_
          rotate_left
          ·intro w'
           go_simp
           with_reducible rfl
          rotate_left
          ·simp only [Act.put, List.setIfInBounds_toArray, List.set_cons_zero, List.set_cons_succ, i64_w, i32_w]
           rfl
          refine done_ (done_of HT_.out (by kernel_rfl)) ?_
          try go_wp2
          go_ret
          exact ⟨by first | rfl | (simp [errW_none, errW_some] <;> rfl) | (simp [*, errW_none, errW_some] <;> rfl) | (exfalso; simp_all; done), by repeat (first | (with_reducible first | exact HB.out | apply below_alloc | apply pw_below_drewN | apply below_drew1 | refine below_set ?_ GE235.out | refine below_set ?_ GE240.out | refine below_set ?_ GE256.out) | exact HB.out)⟩
         ·replace c59 := Bool.eq_false_iff.mpr c59
          subst c59
          have H1 : (some false) = some r := by rw [if_neg (show ¬ (false = true) by decide)] at H; exact H
          clear H
          have H := H1
          clear H1
          obtain rfl := Option.some.inj H
          exact absurd HRT.out (by decide)
        ·rw [if_neg c55] at H
         have c55b0 : (t252 == t231) = false := beq_eq_false_iff_ne.mpr c55
         have c55b1 : (t252 != t231) = true := bne_iff_ne.mpr c55
         obtain rfl := Option.some.inj H
         exact absurd HRT.out (by decide)

/-- THE ONE PURE STATEMENT of laws_FnTurnFour: yours. -/
def laws_FnTurnFour.Pure : Prop := ∀ (l0 : List Int), l0.length ≤ maxLen → l0.length * 1 ≤ 140737488351232 → (∀ x ∈ l0, (Lit.int .u8 x).wf = true) → ∃ k, laws_FnTurnFour.f k l0 = some true
theorem laws_FnTurnFour.walk (P : laws_FnTurnFour.Pure) (a0 : Option Addr) (len0 cap0 : Nat) (z0 : List Int) (w : World) (w0 : (a0 = none ∧ len0 = 0 ∧ cap0 = 0 ∧ z0 = []) ∨ ∃ x, a0 = some x ∧ len0 ≤ cap0 ∧ cap0 ≤ maxLen ∧ z0.length = cap0 ∧ (∀ i, i < z0.length → w.cell? (x.add i) = some (.int .u8 (z0.getD i 0))) ∧ ∀ n ∈ z0, (Lit.int .u8 n).wf = true) (y0 : len0 * 1 ≤ 140737488351232) :
  Calls Try.prog 4 #[.slice a0 len0 cap0] w fun e w' => e = .returned (.bool true) ∧ Below w.heap.size w w' := by
 obtain ⟨l0, rfl, hr0, hm0, hw0, hc0⟩ := ReadsInt.ofRowC w0
 obtain ⟨k, h⟩ := P l0 hm0 y0 hw0
 refine (laws_FnTurnFour.calls k _ _ l0 true w (Kd.C_of_reads (d := (0 : Int)) (h1 := fun _ => rfl) hr0) hc0 h rfl).mono ?_
 rintro e w' ⟨rfl, hd⟩
 exact ⟨rfl, hd⟩

end Go.Proofs.Ytbnofnamkgfadaa.P
