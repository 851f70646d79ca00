/- PROVED: contracts of functions of the program, the reference and the statements; written by this session's driver (pk.py) through its own changed copy of the kit's print. No condition. -/
import Derived.Test.YtbnofnamkgfadaaPx0
import Derived.Test.YtbnofnamkgfadaaPx9
import Derived.Test.YtbnofnamkgfadaaPx21
import Derived.Test.YtbnofnamkgfadaaPx22
import Derived.Test.YtbnofnamkgfadaaPx27
import Derived.Test.YtbnofnamkgfadaaH3Turn
namespace Go.Proofs.Ytbnofnamkgfadaa.P
open Go.RowKit Go.Proofs.YtbnofnamkgfadaaW.PrintWords Go.Proofs.YtbnofnamkgfadaaW.PrintLast Go.Proofs.YtbnofnamkgfadaaW.PrintMore
attribute [local go_sem] max2_int min2_int max_two min_two max_three min_three max_four min_four   -- for this text's walks alone
set_option linter.unusedVariables false
set_option linter.unusedSimpArgs false

/-! ### laws_FnSightTurn: function 7 -/
mutual
def laws_FnSightTurn.j0 : Nat → Int → Int → Int → Bool → Int → List (S24) → Option (Bool)
 | 0, _, _, _, _, _, _ => none
 | k + 1, x4, x5, x6, x41, x431000, x431001 => if x41 = true then ((spec_SightTurn.f k x431000 x431001 x4).bind fun t435 => (if x5 = t435 then ((spec_SightFlip.f k x431000 x431001 x4).bind fun t436 => (some (x6 == t436))) else (some false))) else ((impl_GridTurn.f x431000 x431001).bind fun bt437 => ((impl_GridTurn.f bt437.1 bt437.2).bind fun bt442 => ((impl_GridTurn.f bt442.1 bt442.2).bind fun bt447 => ((impl_SightTurn.f k bt437.1 bt437.2 x5).bind fun t452 => ((impl_SightTurn.f k bt442.1 bt442.2 t452).bind fun t453 => ((impl_SightTurn.f k bt447.1 bt447.2 t453).bind fun t454 => (laws_FnSightTurn.l0 k x4 x5 x6 t454 0 x431000 x431001)))))))
def laws_FnSightTurn.l0 : Nat → Int → Int → Int → Int → Int → Int → List (S24) → Option (Bool)
 | 0, _, _, _, _, _, _, _ => none
 | k + 1, x4, x5, x6, x10, x11, x431000, x431001 => (impl_SightMany.f k x431000 x431001).bind fun t455 => (if x11 < t455 then (if x11 = x4 then (laws_FnSightTurn.l0 k x4 x5 x6 x10 (wrap64 (x11 + 1)) x431000 x431001) else ((impl_SightTurn.f k x431000 x431001 x11).bind fun t457 => (if t457 = x5 then (some false) else ((impl_SightFlip.f k x431000 x431001 x11).bind fun t458 => (if t458 = x6 then (some false) else (laws_FnSightTurn.l0 k x4 x5 x6 x10 (wrap64 (x11 + 1)) x431000 x431001)))))) else (if x10 = x4 then ((impl_SightFlip.f k x431000 x431001 x6).bind fun t456 => (some (t456 == x4))) else (some false)))
end
def laws_FnSightTurn.f (k : Nat) (l0 : List Int) : Option (Bool) := if (l0.length : Int) > 1048576 then (some true) else ((spec_DrawSightTurn.f k l0).bind fun bt425 => ((impl_SightTurn.f k bt425.1 bt425.2.1 bt425.2.2).bind fun t431 => ((impl_SightFlip.f k bt425.1 bt425.2.1 bt425.2.2).bind fun t432 => ((spec_SightTurn.f k bt425.1 bt425.2.1 bt425.2.2).bind fun t433 => (if t431 = t433 then ((spec_SightFlip.f k bt425.1 bt425.2.1 bt425.2.2).bind fun t434 => (if t432 = t434 then (laws_FnSightTurn.j0 k bt425.2.2 t431 t432 (decide (t431 < 0)) bt425.1 bt425.2.1) else (laws_FnSightTurn.j0 k bt425.2.2 t431 t432 true bt425.1 bt425.2.1))) else (laws_FnSightTurn.j0 k bt425.2.2 t431 t432 true bt425.1 bt425.2.1))))))
theorem laws_FnSightTurn.mono_l : ∀ k, (∀ y0 y1 y2 y3 y4 y5, LeO (laws_FnSightTurn.j0 k y0 y1 y2 y3 y4 y5) (laws_FnSightTurn.j0 (k + 1) y0 y1 y2 y3 y4 y5)) ∧ (∀ y0 y1 y2 y3 y4 y5 y6, LeO (laws_FnSightTurn.l0 k y0 y1 y2 y3 y4 y5 y6) (laws_FnSightTurn.l0 (k + 1) y0 y1 y2 y3 y4 y5 y6))
 | 0 => ⟨fun _ _ _ _ _ _ r h => by simp [laws_FnSightTurn.j0] at h, fun _ _ _ _ _ _ _ r h => by simp [laws_FnSightTurn.l0] at h⟩
 | k + 1 => by
  obtain ⟨ih0, ih1⟩ := laws_FnSightTurn.mono_l k
  refine ⟨?_, ?_⟩
  ·intro y0 y1 y2 y3 y4 y5
   unfold laws_FnSightTurn.j0
   repeat' first
   | (with_reducible exact ih0 _ _ _ _ _ _)
   | (with_reducible exact ih1 _ _ _ _ _ _ _)
   | (with_reducible exact impl_SightFlip.mono _ _ _ _)
   | (with_reducible exact impl_SightMany.mono _ _ _)
   | (with_reducible exact impl_SightTurn.mono _ _ _ _)
   | (with_reducible exact spec_DrawSightTurn.mono _ _)
   | (with_reducible exact spec_SightFlip.mono _ _ _ _)
   | (with_reducible exact spec_SightTurn.mono _ _ _ _)
   | (with_reducible exact LeO.refl _)
   | (with_reducible exact LeO.none _)
   | (with_reducible refine LeO.ite ?_ ?_)
   | (with_reducible refine LeO.bind ?_ (fun _ => ?_))
   | exact ih0 _ _ _ _ _ _
   | exact ih1 _ _ _ _ _ _ _
   | exact impl_SightFlip.mono _ _ _ _
   | exact impl_SightMany.mono _ _ _
   | exact impl_SightTurn.mono _ _ _ _
   | exact spec_DrawSightTurn.mono _ _
   | exact spec_SightFlip.mono _ _ _ _
   | exact spec_SightTurn.mono _ _ _ _
   | exact LeO.none _
   | refine LeO.ite ?_ ?_
   | refine LeO.bind ?_ (fun _ => ?_)
  ·intro y0 y1 y2 y3 y4 y5 y6
   unfold laws_FnSightTurn.l0
   repeat' first
   | (with_reducible exact ih0 _ _ _ _ _ _)
   | (with_reducible exact ih1 _ _ _ _ _ _ _)
   | (with_reducible exact impl_SightFlip.mono _ _ _ _)
   | (with_reducible exact impl_SightMany.mono _ _ _)
   | (with_reducible exact impl_SightTurn.mono _ _ _ _)
   | (with_reducible exact spec_DrawSightTurn.mono _ _)
   | (with_reducible exact spec_SightFlip.mono _ _ _ _)
   | (with_reducible exact spec_SightTurn.mono _ _ _ _)
   | (with_reducible exact LeO.refl _)
   | (with_reducible exact LeO.none _)
   | (with_reducible refine LeO.ite ?_ ?_)
   | (with_reducible refine LeO.bind ?_ (fun _ => ?_))
   | exact ih0 _ _ _ _ _ _
   | exact ih1 _ _ _ _ _ _ _
   | exact impl_SightFlip.mono _ _ _ _
   | exact impl_SightMany.mono _ _ _
   | exact impl_SightTurn.mono _ _ _ _
   | exact spec_DrawSightTurn.mono _ _
   | exact spec_SightFlip.mono _ _ _ _
   | exact spec_SightTurn.mono _ _ _ _
   | exact LeO.none _
   | refine LeO.ite ?_ ?_
   | refine LeO.bind ?_ (fun _ => ?_)
theorem laws_FnSightTurn.mono : ∀ a0 k, LeO (laws_FnSightTurn.f k a0) (laws_FnSightTurn.f (k + 1) a0) := by
 intro a0 k
 obtain ⟨ih0, ih1⟩ := laws_FnSightTurn.mono_l k
 unfold laws_FnSightTurn.f
 repeat' first
   | (with_reducible exact ih0 _ _ _ _ _ _)
   | (with_reducible exact ih1 _ _ _ _ _ _ _)
   | (with_reducible exact impl_SightFlip.mono _ _ _ _)
   | (with_reducible exact impl_SightMany.mono _ _ _)
   | (with_reducible exact impl_SightTurn.mono _ _ _ _)
   | (with_reducible exact spec_DrawSightTurn.mono _ _)
   | (with_reducible exact spec_SightFlip.mono _ _ _ _)
   | (with_reducible exact spec_SightTurn.mono _ _ _ _)
   | (with_reducible exact LeO.refl _)
   | (with_reducible exact LeO.none _)
   | (with_reducible refine LeO.ite ?_ ?_)
   | (with_reducible refine LeO.bind ?_ (fun _ => ?_))
   | exact ih0 _ _ _ _ _ _
   | exact ih1 _ _ _ _ _ _ _
   | exact impl_SightFlip.mono _ _ _ _
   | exact impl_SightMany.mono _ _ _
   | exact impl_SightTurn.mono _ _ _ _
   | exact spec_DrawSightTurn.mono _ _
   | exact spec_SightFlip.mono _ _ _ _
   | exact spec_SightTurn.mono _ _ _ _
   | exact LeO.none _
   | refine LeO.ite ?_ ?_
   | refine LeO.bind ?_ (fun _ => ?_)
def laws_FnSightTurn.T11 : Bool × List (List Nat × List Nat) := (true, [([], []), ([], []), ([], []), ([], []), ([2, 3], [2, 3]), ([1, 4, 4], [1, 4]), ([0, 5, 5], [0, 5]), ([6, 6, 0, 1, 2, 3, 4, 5, 6], [6])])
def laws_FnSightTurn.B11 : List Nat := [0, 0, 0, 0, 12, 30, 63, 127]
theorem laws_FnSightTurn.tab11 : rtab .any (opsOf Try.f7 11) = laws_FnSightTurn.T11 := by kernel_rfl
theorem laws_FnSightTurn.bits11 : waitsOk laws_FnSightTurn.T11.2 laws_FnSightTurn.B11 = true := by kernel_rfl
set_option maxHeartbeats 8000000 in
set_option maxRecDepth 100000 in
theorem laws_FnSightTurn.calls (k : Nat) (A0 : Option Addr) (c0 : Nat) (l0 : List Int) (r : Bool) (w : World) (hr0 : Kd.C (Kd.int .u8) w A0 l0.length l0) (hc0 : l0.length ≤ c0) (h : laws_FnSightTurn.f k l0 = some r) (hrt : r = true) :
  Calls Try.prog 7 #[.slice A0 l0.length c0] w fun e w' => e = .returned (.bool r) ∧ Below w.heap.size w w' := by
 have HRT := Aside0.mk hrt
 clear hrt
 have hu30 := Try.underlying30
 have HR0 := Aside0.mk hr0
 have HC0 := Aside0.mk hc0
 clear hr0 hc0
 have HB := Aside0.mk (Below.refl w.heap.size w)
 have H : (if (l0.length : Int) > 1048576 then (some true) else ((spec_DrawSightTurn.f k l0).bind fun bt425 => ((impl_SightTurn.f k bt425.1 bt425.2.1 bt425.2.2).bind fun t431 => ((impl_SightFlip.f k bt425.1 bt425.2.1 bt425.2.2).bind fun t432 => ((spec_SightTurn.f k bt425.1 bt425.2.1 bt425.2.2).bind fun t433 => (if t431 = t433 then ((spec_SightFlip.f k bt425.1 bt425.2.1 bt425.2.2).bind fun t434 => (if t432 = t434 then (laws_FnSightTurn.j0 k bt425.2.2 t431 t432 (decide (t431 < 0)) bt425.1 bt425.2.1) else (laws_FnSightTurn.j0 k bt425.2.2 t431 t432 true bt425.1 bt425.2.1))) else (laws_FnSightTurn.j0 k bt425.2.2 t431 t432 true bt425.1 bt425.2.1))))))) = some r := h
 clear h
 by_cases c2 : (l0.length : Int) > 1048576
 ·rw [if_pos c2] at H
  have c2b0 : decide (1048576 < (l0.length : Int)) = true := decide_eq_true c2
  have c2b1 : decide (1048576 < l0.length) = true := decide_eq_true (by omega)
  clear c2
  obtain rfl := Option.some.inj H
  go_enter Try.func7, Try.ntmps7
  go_wp2
  go_ret
  exact ⟨by first | rfl | (simp [errW_none, errW_some] <;> rfl) | (simp [*, errW_none, errW_some] <;> rfl) | (exfalso; simp_all; done), by repeat (first | (with_reducible first | exact HB.out | apply below_alloc | apply pw_below_drewN | apply below_drew1) | exact HB.out)⟩
 ·rw [if_neg c2] at H
  have c2b0 : decide (1048576 < (l0.length : Int)) = false := decide_eq_false c2
  have c2b1 : decide (1048576 < l0.length) = false := decide_eq_false (by omega)
  clear c2
  replace H := Option.bind_eq_some_iff.mp H
  obtain ⟨⟨t425, t426, t429⟩, A30, H⟩ := H
  replace H : ((impl_SightTurn.f k t425 t426 t429).bind fun t431 => ((impl_SightFlip.f k t425 t426 t429).bind fun t432 => ((spec_SightTurn.f k t425 t426 t429).bind fun t433 => (if t431 = t433 then ((spec_SightFlip.f k t425 t426 t429).bind fun t434 => (if t432 = t434 then (laws_FnSightTurn.j0 k t429 t431 t432 (decide (t431 < 0)) t425 t426) else (laws_FnSightTurn.j0 k t429 t431 t432 true t425 t426))) else (laws_FnSightTurn.j0 k t429 t431 t432 true t425 t426))))) = some r := H
  have A3 := Aside0.mk A30
  clear A30
  replace H := Option.bind_eq_some_iff.mp H
  obtain ⟨t431, A40, H⟩ := H
  replace H : ((impl_SightFlip.f k t425 t426 t429).bind fun t432 => ((spec_SightTurn.f k t425 t426 t429).bind fun t433 => (if t431 = t433 then ((spec_SightFlip.f k t425 t426 t429).bind fun t434 => (if t432 = t434 then (laws_FnSightTurn.j0 k t429 t431 t432 (decide (t431 < 0)) t425 t426) else (laws_FnSightTurn.j0 k t429 t431 t432 true t425 t426))) else (laws_FnSightTurn.j0 k t429 t431 t432 true t425 t426)))) = some r := H
  have A4 := Aside0.mk A40
  clear A40
  replace H := Option.bind_eq_some_iff.mp H
  obtain ⟨t432, A50, H⟩ := H
  replace H : ((spec_SightTurn.f k t425 t426 t429).bind fun t433 => (if t431 = t433 then ((spec_SightFlip.f k t425 t426 t429).bind fun t434 => (if t432 = t434 then (laws_FnSightTurn.j0 k t429 t431 t432 (decide (t431 < 0)) t425 t426) else (laws_FnSightTurn.j0 k t429 t431 t432 true t425 t426))) else (laws_FnSightTurn.j0 k t429 t431 t432 true t425 t426))) = some r := H
  have A5 := Aside0.mk A50
  clear A50
  have HC6 := Aside0.mk H
  clear H
  go_enter Try.func7, Try.ntmps7
  go_upto_region 6 with (first | ((with_reducible refine gate_callee (f := 28) rfl ?_); refine goesL_ (some 17) rfl rfl Try.func28 (by kernel_rfl) rfl #[.slice A0 l0.length c0] rfl (by (try simp only [List.map_toArray, List.map_cons, List.map_nil]); first | done | rfl | (simp only [List.length_drop, List.length_take]; rfl)) ?_; (with_reducible refine (spec_DrawSightTurn.calls k _ _ l0 t425 t426 t429 _ ?side1 ?side2 A3.out).mono ?_); (case side1 => repeat (first | exact HR0.out | (with_reducible refine Kd.C_alloc ?_ _) | (with_reducible refine Kd.C_drewN ?_ _) | (with_reducible refine Kd.C_drew ?_))); (case side2 => exact HC0.out); rintro e w7 ⟨v427, rfl, ho0, hb⟩; refine ⟨_, rfl, ?_⟩; have n0_ := Aside0.mk (Kd.Q_lower ho0 (below_size (by repeat (first | (with_reducible first | exact HB.out | apply below_alloc | apply pw_below_drewN | apply below_drew1) | exact HB.out)))); have n1_ := Aside0.mk (below_step (by repeat (first | (with_reducible first | exact HB.out | apply below_alloc | apply pw_below_drewN | apply below_drew1) | exact HB.out)) hb); clear HB; have HO428 := n0_; have HB := n1_; clear n0_ n1_; (try clear hb); (try clear hb2); (try clear hk); (try clear hi); (try clear ho0)) | ((with_reducible refine gate_dst (N := 3) rfl ?_); refine box_event ?hg (N := 3) ?hd (cs := #[.int .i64 0, .slice none 0 0]) (t := 30) ?hr ?_; (case hd => rfl); (case hg => rfl); (case hr => first | (go_simp; done) | (go_simp; rfl)); intro gb430 hg w8 hbox hb; have n0_ := Aside0.mk (Kd.Q_below (by (with_reducible repeat (first | apply Kd.Q_alloc | apply Kd.Q_drewN | apply Kd.Q_drew)); exact HO428.out) hb); have n1_ := Aside0.mk (below_step (by repeat (first | (with_reducible first | exact HB.out | apply below_alloc | apply pw_below_drewN | apply below_drew1) | exact HB.out)) hb); have n2_ := Aside0.mk (hbox); have n3_ := Aside0.mk ((by rw [hg]; exact (below_size (by repeat (first | (with_reducible first | exact HB.out | apply below_alloc | apply pw_below_drewN | apply below_drew1) | exact HB.out))) : w.heap.size ≤ gb430)); have n4_ := Aside0.mk ((by rw [hg]; exact (below_size (by repeat (first | (with_reducible first | exact HB.out | apply below_alloc | apply pw_below_drewN | apply below_drew1) | exact HB.out))) : w.heap.size ≤ gb430)); clear HO428; clear HB; have HO428 := n0_; have HB := n1_; have BK430 := n2_; have GW430 := n3_; have GE430 := n4_; clear n0_ n1_ n2_ n3_ n4_; clear hb hbox hg; have hcz9_0 : w8.cell? ⟨gb430, 0, none⟩ = some (.int .i64 0) := (blk_cell BK430.out 0).trans rfl; have hcz9_1 : w8.cell? ⟨gb430, 1, none⟩ = some (.slice none 0 0) := (blk_cell BK430.out 1).trans rfl; have hfz9_0 := blk_frozen BK430.out 0; have hfz9_1 := blk_frozen BK430.out 1; obtain ⟨Ao10, co10, eo10, _⟩ := Kd.Q_slice HO428.out; subst eo10) | ((with_reducible refine gate_callee (f := 29) rfl ?_); refine goesL_ (some 22) rfl rfl Try.func29 (by kernel_rfl) rfl #[.agg #[.int .i64 t425, .slice Ao10 t426.length co10], .int .i64 t429] rfl (by (try simp only [List.map_toArray, List.map_cons, List.map_nil]); first | done | rfl | (simp only [List.length_drop, List.length_take]; rfl)) ?_; (with_reducible refine (impl_SightTurn.calls k t425 _ _ t426 t429 t431 _ ?side1 ?side2 A4.out).mono ?_); (case side1 => refine (Kd.Q_reads' (e := 24) (base := w.heap.size) (ok := fun k_ => True) (n := t426.length) (c := co10) ?_).2.2; exact (by (with_reducible repeat (first | apply Kd.Q_alloc | apply Kd.Q_drewN | apply Kd.Q_drew)); exact (Kd.Q_mono (Kd.Q_far (p := ⟨gb430, 1, none⟩) (Kd.Q_far (p := ⟨gb430, 0, none⟩) (Kd.Q_types HO428.out BK430.out (by decide)) (fun _ hk => hk.2) (.int .i64 t425)) (fun _ hk => hk.2) (.slice Ao10 t426.length co10)) (fun _ h_ => h_.1)))); (case side2 => exact (Kd.Q_reads' HO428.out).2.1); rintro e w11 ⟨rfl, hb⟩; refine ⟨_, rfl, ?_⟩; have n0_ := Aside0.mk (Kd.Q_below (by (with_reducible repeat (first | apply Kd.Q_alloc | apply Kd.Q_drewN | apply Kd.Q_drew)); exact (Kd.Q_mono (Kd.Q_far (p := ⟨gb430, 1, none⟩) (Kd.Q_far (p := ⟨gb430, 0, none⟩) (Kd.Q_types HO428.out BK430.out (by decide)) (fun _ hk => hk.2) (.int .i64 t425)) (fun _ hk => hk.2) (.slice Ao10 t426.length co10)) (fun _ h_ => h_.1))) hb); have n1_ := Aside0.mk (blk_below (g := gb430) (o := .cells #[.int .i64 t425, .slice Ao10 t426.length co10] 30 (0, 0)) (by (with_reducible repeat (first | refine blk_drewN ?_ _ | refine blk_drew ?_ | refine blk_alloc ?_ _)); refine blk_put (cs := #[.int .i64 t425, .slice none 0 0]) ?_ 1 _ rfl; (with_reducible repeat (first | refine blk_drewN ?_ _ | refine blk_drew ?_ | refine blk_alloc ?_ _)); refine blk_put (cs := #[.int .i64 0, .slice none 0 0]) ?_ 0 _ rfl; (with_reducible repeat (first | refine blk_drewN ?_ _ | refine blk_drew ?_ | refine blk_alloc ?_ _)); exact BK430.out) hb); have n2_ := Aside0.mk (below_step (by repeat (first | (with_reducible first | exact HB.out | apply below_alloc | apply pw_below_drewN | apply below_drew1 | refine below_set ?_ GE430.out) | exact HB.out)) hb); clear HO428; clear BK430; clear HB; have HO428 := n0_; have BK430 := n1_; have HB := n2_; clear n0_ n1_ n2_; (try clear hb); (try clear hb2); (try clear hk); (try clear hi); have hcz12_0 : w11.cell? ⟨gb430, 0, none⟩ = some (.int .i64 t425) := (blk_cell BK430.out 0).trans rfl; have hcz12_1 : w11.cell? ⟨gb430, 1, none⟩ = some (.slice Ao10 t426.length co10) := (blk_cell BK430.out 1).trans rfl; have hfz12_0 := blk_frozen BK430.out 0; have hfz12_1 := blk_frozen BK430.out 1) | ((with_reducible refine gate_callee (f := 30) rfl ?_); refine goesL_ (some 25) rfl rfl Try.func30 (by kernel_rfl) rfl #[.agg #[.int .i64 t425, .slice Ao10 t426.length co10], .int .i64 t429] rfl (by (try simp only [List.map_toArray, List.map_cons, List.map_nil]); first | done | rfl | (simp only [List.length_drop, List.length_take]; rfl)) ?_; (with_reducible refine (impl_SightFlip.calls k t425 _ _ t426 t429 t432 _ ?side1 ?side2 A5.out).mono ?_); (case side1 => repeat (first | exact (Kd.Q_reads' HO428.out).2.2 | (with_reducible refine Kd.C_alloc ?_ _) | (with_reducible refine Kd.C_drewN ?_ _) | (with_reducible refine Kd.C_drew ?_))); (case side2 => exact (Kd.Q_reads' HO428.out).2.1); rintro e w13 ⟨rfl, hb⟩; refine ⟨_, rfl, ?_⟩; have n0_ := Aside0.mk (Kd.Q_below (by (with_reducible repeat (first | apply Kd.Q_alloc | apply Kd.Q_drewN | apply Kd.Q_drew)); exact HO428.out) hb); have n1_ := Aside0.mk (blk_below (bK BK430.out) hb); have n2_ := Aside0.mk (below_step (by repeat (first | (with_reducible first | exact HB.out | apply below_alloc | apply pw_below_drewN | apply below_drew1 | refine below_set ?_ GE430.out) | exact HB.out)) hb); clear HO428; clear BK430; clear HB; have HO428 := n0_; have BK430 := n1_; have HB := n2_; clear n0_ n1_ n2_; (try clear hb); (try clear hb2); (try clear hk); (try clear hi)))
  (try simp only [Act.put, List.setIfInBounds_toArray, List.set_cons_zero, List.set_cons_succ])
  go_cut [41] (fun v41 wc => ∃ (kq : Nat) (x41_5 : Bool), v41 = .bool x41_5 ∧ Aside0 (laws_FnSightTurn.j0 kq t429 t431 t432 x41_5 t425 t426 = some r) ∧ Aside0 (kq ≤ k) ∧ Aside0 (Kd.Q k24 24 wc w.heap.size (fun _ => True) (.slice Ao10 t426.length co10) t426) ∧ Aside0 (wc.heap[gb430]? = some (.cells #[.int .i64 t425, (.slice Ao10 t426.length co10)] 30 (0, 0))) ∧ Aside0 (Below w.heap.size w wc))
  case first =>
   have H := HC6.out
   clear HC6
   replace H := Option.bind_eq_some_iff.mp H
   obtain ⟨t433, A140, H⟩ := H
   replace H : (if t431 = t433 then ((spec_SightFlip.f k t425 t426 t429).bind fun t434 => (if t432 = t434 then (laws_FnSightTurn.j0 k t429 t431 t432 (decide (t431 < 0)) t425 t426) else (laws_FnSightTurn.j0 k t429 t431 t432 true t425 t426))) else (laws_FnSightTurn.j0 k t429 t431 t432 true t425 t426)) = some r := H
   have A14 := Aside0.mk A140
   clear A140
   by_cases c15 : t431 = t433
   ·rw [if_pos c15] at H
    have c15b0 : (t431 == t433) = true := beq_iff_eq.mpr c15
    have c15b1 : (t431 != t433) = false := bne_eq_false_iff_eq.mpr c15
    clear c15
    (first | rw [c15b0] | (simp only [i64_w, i32_w]; rw [c15b0]) | skip)
    replace H := Option.bind_eq_some_iff.mp H
    obtain ⟨t434, A160, H⟩ := H
    replace H : (if t432 = t434 then (laws_FnSightTurn.j0 k t429 t431 t432 (decide (t431 < 0)) t425 t426) else (laws_FnSightTurn.j0 k t429 t431 t432 true t425 t426)) = some r := H
    have A16 := Aside0.mk A160
    clear A160
    by_cases c17 : t432 = t434
    ·rw [if_pos c17] at H
     have c17b0 : (t432 == t434) = true := beq_iff_eq.mpr c17
     have c17b1 : (t432 != t434) = false := bne_eq_false_iff_eq.mpr c17
     clear c17
     have H' := Aside0.mk H
     clear H
     have hcz18_0 : w13.cell? ⟨gb430, 0, none⟩ = some (.int .i64 t425) := (blk_cell BK430.out 0).trans rfl
     have hcz18_1 : w13.cell? ⟨gb430, 1, none⟩ = some (.slice Ao10 t426.length co10) := (blk_cell BK430.out 1).trans rfl
     have hfz18_0 := blk_frozen BK430.out 0
     have hfz18_1 := blk_frozen BK430.out 1
     go_wp2_with (first | ((with_reducible refine gate_callee (f := 31) rfl ?_); refine goesL_ (some 29) rfl rfl Try.func31 (by kernel_rfl) rfl #[.agg #[.int .i64 t425, .slice Ao10 t426.length co10], .int .i64 t429] rfl (by (try simp only [List.map_toArray, List.map_cons, List.map_nil]); first | done | rfl | (simp only [List.length_drop, List.length_take]; rfl)) ?_; (with_reducible refine (spec_SightTurn.calls k t425 _ _ t426 t429 t433 _ ?side1 ?side2 A14.out).mono ?_); (case side1 => repeat (first | exact (Kd.Q_reads' HO428.out).2.2 | (with_reducible refine Kd.C_alloc ?_ _) | (with_reducible refine Kd.C_drewN ?_ _) | (with_reducible refine Kd.C_drew ?_))); (case side2 => exact (Kd.Q_reads' HO428.out).2.1); rintro e w19 ⟨rfl, hb⟩; refine ⟨_, rfl, ?_⟩; have n0_ := Aside0.mk (Kd.Q_below (by (with_reducible repeat (first | apply Kd.Q_alloc | apply Kd.Q_drewN | apply Kd.Q_drew)); exact HO428.out) hb); have n1_ := Aside0.mk (blk_below (bK BK430.out) hb); have n2_ := Aside0.mk (below_step (by repeat (first | (with_reducible first | exact HB.out | apply below_alloc | apply pw_below_drewN | apply below_drew1 | refine below_set ?_ GE430.out) | exact HB.out)) hb); clear HO428; clear BK430; clear HB; have HO428 := n0_; have BK430 := n1_; have HB := n2_; clear n0_ n1_ n2_; (try clear hb); (try clear hb2); (try clear hk); (try clear hi); have hcz20_0 : w19.cell? ⟨gb430, 0, none⟩ = some (.int .i64 t425) := (blk_cell BK430.out 0).trans rfl; have hcz20_1 : w19.cell? ⟨gb430, 1, none⟩ = some (.slice Ao10 t426.length co10) := (blk_cell BK430.out 1).trans rfl; have hfz20_0 := blk_frozen BK430.out 0; have hfz20_1 := blk_frozen BK430.out 1) | (go_at_call 32; (with_reducible refine (spec_SightFlip.calls k t425 _ _ t426 t429 t434 _ ?side1 ?side2 A16.out).mono ?_); (case side1 => repeat (first | exact (Kd.Q_reads' HO428.out).2.2 | (with_reducible refine Kd.C_alloc ?_ _) | (with_reducible refine Kd.C_drewN ?_ _) | (with_reducible refine Kd.C_drew ?_))); (case side2 => exact (Kd.Q_reads' HO428.out).2.1); rintro e w21 ⟨rfl, hb⟩; have n0_ := Aside0.mk (Kd.Q_below (by (with_reducible repeat (first | apply Kd.Q_alloc | apply Kd.Q_drewN | apply Kd.Q_drew)); exact HO428.out) hb); have n1_ := Aside0.mk (blk_below (bK BK430.out) hb); have n2_ := Aside0.mk (below_step (by repeat (first | (with_reducible first | exact HB.out | apply below_alloc | apply pw_below_drewN | apply below_drew1 | refine below_set ?_ GE430.out) | exact HB.out)) hb); clear HO428; clear BK430; clear HB; have HO428 := n0_; have BK430 := n1_; have HB := n2_; clear n0_ n1_ n2_; (try clear hb); (try clear hb2); (try clear hk); (try clear hi)))
     go_meet
     case rel => exact ⟨_, (decide (t431 < 0)), (by first | rfl | (simp; done) | (simp [*]; done)), H', ⟨by first | omega | exact Nat.le_refl _⟩, ⟨by (with_reducible repeat (first | apply Kd.Q_alloc | apply Kd.Q_drewN | apply Kd.Q_drew)); exact HO428.out⟩, ⟨by (with_reducible repeat (first | refine blk_drewN ?_ _ | refine blk_drew ?_ | refine blk_alloc ?_ _)); exact BK430.out⟩, ⟨by repeat (first | (with_reducible first | exact HB.out | apply below_alloc | apply pw_below_drewN | apply below_drew1 | refine below_set ?_ GE430.out) | exact HB.out)⟩⟩
    ·rw [if_neg c17] at H
     have c17b0 : (t432 == t434) = false := beq_eq_false_iff_ne.mpr c17
     have c17b1 : (t432 != t434) = true := bne_iff_ne.mpr c17
     have H' := Aside0.mk H
     clear H
     have hcz22_0 : w13.cell? ⟨gb430, 0, none⟩ = some (.int .i64 t425) := (blk_cell BK430.out 0).trans rfl
     have hcz22_1 : w13.cell? ⟨gb430, 1, none⟩ = some (.slice Ao10 t426.length co10) := (blk_cell BK430.out 1).trans rfl
     have hfz22_0 := blk_frozen BK430.out 0
     have hfz22_1 := blk_frozen BK430.out 1
     go_wp2_with (first | ((with_reducible refine gate_callee (f := 31) rfl ?_); refine goesL_ (some 29) rfl rfl Try.func31 (by kernel_rfl) rfl #[.agg #[.int .i64 t425, .slice Ao10 t426.length co10], .int .i64 t429] rfl (by (try simp only [List.map_toArray, List.map_cons, List.map_nil]); first | done | rfl | (simp only [List.length_drop, List.length_take]; rfl)) ?_; (with_reducible refine (spec_SightTurn.calls k t425 _ _ t426 t429 t433 _ ?side1 ?side2 A14.out).mono ?_); (case side1 => repeat (first | exact (Kd.Q_reads' HO428.out).2.2 | (with_reducible refine Kd.C_alloc ?_ _) | (with_reducible refine Kd.C_drewN ?_ _) | (with_reducible refine Kd.C_drew ?_))); (case side2 => exact (Kd.Q_reads' HO428.out).2.1); rintro e w23 ⟨rfl, hb⟩; refine ⟨_, rfl, ?_⟩; have n0_ := Aside0.mk (Kd.Q_below (by (with_reducible repeat (first | apply Kd.Q_alloc | apply Kd.Q_drewN | apply Kd.Q_drew)); exact HO428.out) hb); have n1_ := Aside0.mk (blk_below (bK BK430.out) hb); have n2_ := Aside0.mk (below_step (by repeat (first | (with_reducible first | exact HB.out | apply below_alloc | apply pw_below_drewN | apply below_drew1 | refine below_set ?_ GE430.out) | exact HB.out)) hb); clear HO428; clear BK430; clear HB; have HO428 := n0_; have BK430 := n1_; have HB := n2_; clear n0_ n1_ n2_; (try clear hb); (try clear hb2); (try clear hk); (try clear hi); have hcz24_0 : w23.cell? ⟨gb430, 0, none⟩ = some (.int .i64 t425) := (blk_cell BK430.out 0).trans rfl; have hcz24_1 : w23.cell? ⟨gb430, 1, none⟩ = some (.slice Ao10 t426.length co10) := (blk_cell BK430.out 1).trans rfl; have hfz24_0 := blk_frozen BK430.out 0; have hfz24_1 := blk_frozen BK430.out 1) | (go_at_call 32; (with_reducible refine (spec_SightFlip.calls k t425 _ _ t426 t429 t434 _ ?side1 ?side2 A16.out).mono ?_); (case side1 => repeat (first | exact (Kd.Q_reads' HO428.out).2.2 | (with_reducible refine Kd.C_alloc ?_ _) | (with_reducible refine Kd.C_drewN ?_ _) | (with_reducible refine Kd.C_drew ?_))); (case side2 => exact (Kd.Q_reads' HO428.out).2.1); rintro e w25 ⟨rfl, hb⟩; have n0_ := Aside0.mk (Kd.Q_below (by (with_reducible repeat (first | apply Kd.Q_alloc | apply Kd.Q_drewN | apply Kd.Q_drew)); exact HO428.out) hb); have n1_ := Aside0.mk (blk_below (bK BK430.out) hb); have n2_ := Aside0.mk (below_step (by repeat (first | (with_reducible first | exact HB.out | apply below_alloc | apply pw_below_drewN | apply below_drew1 | refine below_set ?_ GE430.out) | exact HB.out)) hb); clear HO428; clear BK430; clear HB; have HO428 := n0_; have BK430 := n1_; have HB := n2_; clear n0_ n1_ n2_; (try clear hb); (try clear hb2); (try clear hk); (try clear hi)))
     go_meet
     case rel => exact ⟨_, (true), (by first | rfl | (simp; done) | (simp [*]; done)), H', ⟨by first | omega | exact Nat.le_refl _⟩, ⟨by (with_reducible repeat (first | apply Kd.Q_alloc | apply Kd.Q_drewN | apply Kd.Q_drew)); exact HO428.out⟩, ⟨by (with_reducible repeat (first | refine blk_drewN ?_ _ | refine blk_drew ?_ | refine blk_alloc ?_ _)); exact BK430.out⟩, ⟨by repeat (first | (with_reducible first | exact HB.out | apply below_alloc | apply pw_below_drewN | apply below_drew1 | refine below_set ?_ GE430.out) | exact HB.out)⟩⟩
   ·rw [if_neg c15] at H
    have c15b0 : (t431 == t433) = false := beq_eq_false_iff_ne.mpr c15
    have c15b1 : (t431 != t433) = true := bne_iff_ne.mpr c15
    (first | rw [c15b0] | (simp only [i64_w, i32_w]; rw [c15b0]) | skip)
    have H' := Aside0.mk H
    clear H
    have hcz26_0 : w13.cell? ⟨gb430, 0, none⟩ = some (.int .i64 t425) := (blk_cell BK430.out 0).trans rfl
    have hcz26_1 : w13.cell? ⟨gb430, 1, none⟩ = some (.slice Ao10 t426.length co10) := (blk_cell BK430.out 1).trans rfl
    have hfz26_0 := blk_frozen BK430.out 0
    have hfz26_1 := blk_frozen BK430.out 1
    go_wp2_with (first | ((with_reducible refine gate_callee (f := 31) rfl ?_); refine goesL_ (some 29) rfl rfl Try.func31 (by kernel_rfl) rfl #[.agg #[.int .i64 t425, .slice Ao10 t426.length co10], .int .i64 t429] rfl (by (try simp only [List.map_toArray, List.map_cons, List.map_nil]); first | done | rfl | (simp only [List.length_drop, List.length_take]; rfl)) ?_; (with_reducible refine (spec_SightTurn.calls k t425 _ _ t426 t429 t433 _ ?side1 ?side2 A14.out).mono ?_); (case side1 => repeat (first | exact (Kd.Q_reads' HO428.out).2.2 | (with_reducible refine Kd.C_alloc ?_ _) | (with_reducible refine Kd.C_drewN ?_ _) | (with_reducible refine Kd.C_drew ?_))); (case side2 => exact (Kd.Q_reads' HO428.out).2.1); rintro e w27 ⟨rfl, hb⟩; refine ⟨_, rfl, ?_⟩; have n0_ := Aside0.mk (Kd.Q_below (by (with_reducible repeat (first | apply Kd.Q_alloc | apply Kd.Q_drewN | apply Kd.Q_drew)); exact HO428.out) hb); have n1_ := Aside0.mk (blk_below (bK BK430.out) hb); have n2_ := Aside0.mk (below_step (by repeat (first | (with_reducible first | exact HB.out | apply below_alloc | apply pw_below_drewN | apply below_drew1 | refine below_set ?_ GE430.out) | exact HB.out)) hb); clear HO428; clear BK430; clear HB; have HO428 := n0_; have BK430 := n1_; have HB := n2_; clear n0_ n1_ n2_; (try clear hb); (try clear hb2); (try clear hk); (try clear hi)))
    go_meet
    case rel => exact ⟨_, (true), (by first | rfl | (simp; done) | (simp [*]; done)), H', ⟨by first | omega | exact Nat.le_refl _⟩, ⟨by (with_reducible repeat (first | apply Kd.Q_alloc | apply Kd.Q_drewN | apply Kd.Q_drew)); exact HO428.out⟩, ⟨by (with_reducible repeat (first | refine blk_drewN ?_ _ | refine blk_drew ?_ | refine blk_alloc ?_ _)); exact BK430.out⟩, ⟨by repeat (first | (with_reducible first | exact HB.out | apply below_alloc | apply pw_below_drewN | apply below_drew1 | refine below_set ?_ GE430.out) | exact HB.out)⟩⟩
  case rest =>
   clear HC6
   try clear c1
   try clear c2
   try clear c2b0
   try clear c2b1
   try clear p2
   try clear c3
   try clear c7
   try clear c15
   try clear c15b0
   try clear c15b1
   try clear c17
   try clear c17b0
   try clear c17b1
   try clear hcz12_0
   try clear hcz12_1
   try clear hcz18_0
   try clear hcz18_1
   try clear hcz20_0
   try clear hcz20_1
   try clear hcz22_0
   try clear hcz22_1
   try clear hcz24_0
   try clear hcz24_1
   try clear hcz26_0
   try clear hcz26_1
   try clear hcz9_0
   try clear hcz9_1
   try clear hfz12_0
   try clear hfz12_1
   try clear hfz18_0
   try clear hfz18_1
   try clear hfz20_0
   try clear hfz20_1
   try clear hfz22_0
   try clear hfz22_1
   try clear hfz24_0
   try clear hfz24_1
   try clear hfz26_0
   try clear hfz26_1
   try clear hfz9_0
   try clear hfz9_1
   obtain ⟨kq, x41_5, rfl, HA, HJ5, HO_431001, BK430, HB⟩ := hcut
   cases kq with
   | zero => exact absurd HA.out (by simp [laws_FnSightTurn.j0])
   | succ kj5 =>
    have H := HA.out
    clear HA
    simp only [laws_FnSightTurn.j0] at H
    by_cases c28 : x41_5 = true
    ·subst c28
     have H1 : ((spec_SightTurn.f kj5 t425 t426 t429).bind fun t435 => (if t431 = t435 then ((spec_SightFlip.f kj5 t425 t426 t429).bind fun t436 => (some (t432 == t436))) else (some false))) = some r := by rw [if_pos rfl] at H; exact H
     clear H
     have H := H1
     clear H1
     replace H := Option.bind_eq_some_iff.mp H
     obtain ⟨t435, A290, H⟩ := H
     replace H : (if t431 = t435 then ((spec_SightFlip.f kj5 t425 t426 t429).bind fun t436 => (some (t432 == t436))) else (some false)) = some r := H
     have A29 := Aside0.mk A290
     clear A290
     by_cases c30 : t431 = t435
     ·rw [if_pos c30] at H
      have c30b0 : (t431 == t435) = true := beq_iff_eq.mpr c30
      have c30b1 : (t431 != t435) = false := bne_eq_false_iff_eq.mpr c30
      clear c30
      replace H := Option.bind_eq_some_iff.mp H
      obtain ⟨t436, A310, H⟩ := H
      replace H : (some (t432 == t436)) = some r := H
      have A31 := Aside0.mk A310
      clear A310
      obtain rfl := Option.some.inj H
      have hcz32_0 : wc.cell? ⟨gb430, 0, none⟩ = some (.int .i64 t425) := (blk_cell BK430.out 0).trans rfl
      have hcz32_1 : wc.cell? ⟨gb430, 1, none⟩ = some (.slice Ao10 t426.length co10) := (blk_cell BK430.out 1).trans rfl
      have hfz32_0 := blk_frozen BK430.out 0
      have hfz32_1 := blk_frozen BK430.out 1
      go_wp2_with (first | ((with_reducible refine gate_callee (f := 31) rfl ?_); refine goesL_ (some 45) rfl rfl Try.func31 (by kernel_rfl) rfl #[.agg #[.int .i64 t425, .slice Ao10 t426.length co10], .int .i64 t429] rfl (by (try simp only [List.map_toArray, List.map_cons, List.map_nil]); first | done | rfl | (simp only [List.length_drop, List.length_take]; rfl)) ?_; (with_reducible refine (spec_SightTurn.calls kj5 t425 _ _ t426 t429 t435 _ ?side1 ?side2 A29.out).mono ?_); (case side1 => repeat (first | exact (Kd.Q_reads' HO_431001.out).2.2 | (with_reducible refine Kd.C_alloc ?_ _) | (with_reducible refine Kd.C_drewN ?_ _) | (with_reducible refine Kd.C_drew ?_))); (case side2 => exact (Kd.Q_reads' HO_431001.out).2.1); rintro e w33 ⟨rfl, hb⟩; refine ⟨_, rfl, ?_⟩; have n0_ := Aside0.mk (Kd.Q_below (by (with_reducible repeat (first | apply Kd.Q_alloc | apply Kd.Q_drewN | apply Kd.Q_drew)); exact HO_431001.out) hb); have n1_ := Aside0.mk (blk_below (bK BK430.out) hb); have n2_ := Aside0.mk (below_step (by repeat (first | (with_reducible first | exact HB.out | apply below_alloc | apply pw_below_drewN | apply below_drew1 | refine below_set ?_ GE430.out) | exact HB.out)) hb); clear HO_431001; clear BK430; clear HB; have HO_431001 := n0_; have BK430 := n1_; have HB := n2_; clear n0_ n1_ n2_; (try clear hb); (try clear hb2); (try clear hk); (try clear hi); have hcz34_0 : w33.cell? ⟨gb430, 0, none⟩ = some (.int .i64 t425) := (blk_cell BK430.out 0).trans rfl; have hcz34_1 : w33.cell? ⟨gb430, 1, none⟩ = some (.slice Ao10 t426.length co10) := (blk_cell BK430.out 1).trans rfl; have hfz34_0 := blk_frozen BK430.out 0; have hfz34_1 := blk_frozen BK430.out 1) | (go_at_call 32; (with_reducible refine (spec_SightFlip.calls kj5 t425 _ _ t426 t429 t436 _ ?side1 ?side2 A31.out).mono ?_); (case side1 => repeat (first | exact (Kd.Q_reads' HO_431001.out).2.2 | (with_reducible refine Kd.C_alloc ?_ _) | (with_reducible refine Kd.C_drewN ?_ _) | (with_reducible refine Kd.C_drew ?_))); (case side2 => exact (Kd.Q_reads' HO_431001.out).2.1); rintro e w35 ⟨rfl, hb⟩; have n0_ := Aside0.mk (Kd.Q_below (by (with_reducible repeat (first | apply Kd.Q_alloc | apply Kd.Q_drewN | apply Kd.Q_drew)); exact HO_431001.out) hb); have n1_ := Aside0.mk (blk_below (bK BK430.out) hb); have n2_ := Aside0.mk (below_step (by repeat (first | (with_reducible first | exact HB.out | apply below_alloc | apply pw_below_drewN | apply below_drew1 | refine below_set ?_ GE430.out) | exact HB.out)) hb); clear HO_431001; clear BK430; clear HB; have HO_431001 := n0_; have BK430 := n1_; have HB := n2_; clear n0_ n1_ n2_; (try clear hb); (try clear hb2); (try clear hk); (try clear hi)))
      go_ret
      exact ⟨by first | rfl | (simp [errW_none, errW_some] <;> rfl) | (simp [*, errW_none, errW_some] <;> rfl) | (exfalso; simp_all; done), by repeat (first | (with_reducible first | exact HB.out | apply below_alloc | apply pw_below_drewN | apply below_drew1 | refine below_set ?_ GE430.out) | exact HB.out)⟩
     ·rw [if_neg c30] at H
      have c30b0 : (t431 == t435) = false := beq_eq_false_iff_ne.mpr c30
      have c30b1 : (t431 != t435) = true := bne_iff_ne.mpr c30
      obtain rfl := Option.some.inj H
      exact absurd HRT.out (by decide)
    ·replace c28 := Bool.eq_false_iff.mpr c28
     subst c28
     have H1 : ((impl_GridTurn.f t425 t426).bind fun bt437 => ((impl_GridTurn.f bt437.1 bt437.2).bind fun bt442 => ((impl_GridTurn.f bt442.1 bt442.2).bind fun bt447 => ((impl_SightTurn.f kj5 bt437.1 bt437.2 t431).bind fun t452 => ((impl_SightTurn.f kj5 bt442.1 bt442.2 t452).bind fun t453 => ((impl_SightTurn.f kj5 bt447.1 bt447.2 t453).bind fun t454 => (laws_FnSightTurn.l0 kj5 t429 t431 t432 t454 0 t425 t426))))))) = some r := by rw [if_neg (show ¬ (false = true) by decide)] at H; exact H
     clear H
     have H := H1
     clear H1
     replace H := Option.bind_eq_some_iff.mp H
     obtain ⟨⟨t437, t438⟩, A360, H⟩ := H
     replace H : ((impl_GridTurn.f t437 t438).bind fun bt442 => ((impl_GridTurn.f bt442.1 bt442.2).bind fun bt447 => ((impl_SightTurn.f kj5 t437 t438 t431).bind fun t452 => ((impl_SightTurn.f kj5 bt442.1 bt442.2 t452).bind fun t453 => ((impl_SightTurn.f kj5 bt447.1 bt447.2 t453).bind fun t454 => (laws_FnSightTurn.l0 kj5 t429 t431 t432 t454 0 t425 t426)))))) = some r := H
     have A36 := Aside0.mk A360
     clear A360
     replace H := Option.bind_eq_some_iff.mp H
     obtain ⟨⟨t442, t443⟩, A370, H⟩ := H
     replace H : ((impl_GridTurn.f t442 t443).bind fun bt447 => ((impl_SightTurn.f kj5 t437 t438 t431).bind fun t452 => ((impl_SightTurn.f kj5 t442 t443 t452).bind fun t453 => ((impl_SightTurn.f kj5 bt447.1 bt447.2 t453).bind fun t454 => (laws_FnSightTurn.l0 kj5 t429 t431 t432 t454 0 t425 t426))))) = some r := H
     have A37 := Aside0.mk A370
     clear A370
     replace H := Option.bind_eq_some_iff.mp H
     obtain ⟨⟨t447, t448⟩, A380, H⟩ := H
     replace H : ((impl_SightTurn.f kj5 t437 t438 t431).bind fun t452 => ((impl_SightTurn.f kj5 t442 t443 t452).bind fun t453 => ((impl_SightTurn.f kj5 t447 t448 t453).bind fun t454 => (laws_FnSightTurn.l0 kj5 t429 t431 t432 t454 0 t425 t426)))) = some r := H
     have A38 := Aside0.mk A380
     clear A380
     replace H := Option.bind_eq_some_iff.mp H
     obtain ⟨t452, A390, H⟩ := H
     replace H : ((impl_SightTurn.f kj5 t442 t443 t452).bind fun t453 => ((impl_SightTurn.f kj5 t447 t448 t453).bind fun t454 => (laws_FnSightTurn.l0 kj5 t429 t431 t432 t454 0 t425 t426))) = some r := H
     have A39 := Aside0.mk A390
     clear A390
     replace H := Option.bind_eq_some_iff.mp H
     obtain ⟨t453, A400, H⟩ := H
     replace H : ((impl_SightTurn.f kj5 t447 t448 t453).bind fun t454 => (laws_FnSightTurn.l0 kj5 t429 t431 t432 t454 0 t425 t426)) = some r := H
     have A40 := Aside0.mk A400
     clear A400
     replace H := Option.bind_eq_some_iff.mp H
     obtain ⟨t454, A410, H⟩ := H
     replace H : (laws_FnSightTurn.l0 kj5 t429 t431 t432 t454 0 t425 t426) = some r := H
     have A41 := Aside0.mk A410
     clear A410
     have H' := Aside0.mk H
     clear H
     have hcz42_0 : wc.cell? ⟨gb430, 0, none⟩ = some (.int .i64 t425) := (blk_cell BK430.out 0).trans rfl
     have hcz42_1 : wc.cell? ⟨gb430, 1, none⟩ = some (.slice Ao10 t426.length co10) := (blk_cell BK430.out 1).trans rfl
     have hfz42_0 := blk_frozen BK430.out 0
     have hfz42_1 := blk_frozen BK430.out 1
     try go_wp2_with (first | ((with_reducible refine gate_callee (f := 18) rfl ?_); refine goesL_ (some 55) rfl rfl Try.func18 (by kernel_rfl) rfl #[.agg #[.int .i64 t425, .slice Ao10 t426.length co10]] rfl (by (try simp only [List.map_toArray, List.map_cons, List.map_nil]); first | done | rfl | (simp only [List.length_drop, List.length_take]; rfl)) ?_; (with_reducible refine (impl_GridTurn.calls t425 _ _ t426 t437 t438 _ ?side1 ?side2 A36.out).mono ?_); (case side1 => repeat (first | exact (Kd.Q_reads' HO_431001.out).2.2 | (with_reducible refine Kd.C_alloc ?_ _) | (with_reducible refine Kd.C_drewN ?_ _) | (with_reducible refine Kd.C_drew ?_))); (case side2 => exact (Kd.Q_reads' HO_431001.out).2.1); rintro e w43 ⟨v439, rfl, ho0, hb⟩; refine ⟨_, rfl, ?_⟩; have n0_ := Aside0.mk (Kd.Q_elder' (by (with_reducible repeat (first | apply Kd.Q_alloc | apply Kd.Q_drewN | apply Kd.Q_drew)); exact HO_431001.out) (Kd.R_base ho0) hb); have n1_ := Aside0.mk (Kd.R_lower (Kd.R_new' ho0 (Kd.Q_lt (by (with_reducible repeat (first | apply Kd.Q_alloc | apply Kd.Q_drewN | apply Kd.Q_drew)); exact HO_431001.out))) (below_size (by repeat (first | (with_reducible first | exact HB.out | apply below_alloc | apply pw_below_drewN | apply below_drew1 | refine below_set ?_ GE430.out) | exact HB.out)))); have n2_ := Aside0.mk (blk_below (bK BK430.out) hb); have n3_ := Aside0.mk (below_step (by repeat (first | (with_reducible first | exact HB.out | apply below_alloc | apply pw_below_drewN | apply below_drew1 | refine below_set ?_ GE430.out) | exact HB.out)) hb); clear HO_431001; clear BK430; clear HB; have HO_431001 := n0_; have HO440 := n1_; have BK430 := n2_; have HB := n3_; clear n0_ n1_ n2_ n3_; (try clear hb); (try clear hb2); (try clear hk); (try clear hi); (try clear ho0)) | ((with_reducible refine gate_dst (N := 7) rfl ?_); refine box_event ?hg (N := 7) ?hd (cs := #[.int .i64 0, .slice none 0 0]) (t := 30) ?hr ?_; (case hd => rfl); (case hg => rfl); (case hr => first | (go_simp; done) | (go_simp; rfl)); intro gb441 hg w44 hbox hb; have n0_ := Aside0.mk (Kd.Q_below (by (with_reducible repeat (first | apply Kd.Q_alloc | apply Kd.Q_drewN | apply Kd.Q_drew)); exact HO_431001.out) hb); have n1_ := Aside0.mk (Kd.R_below (kR HO440.out) hb); have n2_ := Aside0.mk (blk_below (bK BK430.out) hb); have n3_ := Aside0.mk (below_step (by repeat (first | (with_reducible first | exact HB.out | apply below_alloc | apply pw_below_drewN | apply below_drew1 | refine below_set ?_ GE430.out) | exact HB.out)) hb); have n4_ := Aside0.mk (hbox); have n5_ := Aside0.mk ((by rw [hg]; exact (below_size (by repeat (first | (with_reducible first | exact HB.out | apply below_alloc | apply pw_below_drewN | apply below_drew1 | refine below_set ?_ GE430.out) | exact HB.out))) : w.heap.size ≤ gb441)); have n6_ := Aside0.mk ((by rw [hg]; exact (below_size (by repeat (first | (with_reducible first | exact HB.out | apply below_alloc | apply pw_below_drewN | apply below_drew1 | refine below_set ?_ GE430.out) | exact HB.out))) : w.heap.size ≤ gb441)); have n7_ := Aside0.mk ((by rw [hg]; exact Nat.ne_of_lt (blk_lt (bK BK430.out)) : gb430 ≠ gb441)); have n8_ := Aside0.mk ((by rw [hg]; exact Nat.ne_of_gt (blk_lt (bK BK430.out)) : gb441 ≠ gb430)); clear HO_431001; clear HO440; clear BK430; clear HB; have HO_431001 := n0_; have HO440 := n1_; have BK430 := n2_; have HB := n3_; have BK441 := n4_; have GW441 := n5_; have GE441 := n6_; have NB430_441 := n7_; have NB441_430 := n8_; clear n0_ n1_ n2_ n3_ n4_ n5_ n6_ n7_ n8_; clear hb hbox hg; have hnb45 := NB441_430.out; have hnc45 := NB430_441.out; have hcz46_0 : w44.cell? ⟨gb441, 0, none⟩ = some (.int .i64 0) := (blk_cell BK441.out 0).trans rfl; have hcz46_1 : w44.cell? ⟨gb441, 1, none⟩ = some (.slice none 0 0) := (blk_cell BK441.out 1).trans rfl; have hfz46_0 := blk_frozen BK441.out 0; have hfz46_1 := blk_frozen BK441.out 1; obtain ⟨Ao47, co47, eo47⟩ := Kd.R_slice HO440.out; subst eo47) | ((with_reducible refine gate_callee (f := 18) rfl ?_); refine goesL_ (some 57) rfl rfl Try.func18 (by kernel_rfl) rfl #[.agg #[.int .i64 t437, .slice Ao47 t438.length co47]] rfl (by (try simp only [List.map_toArray, List.map_cons, List.map_nil]); first | done | rfl | (simp only [List.length_drop, List.length_take]; rfl)) ?_; (with_reducible refine (impl_GridTurn.calls t437 _ _ t438 t442 t443 _ ?side1 ?side2 A37.out).mono ?_); (case side1 => refine (Kd.R_reads' (e := 24) (base := w.heap.size) (ok := fun k_ => (True ∧ some k_ ≠ (.slice Ao10 t426.length co10 : Value).ownBlock)) (n := t438.length) (c := co47) ?_).2.2; exact (by (with_reducible repeat (first | apply Kd.R_alloc | apply Kd.R_drewN | apply Kd.R_drew)); exact (Kd.R_mono (Kd.R_far (p := ⟨gb441, 1, none⟩) (Kd.R_far (p := ⟨gb441, 0, none⟩) (Kd.R_types HO440.out BK441.out (by decide)) (fun _ hk => hk.2) (.int .i64 t437)) (fun _ hk => hk.2) (.slice Ao47 t438.length co47)) (fun _ h_ => h_.1)))); (case side2 => exact (Kd.R_reads' HO440.out).2.1); rintro e w48 ⟨v444, rfl, ho0, hb⟩; refine ⟨_, rfl, ?_⟩; have n0_ := Aside0.mk (Kd.Q_elder' (by (with_reducible repeat (first | apply Kd.Q_alloc | apply Kd.Q_drewN | apply Kd.Q_drew)); exact (Kd.Q_mono (Kd.Q_far (p := ⟨gb441, 1, none⟩) (Kd.Q_far (p := ⟨gb441, 0, none⟩) (Kd.Q_types HO_431001.out BK441.out (by decide)) (fun _ hk => hk.2) (.int .i64 t437)) (fun _ hk => hk.2) (.slice Ao47 t438.length co47)) (fun _ h_ => h_.1))) (Kd.R_base ho0) hb); have n1_ := Aside0.mk (Kd.R_elder' (by (with_reducible repeat (first | apply Kd.R_alloc | apply Kd.R_drewN | apply Kd.R_drew)); exact (Kd.R_mono (Kd.R_far (p := ⟨gb441, 1, none⟩) (Kd.R_far (p := ⟨gb441, 0, none⟩) (Kd.R_types HO440.out BK441.out (by decide)) (fun _ hk => hk.2) (.int .i64 t437)) (fun _ hk => hk.2) (.slice Ao47 t438.length co47)) (fun _ h_ => h_.1))) (Kd.R_base ho0) hb); have n2_ := Aside0.mk (Kd.R_lower (Kd.R_new' (Kd.R_new' ho0 (Kd.Q_lt (by (with_reducible repeat (first | apply Kd.Q_alloc | apply Kd.Q_drewN | apply Kd.Q_drew)); exact (Kd.Q_mono (Kd.Q_far (p := ⟨gb441, 1, none⟩) (Kd.Q_far (p := ⟨gb441, 0, none⟩) (Kd.Q_types HO_431001.out BK441.out (by decide)) (fun _ hk => hk.2) (.int .i64 t437)) (fun _ hk => hk.2) (.slice Ao47 t438.length co47)) (fun _ h_ => h_.1))))) (Kd.R_lt (by (with_reducible repeat (first | apply Kd.R_alloc | apply Kd.R_drewN | apply Kd.R_drew)); exact (Kd.R_mono (Kd.R_far (p := ⟨gb441, 1, none⟩) (Kd.R_far (p := ⟨gb441, 0, none⟩) (Kd.R_types HO440.out BK441.out (by decide)) (fun _ hk => hk.2) (.int .i64 t437)) (fun _ hk => hk.2) (.slice Ao47 t438.length co47)) (fun _ h_ => h_.1))))) (below_size (by repeat (first | (with_reducible first | exact HB.out | apply below_alloc | apply pw_below_drewN | apply below_drew1 | refine below_set ?_ GE430.out | refine below_set ?_ GE441.out) | exact HB.out)))); have n3_ := Aside0.mk (blk_below (g := gb430) (o := .cells #[.int .i64 t425, .slice Ao10 t426.length co10] 30 (0, 0)) (by (with_reducible repeat (first | refine blk_drewN ?_ _ | refine blk_drew ?_ | refine blk_alloc ?_ _)); refine blk_far ?_ NB430_441.out _; (with_reducible repeat (first | refine blk_drewN ?_ _ | refine blk_drew ?_ | refine blk_alloc ?_ _)); refine blk_far ?_ NB430_441.out _; (with_reducible repeat (first | refine blk_drewN ?_ _ | refine blk_drew ?_ | refine blk_alloc ?_ _)); exact BK430.out) hb); have n4_ := Aside0.mk (blk_below (g := gb441) (o := .cells #[.int .i64 t437, .slice Ao47 t438.length co47] 30 (0, 0)) (by (with_reducible repeat (first | refine blk_drewN ?_ _ | refine blk_drew ?_ | refine blk_alloc ?_ _)); refine blk_put (cs := #[.int .i64 t437, .slice none 0 0]) ?_ 1 _ rfl; (with_reducible repeat (first | refine blk_drewN ?_ _ | refine blk_drew ?_ | refine blk_alloc ?_ _)); refine blk_put (cs := #[.int .i64 0, .slice none 0 0]) ?_ 0 _ rfl; (with_reducible repeat (first | refine blk_drewN ?_ _ | refine blk_drew ?_ | refine blk_alloc ?_ _)); exact BK441.out) hb); have n5_ := Aside0.mk (below_step (by repeat (first | (with_reducible first | exact HB.out | apply below_alloc | apply pw_below_drewN | apply below_drew1 | refine below_set ?_ GE430.out | refine below_set ?_ GE441.out) | exact HB.out)) hb); clear HO_431001; clear HO440; clear BK430; clear BK441; clear HB; have HO_431001 := n0_; have HO440 := n1_; have HO445 := n2_; have BK430 := n3_; have BK441 := n4_; have HB := n5_; clear n0_ n1_ n2_ n3_ n4_ n5_; (try clear hb); (try clear hb2); (try clear hk); (try clear hi); (try clear ho0)) | ((with_reducible refine gate_dst (N := 8) rfl ?_); refine box_event ?hg (N := 8) ?hd (cs := #[.int .i64 0, .slice none 0 0]) (t := 30) ?hr ?_; (case hd => rfl); (case hg => rfl); (case hr => first | (go_simp; done) | (go_simp; rfl)); intro gb446 hg w49 hbox hb; have n0_ := Aside0.mk (Kd.Q_below (by (with_reducible repeat (first | apply Kd.Q_alloc | apply Kd.Q_drewN | apply Kd.Q_drew)); exact HO_431001.out) hb); have n1_ := Aside0.mk (Kd.R_below (kR HO440.out) hb); have n2_ := Aside0.mk (Kd.R_below (kR HO445.out) hb); have n3_ := Aside0.mk (blk_below (bK BK430.out) hb); have n4_ := Aside0.mk (blk_below (bK BK441.out) hb); have n5_ := Aside0.mk (below_step (by repeat (first | (with_reducible first | exact HB.out | apply below_alloc | apply pw_below_drewN | apply below_drew1 | refine below_set ?_ GE430.out | refine below_set ?_ GE441.out) | exact HB.out)) hb); have n6_ := Aside0.mk (hbox); have n7_ := Aside0.mk ((by rw [hg]; exact (below_size (by repeat (first | (with_reducible first | exact HB.out | apply below_alloc | apply pw_below_drewN | apply below_drew1 | refine below_set ?_ GE430.out | refine below_set ?_ GE441.out) | exact HB.out))) : w.heap.size ≤ gb446)); have n8_ := Aside0.mk ((by rw [hg]; exact (below_size (by repeat (first | (with_reducible first | exact HB.out | apply below_alloc | apply pw_below_drewN | apply below_drew1 | refine below_set ?_ GE430.out | refine below_set ?_ GE441.out) | exact HB.out))) : w.heap.size ≤ gb446)); have n9_ := Aside0.mk ((by rw [hg]; exact Nat.ne_of_lt (blk_lt (bK BK430.out)) : gb430 ≠ gb446)); have n10_ := Aside0.mk ((by rw [hg]; exact Nat.ne_of_gt (blk_lt (bK BK430.out)) : gb446 ≠ gb430)); have n11_ := Aside0.mk ((by rw [hg]; exact Nat.ne_of_lt (blk_lt (bK BK441.out)) : gb441 ≠ gb446)); have n12_ := Aside0.mk ((by rw [hg]; exact Nat.ne_of_gt (blk_lt (bK BK441.out)) : gb446 ≠ gb441)); clear HO_431001; clear HO440; clear HO445; clear BK430; clear BK441; clear HB; have HO_431001 := n0_; have HO440 := n1_; have HO445 := n2_; have BK430 := n3_; have BK441 := n4_; have HB := n5_; have BK446 := n6_; have GW446 := n7_; have GE446 := n8_; have NB430_446 := n9_; have NB446_430 := n10_; have NB441_446 := n11_; have NB446_441 := n12_; clear n0_ n1_ n2_ n3_ n4_ n5_ n6_ n7_ n8_ n9_ n10_ n11_ n12_; clear hb hbox hg; have hnb50 := NB446_430.out; have hnc50 := NB430_446.out; have hnb51 := NB446_441.out; have hnc51 := NB441_446.out; have hcz52_0 : w49.cell? ⟨gb446, 0, none⟩ = some (.int .i64 0) := (blk_cell BK446.out 0).trans rfl; have hcz52_1 : w49.cell? ⟨gb446, 1, none⟩ = some (.slice none 0 0) := (blk_cell BK446.out 1).trans rfl; have hfz52_0 := blk_frozen BK446.out 0; have hfz52_1 := blk_frozen BK446.out 1; obtain ⟨Ao53, co53, eo53⟩ := Kd.R_slice HO445.out; subst eo53) | ((with_reducible refine gate_callee (f := 18) rfl ?_); refine goesL_ (some 59) rfl rfl Try.func18 (by kernel_rfl) rfl #[.agg #[.int .i64 t442, .slice Ao53 t443.length co53]] rfl (by (try simp only [List.map_toArray, List.map_cons, List.map_nil]); first | done | rfl | (simp only [List.length_drop, List.length_take]; rfl)) ?_; (with_reducible refine (impl_GridTurn.calls t442 _ _ t443 t447 t448 _ ?side1 ?side2 A38.out).mono ?_); (case side1 => refine (Kd.R_reads' (e := 24) (base := w.heap.size) (ok := fun k_ => ((True ∧ some k_ ≠ (.slice Ao10 t426.length co10 : Value).ownBlock) ∧ some k_ ≠ (.slice Ao47 t438.length co47 : Value).ownBlock)) (n := t443.length) (c := co53) ?_).2.2; exact (by (with_reducible repeat (first | apply Kd.R_alloc | apply Kd.R_drewN | apply Kd.R_drew)); exact (Kd.R_mono (Kd.R_far (p := ⟨gb446, 1, none⟩) (Kd.R_far (p := ⟨gb446, 0, none⟩) (Kd.R_types HO445.out BK446.out (by decide)) (fun _ hk => hk.2) (.int .i64 t442)) (fun _ hk => hk.2) (.slice Ao53 t443.length co53)) (fun _ h_ => h_.1)))); (case side2 => exact (Kd.R_reads' HO445.out).2.1); rintro e w54 ⟨v449, rfl, ho0, hb⟩; refine ⟨_, rfl, ?_⟩; have n0_ := Aside0.mk (Kd.Q_elder' (by (with_reducible repeat (first | apply Kd.Q_alloc | apply Kd.Q_drewN | apply Kd.Q_drew)); exact (Kd.Q_mono (Kd.Q_far (p := ⟨gb446, 1, none⟩) (Kd.Q_far (p := ⟨gb446, 0, none⟩) (Kd.Q_types HO_431001.out BK446.out (by decide)) (fun _ hk => hk.2) (.int .i64 t442)) (fun _ hk => hk.2) (.slice Ao53 t443.length co53)) (fun _ h_ => h_.1))) (Kd.R_base ho0) hb); have n1_ := Aside0.mk (Kd.R_elder' (by (with_reducible repeat (first | apply Kd.R_alloc | apply Kd.R_drewN | apply Kd.R_drew)); exact (Kd.R_mono (Kd.R_far (p := ⟨gb446, 1, none⟩) (Kd.R_far (p := ⟨gb446, 0, none⟩) (Kd.R_types HO440.out BK446.out (by decide)) (fun _ hk => hk.2) (.int .i64 t442)) (fun _ hk => hk.2) (.slice Ao53 t443.length co53)) (fun _ h_ => h_.1))) (Kd.R_base ho0) hb); have n2_ := Aside0.mk (Kd.R_elder' (by (with_reducible repeat (first | apply Kd.R_alloc | apply Kd.R_drewN | apply Kd.R_drew)); exact (Kd.R_mono (Kd.R_far (p := ⟨gb446, 1, none⟩) (Kd.R_far (p := ⟨gb446, 0, none⟩) (Kd.R_types HO445.out BK446.out (by decide)) (fun _ hk => hk.2) (.int .i64 t442)) (fun _ hk => hk.2) (.slice Ao53 t443.length co53)) (fun _ h_ => h_.1))) (Kd.R_base ho0) hb); have n3_ := Aside0.mk (Kd.R_lower (Kd.R_new' (Kd.R_new' (Kd.R_new' ho0 (Kd.Q_lt (by (with_reducible repeat (first | apply Kd.Q_alloc | apply Kd.Q_drewN | apply Kd.Q_drew)); exact (Kd.Q_mono (Kd.Q_far (p := ⟨gb446, 1, none⟩) (Kd.Q_far (p := ⟨gb446, 0, none⟩) (Kd.Q_types HO_431001.out BK446.out (by decide)) (fun _ hk => hk.2) (.int .i64 t442)) (fun _ hk => hk.2) (.slice Ao53 t443.length co53)) (fun _ h_ => h_.1))))) (Kd.R_lt (by (with_reducible repeat (first | apply Kd.R_alloc | apply Kd.R_drewN | apply Kd.R_drew)); exact (Kd.R_mono (Kd.R_far (p := ⟨gb446, 1, none⟩) (Kd.R_far (p := ⟨gb446, 0, none⟩) (Kd.R_types HO440.out BK446.out (by decide)) (fun _ hk => hk.2) (.int .i64 t442)) (fun _ hk => hk.2) (.slice Ao53 t443.length co53)) (fun _ h_ => h_.1))))) (Kd.R_lt (by (with_reducible repeat (first | apply Kd.R_alloc | apply Kd.R_drewN | apply Kd.R_drew)); exact (Kd.R_mono (Kd.R_far (p := ⟨gb446, 1, none⟩) (Kd.R_far (p := ⟨gb446, 0, none⟩) (Kd.R_types HO445.out BK446.out (by decide)) (fun _ hk => hk.2) (.int .i64 t442)) (fun _ hk => hk.2) (.slice Ao53 t443.length co53)) (fun _ h_ => h_.1))))) (below_size (by repeat (first | (with_reducible first | exact HB.out | apply below_alloc | apply pw_below_drewN | apply below_drew1 | refine below_set ?_ GE430.out | refine below_set ?_ GE441.out | refine below_set ?_ GE446.out) | exact HB.out)))); have n4_ := Aside0.mk (blk_below (g := gb430) (o := .cells #[.int .i64 t425, .slice Ao10 t426.length co10] 30 (0, 0)) (by (with_reducible repeat (first | refine blk_drewN ?_ _ | refine blk_drew ?_ | refine blk_alloc ?_ _)); refine blk_far ?_ NB430_446.out _; (with_reducible repeat (first | refine blk_drewN ?_ _ | refine blk_drew ?_ | refine blk_alloc ?_ _)); refine blk_far ?_ NB430_446.out _; (with_reducible repeat (first | refine blk_drewN ?_ _ | refine blk_drew ?_ | refine blk_alloc ?_ _)); exact BK430.out) hb); have n5_ := Aside0.mk (blk_below (g := gb441) (o := .cells #[.int .i64 t437, .slice Ao47 t438.length co47] 30 (0, 0)) (by (with_reducible repeat (first | refine blk_drewN ?_ _ | refine blk_drew ?_ | refine blk_alloc ?_ _)); refine blk_far ?_ NB441_446.out _; (with_reducible repeat (first | refine blk_drewN ?_ _ | refine blk_drew ?_ | refine blk_alloc ?_ _)); refine blk_far ?_ NB441_446.out _; (with_reducible repeat (first | refine blk_drewN ?_ _ | refine blk_drew ?_ | refine blk_alloc ?_ _)); exact BK441.out) hb); have n6_ := Aside0.mk (blk_below (g := gb446) (o := .cells #[.int .i64 t442, .slice Ao53 t443.length co53] 30 (0, 0)) (by (with_reducible repeat (first | refine blk_drewN ?_ _ | refine blk_drew ?_ | refine blk_alloc ?_ _)); refine blk_put (cs := #[.int .i64 t442, .slice none 0 0]) ?_ 1 _ rfl; (with_reducible repeat (first | refine blk_drewN ?_ _ | refine blk_drew ?_ | refine blk_alloc ?_ _)); refine blk_put (cs := #[.int .i64 0, .slice none 0 0]) ?_ 0 _ rfl; (with_reducible repeat (first | refine blk_drewN ?_ _ | refine blk_drew ?_ | refine blk_alloc ?_ _)); exact BK446.out) hb); have n7_ := Aside0.mk (below_step (by repeat (first | (with_reducible first | exact HB.out | apply below_alloc | apply pw_below_drewN | apply below_drew1 | refine below_set ?_ GE430.out | refine below_set ?_ GE441.out | refine below_set ?_ GE446.out) | exact HB.out)) hb); clear HO_431001; clear HO440; clear HO445; clear BK430; clear BK441; clear BK446; clear HB; have HO_431001 := n0_; have HO440 := n1_; have HO445 := n2_; have HO450 := n3_; have BK430 := n4_; have BK441 := n5_; have BK446 := n6_; have HB := n7_; clear n0_ n1_ n2_ n3_ n4_ n5_ n6_ n7_; (try clear hb); (try clear hb2); (try clear hk); (try clear hi); (try clear ho0)) | ((with_reducible refine gate_dst (N := 9) rfl ?_); refine box_event ?hg (N := 9) ?hd (cs := #[.int .i64 0, .slice none 0 0]) (t := 30) ?hr ?_; (case hd => rfl); (case hg => rfl); (case hr => first | (go_simp; done) | (go_simp; rfl)); intro gb451 hg w55 hbox hb; have n0_ := Aside0.mk (Kd.Q_below (by (with_reducible repeat (first | apply Kd.Q_alloc | apply Kd.Q_drewN | apply Kd.Q_drew)); exact HO_431001.out) hb); have n1_ := Aside0.mk (Kd.R_below (kR HO440.out) hb); have n2_ := Aside0.mk (Kd.R_below (kR HO445.out) hb); have n3_ := Aside0.mk (Kd.R_below (kR HO450.out) hb); have n4_ := Aside0.mk (blk_below (bK BK430.out) hb); have n5_ := Aside0.mk (blk_below (bK BK441.out) hb); have n6_ := Aside0.mk (blk_below (bK BK446.out) hb); have n7_ := Aside0.mk (below_step (by repeat (first | (with_reducible first | exact HB.out | apply below_alloc | apply pw_below_drewN | apply below_drew1 | refine below_set ?_ GE430.out | refine below_set ?_ GE441.out | refine below_set ?_ GE446.out) | exact HB.out)) hb); have n8_ := Aside0.mk (hbox); have n9_ := Aside0.mk ((by rw [hg]; exact (below_size (by repeat (first | (with_reducible first | exact HB.out | apply below_alloc | apply pw_below_drewN | apply below_drew1 | refine below_set ?_ GE430.out | refine below_set ?_ GE441.out | refine below_set ?_ GE446.out) | exact HB.out))) : w.heap.size ≤ gb451)); have n10_ := Aside0.mk ((by rw [hg]; exact (below_size (by repeat (first | (with_reducible first | exact HB.out | apply below_alloc | apply pw_below_drewN | apply below_drew1 | refine below_set ?_ GE430.out | refine below_set ?_ GE441.out | refine below_set ?_ GE446.out) | exact HB.out))) : w.heap.size ≤ gb451)); have n11_ := Aside0.mk ((by rw [hg]; exact Nat.ne_of_lt (blk_lt (bK BK430.out)) : gb430 ≠ gb451)); have n12_ := Aside0.mk ((by rw [hg]; exact Nat.ne_of_gt (blk_lt (bK BK430.out)) : gb451 ≠ gb430)); have n13_ := Aside0.mk ((by rw [hg]; exact Nat.ne_of_lt (blk_lt (bK BK441.out)) : gb441 ≠ gb451)); have n14_ := Aside0.mk ((by rw [hg]; exact Nat.ne_of_gt (blk_lt (bK BK441.out)) : gb451 ≠ gb441)); have n15_ := Aside0.mk ((by rw [hg]; exact Nat.ne_of_lt (blk_lt (bK BK446.out)) : gb446 ≠ gb451)); have n16_ := Aside0.mk ((by rw [hg]; exact Nat.ne_of_gt (blk_lt (bK BK446.out)) : gb451 ≠ gb446)); clear HO_431001; clear HO440; clear HO445; clear HO450; clear BK430; clear BK441; clear BK446; clear HB; have HO_431001 := n0_; have HO440 := n1_; have HO445 := n2_; have HO450 := n3_; have BK430 := n4_; have BK441 := n5_; have BK446 := n6_; have HB := n7_; have BK451 := n8_; have GW451 := n9_; have GE451 := n10_; have NB430_451 := n11_; have NB451_430 := n12_; have NB441_451 := n13_; have NB451_441 := n14_; have NB446_451 := n15_; have NB451_446 := n16_; clear n0_ n1_ n2_ n3_ n4_ n5_ n6_ n7_ n8_ n9_ n10_ n11_ n12_ n13_ n14_ n15_ n16_; clear hb hbox hg; have hnb56 := NB451_430.out; have hnc56 := NB430_451.out; have hnb57 := NB451_441.out; have hnc57 := NB441_451.out; have hnb58 := NB451_446.out; have hnc58 := NB446_451.out; have hcz59_0 : w55.cell? ⟨gb451, 0, none⟩ = some (.int .i64 0) := (blk_cell BK451.out 0).trans rfl; have hcz59_1 : w55.cell? ⟨gb451, 1, none⟩ = some (.slice none 0 0) := (blk_cell BK451.out 1).trans rfl; have hfz59_0 := blk_frozen BK451.out 0; have hfz59_1 := blk_frozen BK451.out 1; obtain ⟨Ao60, co60, eo60⟩ := Kd.R_slice HO450.out; subst eo60))
     have n0_ : Aside0 (Kd.Q k24 24 ((w55.setCell ⟨gb451, 0, none⟩ (.int .i64 t447)).setCell ⟨gb451, 1, none⟩ (.slice Ao60 t448.length co60)) w.heap.size (fun k_ => some k_ ≠ (.slice Ao47 t438.length co47 : Value).ownBlock ∧ some k_ ≠ (.slice Ao53 t443.length co53 : Value).ownBlock ∧ some k_ ≠ (.slice Ao60 t448.length co60 : Value).ownBlock) (.slice Ao10 t426.length co10) t426) := ⟨by (with_reducible repeat (first | apply Kd.Q_alloc | apply Kd.Q_drewN | apply Kd.Q_drew)); exact Kd.Q_mono (Kd.Q_far (p := ⟨gb451, 1, none⟩) (Kd.Q_far (p := ⟨gb451, 0, none⟩) (Kd.Q_types HO_431001.out BK451.out (by decide)) (fun _ hk => hk.2) (.int .i64 t447)) (fun _ hk => hk.2) (.slice Ao60 t448.length co60)) (fun _ hk => ⟨hk.1.1.1.2, ⟨hk.1.1.2, hk.1.2⟩⟩)⟩
     have n1_ : Aside0 (Kd.R k24 24 ((w55.setCell ⟨gb451, 0, none⟩ (.int .i64 t447)).setCell ⟨gb451, 1, none⟩ (.slice Ao60 t448.length co60)) w.heap.size (fun k_ => some k_ ≠ (.slice Ao10 t426.length co10 : Value).ownBlock ∧ some k_ ≠ (.slice Ao53 t443.length co53 : Value).ownBlock ∧ some k_ ≠ (.slice Ao60 t448.length co60 : Value).ownBlock) (.slice Ao47 t438.length co47) t438) := ⟨by (with_reducible repeat (first | apply Kd.R_alloc | apply Kd.R_drewN | apply Kd.R_drew)); exact Kd.R_mono (Kd.R_far (p := ⟨gb451, 1, none⟩) (Kd.R_far (p := ⟨gb451, 0, none⟩) (Kd.R_types HO440.out BK451.out (by decide)) (fun _ hk => hk.2) (.int .i64 t447)) (fun _ hk => hk.2) (.slice Ao60 t448.length co60)) (fun _ hk => ⟨hk.1.1.1.2, ⟨hk.1.1.2, hk.1.2⟩⟩)⟩
     have n2_ : Aside0 (Kd.R k24 24 ((w55.setCell ⟨gb451, 0, none⟩ (.int .i64 t447)).setCell ⟨gb451, 1, none⟩ (.slice Ao60 t448.length co60)) w.heap.size (fun k_ => some k_ ≠ (.slice Ao10 t426.length co10 : Value).ownBlock ∧ some k_ ≠ (.slice Ao47 t438.length co47 : Value).ownBlock ∧ some k_ ≠ (.slice Ao60 t448.length co60 : Value).ownBlock) (.slice Ao53 t443.length co53) t443) := ⟨by (with_reducible repeat (first | apply Kd.R_alloc | apply Kd.R_drewN | apply Kd.R_drew)); exact Kd.R_mono (Kd.R_far (p := ⟨gb451, 1, none⟩) (Kd.R_far (p := ⟨gb451, 0, none⟩) (Kd.R_types HO445.out BK451.out (by decide)) (fun _ hk => hk.2) (.int .i64 t447)) (fun _ hk => hk.2) (.slice Ao60 t448.length co60)) (fun _ hk => ⟨hk.1.1.1.2, ⟨hk.1.1.2, hk.1.2⟩⟩)⟩
     have n3_ : Aside0 (Kd.R k24 24 ((w55.setCell ⟨gb451, 0, none⟩ (.int .i64 t447)).setCell ⟨gb451, 1, none⟩ (.slice Ao60 t448.length co60)) w.heap.size (fun k_ => some k_ ≠ (.slice Ao10 t426.length co10 : Value).ownBlock ∧ some k_ ≠ (.slice Ao47 t438.length co47 : Value).ownBlock ∧ some k_ ≠ (.slice Ao53 t443.length co53 : Value).ownBlock) (.slice Ao60 t448.length co60) t448) := ⟨by (with_reducible repeat (first | apply Kd.R_alloc | apply Kd.R_drewN | apply Kd.R_drew)); exact Kd.R_mono (Kd.R_far (p := ⟨gb451, 1, none⟩) (Kd.R_far (p := ⟨gb451, 0, none⟩) (Kd.R_types HO450.out BK451.out (by decide)) (fun _ hk => hk.2) (.int .i64 t447)) (fun _ hk => hk.2) (.slice Ao60 t448.length co60)) (fun _ hk => ⟨hk.1.1.1.2, ⟨hk.1.1.2, hk.1.2⟩⟩)⟩
     have n4_ : Aside0 (((w55.setCell ⟨gb451, 0, none⟩ (.int .i64 t447)).setCell ⟨gb451, 1, none⟩ (.slice Ao60 t448.length co60)).heap[gb430]? = some (.cells #[.int .i64 t425, .slice Ao10 t426.length co10] 30 (0, 0))) := ⟨by (with_reducible repeat (first | refine blk_drewN ?_ _ | refine blk_drew ?_ | refine blk_alloc ?_ _)); refine blk_far ?_ NB430_451.out _; (with_reducible repeat (first | refine blk_drewN ?_ _ | refine blk_drew ?_ | refine blk_alloc ?_ _)); refine blk_far ?_ NB430_451.out _; (with_reducible repeat (first | refine blk_drewN ?_ _ | refine blk_drew ?_ | refine blk_alloc ?_ _)); exact BK430.out⟩
     have n5_ : Aside0 (((w55.setCell ⟨gb451, 0, none⟩ (.int .i64 t447)).setCell ⟨gb451, 1, none⟩ (.slice Ao60 t448.length co60)).heap[gb441]? = some (.cells #[.int .i64 t437, .slice Ao47 t438.length co47] 30 (0, 0))) := ⟨by (with_reducible repeat (first | refine blk_drewN ?_ _ | refine blk_drew ?_ | refine blk_alloc ?_ _)); refine blk_far ?_ NB441_451.out _; (with_reducible repeat (first | refine blk_drewN ?_ _ | refine blk_drew ?_ | refine blk_alloc ?_ _)); refine blk_far ?_ NB441_451.out _; (with_reducible repeat (first | refine blk_drewN ?_ _ | refine blk_drew ?_ | refine blk_alloc ?_ _)); exact BK441.out⟩
     have n6_ : Aside0 (((w55.setCell ⟨gb451, 0, none⟩ (.int .i64 t447)).setCell ⟨gb451, 1, none⟩ (.slice Ao60 t448.length co60)).heap[gb446]? = some (.cells #[.int .i64 t442, .slice Ao53 t443.length co53] 30 (0, 0))) := ⟨by (with_reducible repeat (first | refine blk_drewN ?_ _ | refine blk_drew ?_ | refine blk_alloc ?_ _)); refine blk_far ?_ NB446_451.out _; (with_reducible repeat (first | refine blk_drewN ?_ _ | refine blk_drew ?_ | refine blk_alloc ?_ _)); refine blk_far ?_ NB446_451.out _; (with_reducible repeat (first | refine blk_drewN ?_ _ | refine blk_drew ?_ | refine blk_alloc ?_ _)); exact BK446.out⟩
     have n7_ : Aside0 (((w55.setCell ⟨gb451, 0, none⟩ (.int .i64 t447)).setCell ⟨gb451, 1, none⟩ (.slice Ao60 t448.length co60)).heap[gb451]? = some (.cells #[.int .i64 t447, .slice Ao60 t448.length co60] 30 (0, 0))) := ⟨by (with_reducible repeat (first | refine blk_drewN ?_ _ | refine blk_drew ?_ | refine blk_alloc ?_ _)); refine blk_put (cs := #[.int .i64 t447, .slice none 0 0]) ?_ 1 _ rfl; (with_reducible repeat (first | refine blk_drewN ?_ _ | refine blk_drew ?_ | refine blk_alloc ?_ _)); refine blk_put (cs := #[.int .i64 0, .slice none 0 0]) ?_ 0 _ rfl; (with_reducible repeat (first | refine blk_drewN ?_ _ | refine blk_drew ?_ | refine blk_alloc ?_ _)); exact BK451.out⟩
     have n8_ : Aside0 (Below w.heap.size w ((w55.setCell ⟨gb451, 0, none⟩ (.int .i64 t447)).setCell ⟨gb451, 1, none⟩ (.slice Ao60 t448.length co60))) := ⟨by repeat (first | (with_reducible first | exact HB.out | apply below_alloc | apply pw_below_drewN | apply below_drew1 | refine below_set ?_ GE430.out | refine below_set ?_ GE441.out | refine below_set ?_ GE446.out | refine below_set ?_ GE451.out) | exact HB.out)⟩
     (try clear HO_431001)
     (try clear HO440)
     (try clear HO445)
     (try clear HO450)
     (try clear BK430)
     (try clear BK441)
     (try clear BK446)
     (try clear BK451)
     (try clear HB)
     generalize ((w55.setCell ⟨gb451, 0, none⟩ (.int .i64 t447)).setCell ⟨gb451, 1, none⟩ (.slice Ao60 t448.length co60)) = w61 at n0_ n1_ n2_ n3_ n4_ n5_ n6_ n7_ n8_ ⊢
     have HO_431001 := n0_
     have HO440 := n1_
     have HO445 := n2_
     have HO450 := n3_
     have BK430 := n4_
     have BK441 := n5_
     have BK446 := n6_
     have BK451 := n7_
     have HB := n8_
     clear n0_ n1_ n2_ n3_ n4_ n5_ n6_ n7_ n8_
     have n0_ := Aside0.mk (Kd.Q_drew HO_431001.out)
     have n1_ := Aside0.mk (Kd.R_drew HO440.out)
     have n2_ := Aside0.mk (Kd.R_drew HO445.out)
     have n3_ := Aside0.mk (Kd.R_drew HO450.out)
     have n4_ := Aside0.mk (blk_drew BK430.out)
     have n5_ := Aside0.mk (blk_drew BK441.out)
     have n6_ := Aside0.mk (blk_drew BK446.out)
     have n7_ := Aside0.mk (blk_drew BK451.out)
     have n8_ := Aside0.mk (below_drew1 HB.out)
     clear HO_431001
     clear HO440
     clear HO445
     clear HO450
     clear BK430
     clear BK441
     clear BK446
     clear BK451
     clear HB
     have HO_431001 := n0_
     have HO440 := n1_
     have HO445 := n2_
     have HO450 := n3_
     have BK430 := n4_
     have BK441 := n5_
     have BK446 := n6_
     have BK451 := n7_
     have HB := n8_
     clear n0_ n1_ n2_ n3_ n4_ n5_ n6_ n7_ n8_
     refine start_ (n := 8) (S := fun w' => w'.cell? ⟨gb451, 0, none⟩ = some (.int .i64 t447) ∧ w'.cell? ⟨gb451, 1, none⟩ = some (.slice Ao60 t448.length co60) ∧ w'.cell? ⟨gb446, 0, none⟩ = some (.int .i64 t442) ∧ w'.cell? ⟨gb446, 1, none⟩ = some (.slice Ao53 t443.length co53) ∧ w'.cell? ⟨gb441, 0, none⟩ = some (.int .i64 t437) ∧ w'.cell? ⟨gb441, 1, none⟩ = some (.slice Ao47 t438.length co47)) (ds := []) #[false, false, false, false, false, false, false, false] (by kernel_rfl) rfl rfl ⟨(blk_cell BK451.out 0).trans rfl, (blk_cell BK451.out 1).trans rfl, (blk_cell BK446.out 0).trans rfl, (blk_cell BK446.out 1).trans rfl, (blk_cell BK441.out 0).trans rfl, (blk_cell BK441.out 1).trans rfl⟩ (fun hHeld => ?_); refine with_tabW laws_FnSightTurn.tab11 laws_FnSightTurn.bits11 (fun HT_ HW_ => ?_)
     generalize w61.drew = w62 at HO_431001 HO440 HO445 HO450 BK430 BK441 BK446 BK451 HB hHeld ⊢
     refine pure_ (i := 3) (N := some 63) (v := ?_) (a' := ?_) #[false, false, false, true, false, false, false, false] rfl rfl (any_of HT_.out (by kernel_rfl)) (fun _ _ _ h => h) (Or.inl ⟨by rfl, ?_⟩) ?_ ?_
     rotate_left
     ·intro w'
      go_simp
      with_reducible rfl
     rotate_left
     ·simp only [Act.put, List.setIfInBounds_toArray, List.set_cons_zero, List.set_cons_succ, i64_w, i32_w]
      rfl
     refine take_ (i := 0) (N := some 60) (v := ?_) (a' := ?_) #[true, false, false, true, false, false, false, false] rfl rfl (take_ofW HT_.out HW_.out (by kernel_rfl)) (fun _ _ _ h => h) (Or.inl ⟨by rfl, ?_⟩) hHeld ?_ ?_
     rotate_left
     ·rintro w' ⟨s0, s1, s2, s3, s4, s5⟩
      go_simp
      with_reducible rfl
     rotate_left
     ·simp only [Act.put, List.setIfInBounds_toArray, List.set_cons_zero, List.set_cons_succ, i64_w, i32_w]
      rfl
     refine take_ (i := 1) (N := some 61) (v := ?_) (a' := ?_) #[true, true, false, true, false, false, false, false] rfl rfl (take_ofW HT_.out HW_.out (by kernel_rfl)) (fun _ _ _ h => h) (Or.inl ⟨by rfl, ?_⟩) hHeld ?_ ?_
     rotate_left
     ·rintro w' ⟨s0, s1, s2, s3, s4, s5⟩
      go_simp
      with_reducible rfl
     rotate_left
     ·simp only [Act.put, List.setIfInBounds_toArray, List.set_cons_zero, List.set_cons_succ, i64_w, i32_w]
      rfl
     refine take_ (i := 2) (N := some 62) (v := ?_) (a' := ?_) #[true, true, true, true, false, false, false, false] rfl rfl (take_ofW HT_.out HW_.out (by kernel_rfl)) (fun _ _ _ h => h) (Or.inl ⟨by rfl, ?_⟩) hHeld ?_ ?_
     rotate_left
     ·rintro w' ⟨s0, s1, s2, s3, s4, s5⟩
      go_simp
      with_reducible rfl
     rotate_left
     ·simp only [Act.put, List.setIfInBounds_toArray, List.set_cons_zero, List.set_cons_succ, i64_w, i32_w]
      rfl
     refine one_ (i := 4) (N := some 64) #[true, true, true, true, true, false, false, false] rfl rfl (one_of HT_.out (by kernel_rfl)) (by decide) (fun K hK => ?_)
     refine goes_ Try.func29 (by kernel_rfl) rfl #[.agg #[.int .i64 t437, .slice Ao47 t438.length co47], .int .i64 t431] (by rfl) rfl rfl (by (try simp only [List.map_toArray, List.map_cons, List.map_nil]); first | done | rfl | (simp only [List.length_drop, List.length_take]; rfl)) ?_
     with_reducible refine (impl_SightTurn.calls kj5 t437 _ _ t438 t431 t452 _ ?side1 ?side2 A39.out).mono ?_
     (case side1 => repeat (first | exact (Kd.R_reads' HO440.out).2.2 | (with_reducible refine Kd.C_alloc ?_ _) | (with_reducible refine Kd.C_drewN ?_ _) | (with_reducible refine Kd.C_drew ?_)))
     (case side2 => exact (Kd.R_reads' HO440.out).2.1)
     rintro e w63 ⟨rfl, hb⟩
     refine ⟨_, rfl, ?_⟩
     have n0_ := Aside0.mk (Kd.Q_below (by (with_reducible repeat (first | apply Kd.Q_alloc | apply Kd.Q_drewN | apply Kd.Q_drew)); exact HO_431001.out) hb)
     have n1_ := Aside0.mk (Kd.R_below (kR HO440.out) hb)
     have n2_ := Aside0.mk (Kd.R_below (kR HO445.out) hb)
     have n3_ := Aside0.mk (Kd.R_below (kR HO450.out) hb)
     have n4_ := Aside0.mk (blk_below (bK BK430.out) hb)
     have n5_ := Aside0.mk (blk_below (bK BK441.out) hb)
     have n6_ := Aside0.mk (blk_below (bK BK446.out) hb)
     have n7_ := Aside0.mk (blk_below (bK BK451.out) hb)
     have n8_ := Aside0.mk (below_step (by repeat (first | (with_reducible first | exact HB.out | apply below_alloc | apply pw_below_drewN | apply below_drew1 | refine below_set ?_ GE430.out | refine below_set ?_ GE441.out | refine below_set ?_ GE446.out | refine below_set ?_ GE451.out) | exact HB.out)) hb)
     clear HO_431001
     clear HO440
     clear HO445
     clear HO450
     clear BK430
     clear BK441
     clear BK446
     clear BK451
     clear HB
     have HO_431001 := n0_
     have HO440 := n1_
     have HO445 := n2_
     have HO450 := n3_
     have BK430 := n4_
     have BK441 := n5_
     have BK446 := n6_
     have BK451 := n7_
     have HB := n8_
     clear n0_ n1_ n2_ n3_ n4_ n5_ n6_ n7_ n8_
     (try clear hb)
     (try clear hb2)
     (try clear hk)
     (try clear hi)
     refine hK.out _ _ ⟨(blk_cell BK451.out 0).trans rfl, (blk_cell BK451.out 1).trans rfl, (blk_cell BK446.out 0).trans rfl, (blk_cell BK446.out 1).trans rfl, (blk_cell BK441.out 0).trans rfl, (blk_cell BK441.out 1).trans rfl⟩ (fun hHeld => ?_)
     clear hK K
     refine norm_ (a' := ?_) ?_ ?_
     rotate_left
     ·show Act.put _ (some 64) _ = _
      simp only [Act.put, List.setIfInBounds_toArray, List.set_cons_zero, List.set_cons_succ, i64_w, i32_w]
      rfl
     refine one_ (i := 5) (N := some 65) #[true, true, true, true, true, true, false, false] rfl rfl (one_of HT_.out (by kernel_rfl)) (by decide) (fun K hK => ?_)
     refine goes_ Try.func29 (by kernel_rfl) rfl #[.agg #[.int .i64 t442, .slice Ao53 t443.length co53], .int .i64 t452] (by rfl) rfl rfl (by (try simp only [List.map_toArray, List.map_cons, List.map_nil]); first | done | rfl | (simp only [List.length_drop, List.length_take]; rfl)) ?_
     with_reducible refine (impl_SightTurn.calls kj5 t442 _ _ t443 t452 t453 _ ?side1 ?side2 A40.out).mono ?_
     (case side1 => repeat (first | exact (Kd.R_reads' HO445.out).2.2 | (with_reducible refine Kd.C_alloc ?_ _) | (with_reducible refine Kd.C_drewN ?_ _) | (with_reducible refine Kd.C_drew ?_)))
     (case side2 => exact (Kd.R_reads' HO445.out).2.1)
     rintro e w64 ⟨rfl, hb⟩
     refine ⟨_, rfl, ?_⟩
     have n0_ := Aside0.mk (Kd.Q_below (by (with_reducible repeat (first | apply Kd.Q_alloc | apply Kd.Q_drewN | apply Kd.Q_drew)); exact HO_431001.out) hb)
     have n1_ := Aside0.mk (Kd.R_below (kR HO440.out) hb)
     have n2_ := Aside0.mk (Kd.R_below (kR HO445.out) hb)
     have n3_ := Aside0.mk (Kd.R_below (kR HO450.out) hb)
     have n4_ := Aside0.mk (blk_below (bK BK430.out) hb)
     have n5_ := Aside0.mk (blk_below (bK BK441.out) hb)
     have n6_ := Aside0.mk (blk_below (bK BK446.out) hb)
     have n7_ := Aside0.mk (blk_below (bK BK451.out) hb)
     have n8_ := Aside0.mk (below_step (by repeat (first | (with_reducible first | exact HB.out | apply below_alloc | apply pw_below_drewN | apply below_drew1 | refine below_set ?_ GE430.out | refine below_set ?_ GE441.out | refine below_set ?_ GE446.out | refine below_set ?_ GE451.out) | exact HB.out)) hb)
     clear HO_431001
     clear HO440
     clear HO445
     clear HO450
     clear BK430
     clear BK441
     clear BK446
     clear BK451
     clear HB
     have HO_431001 := n0_
     have HO440 := n1_
     have HO445 := n2_
     have HO450 := n3_
     have BK430 := n4_
     have BK441 := n5_
     have BK446 := n6_
     have BK451 := n7_
     have HB := n8_
     clear n0_ n1_ n2_ n3_ n4_ n5_ n6_ n7_ n8_
     (try clear hb)
     (try clear hb2)
     (try clear hk)
     (try clear hi)
     refine hK.out _ _ ⟨(blk_cell BK451.out 0).trans rfl, (blk_cell BK451.out 1).trans rfl, (blk_cell BK446.out 0).trans rfl, (blk_cell BK446.out 1).trans rfl, (blk_cell BK441.out 0).trans rfl, (blk_cell BK441.out 1).trans rfl⟩ (fun hHeld => ?_)
     clear hK K
     refine norm_ (a' := ?_) ?_ ?_
     rotate_left
     ·show Act.put _ (some 65) _ = _
      simp only [Act.put, List.setIfInBounds_toArray, List.set_cons_zero, List.set_cons_succ, i64_w, i32_w]
      rfl
     refine one_ (i := 6) (N := some 66) #[true, true, true, true, true, true, true, false] rfl rfl (one_of HT_.out (by kernel_rfl)) (by decide) (fun K hK => ?_)
     refine goes_ Try.func29 (by kernel_rfl) rfl #[.agg #[.int .i64 t447, .slice Ao60 t448.length co60], .int .i64 t453] (by rfl) rfl rfl (by (try simp only [List.map_toArray, List.map_cons, List.map_nil]); first | done | rfl | (simp only [List.length_drop, List.length_take]; rfl)) ?_
     with_reducible refine (impl_SightTurn.calls kj5 t447 _ _ t448 t453 t454 _ ?side1 ?side2 A41.out).mono ?_
     (case side1 => repeat (first | exact (Kd.R_reads' HO450.out).2.2 | (with_reducible refine Kd.C_alloc ?_ _) | (with_reducible refine Kd.C_drewN ?_ _) | (with_reducible refine Kd.C_drew ?_)))
     (case side2 => exact (Kd.R_reads' HO450.out).2.1)
     rintro e w65 ⟨rfl, hb⟩
     refine ⟨_, rfl, ?_⟩
     have n0_ := Aside0.mk (Kd.Q_below (by (with_reducible repeat (first | apply Kd.Q_alloc | apply Kd.Q_drewN | apply Kd.Q_drew)); exact HO_431001.out) hb)
     have n1_ := Aside0.mk (Kd.R_below (kR HO440.out) hb)
     have n2_ := Aside0.mk (Kd.R_below (kR HO445.out) hb)
     have n3_ := Aside0.mk (Kd.R_below (kR HO450.out) hb)
     have n4_ := Aside0.mk (blk_below (bK BK430.out) hb)
     have n5_ := Aside0.mk (blk_below (bK BK441.out) hb)
     have n6_ := Aside0.mk (blk_below (bK BK446.out) hb)
     have n7_ := Aside0.mk (blk_below (bK BK451.out) hb)
     have n8_ := Aside0.mk (below_step (by repeat (first | (with_reducible first | exact HB.out | apply below_alloc | apply pw_below_drewN | apply below_drew1 | refine below_set ?_ GE430.out | refine below_set ?_ GE441.out | refine below_set ?_ GE446.out | refine below_set ?_ GE451.out) | exact HB.out)) hb)
     clear HO_431001
     clear HO440
     clear HO445
     clear HO450
     clear BK430
     clear BK441
     clear BK446
     clear BK451
     clear HB
     have HO_431001 := n0_
     have HO440 := n1_
     have HO445 := n2_
     have HO450 := n3_
     have BK430 := n4_
     have BK441 := n5_
     have BK446 := n6_
     have BK451 := n7_
     have HB := n8_
     clear n0_ n1_ n2_ n3_ n4_ n5_ n6_ n7_ n8_
     (try clear hb)
     (try clear hb2)
     (try clear hk)
     (try clear hi)
     refine hK.out _ _ ⟨(blk_cell BK451.out 0).trans rfl, (blk_cell BK451.out 1).trans rfl, (blk_cell BK446.out 0).trans rfl, (blk_cell BK446.out 1).trans rfl, (blk_cell BK441.out 0).trans rfl, (blk_cell BK441.out 1).trans rfl⟩ (fun hHeld => ?_)
     clear hK K
     refine norm_ (a' := ?_) ?_ ?_
     rotate_left
     ·show Act.put _ (some 66) _ = _
      simp only [Act.put, List.setIfInBounds_toArray, List.set_cons_zero, List.set_cons_succ, i64_w, i32_w]
      rfl
     refine pure_ (i := 7) (N := some 10) (v := ?_) (a' := ?_) #[true, true, true, true, true, true, true, true] rfl rfl (any_of HT_.out (by kernel_rfl)) (fun _ _ _ h => h) (Or.inl ⟨by rfl, ?_⟩) ?_ ?_
     rotate_left
     ·intro w'
      go_simp
      with_reducible rfl
     rotate_left
     ·simp only [Act.put, List.setIfInBounds_toArray, List.set_cons_zero, List.set_cons_succ, i64_w, i32_w]
      rfl
     refine done_ (done_of HT_.out (by kernel_rfl)) ?_
     try go_wp2
     go_loopg [11] kj5 (fun kq v11 w' => ∃ (x11_2 : Int), v11 = .int .i64 x11_2 ∧ Aside0 (laws_FnSightTurn.l0 kq t429 t431 t432 t454 x11_2 t425 t426 = some r) ∧ Aside0 (kq ≤ kj5) ∧ Aside0 (Kd.Q k24 24 w' w.heap.size (fun k_ => some k_ ≠ ((.slice Ao47 t438.length co47) : Value).ownBlock ∧ some k_ ≠ ((.slice Ao53 t443.length co53) : Value).ownBlock ∧ some k_ ≠ ((.slice Ao60 t448.length co60) : Value).ownBlock) (.slice Ao10 t426.length co10) t426) ∧ Aside0 (Kd.Q k24 24 w' w.heap.size (fun k_ => some k_ ≠ ((.slice Ao10 t426.length co10) : Value).ownBlock ∧ some k_ ≠ ((.slice Ao53 t443.length co53) : Value).ownBlock ∧ some k_ ≠ ((.slice Ao60 t448.length co60) : Value).ownBlock) (.slice Ao47 t438.length co47) t438) ∧ Aside0 (Kd.Q k24 24 w' w.heap.size (fun k_ => some k_ ≠ ((.slice Ao10 t426.length co10) : Value).ownBlock ∧ some k_ ≠ ((.slice Ao47 t438.length co47) : Value).ownBlock ∧ some k_ ≠ ((.slice Ao60 t448.length co60) : Value).ownBlock) (.slice Ao53 t443.length co53) t443) ∧ Aside0 (Kd.Q k24 24 w' w.heap.size (fun k_ => some k_ ≠ ((.slice Ao10 t426.length co10) : Value).ownBlock ∧ some k_ ≠ ((.slice Ao47 t438.length co47) : Value).ownBlock ∧ some k_ ≠ ((.slice Ao53 t443.length co53) : Value).ownBlock) (.slice Ao60 t448.length co60) t448) ∧ Aside0 (w'.heap[gb430]? = some (.cells #[.int .i64 t425, (.slice Ao10 t426.length co10)] 30 (0, 0))) ∧ Aside0 (w'.heap[gb441]? = some (.cells #[.int .i64 t437, (.slice Ao47 t438.length co47)] 30 (0, 0))) ∧ Aside0 (w'.heap[gb446]? = some (.cells #[.int .i64 t442, (.slice Ao53 t443.length co53)] 30 (0, 0))) ∧ Aside0 (w'.heap[gb451]? = some (.cells #[.int .i64 t447, (.slice Ao60 t448.length co60)] 30 (0, 0))) ∧ Aside0 (Below w.heap.size w w'))
     case atStart => exact ⟨(0), (by first | rfl | (simp; done) | (simp [*]; done)), H', ⟨Nat.le_refl _⟩, ⟨by (with_reducible repeat (first | apply Kd.Q_alloc | apply Kd.Q_drewN | apply Kd.Q_drew)); exact HO_431001.out⟩, ⟨Kd.Q_of_R (kR HO440.out)⟩, ⟨Kd.Q_of_R (kR HO445.out)⟩, ⟨Kd.Q_of_R (kR HO450.out)⟩, ⟨by (with_reducible repeat (first | refine blk_drewN ?_ _ | refine blk_drew ?_ | refine blk_alloc ?_ _)); exact BK430.out⟩, ⟨by (with_reducible repeat (first | refine blk_drewN ?_ _ | refine blk_drew ?_ | refine blk_alloc ?_ _)); exact BK441.out⟩, ⟨by (with_reducible repeat (first | refine blk_drewN ?_ _ | refine blk_drew ?_ | refine blk_alloc ?_ _)); exact BK446.out⟩, ⟨by (with_reducible repeat (first | refine blk_drewN ?_ _ | refine blk_drew ?_ | refine blk_alloc ?_ _)); exact BK451.out⟩, ⟨by repeat (first | (with_reducible first | exact HB.out | apply below_alloc | apply pw_below_drewN | apply below_drew1 | refine below_set ?_ GE430.out | refine below_set ?_ GE441.out | refine below_set ?_ GE446.out | refine below_set ?_ GE451.out) | exact HB.out)⟩⟩
     case round =>
      clear H'
      try clear c1
      try clear c2
      try clear c2b0
      try clear c2b1
      try clear p2
      try clear c3
      try clear c4
      try clear c5
      try clear c7
      try clear c15
      try clear c15b0
      try clear c15b1
      try clear c17
      try clear c17b0
      try clear c17b1
      try clear c18
      try clear c28
      try clear c29
      try clear c30
      try clear c30b0
      try clear c30b1
      try clear c31
      try clear c45
      try clear c50
      try clear c51
      try clear c56
      try clear c57
      try clear c58
      try clear hcz12_0
      try clear hcz12_1
      try clear hcz18_0
      try clear hcz18_1
      try clear hcz20_0
      try clear hcz20_1
      try clear hcz22_0
      try clear hcz22_1
      try clear hcz24_0
      try clear hcz24_1
      try clear hcz26_0
      try clear hcz26_1
      try clear hcz32_0
      try clear hcz32_1
      try clear hcz34_0
      try clear hcz34_1
      try clear hcz42_0
      try clear hcz42_1
      try clear hcz46_0
      try clear hcz46_1
      try clear hcz52_0
      try clear hcz52_1
      try clear hcz59_0
      try clear hcz59_1
      try clear hcz9_0
      try clear hcz9_1
      try clear hfz12_0
      try clear hfz12_1
      try clear hfz18_0
      try clear hfz18_1
      try clear hfz20_0
      try clear hfz20_1
      try clear hfz22_0
      try clear hfz22_1
      try clear hfz24_0
      try clear hfz24_1
      try clear hfz26_0
      try clear hfz26_1
      try clear hfz32_0
      try clear hfz32_1
      try clear hfz34_0
      try clear hfz34_1
      try clear hfz42_0
      try clear hfz42_1
      try clear hfz46_0
      try clear hfz46_1
      try clear hfz52_0
      try clear hfz52_1
      try clear hfz59_0
      try clear hfz59_1
      try clear hfz9_0
      try clear hfz9_1
      try clear p2
      obtain ⟨x11_2, rfl, HA, HK2, HO_431001, HO_442001, HO_447001, HO_452001, BK430, BK441, BK446, BK451, HB⟩ := hrel
      cases gk with
      | zero => exact absurd HA.out (by simp [laws_FnSightTurn.l0])
      | succ k2 =>
       have H := HA.out
       clear HA
       simp only [laws_FnSightTurn.l0] at H
       replace H := Option.bind_eq_some_iff.mp H
       obtain ⟨t455, A660, H⟩ := H
       replace H : (if x11_2 < t455 then (if x11_2 = t429 then (laws_FnSightTurn.l0 k2 t429 t431 t432 t454 (wrap64 (x11_2 + 1)) t425 t426) else ((impl_SightTurn.f k2 t425 t426 x11_2).bind fun t457 => (if t457 = t431 then (some false) else ((impl_SightFlip.f k2 t425 t426 x11_2).bind fun t458 => (if t458 = t432 then (some false) else (laws_FnSightTurn.l0 k2 t429 t431 t432 t454 (wrap64 (x11_2 + 1)) t425 t426)))))) else (if t454 = t429 then ((impl_SightFlip.f k2 t425 t426 t432).bind fun t456 => (some (t456 == t429))) else (some false))) = some r := H
       have A66 := Aside0.mk A660
       clear A660
       by_cases c67 : x11_2 < t455
       ·rw [if_pos c67] at H
        have c67b0 : decide (x11_2 < t455) = true := decide_eq_true c67
        clear c67
        by_cases c68 : x11_2 = t429
        ·rw [if_pos c68] at H
         have c68b0 : (x11_2 == t429) = true := beq_iff_eq.mpr c68
         have c68b1 : (x11_2 != t429) = false := bne_eq_false_iff_eq.mpr c68
         clear c68
         have H' := Aside0.mk H
         clear H
         have hnb69 := NB430_441.out
         have hnc69 := NB441_430.out
         have hnb70 := NB430_446.out
         have hnc70 := NB446_430.out
         have hnb71 := NB430_451.out
         have hnc71 := NB451_430.out
         have hcz72_0 : wr.cell? ⟨gb430, 0, none⟩ = some (.int .i64 t425) := (blk_cell BK430.out 0).trans rfl
         have hcz72_1 : wr.cell? ⟨gb430, 1, none⟩ = some (.slice Ao10 t426.length co10) := (blk_cell BK430.out 1).trans rfl
         have hfz72_0 := blk_frozen BK430.out 0
         have hfz72_1 := blk_frozen BK430.out 1
         go_wp2_with (first | ((with_reducible refine gate_callee (f := 33) rfl ?_); refine goesL_ (some 69) rfl rfl Try.func33 (by kernel_rfl) rfl #[.agg #[.int .i64 t425, .slice Ao10 t426.length co10]] rfl (by (try simp only [List.map_toArray, List.map_cons, List.map_nil]); first | done | rfl | (simp only [List.length_drop, List.length_take]; rfl)) ?_; (with_reducible refine (impl_SightMany.calls k2 t425 _ _ t426 t455 _ ?side1 ?side2 A66.out).mono ?_); (case side1 => repeat (first | exact (Kd.Q_reads' HO_431001.out).2.2 | (with_reducible refine Kd.C_alloc ?_ _) | (with_reducible refine Kd.C_drewN ?_ _) | (with_reducible refine Kd.C_drew ?_))); (case side2 => exact (Kd.Q_reads' HO_431001.out).2.1); rintro e w73 ⟨rfl, hb⟩; refine ⟨_, rfl, ?_⟩; have n0_ := Aside0.mk (Kd.Q_below (by (with_reducible repeat (first | apply Kd.Q_alloc | apply Kd.Q_drewN | apply Kd.Q_drew)); exact HO_431001.out) hb); have n1_ := Aside0.mk (Kd.Q_below (by (with_reducible repeat (first | apply Kd.Q_alloc | apply Kd.Q_drewN | apply Kd.Q_drew)); exact HO_442001.out) hb); have n2_ := Aside0.mk (Kd.Q_below (by (with_reducible repeat (first | apply Kd.Q_alloc | apply Kd.Q_drewN | apply Kd.Q_drew)); exact HO_447001.out) hb); have n3_ := Aside0.mk (Kd.Q_below (by (with_reducible repeat (first | apply Kd.Q_alloc | apply Kd.Q_drewN | apply Kd.Q_drew)); exact HO_452001.out) hb); have n4_ := Aside0.mk (blk_below (bK BK430.out) hb); have n5_ := Aside0.mk (blk_below (bK BK441.out) hb); have n6_ := Aside0.mk (blk_below (bK BK446.out) hb); have n7_ := Aside0.mk (blk_below (bK BK451.out) hb); have n8_ := Aside0.mk (below_step (by repeat (first | (with_reducible first | exact HB.out | apply below_alloc | apply pw_below_drewN | apply below_drew1 | refine below_set ?_ GE430.out | refine below_set ?_ GE441.out | refine below_set ?_ GE446.out | refine below_set ?_ GE451.out) | exact HB.out)) hb); clear HO_431001; clear HO_442001; clear HO_447001; clear HO_452001; clear BK430; clear BK441; clear BK446; clear BK451; clear HB; have HO_431001 := n0_; have HO_442001 := n1_; have HO_447001 := n2_; have HO_452001 := n3_; have BK430 := n4_; have BK441 := n5_; have BK446 := n6_; have BK451 := n7_; have HB := n8_; clear n0_ n1_ n2_ n3_ n4_ n5_ n6_ n7_ n8_; (try clear hb); (try clear hb2); (try clear hk); (try clear hi)))
         go_roundg k2
         case measure => have := HJ5.out; have := HK2.out; omega
         case rel => exact ⟨(wrap64 (x11_2 + 1)), (by first | rfl | (simp; done) | (simp [*]; done)), H', ⟨by have := HJ5.out; have := HK2.out; omega⟩, ⟨by (with_reducible repeat (first | apply Kd.Q_alloc | apply Kd.Q_drewN | apply Kd.Q_drew)); exact HO_431001.out⟩, ⟨by (with_reducible repeat (first | apply Kd.Q_alloc | apply Kd.Q_drewN | apply Kd.Q_drew)); exact HO_442001.out⟩, ⟨by (with_reducible repeat (first | apply Kd.Q_alloc | apply Kd.Q_drewN | apply Kd.Q_drew)); exact HO_447001.out⟩, ⟨by (with_reducible repeat (first | apply Kd.Q_alloc | apply Kd.Q_drewN | apply Kd.Q_drew)); exact HO_452001.out⟩, ⟨by (with_reducible repeat (first | refine blk_drewN ?_ _ | refine blk_drew ?_ | refine blk_alloc ?_ _)); exact BK430.out⟩, ⟨by (with_reducible repeat (first | refine blk_drewN ?_ _ | refine blk_drew ?_ | refine blk_alloc ?_ _)); exact BK441.out⟩, ⟨by (with_reducible repeat (first | refine blk_drewN ?_ _ | refine blk_drew ?_ | refine blk_alloc ?_ _)); exact BK446.out⟩, ⟨by (with_reducible repeat (first | refine blk_drewN ?_ _ | refine blk_drew ?_ | refine blk_alloc ?_ _)); exact BK451.out⟩, ⟨by repeat (first | (with_reducible first | exact HB.out | apply below_alloc | apply pw_below_drewN | apply below_drew1 | refine below_set ?_ GE430.out | refine below_set ?_ GE441.out | refine below_set ?_ GE446.out | refine below_set ?_ GE451.out) | exact HB.out)⟩⟩
        ·rw [if_neg c68] at H
         have c68b0 : (x11_2 == t429) = false := beq_eq_false_iff_ne.mpr c68
         have c68b1 : (x11_2 != t429) = true := bne_iff_ne.mpr c68
         replace H := Option.bind_eq_some_iff.mp H
         obtain ⟨t457, A740, H⟩ := H
         replace H : (if t457 = t431 then (some false) else ((impl_SightFlip.f k2 t425 t426 x11_2).bind fun t458 => (if t458 = t432 then (some false) else (laws_FnSightTurn.l0 k2 t429 t431 t432 t454 (wrap64 (x11_2 + 1)) t425 t426)))) = some r := H
         have A74 := Aside0.mk A740
         clear A740
         by_cases c75 : t457 = t431
         ·rw [if_pos c75] at H
          have c75b0 : (t457 == t431) = true := beq_iff_eq.mpr c75
          have c75b1 : (t457 != t431) = false := bne_eq_false_iff_eq.mpr c75
          clear c75
          obtain rfl := Option.some.inj H
          exact absurd HRT.out (by decide)
         ·rw [if_neg c75] at H
          have c75b0 : (t457 == t431) = false := beq_eq_false_iff_ne.mpr c75
          have c75b1 : (t457 != t431) = true := bne_iff_ne.mpr c75
          replace H := Option.bind_eq_some_iff.mp H
          obtain ⟨t458, A760, H⟩ := H
          replace H : (if t458 = t432 then (some false) else (laws_FnSightTurn.l0 k2 t429 t431 t432 t454 (wrap64 (x11_2 + 1)) t425 t426)) = some r := H
          have A76 := Aside0.mk A760
          clear A760
          by_cases c77 : t458 = t432
          ·rw [if_pos c77] at H
           have c77b0 : (t458 == t432) = true := beq_iff_eq.mpr c77
           have c77b1 : (t458 != t432) = false := bne_eq_false_iff_eq.mpr c77
           clear c77
           obtain rfl := Option.some.inj H
           exact absurd HRT.out (by decide)
          ·rw [if_neg c77] at H
           have c77b0 : (t458 == t432) = false := beq_eq_false_iff_ne.mpr c77
           have c77b1 : (t458 != t432) = true := bne_iff_ne.mpr c77
           have H' := Aside0.mk H
           clear H
           have hnb78 := NB430_441.out
           have hnc78 := NB441_430.out
           have hnb79 := NB430_446.out
           have hnc79 := NB446_430.out
           have hnb80 := NB430_451.out
           have hnc80 := NB451_430.out
           have hcz81_0 : wr.cell? ⟨gb430, 0, none⟩ = some (.int .i64 t425) := (blk_cell BK430.out 0).trans rfl
           have hcz81_1 : wr.cell? ⟨gb430, 1, none⟩ = some (.slice Ao10 t426.length co10) := (blk_cell BK430.out 1).trans rfl
           have hfz81_0 := blk_frozen BK430.out 0
           have hfz81_1 := blk_frozen BK430.out 1
           go_wp2_with (first | ((with_reducible refine gate_callee (f := 33) rfl ?_); refine goesL_ (some 69) rfl rfl Try.func33 (by kernel_rfl) rfl #[.agg #[.int .i64 t425, .slice Ao10 t426.length co10]] rfl (by (try simp only [List.map_toArray, List.map_cons, List.map_nil]); first | done | rfl | (simp only [List.length_drop, List.length_take]; rfl)) ?_; (with_reducible refine (impl_SightMany.calls k2 t425 _ _ t426 t455 _ ?side1 ?side2 A66.out).mono ?_); (case side1 => repeat (first | exact (Kd.Q_reads' HO_431001.out).2.2 | (with_reducible refine Kd.C_alloc ?_ _) | (with_reducible refine Kd.C_drewN ?_ _) | (with_reducible refine Kd.C_drew ?_))); (case side2 => exact (Kd.Q_reads' HO_431001.out).2.1); rintro e w82 ⟨rfl, hb⟩; refine ⟨_, rfl, ?_⟩; have n0_ := Aside0.mk (Kd.Q_below (by (with_reducible repeat (first | apply Kd.Q_alloc | apply Kd.Q_drewN | apply Kd.Q_drew)); exact HO_431001.out) hb); have n1_ := Aside0.mk (Kd.Q_below (by (with_reducible repeat (first | apply Kd.Q_alloc | apply Kd.Q_drewN | apply Kd.Q_drew)); exact HO_442001.out) hb); have n2_ := Aside0.mk (Kd.Q_below (by (with_reducible repeat (first | apply Kd.Q_alloc | apply Kd.Q_drewN | apply Kd.Q_drew)); exact HO_447001.out) hb); have n3_ := Aside0.mk (Kd.Q_below (by (with_reducible repeat (first | apply Kd.Q_alloc | apply Kd.Q_drewN | apply Kd.Q_drew)); exact HO_452001.out) hb); have n4_ := Aside0.mk (blk_below (bK BK430.out) hb); have n5_ := Aside0.mk (blk_below (bK BK441.out) hb); have n6_ := Aside0.mk (blk_below (bK BK446.out) hb); have n7_ := Aside0.mk (blk_below (bK BK451.out) hb); have n8_ := Aside0.mk (below_step (by repeat (first | (with_reducible first | exact HB.out | apply below_alloc | apply pw_below_drewN | apply below_drew1 | refine below_set ?_ GE430.out | refine below_set ?_ GE441.out | refine below_set ?_ GE446.out | refine below_set ?_ GE451.out) | exact HB.out)) hb); clear HO_431001; clear HO_442001; clear HO_447001; clear HO_452001; clear BK430; clear BK441; clear BK446; clear BK451; clear HB; have HO_431001 := n0_; have HO_442001 := n1_; have HO_447001 := n2_; have HO_452001 := n3_; have BK430 := n4_; have BK441 := n5_; have BK446 := n6_; have BK451 := n7_; have HB := n8_; clear n0_ n1_ n2_ n3_ n4_ n5_ n6_ n7_ n8_; (try clear hb); (try clear hb2); (try clear hk); (try clear hi); have hcz83_0 : w82.cell? ⟨gb430, 0, none⟩ = some (.int .i64 t425) := (blk_cell BK430.out 0).trans rfl; have hcz83_1 : w82.cell? ⟨gb430, 1, none⟩ = some (.slice Ao10 t426.length co10) := (blk_cell BK430.out 1).trans rfl; have hfz83_0 := blk_frozen BK430.out 0; have hfz83_1 := blk_frozen BK430.out 1) | (go_at_call 29; (with_reducible refine (impl_SightTurn.calls k2 t425 _ _ t426 x11_2 t457 _ ?side1 ?side2 A74.out).mono ?_); (case side1 => repeat (first | exact (Kd.Q_reads' HO_431001.out).2.2 | (with_reducible refine Kd.C_alloc ?_ _) | (with_reducible refine Kd.C_drewN ?_ _) | (with_reducible refine Kd.C_drew ?_))); (case side2 => exact (Kd.Q_reads' HO_431001.out).2.1); rintro e w84 ⟨rfl, hb⟩; have n0_ := Aside0.mk (Kd.Q_below (by (with_reducible repeat (first | apply Kd.Q_alloc | apply Kd.Q_drewN | apply Kd.Q_drew)); exact HO_431001.out) hb); have n1_ := Aside0.mk (Kd.Q_below (by (with_reducible repeat (first | apply Kd.Q_alloc | apply Kd.Q_drewN | apply Kd.Q_drew)); exact HO_442001.out) hb); have n2_ := Aside0.mk (Kd.Q_below (by (with_reducible repeat (first | apply Kd.Q_alloc | apply Kd.Q_drewN | apply Kd.Q_drew)); exact HO_447001.out) hb); have n3_ := Aside0.mk (Kd.Q_below (by (with_reducible repeat (first | apply Kd.Q_alloc | apply Kd.Q_drewN | apply Kd.Q_drew)); exact HO_452001.out) hb); have n4_ := Aside0.mk (blk_below (bK BK430.out) hb); have n5_ := Aside0.mk (blk_below (bK BK441.out) hb); have n6_ := Aside0.mk (blk_below (bK BK446.out) hb); have n7_ := Aside0.mk (blk_below (bK BK451.out) hb); have n8_ := Aside0.mk (below_step (by repeat (first | (with_reducible first | exact HB.out | apply below_alloc | apply pw_below_drewN | apply below_drew1 | refine below_set ?_ GE430.out | refine below_set ?_ GE441.out | refine below_set ?_ GE446.out | refine below_set ?_ GE451.out) | exact HB.out)) hb); clear HO_431001; clear HO_442001; clear HO_447001; clear HO_452001; clear BK430; clear BK441; clear BK446; clear BK451; clear HB; have HO_431001 := n0_; have HO_442001 := n1_; have HO_447001 := n2_; have HO_452001 := n3_; have BK430 := n4_; have BK441 := n5_; have BK446 := n6_; have BK451 := n7_; have HB := n8_; clear n0_ n1_ n2_ n3_ n4_ n5_ n6_ n7_ n8_; (try clear hb); (try clear hb2); (try clear hk); (try clear hi); have hcz85_0 : w84.cell? ⟨gb430, 0, none⟩ = some (.int .i64 t425) := (blk_cell BK430.out 0).trans rfl; have hcz85_1 : w84.cell? ⟨gb430, 1, none⟩ = some (.slice Ao10 t426.length co10) := (blk_cell BK430.out 1).trans rfl; have hfz85_0 := blk_frozen BK430.out 0; have hfz85_1 := blk_frozen BK430.out 1) | (go_at_call 30; (with_reducible refine (impl_SightFlip.calls k2 t425 _ _ t426 x11_2 t458 _ ?side1 ?side2 A76.out).mono ?_); (case side1 => repeat (first | exact (Kd.Q_reads' HO_431001.out).2.2 | (with_reducible refine Kd.C_alloc ?_ _) | (with_reducible refine Kd.C_drewN ?_ _) | (with_reducible refine Kd.C_drew ?_))); (case side2 => exact (Kd.Q_reads' HO_431001.out).2.1); rintro e w86 ⟨rfl, hb⟩; have n0_ := Aside0.mk (Kd.Q_below (by (with_reducible repeat (first | apply Kd.Q_alloc | apply Kd.Q_drewN | apply Kd.Q_drew)); exact HO_431001.out) hb); have n1_ := Aside0.mk (Kd.Q_below (by (with_reducible repeat (first | apply Kd.Q_alloc | apply Kd.Q_drewN | apply Kd.Q_drew)); exact HO_442001.out) hb); have n2_ := Aside0.mk (Kd.Q_below (by (with_reducible repeat (first | apply Kd.Q_alloc | apply Kd.Q_drewN | apply Kd.Q_drew)); exact HO_447001.out) hb); have n3_ := Aside0.mk (Kd.Q_below (by (with_reducible repeat (first | apply Kd.Q_alloc | apply Kd.Q_drewN | apply Kd.Q_drew)); exact HO_452001.out) hb); have n4_ := Aside0.mk (blk_below (bK BK430.out) hb); have n5_ := Aside0.mk (blk_below (bK BK441.out) hb); have n6_ := Aside0.mk (blk_below (bK BK446.out) hb); have n7_ := Aside0.mk (blk_below (bK BK451.out) hb); have n8_ := Aside0.mk (below_step (by repeat (first | (with_reducible first | exact HB.out | apply below_alloc | apply pw_below_drewN | apply below_drew1 | refine below_set ?_ GE430.out | refine below_set ?_ GE441.out | refine below_set ?_ GE446.out | refine below_set ?_ GE451.out) | exact HB.out)) hb); clear HO_431001; clear HO_442001; clear HO_447001; clear HO_452001; clear BK430; clear BK441; clear BK446; clear BK451; clear HB; have HO_431001 := n0_; have HO_442001 := n1_; have HO_447001 := n2_; have HO_452001 := n3_; have BK430 := n4_; have BK441 := n5_; have BK446 := n6_; have BK451 := n7_; have HB := n8_; clear n0_ n1_ n2_ n3_ n4_ n5_ n6_ n7_ n8_; (try clear hb); (try clear hb2); (try clear hk); (try clear hi)))
           go_roundg k2
           case measure => have := HJ5.out; have := HK2.out; omega
           case rel => exact ⟨(wrap64 (x11_2 + 1)), (by first | rfl | (simp; done) | (simp [*]; done)), H', ⟨by have := HJ5.out; have := HK2.out; omega⟩, ⟨by (with_reducible repeat (first | apply Kd.Q_alloc | apply Kd.Q_drewN | apply Kd.Q_drew)); exact HO_431001.out⟩, ⟨by (with_reducible repeat (first | apply Kd.Q_alloc | apply Kd.Q_drewN | apply Kd.Q_drew)); exact HO_442001.out⟩, ⟨by (with_reducible repeat (first | apply Kd.Q_alloc | apply Kd.Q_drewN | apply Kd.Q_drew)); exact HO_447001.out⟩, ⟨by (with_reducible repeat (first | apply Kd.Q_alloc | apply Kd.Q_drewN | apply Kd.Q_drew)); exact HO_452001.out⟩, ⟨by (with_reducible repeat (first | refine blk_drewN ?_ _ | refine blk_drew ?_ | refine blk_alloc ?_ _)); exact BK430.out⟩, ⟨by (with_reducible repeat (first | refine blk_drewN ?_ _ | refine blk_drew ?_ | refine blk_alloc ?_ _)); exact BK441.out⟩, ⟨by (with_reducible repeat (first | refine blk_drewN ?_ _ | refine blk_drew ?_ | refine blk_alloc ?_ _)); exact BK446.out⟩, ⟨by (with_reducible repeat (first | refine blk_drewN ?_ _ | refine blk_drew ?_ | refine blk_alloc ?_ _)); exact BK451.out⟩, ⟨by repeat (first | (with_reducible first | exact HB.out | apply below_alloc | apply pw_below_drewN | apply below_drew1 | refine below_set ?_ GE430.out | refine below_set ?_ GE441.out | refine below_set ?_ GE446.out | refine below_set ?_ GE451.out) | exact HB.out)⟩⟩
       ·rw [if_neg c67] at H
        have c67b0 : decide (x11_2 < t455) = false := decide_eq_false c67
        clear c67
        by_cases c87 : t454 = t429
        ·rw [if_pos c87] at H
         have c87b0 : (t454 == t429) = true := beq_iff_eq.mpr c87
         have c87b1 : (t454 != t429) = false := bne_eq_false_iff_eq.mpr c87
         clear c87
         replace H := Option.bind_eq_some_iff.mp H
         obtain ⟨t456, A880, H⟩ := H
         replace H : (some (t456 == t429)) = some r := H
         have A88 := Aside0.mk A880
         clear A880
         obtain rfl := Option.some.inj H
         have hnb89 := NB430_441.out
         have hnc89 := NB441_430.out
         have hnb90 := NB430_446.out
         have hnc90 := NB446_430.out
         have hnb91 := NB430_451.out
         have hnc91 := NB451_430.out
         have hcz92_0 : wr.cell? ⟨gb430, 0, none⟩ = some (.int .i64 t425) := (blk_cell BK430.out 0).trans rfl
         have hcz92_1 : wr.cell? ⟨gb430, 1, none⟩ = some (.slice Ao10 t426.length co10) := (blk_cell BK430.out 1).trans rfl
         have hfz92_0 := blk_frozen BK430.out 0
         have hfz92_1 := blk_frozen BK430.out 1
         go_wp2_with (first | ((with_reducible refine gate_callee (f := 33) rfl ?_); refine goesL_ (some 69) rfl rfl Try.func33 (by kernel_rfl) rfl #[.agg #[.int .i64 t425, .slice Ao10 t426.length co10]] rfl (by (try simp only [List.map_toArray, List.map_cons, List.map_nil]); first | done | rfl | (simp only [List.length_drop, List.length_take]; rfl)) ?_; (with_reducible refine (impl_SightMany.calls k2 t425 _ _ t426 t455 _ ?side1 ?side2 A66.out).mono ?_); (case side1 => repeat (first | exact (Kd.Q_reads' HO_431001.out).2.2 | (with_reducible refine Kd.C_alloc ?_ _) | (with_reducible refine Kd.C_drewN ?_ _) | (with_reducible refine Kd.C_drew ?_))); (case side2 => exact (Kd.Q_reads' HO_431001.out).2.1); rintro e w93 ⟨rfl, hb⟩; refine ⟨_, rfl, ?_⟩; have n0_ := Aside0.mk (Kd.Q_below (by (with_reducible repeat (first | apply Kd.Q_alloc | apply Kd.Q_drewN | apply Kd.Q_drew)); exact HO_431001.out) hb); have n1_ := Aside0.mk (Kd.Q_below (by (with_reducible repeat (first | apply Kd.Q_alloc | apply Kd.Q_drewN | apply Kd.Q_drew)); exact HO_442001.out) hb); have n2_ := Aside0.mk (Kd.Q_below (by (with_reducible repeat (first | apply Kd.Q_alloc | apply Kd.Q_drewN | apply Kd.Q_drew)); exact HO_447001.out) hb); have n3_ := Aside0.mk (Kd.Q_below (by (with_reducible repeat (first | apply Kd.Q_alloc | apply Kd.Q_drewN | apply Kd.Q_drew)); exact HO_452001.out) hb); have n4_ := Aside0.mk (blk_below (bK BK430.out) hb); have n5_ := Aside0.mk (blk_below (bK BK441.out) hb); have n6_ := Aside0.mk (blk_below (bK BK446.out) hb); have n7_ := Aside0.mk (blk_below (bK BK451.out) hb); have n8_ := Aside0.mk (below_step (by repeat (first | (with_reducible first | exact HB.out | apply below_alloc | apply pw_below_drewN | apply below_drew1 | refine below_set ?_ GE430.out | refine below_set ?_ GE441.out | refine below_set ?_ GE446.out | refine below_set ?_ GE451.out) | exact HB.out)) hb); clear HO_431001; clear HO_442001; clear HO_447001; clear HO_452001; clear BK430; clear BK441; clear BK446; clear BK451; clear HB; have HO_431001 := n0_; have HO_442001 := n1_; have HO_447001 := n2_; have HO_452001 := n3_; have BK430 := n4_; have BK441 := n5_; have BK446 := n6_; have BK451 := n7_; have HB := n8_; clear n0_ n1_ n2_ n3_ n4_ n5_ n6_ n7_ n8_; (try clear hb); (try clear hb2); (try clear hk); (try clear hi); have hcz94_0 : w93.cell? ⟨gb430, 0, none⟩ = some (.int .i64 t425) := (blk_cell BK430.out 0).trans rfl; have hcz94_1 : w93.cell? ⟨gb430, 1, none⟩ = some (.slice Ao10 t426.length co10) := (blk_cell BK430.out 1).trans rfl; have hfz94_0 := blk_frozen BK430.out 0; have hfz94_1 := blk_frozen BK430.out 1) | (go_at_call 30; (with_reducible refine (impl_SightFlip.calls k2 t425 _ _ t426 t432 t456 _ ?side1 ?side2 A88.out).mono ?_); (case side1 => repeat (first | exact (Kd.Q_reads' HO_431001.out).2.2 | (with_reducible refine Kd.C_alloc ?_ _) | (with_reducible refine Kd.C_drewN ?_ _) | (with_reducible refine Kd.C_drew ?_))); (case side2 => exact (Kd.Q_reads' HO_431001.out).2.1); rintro e w95 ⟨rfl, hb⟩; have n0_ := Aside0.mk (Kd.Q_below (by (with_reducible repeat (first | apply Kd.Q_alloc | apply Kd.Q_drewN | apply Kd.Q_drew)); exact HO_431001.out) hb); have n1_ := Aside0.mk (Kd.Q_below (by (with_reducible repeat (first | apply Kd.Q_alloc | apply Kd.Q_drewN | apply Kd.Q_drew)); exact HO_442001.out) hb); have n2_ := Aside0.mk (Kd.Q_below (by (with_reducible repeat (first | apply Kd.Q_alloc | apply Kd.Q_drewN | apply Kd.Q_drew)); exact HO_447001.out) hb); have n3_ := Aside0.mk (Kd.Q_below (by (with_reducible repeat (first | apply Kd.Q_alloc | apply Kd.Q_drewN | apply Kd.Q_drew)); exact HO_452001.out) hb); have n4_ := Aside0.mk (blk_below (bK BK430.out) hb); have n5_ := Aside0.mk (blk_below (bK BK441.out) hb); have n6_ := Aside0.mk (blk_below (bK BK446.out) hb); have n7_ := Aside0.mk (blk_below (bK BK451.out) hb); have n8_ := Aside0.mk (below_step (by repeat (first | (with_reducible first | exact HB.out | apply below_alloc | apply pw_below_drewN | apply below_drew1 | refine below_set ?_ GE430.out | refine below_set ?_ GE441.out | refine below_set ?_ GE446.out | refine below_set ?_ GE451.out) | exact HB.out)) hb); clear HO_431001; clear HO_442001; clear HO_447001; clear HO_452001; clear BK430; clear BK441; clear BK446; clear BK451; clear HB; have HO_431001 := n0_; have HO_442001 := n1_; have HO_447001 := n2_; have HO_452001 := n3_; have BK430 := n4_; have BK441 := n5_; have BK446 := n6_; have BK451 := n7_; have HB := n8_; clear n0_ n1_ n2_ n3_ n4_ n5_ n6_ n7_ n8_; (try clear hb); (try clear hb2); (try clear hk); (try clear hi)))
         go_ret
         exact ⟨by first | rfl | (simp [errW_none, errW_some] <;> rfl) | (simp [*, errW_none, errW_some] <;> rfl) | (exfalso; simp_all; done), by repeat (first | (with_reducible first | exact HB.out | apply below_alloc | apply pw_below_drewN | apply below_drew1 | refine below_set ?_ GE430.out | refine below_set ?_ GE441.out | refine below_set ?_ GE446.out | refine below_set ?_ GE451.out) | exact HB.out)⟩
        ·rw [if_neg c87] at H
         have c87b0 : (t454 == t429) = false := beq_eq_false_iff_ne.mpr c87
         have c87b1 : (t454 != t429) = true := bne_iff_ne.mpr c87
         obtain rfl := Option.some.inj H
         exact absurd HRT.out (by decide)

/-- THE ONE PURE STATEMENT of laws_FnSightTurn: yours. -/
def laws_FnSightTurn.Pure : Prop := ∀ (l0 : List Int), l0.length ≤ maxLen → l0.length * 1 ≤ 140737488351232 → (∀ x ∈ l0, (Lit.int .u8 x).wf = true) → ∃ k, laws_FnSightTurn.f k l0 = some true
theorem laws_FnSightTurn.walk (P : laws_FnSightTurn.Pure) (a0 : Option Addr) (len0 cap0 : Nat) (z0 : List Int) (w : World) (w0 : (a0 = none ∧ len0 = 0 ∧ cap0 = 0 ∧ z0 = []) ∨ ∃ x, a0 = some x ∧ len0 ≤ cap0 ∧ cap0 ≤ maxLen ∧ z0.length = cap0 ∧ (∀ i, i < z0.length → w.cell? (x.add i) = some (.int .u8 (z0.getD i 0))) ∧ ∀ n ∈ z0, (Lit.int .u8 n).wf = true) (y0 : len0 * 1 ≤ 140737488351232) :
  Calls Try.prog 7 #[.slice a0 len0 cap0] w fun e w' => e = .returned (.bool true) ∧ Below w.heap.size w w' := by
 obtain ⟨l0, rfl, hr0, hm0, hw0, hc0⟩ := ReadsInt.ofRowC w0
 obtain ⟨k, h⟩ := P l0 hm0 y0 hw0
 refine (laws_FnSightTurn.calls k _ _ l0 true w (Kd.C_of_reads (d := (0 : Int)) (h1 := fun _ => rfl) hr0) hc0 h rfl).mono ?_
 rintro e w' ⟨rfl, hd⟩
 exact ⟨rfl, hd⟩

end Go.Proofs.Ytbnofnamkgfadaa.P
