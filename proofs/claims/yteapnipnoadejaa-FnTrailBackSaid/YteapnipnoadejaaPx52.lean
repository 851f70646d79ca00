/- PROVED: contracts of functions; No condition. -/
import Derived.Test.YteapnipnoadejaaPx0
import Derived.Test.YteapnipnoadejaaPx38
import Derived.Test.YteapnipnoadejaaPx40
import Derived.Test.YteapnipnoadejaaPx50
import Derived.Test.YteapnipnoadejaaPx51
namespace Go.Proofs.Yteapnipnoadejaa.P
open Go.RowKit Go.Proofs.YteapnipnoadejaaW
set_option linter.unusedVariables false
set_option linter.unusedSimpArgs false
def laws_FnTrailBack.j0 : Nat -> Int -> Int -> Int -> Bool -> Int -> List (S42) -> Option (Bool)
 | 0, _, _, _, _, _, _ => none
 | k + 1, x4, x5, x6, x37, x671000, x671001 => if x37 = true then ((spec_TrailTo.f k x671000 x671001 x4 x5).bind fun t675 => (some (x6 == t675))) else ((impl_TrailTo.f k x671000 x671001 x5 x4).bind fun t676 => (if t676 = x6 then (if x6 >= 0 then (some (decide (x6 <= 64))) else (some false)) else (some false)))
def laws_FnTrailBack.f (k : Nat) (l0 : List Int) : Option (Bool) := if (l0.length : Int) > 1048576 then (some true) else ((spec_DrawTrailTo.f k l0).bind fun bt664 => ((impl_TrailTo.f k bt664.1 bt664.2.1 bt664.2.2.1 bt664.2.2.2).bind fun t671 => ((spec_TrailTo.f k bt664.1 bt664.2.1 bt664.2.2.1 bt664.2.2.2).bind fun t672 => (if t671 = t672 then ((laws_llSight.f k bt664.1 bt664.2.1 bt664.2.2.1).bind fun t673 => (if t673 = true then ((laws_llSight.f k bt664.1 bt664.2.1 bt664.2.2.2).bind fun t674 => (laws_FnTrailBack.j0 k bt664.2.2.1 bt664.2.2.2 t671 (!t674) bt664.1 bt664.2.1)) else (laws_FnTrailBack.j0 k bt664.2.2.1 bt664.2.2.2 t671 true bt664.1 bt664.2.1))) else (laws_FnTrailBack.j0 k bt664.2.2.1 bt664.2.2.2 t671 true bt664.1 bt664.2.1)))))
set_option maxHeartbeats 8000000 in
set_option maxRecDepth 100000 in
theorem laws_FnTrailBack.calls (k : Nat) (A0 : Option Addr) (c0 : Nat) (l0 : List Int) (r : Bool) (w : World) (hr0 : Kd.C (Kd.int .u8) w A0 l0.length l0) (hc0 : l0.length <= c0) (h : laws_FnTrailBack.f k l0 = some r) (hrt : r = true) :
  Calls Try.prog 9 #[.slice A0 l0.length c0] w fun e w' => e = .returned (.bool r) ∧ Below w.heap.size w w' := by
 have HRT := Aside0.mk hrt
 clear hrt
 have hu25 := Try.underlying25
 have HR0 := Aside0.mk hr0
 have HC0 := Aside0.mk hc0
 clear hr0 hc0
 have HB := Aside0.mk (Below.refl w.heap.size w)
 have H : (if (l0.length : Int) > 1048576 then (some true) else ((spec_DrawTrailTo.f k l0).bind fun bt664 => ((impl_TrailTo.f k bt664.1 bt664.2.1 bt664.2.2.1 bt664.2.2.2).bind fun t671 => ((spec_TrailTo.f k bt664.1 bt664.2.1 bt664.2.2.1 bt664.2.2.2).bind fun t672 => (if t671 = t672 then ((laws_llSight.f k bt664.1 bt664.2.1 bt664.2.2.1).bind fun t673 => (if t673 = true then ((laws_llSight.f k bt664.1 bt664.2.1 bt664.2.2.2).bind fun t674 => (laws_FnTrailBack.j0 k bt664.2.2.1 bt664.2.2.2 t671 (!t674) bt664.1 bt664.2.1)) else (laws_FnTrailBack.j0 k bt664.2.2.1 bt664.2.2.2 t671 true bt664.1 bt664.2.1))) else (laws_FnTrailBack.j0 k bt664.2.2.1 bt664.2.2.2 t671 true bt664.1 bt664.2.1)))))) = some r := h
 clear h
 by_cases c2 : (l0.length : Int) > 1048576
 ·rw [if_pos c2] at H
  have c2b0 : decide (1048576 < (l0.length : Int)) = true := decide_eq_true c2
  have c2b1 : decide (1048576 < l0.length) = true := decide_eq_true (by omega)
  clear c2
  obtain rfl := Option.some.inj H
  go_enter Try.func9, Try.ntmps9
  go_wp2
  go_ret
  exact ⟨by first | rfl | (simp [errW_none, errW_some] <;> rfl) | (simp [*, errW_none, errW_some] <;> rfl) | (exfalso; simp_all; done), by repeat first | exact HB.out | apply below_alloc | apply pw_below_drewN⟩
 ·rw [if_neg c2] at H
  have c2b0 : decide (1048576 < (l0.length : Int)) = false := decide_eq_false c2
  have c2b1 : decide (1048576 < l0.length) = false := decide_eq_false (by omega)
  clear c2
  replace H := Option.bind_eq_some_iff.mp H
  obtain ⟨⟨t664, t665, t668, t669⟩, A30, H⟩ := H
  replace H : ((impl_TrailTo.f k t664 t665 t668 t669).bind fun t671 => ((spec_TrailTo.f k t664 t665 t668 t669).bind fun t672 => (if t671 = t672 then ((laws_llSight.f k t664 t665 t668).bind fun t673 => (if t673 = true then ((laws_llSight.f k t664 t665 t669).bind fun t674 => (laws_FnTrailBack.j0 k t668 t669 t671 (!t674) t664 t665)) else (laws_FnTrailBack.j0 k t668 t669 t671 true t664 t665))) else (laws_FnTrailBack.j0 k t668 t669 t671 true t664 t665)))) = some r := H
  have A3 := Aside0.mk A30
  clear A30
  replace H := Option.bind_eq_some_iff.mp H
  obtain ⟨t671, A40, H⟩ := H
  replace H : ((spec_TrailTo.f k t664 t665 t668 t669).bind fun t672 => (if t671 = t672 then ((laws_llSight.f k t664 t665 t668).bind fun t673 => (if t673 = true then ((laws_llSight.f k t664 t665 t669).bind fun t674 => (laws_FnTrailBack.j0 k t668 t669 t671 (!t674) t664 t665)) else (laws_FnTrailBack.j0 k t668 t669 t671 true t664 t665))) else (laws_FnTrailBack.j0 k t668 t669 t671 true t664 t665))) = some r := H
  have A4 := Aside0.mk A40
  clear A40
  have HC5 := Aside0.mk H
  clear H
  go_enter Try.func9, Try.ntmps9
  go_upto_region 5 with (first | ((with_reducible refine gate_callee (f := 24) rfl ?_); refine goesL_ (some 12) rfl rfl Try.func24 (by kernel_rfl) rfl #[.slice A0 l0.length c0] rfl (by first | rfl | (simp only [List.map_toArray, List.map_cons, List.map_nil, List.length_drop, List.length_take]; try rfl)) ?_; (with_reducible refine (spec_DrawTrailTo.calls k _ _ l0 t664 t665 t668 t669 _ ?side1 ?side2 A3.out).mono ?_); (case side1 => repeat (first | exact HR0.out | (with_reducible refine Kd.C_alloc ?_ _) | (with_reducible refine Kd.C_drewN ?_ _) | (with_reducible refine Kd.C_drew ?_))); (case side2 => exact HC0.out); rintro e w6 ⟨v666, rfl, ho0, hb⟩; refine ⟨_, rfl, ?_⟩; have n0_ := Aside0.mk (Kd.Q_lower ho0 (below_size (by repeat first | exact HB.out | apply below_alloc | apply pw_below_drewN))); have n1_ := Aside0.mk (below_step (by repeat first | exact HB.out | apply below_alloc | apply pw_below_drewN) hb); clear HB; have HO667 := n0_; have HB := n1_; clear n0_ n1_; (try clear hb); (try clear hb2); (try clear hk); (try clear hi); (try clear ho0)) | ((with_reducible refine gate_dst (N := 3) rfl ?_); refine box_event rfl (N := 3) rfl (cs := #[.int .i64 0, .slice none 0 0]) (t := 25) ?hr ?_; (case hr => first | (go_simp; done) | (go_simp; rfl)); intro gb670 hg w7 hbox hb; have n0_ := Aside0.mk (Kd.Q_below (by (with_reducible repeat apply Kd.Q_alloc); exact HO667.out) hb); have n1_ := Aside0.mk (below_step (by repeat first | exact HB.out | apply below_alloc | apply pw_below_drewN) hb); have n2_ := Aside0.mk (hbox); have n3_ := Aside0.mk ((by rw [hg]; exact (below_size (by repeat first | exact HB.out | apply below_alloc | apply pw_below_drewN)) : w.heap.size <= gb670)); have n4_ := n3_; clear HO667; clear HB; have HO667 := n0_; have HB := n1_; have BK670 := n2_; have GW670 := n3_; have GE670 := n4_; clear n0_ n1_ n2_ n3_ n4_; clear hb hbox hg; have hcz8_0 : w7.cell? ⟨gb670, 0, none⟩ = some (.int .i64 0) := (blk_cell BK670.out 0).trans rfl; have hcz8_1 : w7.cell? ⟨gb670, 1, none⟩ = some (.slice none 0 0) := (blk_cell BK670.out 1).trans rfl; have hfz8_0 := blk_frozen BK670.out 0; have hfz8_1 := blk_frozen BK670.out 1; obtain ⟨Ao9, co9, eo9, _⟩ := Kd.Q_slice HO667.out; subst eo9) | ((with_reducible refine gate_callee (f := 25) rfl ?_); refine goesL_ (some 19) rfl rfl Try.func25 (by kernel_rfl) rfl #[.agg #[.int .i64 t664, .slice Ao9 t665.length co9], .int .i64 t668, .int .i64 t669] rfl (by first | rfl | (simp only [List.map_toArray, List.map_cons, List.map_nil, List.length_drop, List.length_take]; try rfl)) ?_; (with_reducible refine (impl_TrailTo.calls k t664 _ _ t665 t668 t669 t671 _ ?side1 ?side2 A4.out).mono ?_); (case side1 => refine (Kd.Q_reads' (e := 42) (base := w.heap.size) (ok := fun k_ => True) (n := t665.length) (c := co9) ?_).2.2; exact (by (with_reducible repeat apply Kd.Q_alloc); exact (Kd.Q_mono (Kd.Q_far (p := ⟨gb670, 1, none⟩) (Kd.Q_far (p := ⟨gb670, 0, none⟩) (Kd.Q_types HO667.out BK670.out (by decide)) (fun _ hk => hk.2) (.int .i64 t664)) (fun _ hk => hk.2) (.slice Ao9 t665.length co9)) (fun _ h_ => h_.1)))); (case side2 => exact (Kd.Q_reads' HO667.out).2.1); rintro e w10 ⟨rfl, hb⟩; refine ⟨_, rfl, ?_⟩; have n0_ := Aside0.mk (Kd.Q_below (by (with_reducible repeat apply Kd.Q_alloc); exact (Kd.Q_mono (Kd.Q_far (p := ⟨gb670, 1, none⟩) (Kd.Q_far (p := ⟨gb670, 0, none⟩) (Kd.Q_types HO667.out BK670.out (by decide)) (fun _ hk => hk.2) (.int .i64 t664)) (fun _ hk => hk.2) (.slice Ao9 t665.length co9)) (fun _ h_ => h_.1))) hb); have n1_ := Aside0.mk (blk_below (g := gb670) (o := .cells #[.int .i64 t664, .slice Ao9 t665.length co9] 25 (0, 0)) (by (with_reducible repeat apply blk_alloc); refine blk_put (cs := #[.int .i64 t664, .slice none 0 0]) ?_ 1 _ rfl; (with_reducible repeat apply blk_alloc); refine blk_put (cs := #[.int .i64 0, .slice none 0 0]) ?_ 0 _ rfl; (with_reducible repeat apply blk_alloc); exact BK670.out) hb); have n2_ := Aside0.mk (below_step (by repeat first | exact HB.out | with_reducible refine below_setA ?_ ‹_› | apply below_alloc | apply pw_below_drewN) hb); clear HO667; clear BK670; clear HB; have HO667 := n0_; have BK670 := n1_; have HB := n2_; clear n0_ n1_ n2_; (try clear hb); (try clear hb2); (try clear hk); (try clear hi)))
  (try simp only [Act.put, List.setIfInBounds_toArray, List.set_cons_zero, List.set_cons_succ])
  go_cut [37] (fun v37 wc => ∃ (kq : Nat) (x37_4 : Bool), v37 = .bool x37_4 ∧ Aside0 (laws_FnTrailBack.j0 kq t668 t669 t671 x37_4 t664 t665 = some r) ∧ Aside0 (kq <= k) ∧ Aside0 (Kd.Q k42 42 wc w.heap.size (fun _ => True) (.slice Ao9 t665.length co9) t665) ∧ Aside0 (wc.heap[gb670]? = some (.cells #[.int .i64 t664, (.slice Ao9 t665.length co9)] 25 (0, 0))) ∧ Aside0 (Below w.heap.size w wc))
  case first =>
   have H := HC5.out
   clear HC5
   replace H := Option.bind_eq_some_iff.mp H
   obtain ⟨t672, A110, H⟩ := H
   replace H : (if t671 = t672 then ((laws_llSight.f k t664 t665 t668).bind fun t673 => (if t673 = true then ((laws_llSight.f k t664 t665 t669).bind fun t674 => (laws_FnTrailBack.j0 k t668 t669 t671 (!t674) t664 t665)) else (laws_FnTrailBack.j0 k t668 t669 t671 true t664 t665))) else (laws_FnTrailBack.j0 k t668 t669 t671 true t664 t665)) = some r := H
   have A11 := Aside0.mk A110
   clear A110
   by_cases c12 : t671 = t672
   ·rw [if_pos c12] at H
    have c12b0 : (t671 == t672) = true := beq_iff_eq.mpr c12
    have c12b1 : (t671 != t672) = false := bne_eq_false_iff_eq.mpr c12
    clear c12
    (first | rw [c12b0] | (simp only [i64_w, i32_w]; rw [c12b0]) | skip)
    replace H := Option.bind_eq_some_iff.mp H
    obtain ⟨t673, A130, H⟩ := H
    replace H : (if t673 = true then ((laws_llSight.f k t664 t665 t669).bind fun t674 => (laws_FnTrailBack.j0 k t668 t669 t671 (!t674) t664 t665)) else (laws_FnTrailBack.j0 k t668 t669 t671 true t664 t665)) = some r := H
    have A13 := Aside0.mk A130
    clear A130
    by_cases c14 : t673 = true
    ·subst c14
     have H1 : ((laws_llSight.f k t664 t665 t669).bind fun t674 => (laws_FnTrailBack.j0 k t668 t669 t671 (!t674) t664 t665)) = some r := by rw [if_pos rfl] at H; exact H
     clear H
     have H := H1
     clear H1
     replace H := Option.bind_eq_some_iff.mp H
     obtain ⟨t674, A150, H⟩ := H
     replace H : (laws_FnTrailBack.j0 k t668 t669 t671 (!t674) t664 t665) = some r := H
     have A15 := Aside0.mk A150
     clear A150
     have H' := Aside0.mk H
     clear H
     have hcz16_0 : w10.cell? ⟨gb670, 0, none⟩ = some (.int .i64 t664) := (blk_cell BK670.out 0).trans rfl
     have hcz16_1 : w10.cell? ⟨gb670, 1, none⟩ = some (.slice Ao9 t665.length co9) := (blk_cell BK670.out 1).trans rfl
     have hfz16_0 := blk_frozen BK670.out 0
     have hfz16_1 := blk_frozen BK670.out 1
     go_wp2_with (first | ((with_reducible refine gate_callee (f := 26) rfl ?_); refine goesL_ (some 24) rfl rfl Try.func26 (by kernel_rfl) rfl #[.agg #[.int .i64 t664, .slice Ao9 t665.length co9], .int .i64 t668, .int .i64 t669] rfl (by first | rfl | (simp only [List.map_toArray, List.map_cons, List.map_nil, List.length_drop, List.length_take]; try rfl)) ?_; (with_reducible refine (spec_TrailTo.calls k t664 _ _ t665 t668 t669 t672 _ ?side1 ?side2 A11.out).mono ?_); (case side1 => repeat (first | exact (Kd.Q_reads' HO667.out).2.2 | (with_reducible refine Kd.C_alloc ?_ _) | (with_reducible refine Kd.C_drewN ?_ _) | (with_reducible refine Kd.C_drew ?_))); (case side2 => exact (Kd.Q_reads' HO667.out).2.1); rintro e w17 ⟨rfl, hb⟩; refine ⟨_, rfl, ?_⟩; have n0_ := Aside0.mk (Kd.Q_below (by (with_reducible repeat apply Kd.Q_alloc); exact HO667.out) hb); have n1_ := Aside0.mk (blk_below (bK BK670.out) hb); have n2_ := Aside0.mk (below_step (by repeat first | exact HB.out | with_reducible refine below_setA ?_ ‹_› | apply below_alloc | apply pw_below_drewN) hb); clear HO667; clear BK670; clear HB; have HO667 := n0_; have BK670 := n1_; have HB := n2_; clear n0_ n1_ n2_; (try clear hb); (try clear hb2); (try clear hk); (try clear hi); have hcz18_0 : w17.cell? ⟨gb670, 0, none⟩ = some (.int .i64 t664) := (blk_cell BK670.out 0).trans rfl; have hcz18_1 : w17.cell? ⟨gb670, 1, none⟩ = some (.slice Ao9 t665.length co9) := (blk_cell BK670.out 1).trans rfl; have hfz18_0 := blk_frozen BK670.out 0; have hfz18_1 := blk_frozen BK670.out 1) | (go_at_call 14; (with_reducible refine (laws_llSight.calls k t664 _ _ t665 t668 true _ ?side1 ?side2 A13.out).mono ?_); (case side1 => repeat (first | exact (Kd.Q_reads' HO667.out).2.2 | (with_reducible refine Kd.C_alloc ?_ _) | (with_reducible refine Kd.C_drewN ?_ _) | (with_reducible refine Kd.C_drew ?_))); (case side2 => exact (Kd.Q_reads' HO667.out).2.1); rintro e w19 ⟨rfl, hb⟩; have n0_ := Aside0.mk (Kd.Q_below (by (with_reducible repeat apply Kd.Q_alloc); exact HO667.out) hb); have n1_ := Aside0.mk (blk_below (bK BK670.out) hb); have n2_ := Aside0.mk (below_step (by repeat first | exact HB.out | with_reducible refine below_setA ?_ ‹_› | apply below_alloc | apply pw_below_drewN) hb); clear HO667; clear BK670; clear HB; have HO667 := n0_; have BK670 := n1_; have HB := n2_; clear n0_ n1_ n2_; (try clear hb); (try clear hb2); (try clear hk); (try clear hi); have hcz20_0 : w19.cell? ⟨gb670, 0, none⟩ = some (.int .i64 t664) := (blk_cell BK670.out 0).trans rfl; have hcz20_1 : w19.cell? ⟨gb670, 1, none⟩ = some (.slice Ao9 t665.length co9) := (blk_cell BK670.out 1).trans rfl; have hfz20_0 := blk_frozen BK670.out 0; have hfz20_1 := blk_frozen BK670.out 1) | (go_at_call 14; (with_reducible refine (laws_llSight.calls k t664 _ _ t665 t669 t674 _ ?side1 ?side2 A15.out).mono ?_); (case side1 => repeat (first | exact (Kd.Q_reads' HO667.out).2.2 | (with_reducible refine Kd.C_alloc ?_ _) | (with_reducible refine Kd.C_drewN ?_ _) | (with_reducible refine Kd.C_drew ?_))); (case side2 => exact (Kd.Q_reads' HO667.out).2.1); rintro e w21 ⟨rfl, hb⟩; have n0_ := Aside0.mk (Kd.Q_below (by (with_reducible repeat apply Kd.Q_alloc); exact HO667.out) hb); have n1_ := Aside0.mk (blk_below (bK BK670.out) hb); have n2_ := Aside0.mk (below_step (by repeat first | exact HB.out | with_reducible refine below_setA ?_ ‹_› | apply below_alloc | apply pw_below_drewN) hb); clear HO667; clear BK670; clear HB; have HO667 := n0_; have BK670 := n1_; have HB := n2_; clear n0_ n1_ n2_; (try clear hb); (try clear hb2); (try clear hk); (try clear hi)))
     go_meet
     case rel => exact ⟨_, (!t674), (by first | rfl | (simp; done) | (simp [*]; done)), H', ⟨by first | omega | exact Nat.le_refl _⟩, ⟨by (with_reducible repeat apply Kd.Q_alloc); exact HO667.out⟩, ⟨by (with_reducible repeat apply blk_alloc); exact BK670.out⟩, ⟨by repeat first | exact HB.out | with_reducible refine below_setA ?_ ‹_› | apply below_alloc | apply pw_below_drewN⟩⟩
    ·replace c14 := Bool.eq_false_iff.mpr c14
     subst c14
     have H1 : (laws_FnTrailBack.j0 k t668 t669 t671 true t664 t665) = some r := by rw [if_neg (show ¬ (false = true) by decide)] at H; exact H
     clear H
     have H := H1
     clear H1
     have H' := Aside0.mk H
     clear H
     have hcz22_0 : w10.cell? ⟨gb670, 0, none⟩ = some (.int .i64 t664) := (blk_cell BK670.out 0).trans rfl
     have hcz22_1 : w10.cell? ⟨gb670, 1, none⟩ = some (.slice Ao9 t665.length co9) := (blk_cell BK670.out 1).trans rfl
     have hfz22_0 := blk_frozen BK670.out 0
     have hfz22_1 := blk_frozen BK670.out 1
     go_wp2_with (first | ((with_reducible refine gate_callee (f := 26) rfl ?_); refine goesL_ (some 24) rfl rfl Try.func26 (by kernel_rfl) rfl #[.agg #[.int .i64 t664, .slice Ao9 t665.length co9], .int .i64 t668, .int .i64 t669] rfl (by first | rfl | (simp only [List.map_toArray, List.map_cons, List.map_nil, List.length_drop, List.length_take]; try rfl)) ?_; (with_reducible refine (spec_TrailTo.calls k t664 _ _ t665 t668 t669 t672 _ ?side1 ?side2 A11.out).mono ?_); (case side1 => repeat (first | exact (Kd.Q_reads' HO667.out).2.2 | (with_reducible refine Kd.C_alloc ?_ _) | (with_reducible refine Kd.C_drewN ?_ _) | (with_reducible refine Kd.C_drew ?_))); (case side2 => exact (Kd.Q_reads' HO667.out).2.1); rintro e w23 ⟨rfl, hb⟩; refine ⟨_, rfl, ?_⟩; have n0_ := Aside0.mk (Kd.Q_below (by (with_reducible repeat apply Kd.Q_alloc); exact HO667.out) hb); have n1_ := Aside0.mk (blk_below (bK BK670.out) hb); have n2_ := Aside0.mk (below_step (by repeat first | exact HB.out | with_reducible refine below_setA ?_ ‹_› | apply below_alloc | apply pw_below_drewN) hb); clear HO667; clear BK670; clear HB; have HO667 := n0_; have BK670 := n1_; have HB := n2_; clear n0_ n1_ n2_; (try clear hb); (try clear hb2); (try clear hk); (try clear hi); have hcz24_0 : w23.cell? ⟨gb670, 0, none⟩ = some (.int .i64 t664) := (blk_cell BK670.out 0).trans rfl; have hcz24_1 : w23.cell? ⟨gb670, 1, none⟩ = some (.slice Ao9 t665.length co9) := (blk_cell BK670.out 1).trans rfl; have hfz24_0 := blk_frozen BK670.out 0; have hfz24_1 := blk_frozen BK670.out 1) | (go_at_call 14; (with_reducible refine (laws_llSight.calls k t664 _ _ t665 t668 false _ ?side1 ?side2 A13.out).mono ?_); (case side1 => repeat (first | exact (Kd.Q_reads' HO667.out).2.2 | (with_reducible refine Kd.C_alloc ?_ _) | (with_reducible refine Kd.C_drewN ?_ _) | (with_reducible refine Kd.C_drew ?_))); (case side2 => exact (Kd.Q_reads' HO667.out).2.1); rintro e w25 ⟨rfl, hb⟩; have n0_ := Aside0.mk (Kd.Q_below (by (with_reducible repeat apply Kd.Q_alloc); exact HO667.out) hb); have n1_ := Aside0.mk (blk_below (bK BK670.out) hb); have n2_ := Aside0.mk (below_step (by repeat first | exact HB.out | with_reducible refine below_setA ?_ ‹_› | apply below_alloc | apply pw_below_drewN) hb); clear HO667; clear BK670; clear HB; have HO667 := n0_; have BK670 := n1_; have HB := n2_; clear n0_ n1_ n2_; (try clear hb); (try clear hb2); (try clear hk); (try clear hi)))
     go_meet
     case rel => exact ⟨_, (true), (by first | rfl | (simp; done) | (simp [*]; done)), H', ⟨by first | omega | exact Nat.le_refl _⟩, ⟨by (with_reducible repeat apply Kd.Q_alloc); exact HO667.out⟩, ⟨by (with_reducible repeat apply blk_alloc); exact BK670.out⟩, ⟨by repeat first | exact HB.out | with_reducible refine below_setA ?_ ‹_› | apply below_alloc | apply pw_below_drewN⟩⟩
   ·rw [if_neg c12] at H
    have c12b0 : (t671 == t672) = false := beq_eq_false_iff_ne.mpr c12
    have c12b1 : (t671 != t672) = true := bne_iff_ne.mpr c12
    (first | rw [c12b0] | (simp only [i64_w, i32_w]; rw [c12b0]) | skip)
    have H' := Aside0.mk H
    clear H
    have hcz26_0 : w10.cell? ⟨gb670, 0, none⟩ = some (.int .i64 t664) := (blk_cell BK670.out 0).trans rfl
    have hcz26_1 : w10.cell? ⟨gb670, 1, none⟩ = some (.slice Ao9 t665.length co9) := (blk_cell BK670.out 1).trans rfl
    have hfz26_0 := blk_frozen BK670.out 0
    have hfz26_1 := blk_frozen BK670.out 1
    go_wp2_with (first | ((with_reducible refine gate_callee (f := 26) rfl ?_); refine goesL_ (some 24) rfl rfl Try.func26 (by kernel_rfl) rfl #[.agg #[.int .i64 t664, .slice Ao9 t665.length co9], .int .i64 t668, .int .i64 t669] rfl (by first | rfl | (simp only [List.map_toArray, List.map_cons, List.map_nil, List.length_drop, List.length_take]; try rfl)) ?_; (with_reducible refine (spec_TrailTo.calls k t664 _ _ t665 t668 t669 t672 _ ?side1 ?side2 A11.out).mono ?_); (case side1 => repeat (first | exact (Kd.Q_reads' HO667.out).2.2 | (with_reducible refine Kd.C_alloc ?_ _) | (with_reducible refine Kd.C_drewN ?_ _) | (with_reducible refine Kd.C_drew ?_))); (case side2 => exact (Kd.Q_reads' HO667.out).2.1); rintro e w27 ⟨rfl, hb⟩; refine ⟨_, rfl, ?_⟩; have n0_ := Aside0.mk (Kd.Q_below (by (with_reducible repeat apply Kd.Q_alloc); exact HO667.out) hb); have n1_ := Aside0.mk (blk_below (bK BK670.out) hb); have n2_ := Aside0.mk (below_step (by repeat first | exact HB.out | with_reducible refine below_setA ?_ ‹_› | apply below_alloc | apply pw_below_drewN) hb); clear HO667; clear BK670; clear HB; have HO667 := n0_; have BK670 := n1_; have HB := n2_; clear n0_ n1_ n2_; (try clear hb); (try clear hb2); (try clear hk); (try clear hi)))
    go_meet
    case rel => exact ⟨_, (true), (by first | rfl | (simp; done) | (simp [*]; done)), H', ⟨by first | omega | exact Nat.le_refl _⟩, ⟨by (with_reducible repeat apply Kd.Q_alloc); exact HO667.out⟩, ⟨by (with_reducible repeat apply blk_alloc); exact BK670.out⟩, ⟨by repeat first | exact HB.out | with_reducible refine below_setA ?_ ‹_› | apply below_alloc | apply pw_below_drewN⟩⟩
  case rest =>
   clear HC5
   try clear c1
   try clear c2
   try clear c2b0
   try clear c2b1
   try clear p2
   try clear c9
   try clear c12
   try clear c12b0
   try clear c12b1
   try clear c14
   try clear c24
   try clear c25
   try clear c26
   try clear hcz16_0
   try clear hcz16_1
   try clear hcz18_0
   try clear hcz18_1
   try clear hcz20_0
   try clear hcz20_1
   try clear hcz22_0
   try clear hcz22_1
   try clear hcz24_0
   try clear hcz24_1
   try clear hcz26_0
   try clear hcz26_1
   try clear hcz8_0
   try clear hcz8_1
   try clear hfz16_0
   try clear hfz16_1
   try clear hfz18_0
   try clear hfz18_1
   try clear hfz20_0
   try clear hfz20_1
   try clear hfz22_0
   try clear hfz22_1
   try clear hfz24_0
   try clear hfz24_1
   try clear hfz26_0
   try clear hfz26_1
   try clear hfz8_0
   try clear hfz8_1
   obtain ⟨kq, x37_4, rfl, HA, HJ4, HO_671001, BK670, HB⟩ := hcut
   cases kq with
   | zero => exact absurd HA.out (by simp [laws_FnTrailBack.j0])
   | succ kj4 =>
    have H := HA.out
    clear HA
    simp only [laws_FnTrailBack.j0] at H
    by_cases c28 : x37_4 = true
    ·subst c28
     have H1 : ((spec_TrailTo.f kj4 t664 t665 t668 t669).bind fun t675 => (some (t671 == t675))) = some r := by rw [if_pos rfl] at H; exact H
     clear H
     have H := H1
     clear H1
     replace H := Option.bind_eq_some_iff.mp H
     obtain ⟨t675, A290, H⟩ := H
     replace H : (some (t671 == t675)) = some r := H
     have A29 := Aside0.mk A290
     clear A290
     obtain rfl := Option.some.inj H
     have hcz30_0 : wc.cell? ⟨gb670, 0, none⟩ = some (.int .i64 t664) := (blk_cell BK670.out 0).trans rfl
     have hcz30_1 : wc.cell? ⟨gb670, 1, none⟩ = some (.slice Ao9 t665.length co9) := (blk_cell BK670.out 1).trans rfl
     have hfz30_0 := blk_frozen BK670.out 0
     have hfz30_1 := blk_frozen BK670.out 1
     go_wp2_with (first | ((with_reducible refine gate_callee (f := 26) rfl ?_); refine goesL_ (some 42) rfl rfl Try.func26 (by kernel_rfl) rfl #[.agg #[.int .i64 t664, .slice Ao9 t665.length co9], .int .i64 t668, .int .i64 t669] rfl (by first | rfl | (simp only [List.map_toArray, List.map_cons, List.map_nil, List.length_drop, List.length_take]; try rfl)) ?_; (with_reducible refine (spec_TrailTo.calls kj4 t664 _ _ t665 t668 t669 t675 _ ?side1 ?side2 A29.out).mono ?_); (case side1 => repeat (first | exact (Kd.Q_reads' HO_671001.out).2.2 | (with_reducible refine Kd.C_alloc ?_ _) | (with_reducible refine Kd.C_drewN ?_ _) | (with_reducible refine Kd.C_drew ?_))); (case side2 => exact (Kd.Q_reads' HO_671001.out).2.1); rintro e w31 ⟨rfl, hb⟩; refine ⟨_, rfl, ?_⟩; have n0_ := Aside0.mk (Kd.Q_below (by (with_reducible repeat apply Kd.Q_alloc); exact HO_671001.out) hb); have n1_ := Aside0.mk (blk_below (bK BK670.out) hb); have n2_ := Aside0.mk (below_step (by repeat first | exact HB.out | with_reducible refine below_setA ?_ ‹_› | apply below_alloc | apply pw_below_drewN) hb); clear HO_671001; clear BK670; clear HB; have HO_671001 := n0_; have BK670 := n1_; have HB := n2_; clear n0_ n1_ n2_; (try clear hb); (try clear hb2); (try clear hk); (try clear hi)))
     go_ret
     exact ⟨by first | rfl | (simp [errW_none, errW_some] <;> rfl) | (simp [*, errW_none, errW_some] <;> rfl) | (exfalso; simp_all; done), by repeat first | exact HB.out | with_reducible refine below_setA ?_ ‹_› | apply below_alloc | apply pw_below_drewN⟩
    ·replace c28 := Bool.eq_false_iff.mpr c28
     subst c28
     have H1 : ((impl_TrailTo.f kj4 t664 t665 t669 t668).bind fun t676 => (if t676 = t671 then (if t671 >= 0 then (some (decide (t671 <= 64))) else (some false)) else (some false))) = some r := by rw [if_neg (show ¬ (false = true) by decide)] at H; exact H
     clear H
     have H := H1
     clear H1
     replace H := Option.bind_eq_some_iff.mp H
     obtain ⟨t676, A320, H⟩ := H
     replace H : (if t676 = t671 then (if t671 >= 0 then (some (decide (t671 <= 64))) else (some false)) else (some false)) = some r := H
     have A32 := Aside0.mk A320
     clear A320
     by_cases c33 : t676 = t671
     ·rw [if_pos c33] at H
      have c33b0 : (t676 == t671) = true := beq_iff_eq.mpr c33
      have c33b1 : (t676 != t671) = false := bne_eq_false_iff_eq.mpr c33
      clear c33
      by_cases c34 : t671 >= 0
      ·rw [if_pos c34] at H
       have c34b0 : decide (0 <= t671) = true := decide_eq_true c34
       clear c34
       obtain rfl := Option.some.inj H
       have hcz35_0 : wc.cell? ⟨gb670, 0, none⟩ = some (.int .i64 t664) := (blk_cell BK670.out 0).trans rfl
       have hcz35_1 : wc.cell? ⟨gb670, 1, none⟩ = some (.slice Ao9 t665.length co9) := (blk_cell BK670.out 1).trans rfl
       have hfz35_0 := blk_frozen BK670.out 0
       have hfz35_1 := blk_frozen BK670.out 1
       go_wp2_with (first | ((with_reducible refine gate_callee (f := 25) rfl ?_); refine goesL_ (some 47) rfl rfl Try.func25 (by kernel_rfl) rfl #[.agg #[.int .i64 t664, .slice Ao9 t665.length co9], .int .i64 t669, .int .i64 t668] rfl (by first | rfl | (simp only [List.map_toArray, List.map_cons, List.map_nil, List.length_drop, List.length_take]; try rfl)) ?_; (with_reducible refine (impl_TrailTo.calls kj4 t664 _ _ t665 t669 t668 t676 _ ?side1 ?side2 A32.out).mono ?_); (case side1 => repeat (first | exact (Kd.Q_reads' HO_671001.out).2.2 | (with_reducible refine Kd.C_alloc ?_ _) | (with_reducible refine Kd.C_drewN ?_ _) | (with_reducible refine Kd.C_drew ?_))); (case side2 => exact (Kd.Q_reads' HO_671001.out).2.1); rintro e w36 ⟨rfl, hb⟩; refine ⟨_, rfl, ?_⟩; have n0_ := Aside0.mk (Kd.Q_below (by (with_reducible repeat apply Kd.Q_alloc); exact HO_671001.out) hb); have n1_ := Aside0.mk (blk_below (bK BK670.out) hb); have n2_ := Aside0.mk (below_step (by repeat first | exact HB.out | with_reducible refine below_setA ?_ ‹_› | apply below_alloc | apply pw_below_drewN) hb); clear HO_671001; clear BK670; clear HB; have HO_671001 := n0_; have BK670 := n1_; have HB := n2_; clear n0_ n1_ n2_; (try clear hb); (try clear hb2); (try clear hk); (try clear hi)))
       go_ret
       exact ⟨by first | rfl | (simp [errW_none, errW_some] <;> rfl) | (simp [*, errW_none, errW_some] <;> rfl) | (exfalso; simp_all; done), by repeat first | exact HB.out | with_reducible refine below_setA ?_ ‹_› | apply below_alloc | apply pw_below_drewN⟩
      ·rw [if_neg c34] at H
       have c34b0 : decide (0 <= t671) = false := decide_eq_false c34
       clear c34
       obtain rfl := Option.some.inj H
       exact absurd HRT.out (by decide)
     ·rw [if_neg c33] at H
      have c33b0 : (t676 == t671) = false := beq_eq_false_iff_ne.mpr c33
      have c33b1 : (t676 != t671) = true := bne_iff_ne.mpr c33
      obtain rfl := Option.some.inj H
      exact absurd HRT.out (by decide)
/-- THE ONE PURE STATEMENT of laws_FnTrailBack: yours. -/
def laws_FnTrailBack.Pure : Prop := ∀ (l0 : List Int), l0.length <= maxLen -> l0.length * 1 <= 140737488351232 -> (∀ x ∈ l0, (Lit.int .u8 x).wf = true) -> ∃ k, laws_FnTrailBack.f k l0 = some true
theorem laws_FnTrailBack.walk (P : laws_FnTrailBack.Pure) (a0 : Option Addr) (len0 cap0 : Nat) (z0 : List Int) (w : World) (w0 : (a0 = none ∧ len0 = 0 ∧ cap0 = 0 ∧ z0 = []) ∨ ∃ x, a0 = some x ∧ len0 <= cap0 ∧ cap0 <= maxLen ∧ z0.length = cap0 ∧ (∀ i, i < z0.length -> w.cell? (x.add i) = some (.int .u8 (z0.getD i 0))) ∧ ∀ n ∈ z0, (Lit.int .u8 n).wf = true) (y0 : len0 * 1 <= 140737488351232) :
  Calls Try.prog 9 #[.slice a0 len0 cap0] w fun e w' => e = .returned (.bool true) ∧ Below w.heap.size w w' := by
 obtain ⟨l0, rfl, hr0, hm0, hw0, hc0⟩ := ReadsInt.ofRowC w0
 obtain ⟨k, h⟩ := P l0 hm0 y0 hw0
 refine (laws_FnTrailBack.calls k _ _ l0 true w (Kd.C_of_reads (d := (0 : Int)) (h1 := fun _ => rfl) hr0) hc0 h rfl).mono ?_
 rintro e w' ⟨rfl, hd⟩
 exact ⟨rfl, hd⟩
end Go.Proofs.Yteapnipnoadejaa.P
