/- PROVED: contracts of functions; No condition. -/
import Derived.Test.YtmohfoleolmijaaPx0
import Derived.Test.YtmohfoleolmijaaPx22
import Derived.Test.YtmohfoleolmijaaPx56
import Derived.Test.YtmohfoleolmijaaPx59
import Derived.Test.YtmohfoleolmijaaPx63
import Derived.Test.YtmohfoleolmijaaPx68
namespace Go.Proofs.Ytmohfoleolmijaa.P
open Go.RowKit Go.Proofs.YtmohfoleolmijaaW
set_option linter.unusedVariables false
set_option linter.unusedSimpArgs false
mutual
def laws_FnLightEnds.j0 : Nat -> Int -> Int -> Bool -> Int -> List (S57) -> Option (Bool)
 | 0, _, _, _, _, _ => none
 | k + 1, x4, x5, x30, x631000, x631001 => if x30 = true then ((spec_TrailLight.f k x631000 x631001 x4).bind fun t634 => (some (x5 == t634))) else ((impl_TrailEnds.f k x631000 x631001 x4).bind fun t635 => (laws_FnLightEnds.l0 k x5 t635 0 0 x631000 x631001))
def laws_FnLightEnds.l0 : Nat -> Int -> List (S48) -> Int -> Int -> Int -> List (S57) -> Option (Bool)
 | 0, _, _, _, _, _, _ => none
 | k + 1, x5, x6, x7, x8, x631000, x631001 => if x8 < (x6.length : Int) then (if 0 <= x8 then (if ((rd_T48 x6 x8).f0) = 2 then (if 0 <= ((rd_T48 x6 x8).f1) then (if ((rd_T48 x6 x8).f1) < (x631001.length : Int) then (laws_FnLightEnds.l0 k x5 x6 (wrap64 (x7 + (wrap64 (((rd_T48 x6 x8).f2) * ((rd_T57 x631001 ((rd_T48 x6 x8).f1)).f1))))) (wrap64 (x8 + 1)) x631000 x631001) else (none)) else (none)) else (laws_FnLightEnds.l0 k x5 x6 x7 (wrap64 (x8 + 1)) x631000 x631001)) else (none)) else (if x7 = x5 then (some (decide (x5 <= 576))) else (some false))
end
def laws_FnLightEnds.f (k : Nat) (l0 : List Int) : Option (Bool) := if (l0.length : Int) > 1048576 then (some true) else ((spec_DrawTrailLight.f k l0).bind fun bt625 => ((impl_TrailLight.f k bt625.1 bt625.2.1 bt625.2.2).bind fun t631 => ((spec_TrailLight.f k bt625.1 bt625.2.1 bt625.2.2).bind fun t632 => (if t631 = t632 then ((laws_llSight.f k bt625.1 bt625.2.1 bt625.2.2).bind fun t633 => (laws_FnLightEnds.j0 k bt625.2.2 t631 (!t633) bt625.1 bt625.2.1)) else (laws_FnLightEnds.j0 k bt625.2.2 t631 true bt625.1 bt625.2.1)))))
set_option maxHeartbeats 8000000 in
set_option maxRecDepth 100000 in
theorem laws_FnLightEnds.calls (k : Nat) (A0 : Option Addr) (c0 : Nat) (l0 : List Int) (r : Bool) (w : World) (hr0 : Kd.C (Kd.int .u8) w A0 l0.length l0) (hc0 : l0.length <= c0) (h : laws_FnLightEnds.f k l0 = some r) (hrt : r = true) :
  Calls Try.prog 9 #[.slice A0 l0.length c0] w fun e w' => e = .returned (.bool r) ∧ Below w.heap.size w w' := by
 have HRT := Aside0.mk hrt
 clear hrt
 have hu30 := Try.underlying30
 have HR0 := Aside0.mk hr0
 have HC0 := Aside0.mk hc0
 clear hr0 hc0
 have HB := Aside0.mk (Below.refl w.heap.size w)
 have H : (if (l0.length : Int) > 1048576 then (some true) else ((spec_DrawTrailLight.f k l0).bind fun bt625 => ((impl_TrailLight.f k bt625.1 bt625.2.1 bt625.2.2).bind fun t631 => ((spec_TrailLight.f k bt625.1 bt625.2.1 bt625.2.2).bind fun t632 => (if t631 = t632 then ((laws_llSight.f k bt625.1 bt625.2.1 bt625.2.2).bind fun t633 => (laws_FnLightEnds.j0 k bt625.2.2 t631 (!t633) bt625.1 bt625.2.1)) else (laws_FnLightEnds.j0 k bt625.2.2 t631 true bt625.1 bt625.2.1)))))) = some r := h
 clear h
 by_cases c2 : (l0.length : Int) > 1048576
 ·rw [if_pos c2] at H
  have c2b0 : decide (1048576 < (l0.length : Int)) = true := decide_eq_true c2
  have c2b1 : decide (1048576 < l0.length) = true := decide_eq_true (by omega)
  clear c2
  obtain rfl := Option.some.inj H
  go_enter Try.func9, Try.ntmps9
  go_wp2
  repeat (go_quiet (fail); try go_wp2)
  go_ret
  exact ⟨by first | rfl | (simp [errW_none, errW_some] <;> rfl) | (simp [*, errW_none, errW_some] <;> rfl) | (exfalso; simp_all; done), by repeat first | exact HB.out | apply below_alloc | apply pw_below_drewN⟩
 ·rw [if_neg c2] at H
  have c2b0 : decide (1048576 < (l0.length : Int)) = false := decide_eq_false c2
  have c2b1 : decide (1048576 < l0.length) = false := decide_eq_false (by omega)
  clear c2
  replace H := Option.bind_eq_some_iff.mp H
  obtain ⟨⟨t625, t626, t629⟩, A30, H⟩ := H
  replace H : ((impl_TrailLight.f k t625 t626 t629).bind fun t631 => ((spec_TrailLight.f k t625 t626 t629).bind fun t632 => (if t631 = t632 then ((laws_llSight.f k t625 t626 t629).bind fun t633 => (laws_FnLightEnds.j0 k t629 t631 (!t633) t625 t626)) else (laws_FnLightEnds.j0 k t629 t631 true t625 t626)))) = some r := H
  have A3 := Aside0.mk A30
  clear A30
  replace H := Option.bind_eq_some_iff.mp H
  obtain ⟨t631, A40, H⟩ := H
  replace H : ((spec_TrailLight.f k t625 t626 t629).bind fun t632 => (if t631 = t632 then ((laws_llSight.f k t625 t626 t629).bind fun t633 => (laws_FnLightEnds.j0 k t629 t631 (!t633) t625 t626)) else (laws_FnLightEnds.j0 k t629 t631 true t625 t626))) = some r := H
  have A4 := Aside0.mk A40
  clear A40
  have HC5 := Aside0.mk H
  clear H
  go_enter Try.func9, Try.ntmps9
  go_upto_region 5 with (first | (go_at_call 34; (with_reducible refine (spec_DrawTrailLight.calls k _ _ l0 t625 t626 t629 _ ?side1 ?side2 A3.out).mono ?_); (case side1 => repeat (first | exact HR0.out | (with_reducible refine Kd.C_alloc ?_ _) | (with_reducible refine Kd.C_drewN ?_ _) | (with_reducible refine Kd.C_drew ?_))); (case side2 => exact HC0.out); rintro e w6 ⟨v627, rfl, ho0, hb⟩; have n0_ := Aside0.mk (Kd.Q_lower ho0 (below_size (by repeat first | exact HB.out | apply below_alloc | apply pw_below_drewN))); have n1_ := Aside0.mk (below_step (by repeat first | exact HB.out | apply below_alloc | apply pw_below_drewN) hb); clear HB; have HO628 := n0_; have HB := n1_; clear n0_ n1_; (try clear hb); (try clear hb2); (try clear hk); (try clear hi); (try clear ho0)) | ((with_reducible refine gate_dst (N := 3) rfl ?_); refine box_event rfl (N := 3) rfl (cs := #[.int .i64 0, .slice none 0 0]) (t := 30) ?hr ?_; (case hr => first | (go_simp; done) | (go_simp; rfl)); intro gb630 hg w7 hbox hb; have n0_ := Aside0.mk (Kd.Q_below (by (with_reducible repeat apply Kd.Q_alloc); exact HO628.out) hb); have n1_ := Aside0.mk (below_step (by repeat first | exact HB.out | apply below_alloc | apply pw_below_drewN) hb); have n2_ := Aside0.mk (hbox); have n3_ := Aside0.mk ((by rw [hg]; exact (below_size (by repeat first | exact HB.out | apply below_alloc | apply pw_below_drewN)) : w.heap.size <= gb630)); have n4_ := n3_; clear HO628; clear HB; have HO628 := n0_; have HB := n1_; have BK630 := n2_; have GW630 := n3_; have GE630 := n4_; clear n0_ n1_ n2_ n3_ n4_; clear hb hbox hg; have hcz8_0 : w7.cell? ⟨gb630, 0, none⟩ = some (.int .i64 0) := (blk_cell BK630.out 0).trans rfl; have hcz8_1 : w7.cell? ⟨gb630, 1, none⟩ = some (.slice none 0 0) := (blk_cell BK630.out 1).trans rfl; have hfz8_0 := blk_frozen BK630.out 0; have hfz8_1 := blk_frozen BK630.out 1; obtain ⟨Ao9, co9, eo9, _⟩ := Kd.Q_slice HO628.out; subst eo9) | (go_at_call 27; (with_reducible refine (impl_TrailLight.calls k t625 _ _ t626 t629 t631 _ ?side1 ?side2 A4.out).mono ?_); (case side1 => refine (Kd.Q_reads' (e := 57) (base := w.heap.size) (ok := fun k_ => True) (n := t626.length) (c := co9) ?_).2.2; exact (by (with_reducible repeat apply Kd.Q_alloc); exact (Kd.Q_mono (Kd.Q_far (p := ⟨gb630, 1, none⟩) (Kd.Q_far (p := ⟨gb630, 0, none⟩) (Kd.Q_types HO628.out BK630.out (by decide)) (fun _ hk => hk.2) (.int .i64 t625)) (fun _ hk => hk.2) (.slice Ao9 t626.length co9)) (fun _ h_ => h_.1)))); (case side2 => exact (Kd.Q_reads' HO628.out).2.1); rintro e w10 ⟨rfl, hb⟩; have n0_ := Aside0.mk (Kd.Q_below (by (with_reducible repeat apply Kd.Q_alloc); exact (Kd.Q_mono (Kd.Q_far (p := ⟨gb630, 1, none⟩) (Kd.Q_far (p := ⟨gb630, 0, none⟩) (Kd.Q_types HO628.out BK630.out (by decide)) (fun _ hk => hk.2) (.int .i64 t625)) (fun _ hk => hk.2) (.slice Ao9 t626.length co9)) (fun _ h_ => h_.1))) hb); have n1_ := Aside0.mk (blk_below (g := gb630) (o := .cells #[.int .i64 t625, .slice Ao9 t626.length co9] 30 (0, 0)) (by (with_reducible repeat apply blk_alloc); refine blk_put (cs := #[.int .i64 t625, .slice none 0 0]) ?_ 1 _ rfl; (with_reducible repeat apply blk_alloc); refine blk_put (cs := #[.int .i64 0, .slice none 0 0]) ?_ 0 _ rfl; (with_reducible repeat apply blk_alloc); exact BK630.out) hb); have n2_ := Aside0.mk (below_step (by repeat first | exact HB.out | with_reducible refine below_setA ?_ ‹_› | apply below_alloc | apply pw_below_drewN) hb); clear HO628; clear BK630; clear HB; have HO628 := n0_; have BK630 := n1_; have HB := n2_; clear n0_ n1_ n2_; (try clear hb); (try clear hb2); (try clear hk); (try clear hi)))
  repeat (go_quiet (first | (go_at_call 34; (with_reducible refine (spec_DrawTrailLight.calls k _ _ l0 t625 t626 t629 _ ?side1 ?side2 A3.out).mono ?_); (case side1 => repeat (first | exact HR0.out | (with_reducible refine Kd.C_alloc ?_ _) | (with_reducible refine Kd.C_drewN ?_ _) | (with_reducible refine Kd.C_drew ?_))); (case side2 => exact HC0.out); rintro e w6 ⟨v627, rfl, ho0, hb⟩; have n0_ := Aside0.mk (Kd.Q_lower ho0 (below_size (by repeat first | exact HB.out | apply below_alloc | apply pw_below_drewN))); have n1_ := Aside0.mk (below_step (by repeat first | exact HB.out | apply below_alloc | apply pw_below_drewN) hb); clear HB; have HO628 := n0_; have HB := n1_; clear n0_ n1_; (try clear hb); (try clear hb2); (try clear hk); (try clear hi); (try clear ho0)) | ((with_reducible refine gate_dst (N := 3) rfl ?_); refine box_event rfl (N := 3) rfl (cs := #[.int .i64 0, .slice none 0 0]) (t := 30) ?hr ?_; (case hr => first | (go_simp; done) | (go_simp; rfl)); intro gb630 hg w7 hbox hb; have n0_ := Aside0.mk (Kd.Q_below (by (with_reducible repeat apply Kd.Q_alloc); exact HO628.out) hb); have n1_ := Aside0.mk (below_step (by repeat first | exact HB.out | apply below_alloc | apply pw_below_drewN) hb); have n2_ := Aside0.mk (hbox); have n3_ := Aside0.mk ((by rw [hg]; exact (below_size (by repeat first | exact HB.out | apply below_alloc | apply pw_below_drewN)) : w.heap.size <= gb630)); have n4_ := n3_; clear HO628; clear HB; have HO628 := n0_; have HB := n1_; have BK630 := n2_; have GW630 := n3_; have GE630 := n4_; clear n0_ n1_ n2_ n3_ n4_; clear hb hbox hg; have hcz8_0 : w7.cell? ⟨gb630, 0, none⟩ = some (.int .i64 0) := (blk_cell BK630.out 0).trans rfl; have hcz8_1 : w7.cell? ⟨gb630, 1, none⟩ = some (.slice none 0 0) := (blk_cell BK630.out 1).trans rfl; have hfz8_0 := blk_frozen BK630.out 0; have hfz8_1 := blk_frozen BK630.out 1; obtain ⟨Ao9, co9, eo9, _⟩ := Kd.Q_slice HO628.out; subst eo9) | (go_at_call 27; (with_reducible refine (impl_TrailLight.calls k t625 _ _ t626 t629 t631 _ ?side1 ?side2 A4.out).mono ?_); (case side1 => refine (Kd.Q_reads' (e := 57) (base := w.heap.size) (ok := fun k_ => True) (n := t626.length) (c := co9) ?_).2.2; exact (by (with_reducible repeat apply Kd.Q_alloc); exact (Kd.Q_mono (Kd.Q_far (p := ⟨gb630, 1, none⟩) (Kd.Q_far (p := ⟨gb630, 0, none⟩) (Kd.Q_types HO628.out BK630.out (by decide)) (fun _ hk => hk.2) (.int .i64 t625)) (fun _ hk => hk.2) (.slice Ao9 t626.length co9)) (fun _ h_ => h_.1)))); (case side2 => exact (Kd.Q_reads' HO628.out).2.1); rintro e w10 ⟨rfl, hb⟩; have n0_ := Aside0.mk (Kd.Q_below (by (with_reducible repeat apply Kd.Q_alloc); exact (Kd.Q_mono (Kd.Q_far (p := ⟨gb630, 1, none⟩) (Kd.Q_far (p := ⟨gb630, 0, none⟩) (Kd.Q_types HO628.out BK630.out (by decide)) (fun _ hk => hk.2) (.int .i64 t625)) (fun _ hk => hk.2) (.slice Ao9 t626.length co9)) (fun _ h_ => h_.1))) hb); have n1_ := Aside0.mk (blk_below (g := gb630) (o := .cells #[.int .i64 t625, .slice Ao9 t626.length co9] 30 (0, 0)) (by (with_reducible repeat apply blk_alloc); refine blk_put (cs := #[.int .i64 t625, .slice none 0 0]) ?_ 1 _ rfl; (with_reducible repeat apply blk_alloc); refine blk_put (cs := #[.int .i64 0, .slice none 0 0]) ?_ 0 _ rfl; (with_reducible repeat apply blk_alloc); exact BK630.out) hb); have n2_ := Aside0.mk (below_step (by repeat first | exact HB.out | with_reducible refine below_setA ?_ ‹_› | apply below_alloc | apply pw_below_drewN) hb); clear HO628; clear BK630; clear HB; have HO628 := n0_; have BK630 := n1_; have HB := n2_; clear n0_ n1_ n2_; (try clear hb); (try clear hb2); (try clear hk); (try clear hi))); go_upto_region 5 with (first | (go_at_call 34; (with_reducible refine (spec_DrawTrailLight.calls k _ _ l0 t625 t626 t629 _ ?side1 ?side2 A3.out).mono ?_); (case side1 => repeat (first | exact HR0.out | (with_reducible refine Kd.C_alloc ?_ _) | (with_reducible refine Kd.C_drewN ?_ _) | (with_reducible refine Kd.C_drew ?_))); (case side2 => exact HC0.out); rintro e w6 ⟨v627, rfl, ho0, hb⟩; have n0_ := Aside0.mk (Kd.Q_lower ho0 (below_size (by repeat first | exact HB.out | apply below_alloc | apply pw_below_drewN))); have n1_ := Aside0.mk (below_step (by repeat first | exact HB.out | apply below_alloc | apply pw_below_drewN) hb); clear HB; have HO628 := n0_; have HB := n1_; clear n0_ n1_; (try clear hb); (try clear hb2); (try clear hk); (try clear hi); (try clear ho0)) | ((with_reducible refine gate_dst (N := 3) rfl ?_); refine box_event rfl (N := 3) rfl (cs := #[.int .i64 0, .slice none 0 0]) (t := 30) ?hr ?_; (case hr => first | (go_simp; done) | (go_simp; rfl)); intro gb630 hg w7 hbox hb; have n0_ := Aside0.mk (Kd.Q_below (by (with_reducible repeat apply Kd.Q_alloc); exact HO628.out) hb); have n1_ := Aside0.mk (below_step (by repeat first | exact HB.out | apply below_alloc | apply pw_below_drewN) hb); have n2_ := Aside0.mk (hbox); have n3_ := Aside0.mk ((by rw [hg]; exact (below_size (by repeat first | exact HB.out | apply below_alloc | apply pw_below_drewN)) : w.heap.size <= gb630)); have n4_ := n3_; clear HO628; clear HB; have HO628 := n0_; have HB := n1_; have BK630 := n2_; have GW630 := n3_; have GE630 := n4_; clear n0_ n1_ n2_ n3_ n4_; clear hb hbox hg; have hcz8_0 : w7.cell? ⟨gb630, 0, none⟩ = some (.int .i64 0) := (blk_cell BK630.out 0).trans rfl; have hcz8_1 : w7.cell? ⟨gb630, 1, none⟩ = some (.slice none 0 0) := (blk_cell BK630.out 1).trans rfl; have hfz8_0 := blk_frozen BK630.out 0; have hfz8_1 := blk_frozen BK630.out 1; obtain ⟨Ao9, co9, eo9, _⟩ := Kd.Q_slice HO628.out; subst eo9) | (go_at_call 27; (with_reducible refine (impl_TrailLight.calls k t625 _ _ t626 t629 t631 _ ?side1 ?side2 A4.out).mono ?_); (case side1 => refine (Kd.Q_reads' (e := 57) (base := w.heap.size) (ok := fun k_ => True) (n := t626.length) (c := co9) ?_).2.2; exact (by (with_reducible repeat apply Kd.Q_alloc); exact (Kd.Q_mono (Kd.Q_far (p := ⟨gb630, 1, none⟩) (Kd.Q_far (p := ⟨gb630, 0, none⟩) (Kd.Q_types HO628.out BK630.out (by decide)) (fun _ hk => hk.2) (.int .i64 t625)) (fun _ hk => hk.2) (.slice Ao9 t626.length co9)) (fun _ h_ => h_.1)))); (case side2 => exact (Kd.Q_reads' HO628.out).2.1); rintro e w10 ⟨rfl, hb⟩; have n0_ := Aside0.mk (Kd.Q_below (by (with_reducible repeat apply Kd.Q_alloc); exact (Kd.Q_mono (Kd.Q_far (p := ⟨gb630, 1, none⟩) (Kd.Q_far (p := ⟨gb630, 0, none⟩) (Kd.Q_types HO628.out BK630.out (by decide)) (fun _ hk => hk.2) (.int .i64 t625)) (fun _ hk => hk.2) (.slice Ao9 t626.length co9)) (fun _ h_ => h_.1))) hb); have n1_ := Aside0.mk (blk_below (g := gb630) (o := .cells #[.int .i64 t625, .slice Ao9 t626.length co9] 30 (0, 0)) (by (with_reducible repeat apply blk_alloc); refine blk_put (cs := #[.int .i64 t625, .slice none 0 0]) ?_ 1 _ rfl; (with_reducible repeat apply blk_alloc); refine blk_put (cs := #[.int .i64 0, .slice none 0 0]) ?_ 0 _ rfl; (with_reducible repeat apply blk_alloc); exact BK630.out) hb); have n2_ := Aside0.mk (below_step (by repeat first | exact HB.out | with_reducible refine below_setA ?_ ‹_› | apply below_alloc | apply pw_below_drewN) hb); clear HO628; clear BK630; clear HB; have HO628 := n0_; have BK630 := n1_; have HB := n2_; clear n0_ n1_ n2_; (try clear hb); (try clear hb2); (try clear hk); (try clear hi))))
  (try simp only [Act.put, List.setIfInBounds_toArray, List.set_cons_zero, List.set_cons_succ])
  go_cut [30] (fun v30 wc => ∃ (kq : Nat) (x30_4 : Bool), v30 = .bool x30_4 ∧ Aside0 (laws_FnLightEnds.j0 kq t629 t631 x30_4 t625 t626 = some r) ∧ Aside0 (kq <= k) ∧ Aside0 (Kd.Q k57 57 wc w.heap.size (fun _ => True) (.slice Ao9 t626.length co9) t626) ∧ Aside0 (wc.heap[gb630]? = some (.cells #[.int .i64 t625, (.slice Ao9 t626.length co9)] 30 (0, 0))) ∧ Aside0 (Below w.heap.size w wc))
  case first =>
   have H := HC5.out
   clear HC5
   replace H := Option.bind_eq_some_iff.mp H
   obtain ⟨t632, A110, H⟩ := H
   replace H : (if t631 = t632 then ((laws_llSight.f k t625 t626 t629).bind fun t633 => (laws_FnLightEnds.j0 k t629 t631 (!t633) t625 t626)) else (laws_FnLightEnds.j0 k t629 t631 true t625 t626)) = some r := H
   have A11 := Aside0.mk A110
   clear A110
   by_cases c12 : t631 = t632
   ·rw [if_pos c12] at H
    have c12b0 : (t631 == t632) = true := beq_iff_eq.mpr c12
    have c12b1 : (t631 != t632) = false := bne_eq_false_iff_eq.mpr c12
    clear c12
    (first | rw [c12b0] | (simp only [i64_w, i32_w]; rw [c12b0]) | skip)
    replace H := Option.bind_eq_some_iff.mp H
    obtain ⟨t633, A130, H⟩ := H
    replace H : (laws_FnLightEnds.j0 k t629 t631 (!t633) t625 t626) = some r := H
    have A13 := Aside0.mk A130
    clear A130
    have H' := Aside0.mk H
    clear H
    have hcz14_0 : w10.cell? ⟨gb630, 0, none⟩ = some (.int .i64 t625) := (blk_cell BK630.out 0).trans rfl
    have hcz14_1 : w10.cell? ⟨gb630, 1, none⟩ = some (.slice Ao9 t626.length co9) := (blk_cell BK630.out 1).trans rfl
    have hfz14_0 := blk_frozen BK630.out 0
    have hfz14_1 := blk_frozen BK630.out 1
    go_wp2_with (first | (go_at_call 26; (with_reducible refine (spec_TrailLight.calls k t625 _ _ t626 t629 t632 _ ?side1 ?side2 A11.out).mono ?_); (case side1 => repeat (first | exact (Kd.Q_reads' HO628.out).2.2 | (with_reducible refine Kd.C_alloc ?_ _) | (with_reducible refine Kd.C_drewN ?_ _) | (with_reducible refine Kd.C_drew ?_))); (case side2 => exact (Kd.Q_reads' HO628.out).2.1); rintro e w15 ⟨rfl, hb⟩; have n0_ := Aside0.mk (Kd.Q_below (by (with_reducible repeat apply Kd.Q_alloc); exact HO628.out) hb); have n1_ := Aside0.mk (blk_below (bK BK630.out) hb); have n2_ := Aside0.mk (below_step (by repeat first | exact HB.out | with_reducible refine below_setA ?_ ‹_› | apply below_alloc | apply pw_below_drewN) hb); clear HO628; clear BK630; clear HB; have HO628 := n0_; have BK630 := n1_; have HB := n2_; clear n0_ n1_ n2_; (try clear hb); (try clear hb2); (try clear hk); (try clear hi); have hcz16_0 : w15.cell? ⟨gb630, 0, none⟩ = some (.int .i64 t625) := (blk_cell BK630.out 0).trans rfl; have hcz16_1 : w15.cell? ⟨gb630, 1, none⟩ = some (.slice Ao9 t626.length co9) := (blk_cell BK630.out 1).trans rfl; have hfz16_0 := blk_frozen BK630.out 0; have hfz16_1 := blk_frozen BK630.out 1) | (go_at_call 30; (with_reducible refine (laws_llSight.calls k t625 _ _ t626 t629 t633 _ ?side1 ?side2 A13.out).mono ?_); (case side1 => repeat (first | exact (Kd.Q_reads' HO628.out).2.2 | (with_reducible refine Kd.C_alloc ?_ _) | (with_reducible refine Kd.C_drewN ?_ _) | (with_reducible refine Kd.C_drew ?_))); (case side2 => exact (Kd.Q_reads' HO628.out).2.1); rintro e w17 ⟨rfl, hb⟩; have n0_ := Aside0.mk (Kd.Q_below (by (with_reducible repeat apply Kd.Q_alloc); exact HO628.out) hb); have n1_ := Aside0.mk (blk_below (bK BK630.out) hb); have n2_ := Aside0.mk (below_step (by repeat first | exact HB.out | with_reducible refine below_setA ?_ ‹_› | apply below_alloc | apply pw_below_drewN) hb); clear HO628; clear BK630; clear HB; have HO628 := n0_; have BK630 := n1_; have HB := n2_; clear n0_ n1_ n2_; (try clear hb); (try clear hb2); (try clear hk); (try clear hi)))
    repeat (go_quiet (first | (go_at_call 26; (with_reducible refine (spec_TrailLight.calls k t625 _ _ t626 t629 t632 _ ?side1 ?side2 A11.out).mono ?_); (case side1 => repeat (first | exact (Kd.Q_reads' HO628.out).2.2 | (with_reducible refine Kd.C_alloc ?_ _) | (with_reducible refine Kd.C_drewN ?_ _) | (with_reducible refine Kd.C_drew ?_))); (case side2 => exact (Kd.Q_reads' HO628.out).2.1); rintro e w15 ⟨rfl, hb⟩; have n0_ := Aside0.mk (Kd.Q_below (by (with_reducible repeat apply Kd.Q_alloc); exact HO628.out) hb); have n1_ := Aside0.mk (blk_below (bK BK630.out) hb); have n2_ := Aside0.mk (below_step (by repeat first | exact HB.out | with_reducible refine below_setA ?_ ‹_› | apply below_alloc | apply pw_below_drewN) hb); clear HO628; clear BK630; clear HB; have HO628 := n0_; have BK630 := n1_; have HB := n2_; clear n0_ n1_ n2_; (try clear hb); (try clear hb2); (try clear hk); (try clear hi); have hcz16_0 : w15.cell? ⟨gb630, 0, none⟩ = some (.int .i64 t625) := (blk_cell BK630.out 0).trans rfl; have hcz16_1 : w15.cell? ⟨gb630, 1, none⟩ = some (.slice Ao9 t626.length co9) := (blk_cell BK630.out 1).trans rfl; have hfz16_0 := blk_frozen BK630.out 0; have hfz16_1 := blk_frozen BK630.out 1) | (go_at_call 30; (with_reducible refine (laws_llSight.calls k t625 _ _ t626 t629 t633 _ ?side1 ?side2 A13.out).mono ?_); (case side1 => repeat (first | exact (Kd.Q_reads' HO628.out).2.2 | (with_reducible refine Kd.C_alloc ?_ _) | (with_reducible refine Kd.C_drewN ?_ _) | (with_reducible refine Kd.C_drew ?_))); (case side2 => exact (Kd.Q_reads' HO628.out).2.1); rintro e w17 ⟨rfl, hb⟩; have n0_ := Aside0.mk (Kd.Q_below (by (with_reducible repeat apply Kd.Q_alloc); exact HO628.out) hb); have n1_ := Aside0.mk (blk_below (bK BK630.out) hb); have n2_ := Aside0.mk (below_step (by repeat first | exact HB.out | with_reducible refine below_setA ?_ ‹_› | apply below_alloc | apply pw_below_drewN) hb); clear HO628; clear BK630; clear HB; have HO628 := n0_; have BK630 := n1_; have HB := n2_; clear n0_ n1_ n2_; (try clear hb); (try clear hb2); (try clear hk); (try clear hi))); try go_wp2_with (first | (go_at_call 26; (with_reducible refine (spec_TrailLight.calls k t625 _ _ t626 t629 t632 _ ?side1 ?side2 A11.out).mono ?_); (case side1 => repeat (first | exact (Kd.Q_reads' HO628.out).2.2 | (with_reducible refine Kd.C_alloc ?_ _) | (with_reducible refine Kd.C_drewN ?_ _) | (with_reducible refine Kd.C_drew ?_))); (case side2 => exact (Kd.Q_reads' HO628.out).2.1); rintro e w15 ⟨rfl, hb⟩; have n0_ := Aside0.mk (Kd.Q_below (by (with_reducible repeat apply Kd.Q_alloc); exact HO628.out) hb); have n1_ := Aside0.mk (blk_below (bK BK630.out) hb); have n2_ := Aside0.mk (below_step (by repeat first | exact HB.out | with_reducible refine below_setA ?_ ‹_› | apply below_alloc | apply pw_below_drewN) hb); clear HO628; clear BK630; clear HB; have HO628 := n0_; have BK630 := n1_; have HB := n2_; clear n0_ n1_ n2_; (try clear hb); (try clear hb2); (try clear hk); (try clear hi); have hcz16_0 : w15.cell? ⟨gb630, 0, none⟩ = some (.int .i64 t625) := (blk_cell BK630.out 0).trans rfl; have hcz16_1 : w15.cell? ⟨gb630, 1, none⟩ = some (.slice Ao9 t626.length co9) := (blk_cell BK630.out 1).trans rfl; have hfz16_0 := blk_frozen BK630.out 0; have hfz16_1 := blk_frozen BK630.out 1) | (go_at_call 30; (with_reducible refine (laws_llSight.calls k t625 _ _ t626 t629 t633 _ ?side1 ?side2 A13.out).mono ?_); (case side1 => repeat (first | exact (Kd.Q_reads' HO628.out).2.2 | (with_reducible refine Kd.C_alloc ?_ _) | (with_reducible refine Kd.C_drewN ?_ _) | (with_reducible refine Kd.C_drew ?_))); (case side2 => exact (Kd.Q_reads' HO628.out).2.1); rintro e w17 ⟨rfl, hb⟩; have n0_ := Aside0.mk (Kd.Q_below (by (with_reducible repeat apply Kd.Q_alloc); exact HO628.out) hb); have n1_ := Aside0.mk (blk_below (bK BK630.out) hb); have n2_ := Aside0.mk (below_step (by repeat first | exact HB.out | with_reducible refine below_setA ?_ ‹_› | apply below_alloc | apply pw_below_drewN) hb); clear HO628; clear BK630; clear HB; have HO628 := n0_; have BK630 := n1_; have HB := n2_; clear n0_ n1_ n2_; (try clear hb); (try clear hb2); (try clear hk); (try clear hi))))
    go_meet
    case rel => exact ⟨_, (!t633), (by first | rfl | (simp; done) | (simp [*]; done)), H', ⟨by first | omega | exact Nat.le_refl _⟩, ⟨by (with_reducible repeat apply Kd.Q_alloc); exact HO628.out⟩, ⟨by (with_reducible repeat apply blk_alloc); exact BK630.out⟩, ⟨by repeat first | exact HB.out | with_reducible refine below_setA ?_ ‹_› | apply below_alloc | apply pw_below_drewN⟩⟩
   ·rw [if_neg c12] at H
    have c12b0 : (t631 == t632) = false := beq_eq_false_iff_ne.mpr c12
    have c12b1 : (t631 != t632) = true := bne_iff_ne.mpr c12
    (first | rw [c12b0] | (simp only [i64_w, i32_w]; rw [c12b0]) | skip)
    have H' := Aside0.mk H
    clear H
    have hcz18_0 : w10.cell? ⟨gb630, 0, none⟩ = some (.int .i64 t625) := (blk_cell BK630.out 0).trans rfl
    have hcz18_1 : w10.cell? ⟨gb630, 1, none⟩ = some (.slice Ao9 t626.length co9) := (blk_cell BK630.out 1).trans rfl
    have hfz18_0 := blk_frozen BK630.out 0
    have hfz18_1 := blk_frozen BK630.out 1
    go_wp2_with (first | (go_at_call 26; (with_reducible refine (spec_TrailLight.calls k t625 _ _ t626 t629 t632 _ ?side1 ?side2 A11.out).mono ?_); (case side1 => repeat (first | exact (Kd.Q_reads' HO628.out).2.2 | (with_reducible refine Kd.C_alloc ?_ _) | (with_reducible refine Kd.C_drewN ?_ _) | (with_reducible refine Kd.C_drew ?_))); (case side2 => exact (Kd.Q_reads' HO628.out).2.1); rintro e w19 ⟨rfl, hb⟩; have n0_ := Aside0.mk (Kd.Q_below (by (with_reducible repeat apply Kd.Q_alloc); exact HO628.out) hb); have n1_ := Aside0.mk (blk_below (bK BK630.out) hb); have n2_ := Aside0.mk (below_step (by repeat first | exact HB.out | with_reducible refine below_setA ?_ ‹_› | apply below_alloc | apply pw_below_drewN) hb); clear HO628; clear BK630; clear HB; have HO628 := n0_; have BK630 := n1_; have HB := n2_; clear n0_ n1_ n2_; (try clear hb); (try clear hb2); (try clear hk); (try clear hi)))
    repeat (go_quiet (first | (go_at_call 26; (with_reducible refine (spec_TrailLight.calls k t625 _ _ t626 t629 t632 _ ?side1 ?side2 A11.out).mono ?_); (case side1 => repeat (first | exact (Kd.Q_reads' HO628.out).2.2 | (with_reducible refine Kd.C_alloc ?_ _) | (with_reducible refine Kd.C_drewN ?_ _) | (with_reducible refine Kd.C_drew ?_))); (case side2 => exact (Kd.Q_reads' HO628.out).2.1); rintro e w19 ⟨rfl, hb⟩; have n0_ := Aside0.mk (Kd.Q_below (by (with_reducible repeat apply Kd.Q_alloc); exact HO628.out) hb); have n1_ := Aside0.mk (blk_below (bK BK630.out) hb); have n2_ := Aside0.mk (below_step (by repeat first | exact HB.out | with_reducible refine below_setA ?_ ‹_› | apply below_alloc | apply pw_below_drewN) hb); clear HO628; clear BK630; clear HB; have HO628 := n0_; have BK630 := n1_; have HB := n2_; clear n0_ n1_ n2_; (try clear hb); (try clear hb2); (try clear hk); (try clear hi))); try go_wp2_with (first | (go_at_call 26; (with_reducible refine (spec_TrailLight.calls k t625 _ _ t626 t629 t632 _ ?side1 ?side2 A11.out).mono ?_); (case side1 => repeat (first | exact (Kd.Q_reads' HO628.out).2.2 | (with_reducible refine Kd.C_alloc ?_ _) | (with_reducible refine Kd.C_drewN ?_ _) | (with_reducible refine Kd.C_drew ?_))); (case side2 => exact (Kd.Q_reads' HO628.out).2.1); rintro e w19 ⟨rfl, hb⟩; have n0_ := Aside0.mk (Kd.Q_below (by (with_reducible repeat apply Kd.Q_alloc); exact HO628.out) hb); have n1_ := Aside0.mk (blk_below (bK BK630.out) hb); have n2_ := Aside0.mk (below_step (by repeat first | exact HB.out | with_reducible refine below_setA ?_ ‹_› | apply below_alloc | apply pw_below_drewN) hb); clear HO628; clear BK630; clear HB; have HO628 := n0_; have BK630 := n1_; have HB := n2_; clear n0_ n1_ n2_; (try clear hb); (try clear hb2); (try clear hk); (try clear hi))))
    go_meet
    case rel => exact ⟨_, (true), (by first | rfl | (simp; done) | (simp [*]; done)), H', ⟨by first | omega | exact Nat.le_refl _⟩, ⟨by (with_reducible repeat apply Kd.Q_alloc); exact HO628.out⟩, ⟨by (with_reducible repeat apply blk_alloc); exact BK630.out⟩, ⟨by repeat first | exact HB.out | with_reducible refine below_setA ?_ ‹_› | apply below_alloc | apply pw_below_drewN⟩⟩
  case rest =>
   clear HC5
   try clear c1
   try clear c2
   try clear c2b0
   try clear c2b1
   try clear p2
   try clear c9
   try clear c12
   try clear c12b0
   try clear c12b1
   try clear hcz14_0
   try clear hcz14_1
   try clear hcz16_0
   try clear hcz16_1
   try clear hcz18_0
   try clear hcz18_1
   try clear hcz8_0
   try clear hcz8_1
   try clear hfz14_0
   try clear hfz14_1
   try clear hfz16_0
   try clear hfz16_1
   try clear hfz18_0
   try clear hfz18_1
   try clear hfz8_0
   try clear hfz8_1
   obtain ⟨kq, x30_4, rfl, HA, HJ4, HO_631001, BK630, HB⟩ := hcut
   cases kq with
   | zero => exact absurd HA.out (by simp [laws_FnLightEnds.j0])
   | succ kj4 =>
    have H := HA.out
    clear HA
    simp only [laws_FnLightEnds.j0] at H
    by_cases c20 : x30_4 = true
    ·subst c20
     have H1 : ((spec_TrailLight.f kj4 t625 t626 t629).bind fun t634 => (some (t631 == t634))) = some r := by rw [if_pos rfl] at H; exact H
     clear H
     have H := H1
     clear H1
     replace H := Option.bind_eq_some_iff.mp H
     obtain ⟨t634, A210, H⟩ := H
     replace H : (some (t631 == t634)) = some r := H
     have A21 := Aside0.mk A210
     clear A210
     obtain rfl := Option.some.inj H
     have hcz22_0 : wc.cell? ⟨gb630, 0, none⟩ = some (.int .i64 t625) := (blk_cell BK630.out 0).trans rfl
     have hcz22_1 : wc.cell? ⟨gb630, 1, none⟩ = some (.slice Ao9 t626.length co9) := (blk_cell BK630.out 1).trans rfl
     have hfz22_0 := blk_frozen BK630.out 0
     have hfz22_1 := blk_frozen BK630.out 1
     go_wp2_with (first | (go_at_call 26; (with_reducible refine (spec_TrailLight.calls kj4 t625 _ _ t626 t629 t634 _ ?side1 ?side2 A21.out).mono ?_); (case side1 => repeat (first | exact (Kd.Q_reads' HO_631001.out).2.2 | (with_reducible refine Kd.C_alloc ?_ _) | (with_reducible refine Kd.C_drewN ?_ _) | (with_reducible refine Kd.C_drew ?_))); (case side2 => exact (Kd.Q_reads' HO_631001.out).2.1); rintro e w23 ⟨rfl, hb⟩; have n0_ := Aside0.mk (Kd.Q_below (by (with_reducible repeat apply Kd.Q_alloc); exact HO_631001.out) hb); have n1_ := Aside0.mk (blk_below (bK BK630.out) hb); have n2_ := Aside0.mk (below_step (by repeat first | exact HB.out | with_reducible refine below_setA ?_ ‹_› | apply below_alloc | apply pw_below_drewN) hb); clear HO_631001; clear BK630; clear HB; have HO_631001 := n0_; have BK630 := n1_; have HB := n2_; clear n0_ n1_ n2_; (try clear hb); (try clear hb2); (try clear hk); (try clear hi)))
     repeat (go_quiet (first | (go_at_call 26; (with_reducible refine (spec_TrailLight.calls kj4 t625 _ _ t626 t629 t634 _ ?side1 ?side2 A21.out).mono ?_); (case side1 => repeat (first | exact (Kd.Q_reads' HO_631001.out).2.2 | (with_reducible refine Kd.C_alloc ?_ _) | (with_reducible refine Kd.C_drewN ?_ _) | (with_reducible refine Kd.C_drew ?_))); (case side2 => exact (Kd.Q_reads' HO_631001.out).2.1); rintro e w23 ⟨rfl, hb⟩; have n0_ := Aside0.mk (Kd.Q_below (by (with_reducible repeat apply Kd.Q_alloc); exact HO_631001.out) hb); have n1_ := Aside0.mk (blk_below (bK BK630.out) hb); have n2_ := Aside0.mk (below_step (by repeat first | exact HB.out | with_reducible refine below_setA ?_ ‹_› | apply below_alloc | apply pw_below_drewN) hb); clear HO_631001; clear BK630; clear HB; have HO_631001 := n0_; have BK630 := n1_; have HB := n2_; clear n0_ n1_ n2_; (try clear hb); (try clear hb2); (try clear hk); (try clear hi))); try go_wp2_with (first | (go_at_call 26; (with_reducible refine (spec_TrailLight.calls kj4 t625 _ _ t626 t629 t634 _ ?side1 ?side2 A21.out).mono ?_); (case side1 => repeat (first | exact (Kd.Q_reads' HO_631001.out).2.2 | (with_reducible refine Kd.C_alloc ?_ _) | (with_reducible refine Kd.C_drewN ?_ _) | (with_reducible refine Kd.C_drew ?_))); (case side2 => exact (Kd.Q_reads' HO_631001.out).2.1); rintro e w23 ⟨rfl, hb⟩; have n0_ := Aside0.mk (Kd.Q_below (by (with_reducible repeat apply Kd.Q_alloc); exact HO_631001.out) hb); have n1_ := Aside0.mk (blk_below (bK BK630.out) hb); have n2_ := Aside0.mk (below_step (by repeat first | exact HB.out | with_reducible refine below_setA ?_ ‹_› | apply below_alloc | apply pw_below_drewN) hb); clear HO_631001; clear BK630; clear HB; have HO_631001 := n0_; have BK630 := n1_; have HB := n2_; clear n0_ n1_ n2_; (try clear hb); (try clear hb2); (try clear hk); (try clear hi))))
     go_ret
     exact ⟨by first | rfl | (simp [errW_none, errW_some] <;> rfl) | (simp [*, errW_none, errW_some] <;> rfl) | (exfalso; simp_all; done), by repeat first | exact HB.out | with_reducible refine below_setA ?_ ‹_› | apply below_alloc | apply pw_below_drewN⟩
    ·replace c20 := Bool.eq_false_iff.mpr c20
     subst c20
     have H1 : ((impl_TrailEnds.f kj4 t625 t626 t629).bind fun t635 => (laws_FnLightEnds.l0 kj4 t631 t635 0 0 t625 t626)) = some r := by rw [if_neg (show ¬ (false = true) by decide)] at H; exact H
     clear H
     have H := H1
     clear H1
     replace H := Option.bind_eq_some_iff.mp H
     obtain ⟨t635, A240, H⟩ := H
     replace H : (laws_FnLightEnds.l0 kj4 t631 t635 0 0 t625 t626) = some r := H
     have A24 := Aside0.mk A240
     clear A240
     have H' := Aside0.mk H
     clear H
     have hcz25_0 : wc.cell? ⟨gb630, 0, none⟩ = some (.int .i64 t625) := (blk_cell BK630.out 0).trans rfl
     have hcz25_1 : wc.cell? ⟨gb630, 1, none⟩ = some (.slice Ao9 t626.length co9) := (blk_cell BK630.out 1).trans rfl
     have hfz25_0 := blk_frozen BK630.out 0
     have hfz25_1 := blk_frozen BK630.out 1
     go_wp2_with (first | (go_at_call 13; (with_reducible refine (impl_TrailEnds.calls kj4 t625 _ _ t626 t629 t635 _ ?side1 ?side2 A24.out).mono ?_); (case side1 => repeat (first | exact (Kd.Q_reads' HO_631001.out).2.2 | (with_reducible refine Kd.C_alloc ?_ _) | (with_reducible refine Kd.C_drewN ?_ _) | (with_reducible refine Kd.C_drew ?_))); (case side2 => exact (Kd.Q_reads' HO_631001.out).2.1); rintro e w26 ⟨v636, rfl, ho0, hb⟩; have n0_ := Aside0.mk (Kd.Q_below (by (with_reducible repeat apply Kd.Q_alloc); exact HO_631001.out) hb); have n1_ := Aside0.mk (Kd.R_lower ho0 (below_size (by repeat first | exact HB.out | with_reducible refine below_setA ?_ ‹_› | apply below_alloc | apply pw_below_drewN))); have n2_ := Aside0.mk (blk_below (bK BK630.out) hb); have n3_ := Aside0.mk (below_step (by repeat first | exact HB.out | with_reducible refine below_setA ?_ ‹_› | apply below_alloc | apply pw_below_drewN) hb); clear HO_631001; clear BK630; clear HB; have HO_631001 := n0_; have HO637 := n1_; have BK630 := n2_; have HB := n3_; clear n0_ n1_ n2_ n3_; (try clear hb); (try clear hb2); (try clear hk); (try clear hi); (try clear ho0)))
     repeat (go_quiet (first | (go_at_call 13; (with_reducible refine (impl_TrailEnds.calls kj4 t625 _ _ t626 t629 t635 _ ?side1 ?side2 A24.out).mono ?_); (case side1 => repeat (first | exact (Kd.Q_reads' HO_631001.out).2.2 | (with_reducible refine Kd.C_alloc ?_ _) | (with_reducible refine Kd.C_drewN ?_ _) | (with_reducible refine Kd.C_drew ?_))); (case side2 => exact (Kd.Q_reads' HO_631001.out).2.1); rintro e w26 ⟨v636, rfl, ho0, hb⟩; have n0_ := Aside0.mk (Kd.Q_below (by (with_reducible repeat apply Kd.Q_alloc); exact HO_631001.out) hb); have n1_ := Aside0.mk (Kd.R_lower ho0 (below_size (by repeat first | exact HB.out | with_reducible refine below_setA ?_ ‹_› | apply below_alloc | apply pw_below_drewN))); have n2_ := Aside0.mk (blk_below (bK BK630.out) hb); have n3_ := Aside0.mk (below_step (by repeat first | exact HB.out | with_reducible refine below_setA ?_ ‹_› | apply below_alloc | apply pw_below_drewN) hb); clear HO_631001; clear BK630; clear HB; have HO_631001 := n0_; have HO637 := n1_; have BK630 := n2_; have HB := n3_; clear n0_ n1_ n2_ n3_; (try clear hb); (try clear hb2); (try clear hk); (try clear hi); (try clear ho0))); try go_wp2_with (first | (go_at_call 13; (with_reducible refine (impl_TrailEnds.calls kj4 t625 _ _ t626 t629 t635 _ ?side1 ?side2 A24.out).mono ?_); (case side1 => repeat (first | exact (Kd.Q_reads' HO_631001.out).2.2 | (with_reducible refine Kd.C_alloc ?_ _) | (with_reducible refine Kd.C_drewN ?_ _) | (with_reducible refine Kd.C_drew ?_))); (case side2 => exact (Kd.Q_reads' HO_631001.out).2.1); rintro e w26 ⟨v636, rfl, ho0, hb⟩; have n0_ := Aside0.mk (Kd.Q_below (by (with_reducible repeat apply Kd.Q_alloc); exact HO_631001.out) hb); have n1_ := Aside0.mk (Kd.R_lower ho0 (below_size (by repeat first | exact HB.out | with_reducible refine below_setA ?_ ‹_› | apply below_alloc | apply pw_below_drewN))); have n2_ := Aside0.mk (blk_below (bK BK630.out) hb); have n3_ := Aside0.mk (below_step (by repeat first | exact HB.out | with_reducible refine below_setA ?_ ‹_› | apply below_alloc | apply pw_below_drewN) hb); clear HO_631001; clear BK630; clear HB; have HO_631001 := n0_; have HO637 := n1_; have BK630 := n2_; have HB := n3_; clear n0_ n1_ n2_ n3_; (try clear hb); (try clear hb2); (try clear hk); (try clear hi); (try clear ho0))))
     go_loopg [7, 8] kj4 (fun kq v7 v8 w' => ∃ (x7_2 : Int) (x8_2 : Int), v7 = .int .i64 x7_2 ∧ v8 = .int .i64 x8_2 ∧ Aside0 (laws_FnLightEnds.l0 kq t631 t635 x7_2 x8_2 t625 t626 = some r) ∧ Aside0 (kq <= kj4) ∧ Aside0 (Kd.R k48 48 w' w.heap.size (fun _ => True) v636 t635) ∧ Aside0 (Kd.Q k57 57 w' w.heap.size (fun _ => True) (.slice Ao9 t626.length co9) t626) ∧ Aside0 (w'.heap[gb630]? = some (.cells #[.int .i64 t625, (.slice Ao9 t626.length co9)] 30 (0, 0))) ∧ Aside0 (Below w.heap.size w w'))
     case atStart => exact ⟨(0), (0), (by first | rfl | (simp; done) | (simp [*]; done)), (by first | rfl | (simp; done) | (simp [*]; done)), H', ⟨Nat.le_refl _⟩, ⟨by (with_reducible repeat apply Kd.R_alloc); exact HO637.out⟩, ⟨by (with_reducible repeat apply Kd.Q_alloc); exact HO_631001.out⟩, ⟨by (with_reducible repeat apply blk_alloc); exact BK630.out⟩, ⟨by repeat first | exact HB.out | with_reducible refine below_setA ?_ ‹_› | apply below_alloc | apply pw_below_drewN⟩⟩
     case round =>
      clear H'
      try clear c1
      try clear c2
      try clear c2b0
      try clear c2b1
      try clear p2
      try clear c9
      try clear c12
      try clear c12b0
      try clear c12b1
      try clear c20
      try clear hcz14_0
      try clear hcz14_1
      try clear hcz16_0
      try clear hcz16_1
      try clear hcz18_0
      try clear hcz18_1
      try clear hcz22_0
      try clear hcz22_1
      try clear hcz25_0
      try clear hcz25_1
      try clear hcz8_0
      try clear hcz8_1
      try clear hfz14_0
      try clear hfz14_1
      try clear hfz16_0
      try clear hfz16_1
      try clear hfz18_0
      try clear hfz18_1
      try clear hfz22_0
      try clear hfz22_1
      try clear hfz25_0
      try clear hfz25_1
      try clear hfz8_0
      try clear hfz8_1
      try clear p2
      obtain ⟨x7_2, x8_2, rfl, rfl, HA, HK2, HO_6, HO_631001, BK630, HB⟩ := hrel
      cases gk with
      | zero => exact absurd HA.out (by simp [laws_FnLightEnds.l0])
      | succ k2 =>
       have H := HA.out
       clear HA
       simp only [laws_FnLightEnds.l0] at H
       by_cases c27 : x8_2 < (t635.length : Int)
       ·rw [if_pos c27] at H
        have c27b0 : decide (x8_2 < (t635.length : Int)) = true := decide_eq_true c27
        clear c27
        by_cases c28 : 0 <= x8_2
        ·rw [if_pos c28] at H
         have c28b0 : decide (0 <= x8_2) = true := decide_eq_true c28
         clear c28
         by_cases c29 : ((rd_T48 t635 x8_2).f0) = 2
         ·rw [if_pos c29] at H
          have c29b0 : (((rd_T48 t635 x8_2).f0) == 2) = true := beq_iff_eq.mpr c29
          have c29b1 : (((rd_T48 t635 x8_2).f0) != 2) = false := bne_eq_false_iff_eq.mpr c29
          clear c29
          by_cases c30 : 0 <= ((rd_T48 t635 x8_2).f1)
          ·rw [if_pos c30] at H
           have c30b0 : decide (0 <= ((rd_T48 t635 x8_2).f1)) = true := decide_eq_true c30
           clear c30
           by_cases c31 : ((rd_T48 t635 x8_2).f1) < (t626.length : Int)
           ·rw [if_pos c31] at H
            have c31b0 : decide (((rd_T48 t635 x8_2).f1) < (t626.length : Int)) = true := decide_eq_true c31
            clear c31
            have H' := Aside0.mk H
            clear H
            obtain ⟨Ao32, co32, eo32⟩ := Kd.R_slice HO_6.out
            subst eo32
            have p638 : 0 <= (x8_2 : Int) := of_decide_eq_true (by first | (with_reducible assumption) | assumption)
            have q638 : x8_2 < (t635.length : Int) := of_decide_eq_true (by first | (with_reducible assumption) | assumption)
            obtain ⟨ad638, e638, hx638_0, hx638_1, hx638_2⟩ := at_T48 (Kd.R_reads' HO_6.out).2.2 x8_2 p638 q638
            cases e638
            replace p638 := eq_true p638
            replace q638 := eq_true q638
            have p639 : 0 <= (x8_2 : Int) := of_decide_eq_true (by first | (with_reducible assumption) | assumption)
            have q639 : x8_2 < (t635.length : Int) := of_decide_eq_true (by first | (with_reducible assumption) | assumption)
            obtain ⟨ad639, e639, hx639_0, hx639_1, hx639_2⟩ := at_T48 (Kd.R_reads' HO_6.out).2.2 x8_2 p639 q639
            obtain rfl : ad638 = ad639 := (by injection e639)
            replace p639 := eq_true p639
            replace q639 := eq_true q639
            have hcz33_0 : wr.cell? ⟨gb630, 0, none⟩ = some (.int .i64 t625) := (blk_cell BK630.out 0).trans rfl
            have hcz33_1 : wr.cell? ⟨gb630, 1, none⟩ = some (.slice Ao9 t626.length co9) := (blk_cell BK630.out 1).trans rfl
            have hfz33_0 := blk_frozen BK630.out 0
            have hfz33_1 := blk_frozen BK630.out 1
            have p640 : 0 <= (x8_2 : Int) := of_decide_eq_true (by first | (with_reducible assumption) | assumption)
            have q640 : x8_2 < (t635.length : Int) := of_decide_eq_true (by first | (with_reducible assumption) | assumption)
            obtain ⟨ad640, e640, hx640_0, hx640_1, hx640_2⟩ := at_T48 (Kd.R_reads' HO_6.out).2.2 x8_2 p640 q640
            obtain rfl : ad638 = ad640 := (by injection e640)
            replace p640 := eq_true p640
            replace q640 := eq_true q640
            have p641 : 0 <= (((rd_T48 t635 x8_2).f1) : Int) := of_decide_eq_true (by first | (with_reducible assumption) | assumption)
            have q641 : ((rd_T48 t635 x8_2).f1) < (t626.length : Int) := of_decide_eq_true (by first | (with_reducible assumption) | assumption)
            obtain ⟨ad641, e641, hx641_0, hx641_1⟩ := at_T57 (Kd.Q_reads' HO_631001.out).2.2 ((rd_T48 t635 x8_2).f1) p641 q641
            cases e641
            replace p641 := eq_true p641
            replace q641 := eq_true q641
            go_wp2
            repeat (go_quiet (fail); try go_wp2)
            go_roundg k2
            case measure => have := HJ4.out; have := HK2.out; omega
            case rel => exact ⟨(wrap64 (x7_2 + (wrap64 (((rd_T48 t635 x8_2).f2) * ((rd_T57 t626 ((rd_T48 t635 x8_2).f1)).f1))))), (wrap64 (x8_2 + 1)), (by first | rfl | (simp; done) | (simp [*]; done)), (by first | rfl | (simp; done) | (simp [*]; done)), H', ⟨by have := HJ4.out; have := HK2.out; omega⟩, ⟨by (with_reducible repeat apply Kd.R_alloc); exact HO_6.out⟩, ⟨by (with_reducible repeat apply Kd.Q_alloc); exact HO_631001.out⟩, ⟨by (with_reducible repeat apply blk_alloc); exact BK630.out⟩, ⟨by repeat first | exact HB.out | with_reducible refine below_setA ?_ ‹_› | apply below_alloc | apply pw_below_drewN⟩⟩
           ·rw [if_neg c31] at H
            exact absurd H (by simp)
          ·rw [if_neg c30] at H
           exact absurd H (by simp)
         ·rw [if_neg c29] at H
          have c29b0 : (((rd_T48 t635 x8_2).f0) == 2) = false := beq_eq_false_iff_ne.mpr c29
          have c29b1 : (((rd_T48 t635 x8_2).f0) != 2) = true := bne_iff_ne.mpr c29
          have H' := Aside0.mk H
          clear H
          obtain ⟨Ao34, co34, eo34⟩ := Kd.R_slice HO_6.out
          subst eo34
          have p638 : 0 <= (x8_2 : Int) := of_decide_eq_true (by first | (with_reducible assumption) | assumption)
          have q638 : x8_2 < (t635.length : Int) := of_decide_eq_true (by first | (with_reducible assumption) | assumption)
          obtain ⟨ad638, e638, hx638_0, hx638_1, hx638_2⟩ := at_T48 (Kd.R_reads' HO_6.out).2.2 x8_2 p638 q638
          cases e638
          replace p638 := eq_true p638
          replace q638 := eq_true q638
          go_wp2
          repeat (go_quiet (fail); try go_wp2)
          go_roundg k2
          case measure => have := HJ4.out; have := HK2.out; omega
          case rel => exact ⟨(x7_2), (wrap64 (x8_2 + 1)), (by first | rfl | (simp; done) | (simp [*]; done)), (by first | rfl | (simp; done) | (simp [*]; done)), H', ⟨by have := HJ4.out; have := HK2.out; omega⟩, ⟨by (with_reducible repeat apply Kd.R_alloc); exact HO_6.out⟩, ⟨by (with_reducible repeat apply Kd.Q_alloc); exact HO_631001.out⟩, ⟨by (with_reducible repeat apply blk_alloc); exact BK630.out⟩, ⟨by repeat first | exact HB.out | with_reducible refine below_setA ?_ ‹_› | apply below_alloc | apply pw_below_drewN⟩⟩
        ·rw [if_neg c28] at H
         exact absurd H (by simp)
       ·rw [if_neg c27] at H
        have c27b0 : decide (x8_2 < (t635.length : Int)) = false := decide_eq_false c27
        clear c27
        by_cases c35 : x7_2 = t631
        ·rw [if_pos c35] at H
         have c35b0 : (x7_2 == t631) = true := beq_iff_eq.mpr c35
         have c35b1 : (x7_2 != t631) = false := bne_eq_false_iff_eq.mpr c35
         clear c35
         obtain rfl := Option.some.inj H
         obtain ⟨Ao36, co36, eo36⟩ := Kd.R_slice HO_6.out
         subst eo36
         go_wp2
         repeat (go_quiet (fail); try go_wp2)
         go_ret
         exact ⟨by first | rfl | (simp [errW_none, errW_some] <;> rfl) | (simp [*, errW_none, errW_some] <;> rfl) | (exfalso; simp_all; done), by repeat first | exact HB.out | with_reducible refine below_setA ?_ ‹_› | apply below_alloc | apply pw_below_drewN⟩
        ·rw [if_neg c35] at H
         have c35b0 : (x7_2 == t631) = false := beq_eq_false_iff_ne.mpr c35
         have c35b1 : (x7_2 != t631) = true := bne_iff_ne.mpr c35
         obtain rfl := Option.some.inj H
         exact absurd HRT.out (by decide)
/-- THE ONE PURE STATEMENT of laws_FnLightEnds: yours. -/
def laws_FnLightEnds.Pure : Prop := ∀ (l0 : List Int), l0.length <= maxLen -> l0.length * 1 <= 140737488351232 -> (∀ x ∈ l0, (Lit.int .u8 x).wf = true) -> ∃ k, laws_FnLightEnds.f k l0 = some true
theorem laws_FnLightEnds.walk (P : laws_FnLightEnds.Pure) (a0 : Option Addr) (len0 cap0 : Nat) (z0 : List Int) (w : World) (w0 : (a0 = none ∧ len0 = 0 ∧ cap0 = 0 ∧ z0 = []) ∨ ∃ x, a0 = some x ∧ len0 <= cap0 ∧ cap0 <= maxLen ∧ z0.length = cap0 ∧ (∀ i, i < z0.length -> w.cell? (x.add i) = some (.int .u8 (z0.getD i 0))) ∧ ∀ n ∈ z0, (Lit.int .u8 n).wf = true) (y0 : len0 * 1 <= 140737488351232) :
  Calls Try.prog 9 #[.slice a0 len0 cap0] w fun e w' => e = .returned (.bool true) ∧ Below w.heap.size w w' := by
 obtain ⟨l0, rfl, hr0, hm0, hw0, hc0⟩ := ReadsInt.ofRowC w0
 obtain ⟨k, h⟩ := P l0 hm0 y0 hw0
 refine (laws_FnLightEnds.calls k _ _ l0 true w (Kd.C_of_reads (d := (0 : Int)) (h1 := fun _ => rfl) hr0) hc0 h rfl).mono ?_
 rintro e w' ⟨rfl, hd⟩
 exact ⟨rfl, hd⟩
end Go.Proofs.Ytmohfoleolmijaa.P
