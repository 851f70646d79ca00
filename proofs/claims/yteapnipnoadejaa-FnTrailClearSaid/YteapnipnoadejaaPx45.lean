/- PROVED: contracts of functions; No condition. -/
import Derived.Test.YteapnipnoadejaaPx0
import Derived.Test.YteapnipnoadejaaPx12
import Derived.Test.YteapnipnoadejaaPx36
import Derived.Test.YteapnipnoadejaaPx37
import Derived.Test.YteapnipnoadejaaPx39
import Derived.Test.YteapnipnoadejaaPx40
import Derived.Test.YteapnipnoadejaaPx42
import Derived.Test.YteapnipnoadejaaT3Go
namespace Go.Proofs.Yteapnipnoadejaa.P
open Go.RowKit Go.Proofs.YteapnipnoadejaaW
set_option linter.unusedVariables false
set_option linter.unusedSimpArgs false
mutual
def laws_FnTrailClear.j0 : Nat -> Int -> List (S34) -> Bool -> Int -> List (S42) -> Option (Bool)
 | 0, _, _, _, _, _ => none
 | k + 1, x4, x5, x36, x356000, x356001 => if x36 = true then ((spec_TrailVisits.f k x356000 x356001 x4).bind fun t365 => ((laws_llVisits.f k x5 t365).bind fun t368 => (some t368))) else (laws_FnTrailClear.l0 k x4 x5 0 x356000 x356001)
def laws_FnTrailClear.l0 : Nat -> Int -> List (S34) -> Int -> Int -> List (S42) -> Option (Bool)
 | 0, _, _, _, _, _ => none
 | k + 1, x4, x5, x6, x356000, x356001 => if x6 < (x5.length : Int) then (laws_FnTrailClear.l1 k x4 x5 x6 0 x356000 x356001) else ((impl_TrailEnds.f k x356000 x356001 x4).bind fun t369 => (if (t369.length : Int) = 1 then (if 0 < (t369.length : Int) then (if ((rd_T38 t369 0).f2) = 64 then (some (((rd_T38 t369 0).f0) != 3)) else (some false)) else (none)) else (some false)))
def laws_FnTrailClear.l1 : Nat -> Int -> List (S34) -> Int -> Int -> Int -> List (S42) -> Option (Bool)
 | 0, _, _, _, _, _, _ => none
 | k + 1, x4, x5, x6, x7, x356000, x356001 => if x7 < x6 then (if 0 <= x7 then (if x7 < (x5.length : Int) then (if 0 <= x6 then (if x6 < (x5.length : Int) then (if ((rd_T34 x5 x7).f0) = ((rd_T34 x5 x6).f0) then (if ((rd_T34 x5 x7).f1) = ((rd_T34 x5 x6).f1) then (some false) else (laws_FnTrailClear.l1 k x4 x5 x6 (wrap64 (x7 + 1)) x356000 x356001)) else (laws_FnTrailClear.l1 k x4 x5 x6 (wrap64 (x7 + 1)) x356000 x356001)) else (none)) else (none)) else (none)) else (none)) else (laws_FnTrailClear.l0 k x4 x5 (wrap64 (x6 + 1)) x356000 x356001)
end
def laws_FnTrailClear.f (k : Nat) (l0 : List Int) : Option (Bool) := if (l0.length : Int) > 1048576 then (some true) else ((spec_DrawTrailVisits.f k l0).bind fun bt350 => ((impl_TrailVisits.f k bt350.1 bt350.2.1 bt350.2.2).bind fun t356 => ((spec_TrailVisits.f k bt350.1 bt350.2.1 bt350.2.2).bind fun t359 => ((laws_llVisits.f k t356 t359).bind fun t362 => (if t362 = true then ((laws_llSight.f k bt350.1 bt350.2.1 bt350.2.2).bind fun t363 => (if t363 = true then ((laws_llClear.f k bt350.1 bt350.2.1).bind fun t364 => (laws_FnTrailClear.j0 k bt350.2.2 t356 (!t364) bt350.1 bt350.2.1)) else (laws_FnTrailClear.j0 k bt350.2.2 t356 true bt350.1 bt350.2.1))) else (laws_FnTrailClear.j0 k bt350.2.2 t356 true bt350.1 bt350.2.1))))))
set_option maxHeartbeats 8000000 in
set_option maxRecDepth 100000 in
theorem laws_FnTrailClear.calls (k : Nat) (A0 : Option Addr) (c0 : Nat) (l0 : List Int) (r : Bool) (w : World) (hr0 : Kd.C (Kd.int .u8) w A0 l0.length l0) (hc0 : l0.length <= c0) (h : laws_FnTrailClear.f k l0 = some r) (hrt : r = true) :
  Calls Try.prog 3 #[.slice A0 l0.length c0] w fun e w' => e = .returned (.bool r) ∧ Below w.heap.size w w' := by
 have HRT := Aside0.mk hrt
 clear hrt
 have hu25 := Try.underlying25
 have HR0 := Aside0.mk hr0
 have HC0 := Aside0.mk hc0
 clear hr0 hc0
 have HB := Aside0.mk (Below.refl w.heap.size w)
 have H : (if (l0.length : Int) > 1048576 then (some true) else ((spec_DrawTrailVisits.f k l0).bind fun bt350 => ((impl_TrailVisits.f k bt350.1 bt350.2.1 bt350.2.2).bind fun t356 => ((spec_TrailVisits.f k bt350.1 bt350.2.1 bt350.2.2).bind fun t359 => ((laws_llVisits.f k t356 t359).bind fun t362 => (if t362 = true then ((laws_llSight.f k bt350.1 bt350.2.1 bt350.2.2).bind fun t363 => (if t363 = true then ((laws_llClear.f k bt350.1 bt350.2.1).bind fun t364 => (laws_FnTrailClear.j0 k bt350.2.2 t356 (!t364) bt350.1 bt350.2.1)) else (laws_FnTrailClear.j0 k bt350.2.2 t356 true bt350.1 bt350.2.1))) else (laws_FnTrailClear.j0 k bt350.2.2 t356 true bt350.1 bt350.2.1))))))) = some r := h
 clear h
 by_cases c2 : (l0.length : Int) > 1048576
 ·rw [if_pos c2] at H
  have c2b0 : decide (1048576 < (l0.length : Int)) = true := decide_eq_true c2
  have c2b1 : decide (1048576 < l0.length) = true := decide_eq_true (by omega)
  clear c2
  obtain rfl := Option.some.inj H
  go_enter Try.func3, Try.ntmps3
  go_wp2
  repeat (go_quiet (fail); try go_wp2)
  go_ret
  exact ⟨by first | rfl | (simp [errW_none, errW_some] <;> rfl) | (simp [*, errW_none, errW_some] <;> rfl) | (exfalso; simp_all; done), by repeat first | exact HB.out | apply below_alloc | apply pw_below_drewN⟩
 ·rw [if_neg c2] at H
  have c2b0 : decide (1048576 < (l0.length : Int)) = false := decide_eq_false c2
  have c2b1 : decide (1048576 < l0.length) = false := decide_eq_false (by omega)
  clear c2
  replace H := Option.bind_eq_some_iff.mp H
  obtain ⟨⟨t350, t351, t354⟩, A30, H⟩ := H
  replace H : ((impl_TrailVisits.f k t350 t351 t354).bind fun t356 => ((spec_TrailVisits.f k t350 t351 t354).bind fun t359 => ((laws_llVisits.f k t356 t359).bind fun t362 => (if t362 = true then ((laws_llSight.f k t350 t351 t354).bind fun t363 => (if t363 = true then ((laws_llClear.f k t350 t351).bind fun t364 => (laws_FnTrailClear.j0 k t354 t356 (!t364) t350 t351)) else (laws_FnTrailClear.j0 k t354 t356 true t350 t351))) else (laws_FnTrailClear.j0 k t354 t356 true t350 t351))))) = some r := H
  have A3 := Aside0.mk A30
  clear A30
  replace H := Option.bind_eq_some_iff.mp H
  obtain ⟨t356, A40, H⟩ := H
  replace H : ((spec_TrailVisits.f k t350 t351 t354).bind fun t359 => ((laws_llVisits.f k t356 t359).bind fun t362 => (if t362 = true then ((laws_llSight.f k t350 t351 t354).bind fun t363 => (if t363 = true then ((laws_llClear.f k t350 t351).bind fun t364 => (laws_FnTrailClear.j0 k t354 t356 (!t364) t350 t351)) else (laws_FnTrailClear.j0 k t354 t356 true t350 t351))) else (laws_FnTrailClear.j0 k t354 t356 true t350 t351)))) = some r := H
  have A4 := Aside0.mk A40
  clear A40
  have HC5 := Aside0.mk H
  clear H
  go_enter Try.func3, Try.ntmps3
  go_upto_region 5 with (first | (go_at_call 10; (with_reducible refine (spec_DrawTrailVisits.calls k _ _ l0 t350 t351 t354 _ ?side1 ?side2 A3.out).mono ?_); (case side1 => repeat (first | exact HR0.out | (with_reducible refine Kd.C_alloc ?_ _) | (with_reducible refine Kd.C_drewN ?_ _) | (with_reducible refine Kd.C_drew ?_))); (case side2 => exact HC0.out); rintro e w6 ⟨v352, rfl, ho0, hb⟩; have n0_ := Aside0.mk (Kd.Q_lower ho0 (below_size (by repeat first | exact HB.out | apply below_alloc | apply pw_below_drewN))); have n1_ := Aside0.mk (below_step (by repeat first | exact HB.out | apply below_alloc | apply pw_below_drewN) hb); clear HB; have HO353 := n0_; have HB := n1_; clear n0_ n1_; (try clear hb); (try clear hb2); (try clear hk); (try clear hi); (try clear ho0)) | ((with_reducible refine gate_dst (N := 3) rfl ?_); refine box_event rfl (N := 3) rfl (cs := #[.int .i64 0, .slice none 0 0]) (t := 25) ?hr ?_; (case hr => first | (go_simp; done) | (go_simp; rfl)); intro gb355 hg w7 hbox hb; have n0_ := Aside0.mk (Kd.Q_below (by (with_reducible repeat apply Kd.Q_alloc); exact HO353.out) hb); have n1_ := Aside0.mk (below_step (by repeat first | exact HB.out | apply below_alloc | apply pw_below_drewN) hb); have n2_ := Aside0.mk (hbox); have n3_ := Aside0.mk ((by rw [hg]; exact (below_size (by repeat first | exact HB.out | apply below_alloc | apply pw_below_drewN)) : w.heap.size <= gb355)); have n4_ := n3_; clear HO353; clear HB; have HO353 := n0_; have HB := n1_; have BK355 := n2_; have GW355 := n3_; have GE355 := n4_; clear n0_ n1_ n2_ n3_ n4_; clear hb hbox hg; have hcz8_0 : w7.cell? ⟨gb355, 0, none⟩ = some (.int .i64 0) := (blk_cell BK355.out 0).trans rfl; have hcz8_1 : w7.cell? ⟨gb355, 1, none⟩ = some (.slice none 0 0) := (blk_cell BK355.out 1).trans rfl; have hfz8_0 := blk_frozen BK355.out 0; have hfz8_1 := blk_frozen BK355.out 1; obtain ⟨Ao9, co9, eo9, _⟩ := Kd.Q_slice HO353.out; subst eo9) | (go_at_call 11; (with_reducible refine (impl_TrailVisits.calls k t350 _ _ t351 t354 t356 _ ?side1 ?side2 A4.out).mono ?_); (case side1 => refine (Kd.Q_reads' (e := 42) (base := w.heap.size) (ok := fun k_ => True) (n := t351.length) (c := co9) ?_).2.2; exact (by (with_reducible repeat apply Kd.Q_alloc); exact (Kd.Q_mono (Kd.Q_far (p := ⟨gb355, 1, none⟩) (Kd.Q_far (p := ⟨gb355, 0, none⟩) (Kd.Q_types HO353.out BK355.out (by decide)) (fun _ hk => hk.2) (.int .i64 t350)) (fun _ hk => hk.2) (.slice Ao9 t351.length co9)) (fun _ h_ => h_.1)))); (case side2 => exact (Kd.Q_reads' HO353.out).2.1); rintro e w10 ⟨v357, rfl, ho0, hb⟩; have n0_ := Aside0.mk (Kd.Q_below (by (with_reducible repeat apply Kd.Q_alloc); exact (Kd.Q_mono (Kd.Q_far (p := ⟨gb355, 1, none⟩) (Kd.Q_far (p := ⟨gb355, 0, none⟩) (Kd.Q_types HO353.out BK355.out (by decide)) (fun _ hk => hk.2) (.int .i64 t350)) (fun _ hk => hk.2) (.slice Ao9 t351.length co9)) (fun _ h_ => h_.1))) hb); have n1_ := Aside0.mk (Kd.R_lower ho0 (below_size (by repeat first | exact HB.out | with_reducible refine below_setA ?_ ‹_› | apply below_alloc | apply pw_below_drewN))); have n2_ := Aside0.mk (blk_below (g := gb355) (o := .cells #[.int .i64 t350, .slice Ao9 t351.length co9] 25 (0, 0)) (by (with_reducible repeat apply blk_alloc); refine blk_put (cs := #[.int .i64 t350, .slice none 0 0]) ?_ 1 _ rfl; (with_reducible repeat apply blk_alloc); refine blk_put (cs := #[.int .i64 0, .slice none 0 0]) ?_ 0 _ rfl; (with_reducible repeat apply blk_alloc); exact BK355.out) hb); have n3_ := Aside0.mk (below_step (by repeat first | exact HB.out | with_reducible refine below_setA ?_ ‹_› | apply below_alloc | apply pw_below_drewN) hb); clear HO353; clear BK355; clear HB; have HO353 := n0_; have HO358 := n1_; have BK355 := n2_; have HB := n3_; clear n0_ n1_ n2_ n3_; (try clear hb); (try clear hb2); (try clear hk); (try clear hi); (try clear ho0)))
  repeat (go_quiet (first | (go_at_call 10; (with_reducible refine (spec_DrawTrailVisits.calls k _ _ l0 t350 t351 t354 _ ?side1 ?side2 A3.out).mono ?_); (case side1 => repeat (first | exact HR0.out | (with_reducible refine Kd.C_alloc ?_ _) | (with_reducible refine Kd.C_drewN ?_ _) | (with_reducible refine Kd.C_drew ?_))); (case side2 => exact HC0.out); rintro e w6 ⟨v352, rfl, ho0, hb⟩; have n0_ := Aside0.mk (Kd.Q_lower ho0 (below_size (by repeat first | exact HB.out | apply below_alloc | apply pw_below_drewN))); have n1_ := Aside0.mk (below_step (by repeat first | exact HB.out | apply below_alloc | apply pw_below_drewN) hb); clear HB; have HO353 := n0_; have HB := n1_; clear n0_ n1_; (try clear hb); (try clear hb2); (try clear hk); (try clear hi); (try clear ho0)) | ((with_reducible refine gate_dst (N := 3) rfl ?_); refine box_event rfl (N := 3) rfl (cs := #[.int .i64 0, .slice none 0 0]) (t := 25) ?hr ?_; (case hr => first | (go_simp; done) | (go_simp; rfl)); intro gb355 hg w7 hbox hb; have n0_ := Aside0.mk (Kd.Q_below (by (with_reducible repeat apply Kd.Q_alloc); exact HO353.out) hb); have n1_ := Aside0.mk (below_step (by repeat first | exact HB.out | apply below_alloc | apply pw_below_drewN) hb); have n2_ := Aside0.mk (hbox); have n3_ := Aside0.mk ((by rw [hg]; exact (below_size (by repeat first | exact HB.out | apply below_alloc | apply pw_below_drewN)) : w.heap.size <= gb355)); have n4_ := n3_; clear HO353; clear HB; have HO353 := n0_; have HB := n1_; have BK355 := n2_; have GW355 := n3_; have GE355 := n4_; clear n0_ n1_ n2_ n3_ n4_; clear hb hbox hg; have hcz8_0 : w7.cell? ⟨gb355, 0, none⟩ = some (.int .i64 0) := (blk_cell BK355.out 0).trans rfl; have hcz8_1 : w7.cell? ⟨gb355, 1, none⟩ = some (.slice none 0 0) := (blk_cell BK355.out 1).trans rfl; have hfz8_0 := blk_frozen BK355.out 0; have hfz8_1 := blk_frozen BK355.out 1; obtain ⟨Ao9, co9, eo9, _⟩ := Kd.Q_slice HO353.out; subst eo9) | (go_at_call 11; (with_reducible refine (impl_TrailVisits.calls k t350 _ _ t351 t354 t356 _ ?side1 ?side2 A4.out).mono ?_); (case side1 => refine (Kd.Q_reads' (e := 42) (base := w.heap.size) (ok := fun k_ => True) (n := t351.length) (c := co9) ?_).2.2; exact (by (with_reducible repeat apply Kd.Q_alloc); exact (Kd.Q_mono (Kd.Q_far (p := ⟨gb355, 1, none⟩) (Kd.Q_far (p := ⟨gb355, 0, none⟩) (Kd.Q_types HO353.out BK355.out (by decide)) (fun _ hk => hk.2) (.int .i64 t350)) (fun _ hk => hk.2) (.slice Ao9 t351.length co9)) (fun _ h_ => h_.1)))); (case side2 => exact (Kd.Q_reads' HO353.out).2.1); rintro e w10 ⟨v357, rfl, ho0, hb⟩; have n0_ := Aside0.mk (Kd.Q_below (by (with_reducible repeat apply Kd.Q_alloc); exact (Kd.Q_mono (Kd.Q_far (p := ⟨gb355, 1, none⟩) (Kd.Q_far (p := ⟨gb355, 0, none⟩) (Kd.Q_types HO353.out BK355.out (by decide)) (fun _ hk => hk.2) (.int .i64 t350)) (fun _ hk => hk.2) (.slice Ao9 t351.length co9)) (fun _ h_ => h_.1))) hb); have n1_ := Aside0.mk (Kd.R_lower ho0 (below_size (by repeat first | exact HB.out | with_reducible refine below_setA ?_ ‹_› | apply below_alloc | apply pw_below_drewN))); have n2_ := Aside0.mk (blk_below (g := gb355) (o := .cells #[.int .i64 t350, .slice Ao9 t351.length co9] 25 (0, 0)) (by (with_reducible repeat apply blk_alloc); refine blk_put (cs := #[.int .i64 t350, .slice none 0 0]) ?_ 1 _ rfl; (with_reducible repeat apply blk_alloc); refine blk_put (cs := #[.int .i64 0, .slice none 0 0]) ?_ 0 _ rfl; (with_reducible repeat apply blk_alloc); exact BK355.out) hb); have n3_ := Aside0.mk (below_step (by repeat first | exact HB.out | with_reducible refine below_setA ?_ ‹_› | apply below_alloc | apply pw_below_drewN) hb); clear HO353; clear BK355; clear HB; have HO353 := n0_; have HO358 := n1_; have BK355 := n2_; have HB := n3_; clear n0_ n1_ n2_ n3_; (try clear hb); (try clear hb2); (try clear hk); (try clear hi); (try clear ho0))); go_upto_region 5 with (first | (go_at_call 10; (with_reducible refine (spec_DrawTrailVisits.calls k _ _ l0 t350 t351 t354 _ ?side1 ?side2 A3.out).mono ?_); (case side1 => repeat (first | exact HR0.out | (with_reducible refine Kd.C_alloc ?_ _) | (with_reducible refine Kd.C_drewN ?_ _) | (with_reducible refine Kd.C_drew ?_))); (case side2 => exact HC0.out); rintro e w6 ⟨v352, rfl, ho0, hb⟩; have n0_ := Aside0.mk (Kd.Q_lower ho0 (below_size (by repeat first | exact HB.out | apply below_alloc | apply pw_below_drewN))); have n1_ := Aside0.mk (below_step (by repeat first | exact HB.out | apply below_alloc | apply pw_below_drewN) hb); clear HB; have HO353 := n0_; have HB := n1_; clear n0_ n1_; (try clear hb); (try clear hb2); (try clear hk); (try clear hi); (try clear ho0)) | ((with_reducible refine gate_dst (N := 3) rfl ?_); refine box_event rfl (N := 3) rfl (cs := #[.int .i64 0, .slice none 0 0]) (t := 25) ?hr ?_; (case hr => first | (go_simp; done) | (go_simp; rfl)); intro gb355 hg w7 hbox hb; have n0_ := Aside0.mk (Kd.Q_below (by (with_reducible repeat apply Kd.Q_alloc); exact HO353.out) hb); have n1_ := Aside0.mk (below_step (by repeat first | exact HB.out | apply below_alloc | apply pw_below_drewN) hb); have n2_ := Aside0.mk (hbox); have n3_ := Aside0.mk ((by rw [hg]; exact (below_size (by repeat first | exact HB.out | apply below_alloc | apply pw_below_drewN)) : w.heap.size <= gb355)); have n4_ := n3_; clear HO353; clear HB; have HO353 := n0_; have HB := n1_; have BK355 := n2_; have GW355 := n3_; have GE355 := n4_; clear n0_ n1_ n2_ n3_ n4_; clear hb hbox hg; have hcz8_0 : w7.cell? ⟨gb355, 0, none⟩ = some (.int .i64 0) := (blk_cell BK355.out 0).trans rfl; have hcz8_1 : w7.cell? ⟨gb355, 1, none⟩ = some (.slice none 0 0) := (blk_cell BK355.out 1).trans rfl; have hfz8_0 := blk_frozen BK355.out 0; have hfz8_1 := blk_frozen BK355.out 1; obtain ⟨Ao9, co9, eo9, _⟩ := Kd.Q_slice HO353.out; subst eo9) | (go_at_call 11; (with_reducible refine (impl_TrailVisits.calls k t350 _ _ t351 t354 t356 _ ?side1 ?side2 A4.out).mono ?_); (case side1 => refine (Kd.Q_reads' (e := 42) (base := w.heap.size) (ok := fun k_ => True) (n := t351.length) (c := co9) ?_).2.2; exact (by (with_reducible repeat apply Kd.Q_alloc); exact (Kd.Q_mono (Kd.Q_far (p := ⟨gb355, 1, none⟩) (Kd.Q_far (p := ⟨gb355, 0, none⟩) (Kd.Q_types HO353.out BK355.out (by decide)) (fun _ hk => hk.2) (.int .i64 t350)) (fun _ hk => hk.2) (.slice Ao9 t351.length co9)) (fun _ h_ => h_.1)))); (case side2 => exact (Kd.Q_reads' HO353.out).2.1); rintro e w10 ⟨v357, rfl, ho0, hb⟩; have n0_ := Aside0.mk (Kd.Q_below (by (with_reducible repeat apply Kd.Q_alloc); exact (Kd.Q_mono (Kd.Q_far (p := ⟨gb355, 1, none⟩) (Kd.Q_far (p := ⟨gb355, 0, none⟩) (Kd.Q_types HO353.out BK355.out (by decide)) (fun _ hk => hk.2) (.int .i64 t350)) (fun _ hk => hk.2) (.slice Ao9 t351.length co9)) (fun _ h_ => h_.1))) hb); have n1_ := Aside0.mk (Kd.R_lower ho0 (below_size (by repeat first | exact HB.out | with_reducible refine below_setA ?_ ‹_› | apply below_alloc | apply pw_below_drewN))); have n2_ := Aside0.mk (blk_below (g := gb355) (o := .cells #[.int .i64 t350, .slice Ao9 t351.length co9] 25 (0, 0)) (by (with_reducible repeat apply blk_alloc); refine blk_put (cs := #[.int .i64 t350, .slice none 0 0]) ?_ 1 _ rfl; (with_reducible repeat apply blk_alloc); refine blk_put (cs := #[.int .i64 0, .slice none 0 0]) ?_ 0 _ rfl; (with_reducible repeat apply blk_alloc); exact BK355.out) hb); have n3_ := Aside0.mk (below_step (by repeat first | exact HB.out | with_reducible refine below_setA ?_ ‹_› | apply below_alloc | apply pw_below_drewN) hb); clear HO353; clear BK355; clear HB; have HO353 := n0_; have HO358 := n1_; have BK355 := n2_; have HB := n3_; clear n0_ n1_ n2_ n3_; (try clear hb); (try clear hb2); (try clear hk); (try clear hi); (try clear ho0))))
  (try simp only [Act.put, List.setIfInBounds_toArray, List.set_cons_zero, List.set_cons_succ])
  go_cut [36] (fun v36 wc => ∃ (kq : Nat) (x36_4 : Bool), v36 = .bool x36_4 ∧ Aside0 (laws_FnTrailClear.j0 kq t354 t356 x36_4 t350 t351 = some r) ∧ Aside0 (kq <= k) ∧ Aside0 (Kd.R k34 34 wc w.heap.size (fun _ => True) v357 t356) ∧ Aside0 (Kd.Q k42 42 wc w.heap.size (fun _ => True) (.slice Ao9 t351.length co9) t351) ∧ Aside0 (wc.heap[gb355]? = some (.cells #[.int .i64 t350, (.slice Ao9 t351.length co9)] 25 (0, 0))) ∧ Aside0 (Below w.heap.size w wc))
  case first =>
   have H := HC5.out
   clear HC5
   replace H := Option.bind_eq_some_iff.mp H
   obtain ⟨t359, A110, H⟩ := H
   replace H : ((laws_llVisits.f k t356 t359).bind fun t362 => (if t362 = true then ((laws_llSight.f k t350 t351 t354).bind fun t363 => (if t363 = true then ((laws_llClear.f k t350 t351).bind fun t364 => (laws_FnTrailClear.j0 k t354 t356 (!t364) t350 t351)) else (laws_FnTrailClear.j0 k t354 t356 true t350 t351))) else (laws_FnTrailClear.j0 k t354 t356 true t350 t351))) = some r := H
   have A11 := Aside0.mk A110
   clear A110
   replace H := Option.bind_eq_some_iff.mp H
   obtain ⟨t362, A120, H⟩ := H
   replace H : (if t362 = true then ((laws_llSight.f k t350 t351 t354).bind fun t363 => (if t363 = true then ((laws_llClear.f k t350 t351).bind fun t364 => (laws_FnTrailClear.j0 k t354 t356 (!t364) t350 t351)) else (laws_FnTrailClear.j0 k t354 t356 true t350 t351))) else (laws_FnTrailClear.j0 k t354 t356 true t350 t351)) = some r := H
   have A12 := Aside0.mk A120
   clear A120
   by_cases c13 : t362 = true
   ·subst c13
    have H1 : ((laws_llSight.f k t350 t351 t354).bind fun t363 => (if t363 = true then ((laws_llClear.f k t350 t351).bind fun t364 => (laws_FnTrailClear.j0 k t354 t356 (!t364) t350 t351)) else (laws_FnTrailClear.j0 k t354 t356 true t350 t351))) = some r := by rw [if_pos rfl] at H; exact H
    clear H
    have H := H1
    clear H1
    replace H := Option.bind_eq_some_iff.mp H
    obtain ⟨t363, A140, H⟩ := H
    replace H : (if t363 = true then ((laws_llClear.f k t350 t351).bind fun t364 => (laws_FnTrailClear.j0 k t354 t356 (!t364) t350 t351)) else (laws_FnTrailClear.j0 k t354 t356 true t350 t351)) = some r := H
    have A14 := Aside0.mk A140
    clear A140
    by_cases c15 : t363 = true
    ·subst c15
     have H1 : ((laws_llClear.f k t350 t351).bind fun t364 => (laws_FnTrailClear.j0 k t354 t356 (!t364) t350 t351)) = some r := by rw [if_pos rfl] at H; exact H
     clear H
     have H := H1
     clear H1
     replace H := Option.bind_eq_some_iff.mp H
     obtain ⟨t364, A160, H⟩ := H
     replace H : (laws_FnTrailClear.j0 k t354 t356 (!t364) t350 t351) = some r := H
     have A16 := Aside0.mk A160
     clear A160
     have H' := Aside0.mk H
     clear H
     have hcz17_0 : w10.cell? ⟨gb355, 0, none⟩ = some (.int .i64 t350) := (blk_cell BK355.out 0).trans rfl
     have hcz17_1 : w10.cell? ⟨gb355, 1, none⟩ = some (.slice Ao9 t351.length co9) := (blk_cell BK355.out 1).trans rfl
     have hfz17_0 := blk_frozen BK355.out 0
     have hfz17_1 := blk_frozen BK355.out 1
     go_wp2_with (first | (go_at_call 13; (with_reducible refine (spec_TrailVisits.calls k t350 _ _ t351 t354 t359 _ ?side1 ?side2 A11.out).mono ?_); (case side1 => repeat (first | exact (Kd.Q_reads' HO353.out).2.2 | (with_reducible refine Kd.C_alloc ?_ _) | (with_reducible refine Kd.C_drewN ?_ _) | (with_reducible refine Kd.C_drew ?_))); (case side2 => exact (Kd.Q_reads' HO353.out).2.1); rintro e w18 ⟨v360, rfl, ho0, hb⟩; have n0_ := Aside0.mk (Kd.Q_below (by (with_reducible repeat apply Kd.Q_alloc); exact HO353.out) hb); have n1_ := Aside0.mk (Kd.R_elder' (kR HO358.out) (Kd.R_base ho0) hb); have n2_ := Aside0.mk (Kd.R_lower (Kd.R_new' ho0 (Kd.R_lt (kR HO358.out))) (below_size (by repeat first | exact HB.out | with_reducible refine below_setA ?_ ‹_› | apply below_alloc | apply pw_below_drewN))); have n3_ := Aside0.mk (blk_below (bK BK355.out) hb); have n4_ := Aside0.mk (below_step (by repeat first | exact HB.out | with_reducible refine below_setA ?_ ‹_› | apply below_alloc | apply pw_below_drewN) hb); clear HO353; clear HO358; clear BK355; clear HB; have HO353 := n0_; have HO358 := n1_; have HO361 := n2_; have BK355 := n3_; have HB := n4_; clear n0_ n1_ n2_ n3_ n4_; (try clear hb); (try clear hb2); (try clear hk); (try clear hi); (try clear ho0); obtain ⟨Ao19, co19, eo19⟩ := Kd.R_slice HO358.out; subst eo19; obtain ⟨Ao20, co20, eo20⟩ := Kd.R_slice HO361.out; subst eo20) | (go_at_call 12; (with_reducible refine (laws_llVisits.calls k _ _ t356 _ _ t359 true _ ?side1 ?side2 ?side3 ?side4 A12.out).mono ?_); (case side1 => repeat (first | exact (Kd.R_reads' HO358.out).2.2 | (with_reducible refine Kd.C_alloc ?_ _) | (with_reducible refine Kd.C_drewN ?_ _) | (with_reducible refine Kd.C_drew ?_))); (case side2 => exact (Kd.R_reads' HO358.out).2.1); (case side3 => repeat (first | exact (Kd.R_reads' HO361.out).2.2 | (with_reducible refine Kd.C_alloc ?_ _) | (with_reducible refine Kd.C_drewN ?_ _) | (with_reducible refine Kd.C_drew ?_))); (case side4 => exact (Kd.R_reads' HO361.out).2.1); rintro e w' ⟨rfl, ⟨nd, rfl⟩⟩; (try first | exact ⟨rfl, _, World.drewN_drewN _ _ _⟩ | exact ⟨rfl, _, Eq.trans (World.drewN_drewN _ _ _) (congrArg (World.drewN _) (Nat.add_assoc _ _ _))⟩); have hcz21_0 : w18.cell? ⟨gb355, 0, none⟩ = some (.int .i64 t350) := (blk_cell BK355.out 0).trans rfl; have hcz21_1 : w18.cell? ⟨gb355, 1, none⟩ = some (.slice Ao9 t351.length co9) := (blk_cell BK355.out 1).trans rfl; have hfz21_0 := blk_frozen BK355.out 0; have hfz21_1 := blk_frozen BK355.out 1) | (go_at_call 14; (with_reducible refine (laws_llSight.calls k t350 _ _ t351 t354 true _ ?side1 ?side2 A14.out).mono ?_); (case side1 => repeat (first | exact (Kd.Q_reads' HO353.out).2.2 | (with_reducible refine Kd.C_alloc ?_ _) | (with_reducible refine Kd.C_drewN ?_ _) | (with_reducible refine Kd.C_drew ?_))); (case side2 => exact (Kd.Q_reads' HO353.out).2.1); rintro e w22 ⟨rfl, hb⟩; have n0_ := Aside0.mk (Kd.Q_below (by (with_reducible repeat apply Kd.Q_alloc); exact HO353.out) hb); have n1_ := Aside0.mk (Kd.R_below (kR HO358.out) hb); have n2_ := Aside0.mk (Kd.R_below (kR HO361.out) hb); have n3_ := Aside0.mk (blk_below (bK BK355.out) hb); have n4_ := Aside0.mk (below_step (by repeat first | exact HB.out | with_reducible refine below_setA ?_ ‹_› | apply below_alloc | apply pw_below_drewN) hb); clear HO353; clear HO358; clear HO361; clear BK355; clear HB; have HO353 := n0_; have HO358 := n1_; have HO361 := n2_; have BK355 := n3_; have HB := n4_; clear n0_ n1_ n2_ n3_ n4_; (try clear hb); (try clear hb2); (try clear hk); (try clear hi); have hcz23_0 : w22.cell? ⟨gb355, 0, none⟩ = some (.int .i64 t350) := (blk_cell BK355.out 0).trans rfl; have hcz23_1 : w22.cell? ⟨gb355, 1, none⟩ = some (.slice Ao9 t351.length co9) := (blk_cell BK355.out 1).trans rfl; have hfz23_0 := blk_frozen BK355.out 0; have hfz23_1 := blk_frozen BK355.out 1) | (go_at_call 15; (with_reducible refine (laws_llClear.calls k t350 _ _ t351 t364 _ ?side1 ?side2 A16.out).mono ?_); (case side1 => repeat (first | exact (Kd.Q_reads' HO353.out).2.2 | (with_reducible refine Kd.C_alloc ?_ _) | (with_reducible refine Kd.C_drewN ?_ _) | (with_reducible refine Kd.C_drew ?_))); (case side2 => exact (Kd.Q_reads' HO353.out).2.1); rintro e w24 ⟨rfl, hb⟩; have n0_ := Aside0.mk (Kd.Q_below (by (with_reducible repeat apply Kd.Q_alloc); exact HO353.out) hb); have n1_ := Aside0.mk (Kd.R_below (kR HO358.out) hb); have n2_ := Aside0.mk (Kd.R_below (kR HO361.out) hb); have n3_ := Aside0.mk (blk_below (bK BK355.out) hb); have n4_ := Aside0.mk (below_step (by repeat first | exact HB.out | with_reducible refine below_setA ?_ ‹_› | apply below_alloc | apply pw_below_drewN) hb); clear HO353; clear HO358; clear HO361; clear BK355; clear HB; have HO353 := n0_; have HO358 := n1_; have HO361 := n2_; have BK355 := n3_; have HB := n4_; clear n0_ n1_ n2_ n3_ n4_; (try clear hb); (try clear hb2); (try clear hk); (try clear hi)))
     repeat (go_quiet (first | (go_at_call 13; (with_reducible refine (spec_TrailVisits.calls k t350 _ _ t351 t354 t359 _ ?side1 ?side2 A11.out).mono ?_); (case side1 => repeat (first | exact (Kd.Q_reads' HO353.out).2.2 | (with_reducible refine Kd.C_alloc ?_ _) | (with_reducible refine Kd.C_drewN ?_ _) | (with_reducible refine Kd.C_drew ?_))); (case side2 => exact (Kd.Q_reads' HO353.out).2.1); rintro e w18 ⟨v360, rfl, ho0, hb⟩; have n0_ := Aside0.mk (Kd.Q_below (by (with_reducible repeat apply Kd.Q_alloc); exact HO353.out) hb); have n1_ := Aside0.mk (Kd.R_elder' (kR HO358.out) (Kd.R_base ho0) hb); have n2_ := Aside0.mk (Kd.R_lower (Kd.R_new' ho0 (Kd.R_lt (kR HO358.out))) (below_size (by repeat first | exact HB.out | with_reducible refine below_setA ?_ ‹_› | apply below_alloc | apply pw_below_drewN))); have n3_ := Aside0.mk (blk_below (bK BK355.out) hb); have n4_ := Aside0.mk (below_step (by repeat first | exact HB.out | with_reducible refine below_setA ?_ ‹_› | apply below_alloc | apply pw_below_drewN) hb); clear HO353; clear HO358; clear BK355; clear HB; have HO353 := n0_; have HO358 := n1_; have HO361 := n2_; have BK355 := n3_; have HB := n4_; clear n0_ n1_ n2_ n3_ n4_; (try clear hb); (try clear hb2); (try clear hk); (try clear hi); (try clear ho0); obtain ⟨Ao19, co19, eo19⟩ := Kd.R_slice HO358.out; subst eo19; obtain ⟨Ao20, co20, eo20⟩ := Kd.R_slice HO361.out; subst eo20) | (go_at_call 12; (with_reducible refine (laws_llVisits.calls k _ _ t356 _ _ t359 true _ ?side1 ?side2 ?side3 ?side4 A12.out).mono ?_); (case side1 => repeat (first | exact (Kd.R_reads' HO358.out).2.2 | (with_reducible refine Kd.C_alloc ?_ _) | (with_reducible refine Kd.C_drewN ?_ _) | (with_reducible refine Kd.C_drew ?_))); (case side2 => exact (Kd.R_reads' HO358.out).2.1); (case side3 => repeat (first | exact (Kd.R_reads' HO361.out).2.2 | (with_reducible refine Kd.C_alloc ?_ _) | (with_reducible refine Kd.C_drewN ?_ _) | (with_reducible refine Kd.C_drew ?_))); (case side4 => exact (Kd.R_reads' HO361.out).2.1); rintro e w' ⟨rfl, ⟨nd, rfl⟩⟩; (try first | exact ⟨rfl, _, World.drewN_drewN _ _ _⟩ | exact ⟨rfl, _, Eq.trans (World.drewN_drewN _ _ _) (congrArg (World.drewN _) (Nat.add_assoc _ _ _))⟩); have hcz21_0 : w18.cell? ⟨gb355, 0, none⟩ = some (.int .i64 t350) := (blk_cell BK355.out 0).trans rfl; have hcz21_1 : w18.cell? ⟨gb355, 1, none⟩ = some (.slice Ao9 t351.length co9) := (blk_cell BK355.out 1).trans rfl; have hfz21_0 := blk_frozen BK355.out 0; have hfz21_1 := blk_frozen BK355.out 1) | (go_at_call 14; (with_reducible refine (laws_llSight.calls k t350 _ _ t351 t354 true _ ?side1 ?side2 A14.out).mono ?_); (case side1 => repeat (first | exact (Kd.Q_reads' HO353.out).2.2 | (with_reducible refine Kd.C_alloc ?_ _) | (with_reducible refine Kd.C_drewN ?_ _) | (with_reducible refine Kd.C_drew ?_))); (case side2 => exact (Kd.Q_reads' HO353.out).2.1); rintro e w22 ⟨rfl, hb⟩; have n0_ := Aside0.mk (Kd.Q_below (by (with_reducible repeat apply Kd.Q_alloc); exact HO353.out) hb); have n1_ := Aside0.mk (Kd.R_below (kR HO358.out) hb); have n2_ := Aside0.mk (Kd.R_below (kR HO361.out) hb); have n3_ := Aside0.mk (blk_below (bK BK355.out) hb); have n4_ := Aside0.mk (below_step (by repeat first | exact HB.out | with_reducible refine below_setA ?_ ‹_› | apply below_alloc | apply pw_below_drewN) hb); clear HO353; clear HO358; clear HO361; clear BK355; clear HB; have HO353 := n0_; have HO358 := n1_; have HO361 := n2_; have BK355 := n3_; have HB := n4_; clear n0_ n1_ n2_ n3_ n4_; (try clear hb); (try clear hb2); (try clear hk); (try clear hi); have hcz23_0 : w22.cell? ⟨gb355, 0, none⟩ = some (.int .i64 t350) := (blk_cell BK355.out 0).trans rfl; have hcz23_1 : w22.cell? ⟨gb355, 1, none⟩ = some (.slice Ao9 t351.length co9) := (blk_cell BK355.out 1).trans rfl; have hfz23_0 := blk_frozen BK355.out 0; have hfz23_1 := blk_frozen BK355.out 1) | (go_at_call 15; (with_reducible refine (laws_llClear.calls k t350 _ _ t351 t364 _ ?side1 ?side2 A16.out).mono ?_); (case side1 => repeat (first | exact (Kd.Q_reads' HO353.out).2.2 | (with_reducible refine Kd.C_alloc ?_ _) | (with_reducible refine Kd.C_drewN ?_ _) | (with_reducible refine Kd.C_drew ?_))); (case side2 => exact (Kd.Q_reads' HO353.out).2.1); rintro e w24 ⟨rfl, hb⟩; have n0_ := Aside0.mk (Kd.Q_below (by (with_reducible repeat apply Kd.Q_alloc); exact HO353.out) hb); have n1_ := Aside0.mk (Kd.R_below (kR HO358.out) hb); have n2_ := Aside0.mk (Kd.R_below (kR HO361.out) hb); have n3_ := Aside0.mk (blk_below (bK BK355.out) hb); have n4_ := Aside0.mk (below_step (by repeat first | exact HB.out | with_reducible refine below_setA ?_ ‹_› | apply below_alloc | apply pw_below_drewN) hb); clear HO353; clear HO358; clear HO361; clear BK355; clear HB; have HO353 := n0_; have HO358 := n1_; have HO361 := n2_; have BK355 := n3_; have HB := n4_; clear n0_ n1_ n2_ n3_ n4_; (try clear hb); (try clear hb2); (try clear hk); (try clear hi))); try go_wp2_with (first | (go_at_call 13; (with_reducible refine (spec_TrailVisits.calls k t350 _ _ t351 t354 t359 _ ?side1 ?side2 A11.out).mono ?_); (case side1 => repeat (first | exact (Kd.Q_reads' HO353.out).2.2 | (with_reducible refine Kd.C_alloc ?_ _) | (with_reducible refine Kd.C_drewN ?_ _) | (with_reducible refine Kd.C_drew ?_))); (case side2 => exact (Kd.Q_reads' HO353.out).2.1); rintro e w18 ⟨v360, rfl, ho0, hb⟩; have n0_ := Aside0.mk (Kd.Q_below (by (with_reducible repeat apply Kd.Q_alloc); exact HO353.out) hb); have n1_ := Aside0.mk (Kd.R_elder' (kR HO358.out) (Kd.R_base ho0) hb); have n2_ := Aside0.mk (Kd.R_lower (Kd.R_new' ho0 (Kd.R_lt (kR HO358.out))) (below_size (by repeat first | exact HB.out | with_reducible refine below_setA ?_ ‹_› | apply below_alloc | apply pw_below_drewN))); have n3_ := Aside0.mk (blk_below (bK BK355.out) hb); have n4_ := Aside0.mk (below_step (by repeat first | exact HB.out | with_reducible refine below_setA ?_ ‹_› | apply below_alloc | apply pw_below_drewN) hb); clear HO353; clear HO358; clear BK355; clear HB; have HO353 := n0_; have HO358 := n1_; have HO361 := n2_; have BK355 := n3_; have HB := n4_; clear n0_ n1_ n2_ n3_ n4_; (try clear hb); (try clear hb2); (try clear hk); (try clear hi); (try clear ho0); obtain ⟨Ao19, co19, eo19⟩ := Kd.R_slice HO358.out; subst eo19; obtain ⟨Ao20, co20, eo20⟩ := Kd.R_slice HO361.out; subst eo20) | (go_at_call 12; (with_reducible refine (laws_llVisits.calls k _ _ t356 _ _ t359 true _ ?side1 ?side2 ?side3 ?side4 A12.out).mono ?_); (case side1 => repeat (first | exact (Kd.R_reads' HO358.out).2.2 | (with_reducible refine Kd.C_alloc ?_ _) | (with_reducible refine Kd.C_drewN ?_ _) | (with_reducible refine Kd.C_drew ?_))); (case side2 => exact (Kd.R_reads' HO358.out).2.1); (case side3 => repeat (first | exact (Kd.R_reads' HO361.out).2.2 | (with_reducible refine Kd.C_alloc ?_ _) | (with_reducible refine Kd.C_drewN ?_ _) | (with_reducible refine Kd.C_drew ?_))); (case side4 => exact (Kd.R_reads' HO361.out).2.1); rintro e w' ⟨rfl, ⟨nd, rfl⟩⟩; (try first | exact ⟨rfl, _, World.drewN_drewN _ _ _⟩ | exact ⟨rfl, _, Eq.trans (World.drewN_drewN _ _ _) (congrArg (World.drewN _) (Nat.add_assoc _ _ _))⟩); have hcz21_0 : w18.cell? ⟨gb355, 0, none⟩ = some (.int .i64 t350) := (blk_cell BK355.out 0).trans rfl; have hcz21_1 : w18.cell? ⟨gb355, 1, none⟩ = some (.slice Ao9 t351.length co9) := (blk_cell BK355.out 1).trans rfl; have hfz21_0 := blk_frozen BK355.out 0; have hfz21_1 := blk_frozen BK355.out 1) | (go_at_call 14; (with_reducible refine (laws_llSight.calls k t350 _ _ t351 t354 true _ ?side1 ?side2 A14.out).mono ?_); (case side1 => repeat (first | exact (Kd.Q_reads' HO353.out).2.2 | (with_reducible refine Kd.C_alloc ?_ _) | (with_reducible refine Kd.C_drewN ?_ _) | (with_reducible refine Kd.C_drew ?_))); (case side2 => exact (Kd.Q_reads' HO353.out).2.1); rintro e w22 ⟨rfl, hb⟩; have n0_ := Aside0.mk (Kd.Q_below (by (with_reducible repeat apply Kd.Q_alloc); exact HO353.out) hb); have n1_ := Aside0.mk (Kd.R_below (kR HO358.out) hb); have n2_ := Aside0.mk (Kd.R_below (kR HO361.out) hb); have n3_ := Aside0.mk (blk_below (bK BK355.out) hb); have n4_ := Aside0.mk (below_step (by repeat first | exact HB.out | with_reducible refine below_setA ?_ ‹_› | apply below_alloc | apply pw_below_drewN) hb); clear HO353; clear HO358; clear HO361; clear BK355; clear HB; have HO353 := n0_; have HO358 := n1_; have HO361 := n2_; have BK355 := n3_; have HB := n4_; clear n0_ n1_ n2_ n3_ n4_; (try clear hb); (try clear hb2); (try clear hk); (try clear hi); have hcz23_0 : w22.cell? ⟨gb355, 0, none⟩ = some (.int .i64 t350) := (blk_cell BK355.out 0).trans rfl; have hcz23_1 : w22.cell? ⟨gb355, 1, none⟩ = some (.slice Ao9 t351.length co9) := (blk_cell BK355.out 1).trans rfl; have hfz23_0 := blk_frozen BK355.out 0; have hfz23_1 := blk_frozen BK355.out 1) | (go_at_call 15; (with_reducible refine (laws_llClear.calls k t350 _ _ t351 t364 _ ?side1 ?side2 A16.out).mono ?_); (case side1 => repeat (first | exact (Kd.Q_reads' HO353.out).2.2 | (with_reducible refine Kd.C_alloc ?_ _) | (with_reducible refine Kd.C_drewN ?_ _) | (with_reducible refine Kd.C_drew ?_))); (case side2 => exact (Kd.Q_reads' HO353.out).2.1); rintro e w24 ⟨rfl, hb⟩; have n0_ := Aside0.mk (Kd.Q_below (by (with_reducible repeat apply Kd.Q_alloc); exact HO353.out) hb); have n1_ := Aside0.mk (Kd.R_below (kR HO358.out) hb); have n2_ := Aside0.mk (Kd.R_below (kR HO361.out) hb); have n3_ := Aside0.mk (blk_below (bK BK355.out) hb); have n4_ := Aside0.mk (below_step (by repeat first | exact HB.out | with_reducible refine below_setA ?_ ‹_› | apply below_alloc | apply pw_below_drewN) hb); clear HO353; clear HO358; clear HO361; clear BK355; clear HB; have HO353 := n0_; have HO358 := n1_; have HO361 := n2_; have BK355 := n3_; have HB := n4_; clear n0_ n1_ n2_ n3_ n4_; (try clear hb); (try clear hb2); (try clear hk); (try clear hi))))
     go_meet
     case rel => exact ⟨_, (!t364), (by first | rfl | (simp; done) | (simp [*]; done)), H', ⟨by first | omega | exact Nat.le_refl _⟩, ⟨by (with_reducible repeat apply Kd.R_alloc); exact Kd.R_mono HO358.out (fun _ hk => trivial)⟩, ⟨by (with_reducible repeat apply Kd.Q_alloc); exact HO353.out⟩, ⟨by (with_reducible repeat apply blk_alloc); exact BK355.out⟩, ⟨by repeat first | exact HB.out | with_reducible refine below_setA ?_ ‹_› | apply below_alloc | apply pw_below_drewN⟩⟩
    ·replace c15 := Bool.eq_false_iff.mpr c15
     subst c15
     have H1 : (laws_FnTrailClear.j0 k t354 t356 true t350 t351) = some r := by rw [if_neg (show ¬ (false = true) by decide)] at H; exact H
     clear H
     have H := H1
     clear H1
     have H' := Aside0.mk H
     clear H
     have hcz25_0 : w10.cell? ⟨gb355, 0, none⟩ = some (.int .i64 t350) := (blk_cell BK355.out 0).trans rfl
     have hcz25_1 : w10.cell? ⟨gb355, 1, none⟩ = some (.slice Ao9 t351.length co9) := (blk_cell BK355.out 1).trans rfl
     have hfz25_0 := blk_frozen BK355.out 0
     have hfz25_1 := blk_frozen BK355.out 1
     go_wp2_with (first | (go_at_call 13; (with_reducible refine (spec_TrailVisits.calls k t350 _ _ t351 t354 t359 _ ?side1 ?side2 A11.out).mono ?_); (case side1 => repeat (first | exact (Kd.Q_reads' HO353.out).2.2 | (with_reducible refine Kd.C_alloc ?_ _) | (with_reducible refine Kd.C_drewN ?_ _) | (with_reducible refine Kd.C_drew ?_))); (case side2 => exact (Kd.Q_reads' HO353.out).2.1); rintro e w26 ⟨v360, rfl, ho0, hb⟩; have n0_ := Aside0.mk (Kd.Q_below (by (with_reducible repeat apply Kd.Q_alloc); exact HO353.out) hb); have n1_ := Aside0.mk (Kd.R_elder' (kR HO358.out) (Kd.R_base ho0) hb); have n2_ := Aside0.mk (Kd.R_lower (Kd.R_new' ho0 (Kd.R_lt (kR HO358.out))) (below_size (by repeat first | exact HB.out | with_reducible refine below_setA ?_ ‹_› | apply below_alloc | apply pw_below_drewN))); have n3_ := Aside0.mk (blk_below (bK BK355.out) hb); have n4_ := Aside0.mk (below_step (by repeat first | exact HB.out | with_reducible refine below_setA ?_ ‹_› | apply below_alloc | apply pw_below_drewN) hb); clear HO353; clear HO358; clear BK355; clear HB; have HO353 := n0_; have HO358 := n1_; have HO361 := n2_; have BK355 := n3_; have HB := n4_; clear n0_ n1_ n2_ n3_ n4_; (try clear hb); (try clear hb2); (try clear hk); (try clear hi); (try clear ho0); obtain ⟨Ao27, co27, eo27⟩ := Kd.R_slice HO358.out; subst eo27; obtain ⟨Ao28, co28, eo28⟩ := Kd.R_slice HO361.out; subst eo28) | (go_at_call 12; (with_reducible refine (laws_llVisits.calls k _ _ t356 _ _ t359 true _ ?side1 ?side2 ?side3 ?side4 A12.out).mono ?_); (case side1 => repeat (first | exact (Kd.R_reads' HO358.out).2.2 | (with_reducible refine Kd.C_alloc ?_ _) | (with_reducible refine Kd.C_drewN ?_ _) | (with_reducible refine Kd.C_drew ?_))); (case side2 => exact (Kd.R_reads' HO358.out).2.1); (case side3 => repeat (first | exact (Kd.R_reads' HO361.out).2.2 | (with_reducible refine Kd.C_alloc ?_ _) | (with_reducible refine Kd.C_drewN ?_ _) | (with_reducible refine Kd.C_drew ?_))); (case side4 => exact (Kd.R_reads' HO361.out).2.1); rintro e w' ⟨rfl, ⟨nd, rfl⟩⟩; (try first | exact ⟨rfl, _, World.drewN_drewN _ _ _⟩ | exact ⟨rfl, _, Eq.trans (World.drewN_drewN _ _ _) (congrArg (World.drewN _) (Nat.add_assoc _ _ _))⟩); have hcz29_0 : w26.cell? ⟨gb355, 0, none⟩ = some (.int .i64 t350) := (blk_cell BK355.out 0).trans rfl; have hcz29_1 : w26.cell? ⟨gb355, 1, none⟩ = some (.slice Ao9 t351.length co9) := (blk_cell BK355.out 1).trans rfl; have hfz29_0 := blk_frozen BK355.out 0; have hfz29_1 := blk_frozen BK355.out 1) | (go_at_call 14; (with_reducible refine (laws_llSight.calls k t350 _ _ t351 t354 false _ ?side1 ?side2 A14.out).mono ?_); (case side1 => repeat (first | exact (Kd.Q_reads' HO353.out).2.2 | (with_reducible refine Kd.C_alloc ?_ _) | (with_reducible refine Kd.C_drewN ?_ _) | (with_reducible refine Kd.C_drew ?_))); (case side2 => exact (Kd.Q_reads' HO353.out).2.1); rintro e w30 ⟨rfl, hb⟩; have n0_ := Aside0.mk (Kd.Q_below (by (with_reducible repeat apply Kd.Q_alloc); exact HO353.out) hb); have n1_ := Aside0.mk (Kd.R_below (kR HO358.out) hb); have n2_ := Aside0.mk (Kd.R_below (kR HO361.out) hb); have n3_ := Aside0.mk (blk_below (bK BK355.out) hb); have n4_ := Aside0.mk (below_step (by repeat first | exact HB.out | with_reducible refine below_setA ?_ ‹_› | apply below_alloc | apply pw_below_drewN) hb); clear HO353; clear HO358; clear HO361; clear BK355; clear HB; have HO353 := n0_; have HO358 := n1_; have HO361 := n2_; have BK355 := n3_; have HB := n4_; clear n0_ n1_ n2_ n3_ n4_; (try clear hb); (try clear hb2); (try clear hk); (try clear hi)))
     repeat (go_quiet (first | (go_at_call 13; (with_reducible refine (spec_TrailVisits.calls k t350 _ _ t351 t354 t359 _ ?side1 ?side2 A11.out).mono ?_); (case side1 => repeat (first | exact (Kd.Q_reads' HO353.out).2.2 | (with_reducible refine Kd.C_alloc ?_ _) | (with_reducible refine Kd.C_drewN ?_ _) | (with_reducible refine Kd.C_drew ?_))); (case side2 => exact (Kd.Q_reads' HO353.out).2.1); rintro e w26 ⟨v360, rfl, ho0, hb⟩; have n0_ := Aside0.mk (Kd.Q_below (by (with_reducible repeat apply Kd.Q_alloc); exact HO353.out) hb); have n1_ := Aside0.mk (Kd.R_elder' (kR HO358.out) (Kd.R_base ho0) hb); have n2_ := Aside0.mk (Kd.R_lower (Kd.R_new' ho0 (Kd.R_lt (kR HO358.out))) (below_size (by repeat first | exact HB.out | with_reducible refine below_setA ?_ ‹_› | apply below_alloc | apply pw_below_drewN))); have n3_ := Aside0.mk (blk_below (bK BK355.out) hb); have n4_ := Aside0.mk (below_step (by repeat first | exact HB.out | with_reducible refine below_setA ?_ ‹_› | apply below_alloc | apply pw_below_drewN) hb); clear HO353; clear HO358; clear BK355; clear HB; have HO353 := n0_; have HO358 := n1_; have HO361 := n2_; have BK355 := n3_; have HB := n4_; clear n0_ n1_ n2_ n3_ n4_; (try clear hb); (try clear hb2); (try clear hk); (try clear hi); (try clear ho0); obtain ⟨Ao27, co27, eo27⟩ := Kd.R_slice HO358.out; subst eo27; obtain ⟨Ao28, co28, eo28⟩ := Kd.R_slice HO361.out; subst eo28) | (go_at_call 12; (with_reducible refine (laws_llVisits.calls k _ _ t356 _ _ t359 true _ ?side1 ?side2 ?side3 ?side4 A12.out).mono ?_); (case side1 => repeat (first | exact (Kd.R_reads' HO358.out).2.2 | (with_reducible refine Kd.C_alloc ?_ _) | (with_reducible refine Kd.C_drewN ?_ _) | (with_reducible refine Kd.C_drew ?_))); (case side2 => exact (Kd.R_reads' HO358.out).2.1); (case side3 => repeat (first | exact (Kd.R_reads' HO361.out).2.2 | (with_reducible refine Kd.C_alloc ?_ _) | (with_reducible refine Kd.C_drewN ?_ _) | (with_reducible refine Kd.C_drew ?_))); (case side4 => exact (Kd.R_reads' HO361.out).2.1); rintro e w' ⟨rfl, ⟨nd, rfl⟩⟩; (try first | exact ⟨rfl, _, World.drewN_drewN _ _ _⟩ | exact ⟨rfl, _, Eq.trans (World.drewN_drewN _ _ _) (congrArg (World.drewN _) (Nat.add_assoc _ _ _))⟩); have hcz29_0 : w26.cell? ⟨gb355, 0, none⟩ = some (.int .i64 t350) := (blk_cell BK355.out 0).trans rfl; have hcz29_1 : w26.cell? ⟨gb355, 1, none⟩ = some (.slice Ao9 t351.length co9) := (blk_cell BK355.out 1).trans rfl; have hfz29_0 := blk_frozen BK355.out 0; have hfz29_1 := blk_frozen BK355.out 1) | (go_at_call 14; (with_reducible refine (laws_llSight.calls k t350 _ _ t351 t354 false _ ?side1 ?side2 A14.out).mono ?_); (case side1 => repeat (first | exact (Kd.Q_reads' HO353.out).2.2 | (with_reducible refine Kd.C_alloc ?_ _) | (with_reducible refine Kd.C_drewN ?_ _) | (with_reducible refine Kd.C_drew ?_))); (case side2 => exact (Kd.Q_reads' HO353.out).2.1); rintro e w30 ⟨rfl, hb⟩; have n0_ := Aside0.mk (Kd.Q_below (by (with_reducible repeat apply Kd.Q_alloc); exact HO353.out) hb); have n1_ := Aside0.mk (Kd.R_below (kR HO358.out) hb); have n2_ := Aside0.mk (Kd.R_below (kR HO361.out) hb); have n3_ := Aside0.mk (blk_below (bK BK355.out) hb); have n4_ := Aside0.mk (below_step (by repeat first | exact HB.out | with_reducible refine below_setA ?_ ‹_› | apply below_alloc | apply pw_below_drewN) hb); clear HO353; clear HO358; clear HO361; clear BK355; clear HB; have HO353 := n0_; have HO358 := n1_; have HO361 := n2_; have BK355 := n3_; have HB := n4_; clear n0_ n1_ n2_ n3_ n4_; (try clear hb); (try clear hb2); (try clear hk); (try clear hi))); try go_wp2_with (first | (go_at_call 13; (with_reducible refine (spec_TrailVisits.calls k t350 _ _ t351 t354 t359 _ ?side1 ?side2 A11.out).mono ?_); (case side1 => repeat (first | exact (Kd.Q_reads' HO353.out).2.2 | (with_reducible refine Kd.C_alloc ?_ _) | (with_reducible refine Kd.C_drewN ?_ _) | (with_reducible refine Kd.C_drew ?_))); (case side2 => exact (Kd.Q_reads' HO353.out).2.1); rintro e w26 ⟨v360, rfl, ho0, hb⟩; have n0_ := Aside0.mk (Kd.Q_below (by (with_reducible repeat apply Kd.Q_alloc); exact HO353.out) hb); have n1_ := Aside0.mk (Kd.R_elder' (kR HO358.out) (Kd.R_base ho0) hb); have n2_ := Aside0.mk (Kd.R_lower (Kd.R_new' ho0 (Kd.R_lt (kR HO358.out))) (below_size (by repeat first | exact HB.out | with_reducible refine below_setA ?_ ‹_› | apply below_alloc | apply pw_below_drewN))); have n3_ := Aside0.mk (blk_below (bK BK355.out) hb); have n4_ := Aside0.mk (below_step (by repeat first | exact HB.out | with_reducible refine below_setA ?_ ‹_› | apply below_alloc | apply pw_below_drewN) hb); clear HO353; clear HO358; clear BK355; clear HB; have HO353 := n0_; have HO358 := n1_; have HO361 := n2_; have BK355 := n3_; have HB := n4_; clear n0_ n1_ n2_ n3_ n4_; (try clear hb); (try clear hb2); (try clear hk); (try clear hi); (try clear ho0); obtain ⟨Ao27, co27, eo27⟩ := Kd.R_slice HO358.out; subst eo27; obtain ⟨Ao28, co28, eo28⟩ := Kd.R_slice HO361.out; subst eo28) | (go_at_call 12; (with_reducible refine (laws_llVisits.calls k _ _ t356 _ _ t359 true _ ?side1 ?side2 ?side3 ?side4 A12.out).mono ?_); (case side1 => repeat (first | exact (Kd.R_reads' HO358.out).2.2 | (with_reducible refine Kd.C_alloc ?_ _) | (with_reducible refine Kd.C_drewN ?_ _) | (with_reducible refine Kd.C_drew ?_))); (case side2 => exact (Kd.R_reads' HO358.out).2.1); (case side3 => repeat (first | exact (Kd.R_reads' HO361.out).2.2 | (with_reducible refine Kd.C_alloc ?_ _) | (with_reducible refine Kd.C_drewN ?_ _) | (with_reducible refine Kd.C_drew ?_))); (case side4 => exact (Kd.R_reads' HO361.out).2.1); rintro e w' ⟨rfl, ⟨nd, rfl⟩⟩; (try first | exact ⟨rfl, _, World.drewN_drewN _ _ _⟩ | exact ⟨rfl, _, Eq.trans (World.drewN_drewN _ _ _) (congrArg (World.drewN _) (Nat.add_assoc _ _ _))⟩); have hcz29_0 : w26.cell? ⟨gb355, 0, none⟩ = some (.int .i64 t350) := (blk_cell BK355.out 0).trans rfl; have hcz29_1 : w26.cell? ⟨gb355, 1, none⟩ = some (.slice Ao9 t351.length co9) := (blk_cell BK355.out 1).trans rfl; have hfz29_0 := blk_frozen BK355.out 0; have hfz29_1 := blk_frozen BK355.out 1) | (go_at_call 14; (with_reducible refine (laws_llSight.calls k t350 _ _ t351 t354 false _ ?side1 ?side2 A14.out).mono ?_); (case side1 => repeat (first | exact (Kd.Q_reads' HO353.out).2.2 | (with_reducible refine Kd.C_alloc ?_ _) | (with_reducible refine Kd.C_drewN ?_ _) | (with_reducible refine Kd.C_drew ?_))); (case side2 => exact (Kd.Q_reads' HO353.out).2.1); rintro e w30 ⟨rfl, hb⟩; have n0_ := Aside0.mk (Kd.Q_below (by (with_reducible repeat apply Kd.Q_alloc); exact HO353.out) hb); have n1_ := Aside0.mk (Kd.R_below (kR HO358.out) hb); have n2_ := Aside0.mk (Kd.R_below (kR HO361.out) hb); have n3_ := Aside0.mk (blk_below (bK BK355.out) hb); have n4_ := Aside0.mk (below_step (by repeat first | exact HB.out | with_reducible refine below_setA ?_ ‹_› | apply below_alloc | apply pw_below_drewN) hb); clear HO353; clear HO358; clear HO361; clear BK355; clear HB; have HO353 := n0_; have HO358 := n1_; have HO361 := n2_; have BK355 := n3_; have HB := n4_; clear n0_ n1_ n2_ n3_ n4_; (try clear hb); (try clear hb2); (try clear hk); (try clear hi))))
     go_meet
     case rel => exact ⟨_, (true), (by first | rfl | (simp; done) | (simp [*]; done)), H', ⟨by first | omega | exact Nat.le_refl _⟩, ⟨by (with_reducible repeat apply Kd.R_alloc); exact Kd.R_mono HO358.out (fun _ hk => trivial)⟩, ⟨by (with_reducible repeat apply Kd.Q_alloc); exact HO353.out⟩, ⟨by (with_reducible repeat apply blk_alloc); exact BK355.out⟩, ⟨by repeat first | exact HB.out | with_reducible refine below_setA ?_ ‹_› | apply below_alloc | apply pw_below_drewN⟩⟩
   ·replace c13 := Bool.eq_false_iff.mpr c13
    subst c13
    have H1 : (laws_FnTrailClear.j0 k t354 t356 true t350 t351) = some r := by rw [if_neg (show ¬ (false = true) by decide)] at H; exact H
    clear H
    have H := H1
    clear H1
    have H' := Aside0.mk H
    clear H
    have hcz31_0 : w10.cell? ⟨gb355, 0, none⟩ = some (.int .i64 t350) := (blk_cell BK355.out 0).trans rfl
    have hcz31_1 : w10.cell? ⟨gb355, 1, none⟩ = some (.slice Ao9 t351.length co9) := (blk_cell BK355.out 1).trans rfl
    have hfz31_0 := blk_frozen BK355.out 0
    have hfz31_1 := blk_frozen BK355.out 1
    go_wp2_with (first | (go_at_call 13; (with_reducible refine (spec_TrailVisits.calls k t350 _ _ t351 t354 t359 _ ?side1 ?side2 A11.out).mono ?_); (case side1 => repeat (first | exact (Kd.Q_reads' HO353.out).2.2 | (with_reducible refine Kd.C_alloc ?_ _) | (with_reducible refine Kd.C_drewN ?_ _) | (with_reducible refine Kd.C_drew ?_))); (case side2 => exact (Kd.Q_reads' HO353.out).2.1); rintro e w32 ⟨v360, rfl, ho0, hb⟩; have n0_ := Aside0.mk (Kd.Q_below (by (with_reducible repeat apply Kd.Q_alloc); exact HO353.out) hb); have n1_ := Aside0.mk (Kd.R_elder' (kR HO358.out) (Kd.R_base ho0) hb); have n2_ := Aside0.mk (Kd.R_lower (Kd.R_new' ho0 (Kd.R_lt (kR HO358.out))) (below_size (by repeat first | exact HB.out | with_reducible refine below_setA ?_ ‹_› | apply below_alloc | apply pw_below_drewN))); have n3_ := Aside0.mk (blk_below (bK BK355.out) hb); have n4_ := Aside0.mk (below_step (by repeat first | exact HB.out | with_reducible refine below_setA ?_ ‹_› | apply below_alloc | apply pw_below_drewN) hb); clear HO353; clear HO358; clear BK355; clear HB; have HO353 := n0_; have HO358 := n1_; have HO361 := n2_; have BK355 := n3_; have HB := n4_; clear n0_ n1_ n2_ n3_ n4_; (try clear hb); (try clear hb2); (try clear hk); (try clear hi); (try clear ho0); obtain ⟨Ao33, co33, eo33⟩ := Kd.R_slice HO358.out; subst eo33; obtain ⟨Ao34, co34, eo34⟩ := Kd.R_slice HO361.out; subst eo34) | (go_at_call 12; (with_reducible refine (laws_llVisits.calls k _ _ t356 _ _ t359 false _ ?side1 ?side2 ?side3 ?side4 A12.out).mono ?_); (case side1 => repeat (first | exact (Kd.R_reads' HO358.out).2.2 | (with_reducible refine Kd.C_alloc ?_ _) | (with_reducible refine Kd.C_drewN ?_ _) | (with_reducible refine Kd.C_drew ?_))); (case side2 => exact (Kd.R_reads' HO358.out).2.1); (case side3 => repeat (first | exact (Kd.R_reads' HO361.out).2.2 | (with_reducible refine Kd.C_alloc ?_ _) | (with_reducible refine Kd.C_drewN ?_ _) | (with_reducible refine Kd.C_drew ?_))); (case side4 => exact (Kd.R_reads' HO361.out).2.1); rintro e w' ⟨rfl, ⟨nd, rfl⟩⟩; (try first | exact ⟨rfl, _, World.drewN_drewN _ _ _⟩ | exact ⟨rfl, _, Eq.trans (World.drewN_drewN _ _ _) (congrArg (World.drewN _) (Nat.add_assoc _ _ _))⟩)))
    repeat (go_quiet (first | (go_at_call 13; (with_reducible refine (spec_TrailVisits.calls k t350 _ _ t351 t354 t359 _ ?side1 ?side2 A11.out).mono ?_); (case side1 => repeat (first | exact (Kd.Q_reads' HO353.out).2.2 | (with_reducible refine Kd.C_alloc ?_ _) | (with_reducible refine Kd.C_drewN ?_ _) | (with_reducible refine Kd.C_drew ?_))); (case side2 => exact (Kd.Q_reads' HO353.out).2.1); rintro e w32 ⟨v360, rfl, ho0, hb⟩; have n0_ := Aside0.mk (Kd.Q_below (by (with_reducible repeat apply Kd.Q_alloc); exact HO353.out) hb); have n1_ := Aside0.mk (Kd.R_elder' (kR HO358.out) (Kd.R_base ho0) hb); have n2_ := Aside0.mk (Kd.R_lower (Kd.R_new' ho0 (Kd.R_lt (kR HO358.out))) (below_size (by repeat first | exact HB.out | with_reducible refine below_setA ?_ ‹_› | apply below_alloc | apply pw_below_drewN))); have n3_ := Aside0.mk (blk_below (bK BK355.out) hb); have n4_ := Aside0.mk (below_step (by repeat first | exact HB.out | with_reducible refine below_setA ?_ ‹_› | apply below_alloc | apply pw_below_drewN) hb); clear HO353; clear HO358; clear BK355; clear HB; have HO353 := n0_; have HO358 := n1_; have HO361 := n2_; have BK355 := n3_; have HB := n4_; clear n0_ n1_ n2_ n3_ n4_; (try clear hb); (try clear hb2); (try clear hk); (try clear hi); (try clear ho0); obtain ⟨Ao33, co33, eo33⟩ := Kd.R_slice HO358.out; subst eo33; obtain ⟨Ao34, co34, eo34⟩ := Kd.R_slice HO361.out; subst eo34) | (go_at_call 12; (with_reducible refine (laws_llVisits.calls k _ _ t356 _ _ t359 false _ ?side1 ?side2 ?side3 ?side4 A12.out).mono ?_); (case side1 => repeat (first | exact (Kd.R_reads' HO358.out).2.2 | (with_reducible refine Kd.C_alloc ?_ _) | (with_reducible refine Kd.C_drewN ?_ _) | (with_reducible refine Kd.C_drew ?_))); (case side2 => exact (Kd.R_reads' HO358.out).2.1); (case side3 => repeat (first | exact (Kd.R_reads' HO361.out).2.2 | (with_reducible refine Kd.C_alloc ?_ _) | (with_reducible refine Kd.C_drewN ?_ _) | (with_reducible refine Kd.C_drew ?_))); (case side4 => exact (Kd.R_reads' HO361.out).2.1); rintro e w' ⟨rfl, ⟨nd, rfl⟩⟩; (try first | exact ⟨rfl, _, World.drewN_drewN _ _ _⟩ | exact ⟨rfl, _, Eq.trans (World.drewN_drewN _ _ _) (congrArg (World.drewN _) (Nat.add_assoc _ _ _))⟩))); try go_wp2_with (first | (go_at_call 13; (with_reducible refine (spec_TrailVisits.calls k t350 _ _ t351 t354 t359 _ ?side1 ?side2 A11.out).mono ?_); (case side1 => repeat (first | exact (Kd.Q_reads' HO353.out).2.2 | (with_reducible refine Kd.C_alloc ?_ _) | (with_reducible refine Kd.C_drewN ?_ _) | (with_reducible refine Kd.C_drew ?_))); (case side2 => exact (Kd.Q_reads' HO353.out).2.1); rintro e w32 ⟨v360, rfl, ho0, hb⟩; have n0_ := Aside0.mk (Kd.Q_below (by (with_reducible repeat apply Kd.Q_alloc); exact HO353.out) hb); have n1_ := Aside0.mk (Kd.R_elder' (kR HO358.out) (Kd.R_base ho0) hb); have n2_ := Aside0.mk (Kd.R_lower (Kd.R_new' ho0 (Kd.R_lt (kR HO358.out))) (below_size (by repeat first | exact HB.out | with_reducible refine below_setA ?_ ‹_› | apply below_alloc | apply pw_below_drewN))); have n3_ := Aside0.mk (blk_below (bK BK355.out) hb); have n4_ := Aside0.mk (below_step (by repeat first | exact HB.out | with_reducible refine below_setA ?_ ‹_› | apply below_alloc | apply pw_below_drewN) hb); clear HO353; clear HO358; clear BK355; clear HB; have HO353 := n0_; have HO358 := n1_; have HO361 := n2_; have BK355 := n3_; have HB := n4_; clear n0_ n1_ n2_ n3_ n4_; (try clear hb); (try clear hb2); (try clear hk); (try clear hi); (try clear ho0); obtain ⟨Ao33, co33, eo33⟩ := Kd.R_slice HO358.out; subst eo33; obtain ⟨Ao34, co34, eo34⟩ := Kd.R_slice HO361.out; subst eo34) | (go_at_call 12; (with_reducible refine (laws_llVisits.calls k _ _ t356 _ _ t359 false _ ?side1 ?side2 ?side3 ?side4 A12.out).mono ?_); (case side1 => repeat (first | exact (Kd.R_reads' HO358.out).2.2 | (with_reducible refine Kd.C_alloc ?_ _) | (with_reducible refine Kd.C_drewN ?_ _) | (with_reducible refine Kd.C_drew ?_))); (case side2 => exact (Kd.R_reads' HO358.out).2.1); (case side3 => repeat (first | exact (Kd.R_reads' HO361.out).2.2 | (with_reducible refine Kd.C_alloc ?_ _) | (with_reducible refine Kd.C_drewN ?_ _) | (with_reducible refine Kd.C_drew ?_))); (case side4 => exact (Kd.R_reads' HO361.out).2.1); rintro e w' ⟨rfl, ⟨nd, rfl⟩⟩; (try first | exact ⟨rfl, _, World.drewN_drewN _ _ _⟩ | exact ⟨rfl, _, Eq.trans (World.drewN_drewN _ _ _) (congrArg (World.drewN _) (Nat.add_assoc _ _ _))⟩))))
    go_meet
    case rel => exact ⟨_, (true), (by first | rfl | (simp; done) | (simp [*]; done)), H', ⟨by first | omega | exact Nat.le_refl _⟩, ⟨by (with_reducible repeat apply Kd.R_alloc); exact Kd.R_mono HO358.out (fun _ hk => trivial)⟩, ⟨by (with_reducible repeat apply Kd.Q_alloc); exact HO353.out⟩, ⟨by (with_reducible repeat apply blk_alloc); exact BK355.out⟩, ⟨by repeat first | exact HB.out | with_reducible refine below_setA ?_ ‹_› | apply below_alloc | apply pw_below_drewN⟩⟩
  case rest =>
   clear HC5
   try clear c1
   try clear c2
   try clear c2b0
   try clear c2b1
   try clear p2
   try clear c3
   try clear c13
   try clear c15
   try clear hcz17_0
   try clear hcz17_1
   try clear hcz21_0
   try clear hcz21_1
   try clear hcz23_0
   try clear hcz23_1
   try clear hcz25_0
   try clear hcz25_1
   try clear hcz29_0
   try clear hcz29_1
   try clear hcz31_0
   try clear hcz31_1
   try clear hcz8_0
   try clear hcz8_1
   try clear hfz17_0
   try clear hfz17_1
   try clear hfz21_0
   try clear hfz21_1
   try clear hfz23_0
   try clear hfz23_1
   try clear hfz25_0
   try clear hfz25_1
   try clear hfz29_0
   try clear hfz29_1
   try clear hfz31_0
   try clear hfz31_1
   try clear hfz8_0
   try clear hfz8_1
   obtain ⟨kq, x36_4, rfl, HA, HJ4, HO_5, HO_356001, BK355, HB⟩ := hcut
   cases kq with
   | zero => exact absurd HA.out (by simp [laws_FnTrailClear.j0])
   | succ kj4 =>
    have H := HA.out
    clear HA
    simp only [laws_FnTrailClear.j0] at H
    by_cases c35 : x36_4 = true
    ·subst c35
     have H1 : ((spec_TrailVisits.f kj4 t350 t351 t354).bind fun t365 => ((laws_llVisits.f kj4 t356 t365).bind fun t368 => (some t368))) = some r := by rw [if_pos rfl] at H; exact H
     clear H
     have H := H1
     clear H1
     replace H := Option.bind_eq_some_iff.mp H
     obtain ⟨t365, A360, H⟩ := H
     replace H : ((laws_llVisits.f kj4 t356 t365).bind fun t368 => (some t368)) = some r := H
     have A36 := Aside0.mk A360
     clear A360
     replace H := Option.bind_eq_some_iff.mp H
     obtain ⟨t368, A370, H⟩ := H
     replace H : (some t368) = some r := H
     have A37 := Aside0.mk A370
     clear A370
     obtain rfl := Option.some.inj H
     have hcz38_0 : wc.cell? ⟨gb355, 0, none⟩ = some (.int .i64 t350) := (blk_cell BK355.out 0).trans rfl
     have hcz38_1 : wc.cell? ⟨gb355, 1, none⟩ = some (.slice Ao9 t351.length co9) := (blk_cell BK355.out 1).trans rfl
     have hfz38_0 := blk_frozen BK355.out 0
     have hfz38_1 := blk_frozen BK355.out 1
     go_wp2_with (first | (go_at_call 13; (with_reducible refine (spec_TrailVisits.calls kj4 t350 _ _ t351 t354 t365 _ ?side1 ?side2 A36.out).mono ?_); (case side1 => repeat (first | exact (Kd.Q_reads' HO_356001.out).2.2 | (with_reducible refine Kd.C_alloc ?_ _) | (with_reducible refine Kd.C_drewN ?_ _) | (with_reducible refine Kd.C_drew ?_))); (case side2 => exact (Kd.Q_reads' HO_356001.out).2.1); rintro e w39 ⟨v366, rfl, ho0, hb⟩; have n0_ := Aside0.mk (Kd.R_elder' (kR HO_5.out) (Kd.R_base ho0) hb); have n1_ := Aside0.mk (Kd.Q_below (by (with_reducible repeat apply Kd.Q_alloc); exact HO_356001.out) hb); have n2_ := Aside0.mk (Kd.R_lower (Kd.R_new' ho0 (Kd.R_lt (kR HO_5.out))) (below_size (by repeat first | exact HB.out | with_reducible refine below_setA ?_ ‹_› | apply below_alloc | apply pw_below_drewN))); have n3_ := Aside0.mk (blk_below (bK BK355.out) hb); have n4_ := Aside0.mk (below_step (by repeat first | exact HB.out | with_reducible refine below_setA ?_ ‹_› | apply below_alloc | apply pw_below_drewN) hb); clear HO_5; clear HO_356001; clear BK355; clear HB; have HO_5 := n0_; have HO_356001 := n1_; have HO367 := n2_; have BK355 := n3_; have HB := n4_; clear n0_ n1_ n2_ n3_ n4_; (try clear hb); (try clear hb2); (try clear hk); (try clear hi); (try clear ho0); obtain ⟨Ao40, co40, eo40⟩ := Kd.R_slice HO_5.out; subst eo40; obtain ⟨Ao41, co41, eo41⟩ := Kd.R_slice HO367.out; subst eo41) | (go_at_call 12; (with_reducible refine (laws_llVisits.calls kj4 _ _ t356 _ _ t365 t368 _ ?side1 ?side2 ?side3 ?side4 A37.out).mono ?_); (case side1 => repeat (first | exact (Kd.R_reads' HO_5.out).2.2 | (with_reducible refine Kd.C_alloc ?_ _) | (with_reducible refine Kd.C_drewN ?_ _) | (with_reducible refine Kd.C_drew ?_))); (case side2 => exact (Kd.R_reads' HO_5.out).2.1); (case side3 => repeat (first | exact (Kd.R_reads' HO367.out).2.2 | (with_reducible refine Kd.C_alloc ?_ _) | (with_reducible refine Kd.C_drewN ?_ _) | (with_reducible refine Kd.C_drew ?_))); (case side4 => exact (Kd.R_reads' HO367.out).2.1); rintro e w' ⟨rfl, ⟨nd, rfl⟩⟩; (try first | exact ⟨rfl, _, World.drewN_drewN _ _ _⟩ | exact ⟨rfl, _, Eq.trans (World.drewN_drewN _ _ _) (congrArg (World.drewN _) (Nat.add_assoc _ _ _))⟩)))
     repeat (go_quiet (first | (go_at_call 13; (with_reducible refine (spec_TrailVisits.calls kj4 t350 _ _ t351 t354 t365 _ ?side1 ?side2 A36.out).mono ?_); (case side1 => repeat (first | exact (Kd.Q_reads' HO_356001.out).2.2 | (with_reducible refine Kd.C_alloc ?_ _) | (with_reducible refine Kd.C_drewN ?_ _) | (with_reducible refine Kd.C_drew ?_))); (case side2 => exact (Kd.Q_reads' HO_356001.out).2.1); rintro e w39 ⟨v366, rfl, ho0, hb⟩; have n0_ := Aside0.mk (Kd.R_elder' (kR HO_5.out) (Kd.R_base ho0) hb); have n1_ := Aside0.mk (Kd.Q_below (by (with_reducible repeat apply Kd.Q_alloc); exact HO_356001.out) hb); have n2_ := Aside0.mk (Kd.R_lower (Kd.R_new' ho0 (Kd.R_lt (kR HO_5.out))) (below_size (by repeat first | exact HB.out | with_reducible refine below_setA ?_ ‹_› | apply below_alloc | apply pw_below_drewN))); have n3_ := Aside0.mk (blk_below (bK BK355.out) hb); have n4_ := Aside0.mk (below_step (by repeat first | exact HB.out | with_reducible refine below_setA ?_ ‹_› | apply below_alloc | apply pw_below_drewN) hb); clear HO_5; clear HO_356001; clear BK355; clear HB; have HO_5 := n0_; have HO_356001 := n1_; have HO367 := n2_; have BK355 := n3_; have HB := n4_; clear n0_ n1_ n2_ n3_ n4_; (try clear hb); (try clear hb2); (try clear hk); (try clear hi); (try clear ho0); obtain ⟨Ao40, co40, eo40⟩ := Kd.R_slice HO_5.out; subst eo40; obtain ⟨Ao41, co41, eo41⟩ := Kd.R_slice HO367.out; subst eo41) | (go_at_call 12; (with_reducible refine (laws_llVisits.calls kj4 _ _ t356 _ _ t365 t368 _ ?side1 ?side2 ?side3 ?side4 A37.out).mono ?_); (case side1 => repeat (first | exact (Kd.R_reads' HO_5.out).2.2 | (with_reducible refine Kd.C_alloc ?_ _) | (with_reducible refine Kd.C_drewN ?_ _) | (with_reducible refine Kd.C_drew ?_))); (case side2 => exact (Kd.R_reads' HO_5.out).2.1); (case side3 => repeat (first | exact (Kd.R_reads' HO367.out).2.2 | (with_reducible refine Kd.C_alloc ?_ _) | (with_reducible refine Kd.C_drewN ?_ _) | (with_reducible refine Kd.C_drew ?_))); (case side4 => exact (Kd.R_reads' HO367.out).2.1); rintro e w' ⟨rfl, ⟨nd, rfl⟩⟩; (try first | exact ⟨rfl, _, World.drewN_drewN _ _ _⟩ | exact ⟨rfl, _, Eq.trans (World.drewN_drewN _ _ _) (congrArg (World.drewN _) (Nat.add_assoc _ _ _))⟩))); try go_wp2_with (first | (go_at_call 13; (with_reducible refine (spec_TrailVisits.calls kj4 t350 _ _ t351 t354 t365 _ ?side1 ?side2 A36.out).mono ?_); (case side1 => repeat (first | exact (Kd.Q_reads' HO_356001.out).2.2 | (with_reducible refine Kd.C_alloc ?_ _) | (with_reducible refine Kd.C_drewN ?_ _) | (with_reducible refine Kd.C_drew ?_))); (case side2 => exact (Kd.Q_reads' HO_356001.out).2.1); rintro e w39 ⟨v366, rfl, ho0, hb⟩; have n0_ := Aside0.mk (Kd.R_elder' (kR HO_5.out) (Kd.R_base ho0) hb); have n1_ := Aside0.mk (Kd.Q_below (by (with_reducible repeat apply Kd.Q_alloc); exact HO_356001.out) hb); have n2_ := Aside0.mk (Kd.R_lower (Kd.R_new' ho0 (Kd.R_lt (kR HO_5.out))) (below_size (by repeat first | exact HB.out | with_reducible refine below_setA ?_ ‹_› | apply below_alloc | apply pw_below_drewN))); have n3_ := Aside0.mk (blk_below (bK BK355.out) hb); have n4_ := Aside0.mk (below_step (by repeat first | exact HB.out | with_reducible refine below_setA ?_ ‹_› | apply below_alloc | apply pw_below_drewN) hb); clear HO_5; clear HO_356001; clear BK355; clear HB; have HO_5 := n0_; have HO_356001 := n1_; have HO367 := n2_; have BK355 := n3_; have HB := n4_; clear n0_ n1_ n2_ n3_ n4_; (try clear hb); (try clear hb2); (try clear hk); (try clear hi); (try clear ho0); obtain ⟨Ao40, co40, eo40⟩ := Kd.R_slice HO_5.out; subst eo40; obtain ⟨Ao41, co41, eo41⟩ := Kd.R_slice HO367.out; subst eo41) | (go_at_call 12; (with_reducible refine (laws_llVisits.calls kj4 _ _ t356 _ _ t365 t368 _ ?side1 ?side2 ?side3 ?side4 A37.out).mono ?_); (case side1 => repeat (first | exact (Kd.R_reads' HO_5.out).2.2 | (with_reducible refine Kd.C_alloc ?_ _) | (with_reducible refine Kd.C_drewN ?_ _) | (with_reducible refine Kd.C_drew ?_))); (case side2 => exact (Kd.R_reads' HO_5.out).2.1); (case side3 => repeat (first | exact (Kd.R_reads' HO367.out).2.2 | (with_reducible refine Kd.C_alloc ?_ _) | (with_reducible refine Kd.C_drewN ?_ _) | (with_reducible refine Kd.C_drew ?_))); (case side4 => exact (Kd.R_reads' HO367.out).2.1); rintro e w' ⟨rfl, ⟨nd, rfl⟩⟩; (try first | exact ⟨rfl, _, World.drewN_drewN _ _ _⟩ | exact ⟨rfl, _, Eq.trans (World.drewN_drewN _ _ _) (congrArg (World.drewN _) (Nat.add_assoc _ _ _))⟩))))
     go_ret
     exact ⟨by first | rfl | (simp [errW_none, errW_some] <;> rfl) | (simp [*, errW_none, errW_some] <;> rfl) | (exfalso; simp_all; done), by repeat first | exact HB.out | with_reducible refine below_setA ?_ ‹_› | apply below_alloc | apply pw_below_drewN⟩
    ·replace c35 := Bool.eq_false_iff.mpr c35
     subst c35
     have H1 : (laws_FnTrailClear.l0 kj4 t354 t356 0 t350 t351) = some r := by rw [if_neg (show ¬ (false = true) by decide)] at H; exact H
     clear H
     have H := H1
     clear H1
     have H' := Aside0.mk H
     clear H
     go_wp2
     repeat (go_quiet (fail); try go_wp2)
     go_loopg [6] kj4 (fun kq v6 w' => ∃ (x6_2 : Int), v6 = .int .i64 x6_2 ∧ Aside0 (laws_FnTrailClear.l0 kq t354 t356 x6_2 t350 t351 = some r) ∧ Aside0 (kq <= kj4) ∧ Aside0 (Kd.R k34 34 w' w.heap.size (fun _ => True) v357 t356) ∧ Aside0 (Kd.Q k42 42 w' w.heap.size (fun _ => True) (.slice Ao9 t351.length co9) t351) ∧ Aside0 (w'.heap[gb355]? = some (.cells #[.int .i64 t350, (.slice Ao9 t351.length co9)] 25 (0, 0))) ∧ Aside0 (Below w.heap.size w w'))
     case atStart => exact ⟨(0), (by first | rfl | (simp; done) | (simp [*]; done)), H', ⟨Nat.le_refl _⟩, ⟨by (with_reducible repeat apply Kd.R_alloc); exact HO_5.out⟩, ⟨by (with_reducible repeat apply Kd.Q_alloc); exact HO_356001.out⟩, ⟨by (with_reducible repeat apply blk_alloc); exact BK355.out⟩, ⟨by repeat first | exact HB.out | with_reducible refine below_setA ?_ ‹_› | apply below_alloc | apply pw_below_drewN⟩⟩
     case round =>
      clear H'
      try clear c1
      try clear c2
      try clear c2b0
      try clear c2b1
      try clear p2
      try clear c3
      try clear c13
      try clear c15
      try clear c35
      try clear hcz17_0
      try clear hcz17_1
      try clear hcz21_0
      try clear hcz21_1
      try clear hcz23_0
      try clear hcz23_1
      try clear hcz25_0
      try clear hcz25_1
      try clear hcz29_0
      try clear hcz29_1
      try clear hcz31_0
      try clear hcz31_1
      try clear hcz38_0
      try clear hcz38_1
      try clear hcz8_0
      try clear hcz8_1
      try clear hfz17_0
      try clear hfz17_1
      try clear hfz21_0
      try clear hfz21_1
      try clear hfz23_0
      try clear hfz23_1
      try clear hfz25_0
      try clear hfz25_1
      try clear hfz29_0
      try clear hfz29_1
      try clear hfz31_0
      try clear hfz31_1
      try clear hfz38_0
      try clear hfz38_1
      try clear hfz8_0
      try clear hfz8_1
      try clear p2
      obtain ⟨x6_2, rfl, HA, HK2, HO_5, HO_356001, BK355, HB⟩ := hrel
      cases gk with
      | zero => exact absurd HA.out (by simp [laws_FnTrailClear.l0])
      | succ k2 =>
       have H := HA.out
       clear HA
       simp only [laws_FnTrailClear.l0] at H
       by_cases c42 : x6_2 < (t356.length : Int)
       ·rw [if_pos c42] at H
        have c42b0 : decide (x6_2 < (t356.length : Int)) = true := decide_eq_true c42
        clear c42
        have H' := Aside0.mk H
        clear H
        obtain ⟨Ao43, co43, eo43⟩ := Kd.R_slice HO_5.out
        subst eo43
        go_wp2
        repeat (go_quiet (fail); try go_wp2)
        go_loopg [7] k2 (fun kq v7 w' => ∃ (x7_3 : Int), v7 = .int .i64 x7_3 ∧ Aside0 (laws_FnTrailClear.l1 kq t354 t356 x6_2 x7_3 t350 t351 = some r) ∧ Aside0 (kq <= k2) ∧ Aside0 (Kd.R k34 34 w' w.heap.size (fun _ => True) (.slice Ao43 t356.length co43) t356) ∧ Aside0 (Kd.Q k42 42 w' w.heap.size (fun _ => True) (.slice Ao9 t351.length co9) t351) ∧ Aside0 (w'.heap[gb355]? = some (.cells #[.int .i64 t350, (.slice Ao9 t351.length co9)] 25 (0, 0))) ∧ Aside0 (Below w.heap.size w w'))
        case atStart => exact ⟨(0), (by first | rfl | (simp; done) | (simp [*]; done)), H', ⟨Nat.le_refl _⟩, ⟨by (with_reducible repeat apply Kd.R_alloc); exact HO_5.out⟩, ⟨by (with_reducible repeat apply Kd.Q_alloc); exact HO_356001.out⟩, ⟨by (with_reducible repeat apply blk_alloc); exact BK355.out⟩, ⟨by repeat first | exact HB.out | with_reducible refine below_setA ?_ ‹_› | apply below_alloc | apply pw_below_drewN⟩⟩
        case round =>
         clear H'
         try clear c1
         try clear c2
         try clear c2b0
         try clear c2b1
         try clear p2
         try clear c3
         try clear c4
         try clear c13
         try clear c15
         try clear c35
         try clear c42
         try clear c42b0
         try clear hcz17_0
         try clear hcz17_1
         try clear hcz21_0
         try clear hcz21_1
         try clear hcz23_0
         try clear hcz23_1
         try clear hcz25_0
         try clear hcz25_1
         try clear hcz29_0
         try clear hcz29_1
         try clear hcz31_0
         try clear hcz31_1
         try clear hcz38_0
         try clear hcz38_1
         try clear hcz8_0
         try clear hcz8_1
         try clear hfz17_0
         try clear hfz17_1
         try clear hfz21_0
         try clear hfz21_1
         try clear hfz23_0
         try clear hfz23_1
         try clear hfz25_0
         try clear hfz25_1
         try clear hfz29_0
         try clear hfz29_1
         try clear hfz31_0
         try clear hfz31_1
         try clear hfz38_0
         try clear hfz38_1
         try clear hfz8_0
         try clear hfz8_1
         try clear p2
         obtain ⟨x7_3, rfl, HA, HK3, HO_5, HO_356001, BK355, HB⟩ := hrel
         cases gk with
         | zero => exact absurd HA.out (by simp [laws_FnTrailClear.l1])
         | succ k3 =>
          have H := HA.out
          clear HA
          simp only [laws_FnTrailClear.l1] at H
          by_cases c44 : x7_3 < x6_2
          ·rw [if_pos c44] at H
           have c44b0 : decide (x7_3 < x6_2) = true := decide_eq_true c44
           clear c44
           by_cases c45 : 0 <= x7_3
           ·rw [if_pos c45] at H
            have c45b0 : decide (0 <= x7_3) = true := decide_eq_true c45
            clear c45
            by_cases c46 : x7_3 < (t356.length : Int)
            ·rw [if_pos c46] at H
             have c46b0 : decide (x7_3 < (t356.length : Int)) = true := decide_eq_true c46
             clear c46
             by_cases c47 : 0 <= x6_2
             ·rw [if_pos c47] at H
              have c47b0 : decide (0 <= x6_2) = true := decide_eq_true c47
              clear c47
              by_cases c48 : x6_2 < (t356.length : Int)
              ·rw [if_pos c48] at H
               have c48b0 : decide (x6_2 < (t356.length : Int)) = true := decide_eq_true c48
               clear c48
               by_cases c49 : ((rd_T34 t356 x7_3).f0) = ((rd_T34 t356 x6_2).f0)
               ·rw [if_pos c49] at H
                have c49b0 : (((rd_T34 t356 x7_3).f0) == ((rd_T34 t356 x6_2).f0)) = true := beq_iff_eq.mpr c49
                have c49b1 : (((rd_T34 t356 x7_3).f0) != ((rd_T34 t356 x6_2).f0)) = false := bne_eq_false_iff_eq.mpr c49
                clear c49
                by_cases c50 : ((rd_T34 t356 x7_3).f1) = ((rd_T34 t356 x6_2).f1)
                ·rw [if_pos c50] at H
                 have c50b0 : (((rd_T34 t356 x7_3).f1) == ((rd_T34 t356 x6_2).f1)) = true := beq_iff_eq.mpr c50
                 have c50b1 : (((rd_T34 t356 x7_3).f1) != ((rd_T34 t356 x6_2).f1)) = false := bne_eq_false_iff_eq.mpr c50
                 clear c50
                 obtain rfl := Option.some.inj H
                 exact absurd HRT.out (by decide)
                ·rw [if_neg c50] at H
                 have c50b0 : (((rd_T34 t356 x7_3).f1) == ((rd_T34 t356 x6_2).f1)) = false := beq_eq_false_iff_ne.mpr c50
                 have c50b1 : (((rd_T34 t356 x7_3).f1) != ((rd_T34 t356 x6_2).f1)) = true := bne_iff_ne.mpr c50
                 have H' := Aside0.mk H
                 clear H
                 have p374 : 0 <= (x7_3 : Int) := of_decide_eq_true (by first | (with_reducible assumption) | assumption)
                 have q374 : x7_3 < (t356.length : Int) := of_decide_eq_true (by first | (with_reducible assumption) | assumption)
                 obtain ⟨ad374, e374, hx374_0, hx374_1, hx374_2⟩ := at_T34 (Kd.R_reads' HO_5.out).2.2 x7_3 p374 q374
                 cases e374
                 replace p374 := eq_true p374
                 replace q374 := eq_true q374
                 have p375 : 0 <= (x6_2 : Int) := of_decide_eq_true (by first | (with_reducible assumption) | assumption)
                 have q375 : x6_2 < (t356.length : Int) := of_decide_eq_true (by first | (with_reducible assumption) | assumption)
                 obtain ⟨ad375, e375, hx375_0, hx375_1, hx375_2⟩ := at_T34 (Kd.R_reads' HO_5.out).2.2 x6_2 p375 q375
                 obtain rfl : ad374 = ad375 := (by injection e375)
                 replace p375 := eq_true p375
                 replace q375 := eq_true q375
                 have p376 : 0 <= (x7_3 : Int) := of_decide_eq_true (by first | (with_reducible assumption) | assumption)
                 have q376 : x7_3 < (t356.length : Int) := of_decide_eq_true (by first | (with_reducible assumption) | assumption)
                 obtain ⟨ad376, e376, hx376_0, hx376_1, hx376_2⟩ := at_T34 (Kd.R_reads' HO_5.out).2.2 x7_3 p376 q376
                 obtain rfl : ad374 = ad376 := (by injection e376)
                 replace p376 := eq_true p376
                 replace q376 := eq_true q376
                 have p377 : 0 <= (x6_2 : Int) := of_decide_eq_true (by first | (with_reducible assumption) | assumption)
                 have q377 : x6_2 < (t356.length : Int) := of_decide_eq_true (by first | (with_reducible assumption) | assumption)
                 obtain ⟨ad377, e377, hx377_0, hx377_1, hx377_2⟩ := at_T34 (Kd.R_reads' HO_5.out).2.2 x6_2 p377 q377
                 obtain rfl : ad374 = ad377 := (by injection e377)
                 replace p377 := eq_true p377
                 replace q377 := eq_true q377
                 go_wp2
                 repeat (go_quiet (fail); try go_wp2)
                 go_roundg k3
                 case measure => have := HJ4.out; have := HK2.out; have := HK3.out; omega
                 case rel => exact ⟨(wrap64 (x7_3 + 1)), (by first | rfl | (simp; done) | (simp [*]; done)), H', ⟨by have := HJ4.out; have := HK2.out; have := HK3.out; omega⟩, ⟨by (with_reducible repeat apply Kd.R_alloc); exact HO_5.out⟩, ⟨by (with_reducible repeat apply Kd.Q_alloc); exact HO_356001.out⟩, ⟨by (with_reducible repeat apply blk_alloc); exact BK355.out⟩, ⟨by repeat first | exact HB.out | with_reducible refine below_setA ?_ ‹_› | apply below_alloc | apply pw_below_drewN⟩⟩
               ·rw [if_neg c49] at H
                have c49b0 : (((rd_T34 t356 x7_3).f0) == ((rd_T34 t356 x6_2).f0)) = false := beq_eq_false_iff_ne.mpr c49
                have c49b1 : (((rd_T34 t356 x7_3).f0) != ((rd_T34 t356 x6_2).f0)) = true := bne_iff_ne.mpr c49
                have H' := Aside0.mk H
                clear H
                have p374 : 0 <= (x7_3 : Int) := of_decide_eq_true (by first | (with_reducible assumption) | assumption)
                have q374 : x7_3 < (t356.length : Int) := of_decide_eq_true (by first | (with_reducible assumption) | assumption)
                obtain ⟨ad374, e374, hx374_0, hx374_1, hx374_2⟩ := at_T34 (Kd.R_reads' HO_5.out).2.2 x7_3 p374 q374
                cases e374
                replace p374 := eq_true p374
                replace q374 := eq_true q374
                have p375 : 0 <= (x6_2 : Int) := of_decide_eq_true (by first | (with_reducible assumption) | assumption)
                have q375 : x6_2 < (t356.length : Int) := of_decide_eq_true (by first | (with_reducible assumption) | assumption)
                obtain ⟨ad375, e375, hx375_0, hx375_1, hx375_2⟩ := at_T34 (Kd.R_reads' HO_5.out).2.2 x6_2 p375 q375
                obtain rfl : ad374 = ad375 := (by injection e375)
                replace p375 := eq_true p375
                replace q375 := eq_true q375
                go_wp2
                repeat (go_quiet (fail); try go_wp2)
                go_roundg k3
                case measure => have := HJ4.out; have := HK2.out; have := HK3.out; omega
                case rel => exact ⟨(wrap64 (x7_3 + 1)), (by first | rfl | (simp; done) | (simp [*]; done)), H', ⟨by have := HJ4.out; have := HK2.out; have := HK3.out; omega⟩, ⟨by (with_reducible repeat apply Kd.R_alloc); exact HO_5.out⟩, ⟨by (with_reducible repeat apply Kd.Q_alloc); exact HO_356001.out⟩, ⟨by (with_reducible repeat apply blk_alloc); exact BK355.out⟩, ⟨by repeat first | exact HB.out | with_reducible refine below_setA ?_ ‹_› | apply below_alloc | apply pw_below_drewN⟩⟩
              ·rw [if_neg c48] at H
               exact absurd H (by simp)
             ·rw [if_neg c47] at H
              exact absurd H (by simp)
            ·rw [if_neg c46] at H
             exact absurd H (by simp)
           ·rw [if_neg c45] at H
            exact absurd H (by simp)
          ·rw [if_neg c44] at H
           have c44b0 : decide (x7_3 < x6_2) = false := decide_eq_false c44
           clear c44
           have H' := Aside0.mk H
           clear H
           go_wp2
           repeat (go_quiet (fail); try go_wp2)
           go_roundg k3
           case measure => have := HJ4.out; have := HK2.out; have := HK3.out; omega
           case rel => exact ⟨(wrap64 (x6_2 + 1)), (by first | rfl | (simp; done) | (simp [*]; done)), H', ⟨by have := HJ4.out; have := HK2.out; have := HK3.out; omega⟩, ⟨by (with_reducible repeat apply Kd.R_alloc); exact HO_5.out⟩, ⟨by (with_reducible repeat apply Kd.Q_alloc); exact HO_356001.out⟩, ⟨by (with_reducible repeat apply blk_alloc); exact BK355.out⟩, ⟨by repeat first | exact HB.out | with_reducible refine below_setA ?_ ‹_› | apply below_alloc | apply pw_below_drewN⟩⟩
       ·rw [if_neg c42] at H
        have c42b0 : decide (x6_2 < (t356.length : Int)) = false := decide_eq_false c42
        clear c42
        replace H := Option.bind_eq_some_iff.mp H
        obtain ⟨t369, A510, H⟩ := H
        replace H : (if (t369.length : Int) = 1 then (if 0 < (t369.length : Int) then (if ((rd_T38 t369 0).f2) = 64 then (some (((rd_T38 t369 0).f0) != 3)) else (some false)) else (none)) else (some false)) = some r := H
        have A51 := Aside0.mk A510
        clear A510
        by_cases c52 : (t369.length : Int) = 1
        ·rw [if_pos c52] at H
         have c52b0 : ((t369.length : Int) == 1) = true := beq_iff_eq.mpr c52
         have c52b1 : ((t369.length : Int) != 1) = false := bne_eq_false_iff_eq.mpr c52
         clear c52
         by_cases c53 : 0 < (t369.length : Int)
         ·rw [if_pos c53] at H
          have c53b0 : decide (0 < (t369.length : Int)) = true := decide_eq_true c53
          have c53b1 : decide (0 < t369.length) = true := decide_eq_true (by omega)
          clear c53
          by_cases c54 : ((rd_T38 t369 0).f2) = 64
          ·rw [if_pos c54] at H
           have c54b0 : (((rd_T38 t369 0).f2) == 64) = true := beq_iff_eq.mpr c54
           have c54b1 : (((rd_T38 t369 0).f2) != 64) = false := bne_eq_false_iff_eq.mpr c54
           clear c54
           obtain rfl := Option.some.inj H
           obtain ⟨Ao55, co55, eo55⟩ := Kd.R_slice HO_5.out
           subst eo55
           have hcz56_0 : wr.cell? ⟨gb355, 0, none⟩ = some (.int .i64 t350) := (blk_cell BK355.out 0).trans rfl
           have hcz56_1 : wr.cell? ⟨gb355, 1, none⟩ = some (.slice Ao9 t351.length co9) := (blk_cell BK355.out 1).trans rfl
           have hfz56_0 := blk_frozen BK355.out 0
           have hfz56_1 := blk_frozen BK355.out 1
           go_wp2_with (first | (go_at_call 16; (with_reducible refine (impl_TrailEnds.calls k2 t350 _ _ t351 t354 t369 _ ?side1 ?side2 A51.out).mono ?_); (case side1 => repeat (first | exact (Kd.Q_reads' HO_356001.out).2.2 | (with_reducible refine Kd.C_alloc ?_ _) | (with_reducible refine Kd.C_drewN ?_ _) | (with_reducible refine Kd.C_drew ?_))); (case side2 => exact (Kd.Q_reads' HO_356001.out).2.1); rintro e w57 ⟨v370, rfl, ho0, hb⟩; have n0_ := Aside0.mk (Kd.R_below (kR HO_5.out) hb); have n1_ := Aside0.mk (Kd.Q_below (by (with_reducible repeat apply Kd.Q_alloc); exact HO_356001.out) hb); have n2_ := Aside0.mk (Kd.R_lower ho0 (below_size (by repeat first | exact HB.out | with_reducible refine below_setA ?_ ‹_› | apply below_alloc | apply pw_below_drewN))); have n3_ := Aside0.mk (blk_below (bK BK355.out) hb); have n4_ := Aside0.mk (below_step (by repeat first | exact HB.out | with_reducible refine below_setA ?_ ‹_› | apply below_alloc | apply pw_below_drewN) hb); clear HO_5; clear HO_356001; clear BK355; clear HB; have HO_5 := n0_; have HO_356001 := n1_; have HO371 := n2_; have BK355 := n3_; have HB := n4_; clear n0_ n1_ n2_ n3_ n4_; (try clear hb); (try clear hb2); (try clear hk); (try clear hi); (try clear ho0); obtain ⟨Ao58, co58, eo58⟩ := Kd.R_slice HO371.out; subst eo58; have p372 : 0 <= (0 : Int) := (by omega); have q372 : 0 < (t369.length : Int) := of_decide_eq_true (by first | (with_reducible assumption) | assumption); obtain ⟨ad372, e372, hx372_0, hx372_1, hx372_2⟩ := at_T38 (Kd.R_reads' HO371.out).2.2 0 p372 q372; cases e372; have qi372 : (0 < t369.length) = True := eq_true (by omega); (try rw [show ((0 : Int)).toNat = 0 from rfl] at hx372_0); (try rw [show 0 * 3 = 0 from rfl] at hx372_0); (try rw [Addr.add_zero'] at hx372_0); (try rw [show ((0 : Int)).toNat = 0 from rfl] at hx372_1); (try rw [show 0 * 3 = 0 from rfl] at hx372_1); (try rw [Addr.add_zero'] at hx372_1); (try rw [show ((0 : Int)).toNat = 0 from rfl] at hx372_2); (try rw [show 0 * 3 = 0 from rfl] at hx372_2); (try rw [Addr.add_zero'] at hx372_2); replace p372 := eq_true p372; replace q372 := eq_true q372; have p373 : 0 <= (0 : Int) := (by omega); have q373 : 0 < (t369.length : Int) := of_decide_eq_true (by first | (with_reducible assumption) | assumption); obtain ⟨ad373, e373, hx373_0, hx373_1, hx373_2⟩ := at_T38 (Kd.R_reads' HO371.out).2.2 0 p373 q373; obtain rfl : ad372 = ad373 := (by injection e373); have qi373 : (0 < t369.length) = True := eq_true (by omega); (try rw [show ((0 : Int)).toNat = 0 from rfl] at hx373_0); (try rw [show 0 * 3 = 0 from rfl] at hx373_0); (try rw [Addr.add_zero'] at hx373_0); (try rw [show ((0 : Int)).toNat = 0 from rfl] at hx373_1); (try rw [show 0 * 3 = 0 from rfl] at hx373_1); (try rw [Addr.add_zero'] at hx373_1); (try rw [show ((0 : Int)).toNat = 0 from rfl] at hx373_2); (try rw [show 0 * 3 = 0 from rfl] at hx373_2); (try rw [Addr.add_zero'] at hx373_2); replace p373 := eq_true p373; replace q373 := eq_true q373))
           repeat (go_quiet (first | (go_at_call 16; (with_reducible refine (impl_TrailEnds.calls k2 t350 _ _ t351 t354 t369 _ ?side1 ?side2 A51.out).mono ?_); (case side1 => repeat (first | exact (Kd.Q_reads' HO_356001.out).2.2 | (with_reducible refine Kd.C_alloc ?_ _) | (with_reducible refine Kd.C_drewN ?_ _) | (with_reducible refine Kd.C_drew ?_))); (case side2 => exact (Kd.Q_reads' HO_356001.out).2.1); rintro e w57 ⟨v370, rfl, ho0, hb⟩; have n0_ := Aside0.mk (Kd.R_below (kR HO_5.out) hb); have n1_ := Aside0.mk (Kd.Q_below (by (with_reducible repeat apply Kd.Q_alloc); exact HO_356001.out) hb); have n2_ := Aside0.mk (Kd.R_lower ho0 (below_size (by repeat first | exact HB.out | with_reducible refine below_setA ?_ ‹_› | apply below_alloc | apply pw_below_drewN))); have n3_ := Aside0.mk (blk_below (bK BK355.out) hb); have n4_ := Aside0.mk (below_step (by repeat first | exact HB.out | with_reducible refine below_setA ?_ ‹_› | apply below_alloc | apply pw_below_drewN) hb); clear HO_5; clear HO_356001; clear BK355; clear HB; have HO_5 := n0_; have HO_356001 := n1_; have HO371 := n2_; have BK355 := n3_; have HB := n4_; clear n0_ n1_ n2_ n3_ n4_; (try clear hb); (try clear hb2); (try clear hk); (try clear hi); (try clear ho0); obtain ⟨Ao58, co58, eo58⟩ := Kd.R_slice HO371.out; subst eo58; have p372 : 0 <= (0 : Int) := (by omega); have q372 : 0 < (t369.length : Int) := of_decide_eq_true (by first | (with_reducible assumption) | assumption); obtain ⟨ad372, e372, hx372_0, hx372_1, hx372_2⟩ := at_T38 (Kd.R_reads' HO371.out).2.2 0 p372 q372; cases e372; have qi372 : (0 < t369.length) = True := eq_true (by omega); (try rw [show ((0 : Int)).toNat = 0 from rfl] at hx372_0); (try rw [show 0 * 3 = 0 from rfl] at hx372_0); (try rw [Addr.add_zero'] at hx372_0); (try rw [show ((0 : Int)).toNat = 0 from rfl] at hx372_1); (try rw [show 0 * 3 = 0 from rfl] at hx372_1); (try rw [Addr.add_zero'] at hx372_1); (try rw [show ((0 : Int)).toNat = 0 from rfl] at hx372_2); (try rw [show 0 * 3 = 0 from rfl] at hx372_2); (try rw [Addr.add_zero'] at hx372_2); replace p372 := eq_true p372; replace q372 := eq_true q372; have p373 : 0 <= (0 : Int) := (by omega); have q373 : 0 < (t369.length : Int) := of_decide_eq_true (by first | (with_reducible assumption) | assumption); obtain ⟨ad373, e373, hx373_0, hx373_1, hx373_2⟩ := at_T38 (Kd.R_reads' HO371.out).2.2 0 p373 q373; obtain rfl : ad372 = ad373 := (by injection e373); have qi373 : (0 < t369.length) = True := eq_true (by omega); (try rw [show ((0 : Int)).toNat = 0 from rfl] at hx373_0); (try rw [show 0 * 3 = 0 from rfl] at hx373_0); (try rw [Addr.add_zero'] at hx373_0); (try rw [show ((0 : Int)).toNat = 0 from rfl] at hx373_1); (try rw [show 0 * 3 = 0 from rfl] at hx373_1); (try rw [Addr.add_zero'] at hx373_1); (try rw [show ((0 : Int)).toNat = 0 from rfl] at hx373_2); (try rw [show 0 * 3 = 0 from rfl] at hx373_2); (try rw [Addr.add_zero'] at hx373_2); replace p373 := eq_true p373; replace q373 := eq_true q373)); try go_wp2_with (first | (go_at_call 16; (with_reducible refine (impl_TrailEnds.calls k2 t350 _ _ t351 t354 t369 _ ?side1 ?side2 A51.out).mono ?_); (case side1 => repeat (first | exact (Kd.Q_reads' HO_356001.out).2.2 | (with_reducible refine Kd.C_alloc ?_ _) | (with_reducible refine Kd.C_drewN ?_ _) | (with_reducible refine Kd.C_drew ?_))); (case side2 => exact (Kd.Q_reads' HO_356001.out).2.1); rintro e w57 ⟨v370, rfl, ho0, hb⟩; have n0_ := Aside0.mk (Kd.R_below (kR HO_5.out) hb); have n1_ := Aside0.mk (Kd.Q_below (by (with_reducible repeat apply Kd.Q_alloc); exact HO_356001.out) hb); have n2_ := Aside0.mk (Kd.R_lower ho0 (below_size (by repeat first | exact HB.out | with_reducible refine below_setA ?_ ‹_› | apply below_alloc | apply pw_below_drewN))); have n3_ := Aside0.mk (blk_below (bK BK355.out) hb); have n4_ := Aside0.mk (below_step (by repeat first | exact HB.out | with_reducible refine below_setA ?_ ‹_› | apply below_alloc | apply pw_below_drewN) hb); clear HO_5; clear HO_356001; clear BK355; clear HB; have HO_5 := n0_; have HO_356001 := n1_; have HO371 := n2_; have BK355 := n3_; have HB := n4_; clear n0_ n1_ n2_ n3_ n4_; (try clear hb); (try clear hb2); (try clear hk); (try clear hi); (try clear ho0); obtain ⟨Ao58, co58, eo58⟩ := Kd.R_slice HO371.out; subst eo58; have p372 : 0 <= (0 : Int) := (by omega); have q372 : 0 < (t369.length : Int) := of_decide_eq_true (by first | (with_reducible assumption) | assumption); obtain ⟨ad372, e372, hx372_0, hx372_1, hx372_2⟩ := at_T38 (Kd.R_reads' HO371.out).2.2 0 p372 q372; cases e372; have qi372 : (0 < t369.length) = True := eq_true (by omega); (try rw [show ((0 : Int)).toNat = 0 from rfl] at hx372_0); (try rw [show 0 * 3 = 0 from rfl] at hx372_0); (try rw [Addr.add_zero'] at hx372_0); (try rw [show ((0 : Int)).toNat = 0 from rfl] at hx372_1); (try rw [show 0 * 3 = 0 from rfl] at hx372_1); (try rw [Addr.add_zero'] at hx372_1); (try rw [show ((0 : Int)).toNat = 0 from rfl] at hx372_2); (try rw [show 0 * 3 = 0 from rfl] at hx372_2); (try rw [Addr.add_zero'] at hx372_2); replace p372 := eq_true p372; replace q372 := eq_true q372; have p373 : 0 <= (0 : Int) := (by omega); have q373 : 0 < (t369.length : Int) := of_decide_eq_true (by first | (with_reducible assumption) | assumption); obtain ⟨ad373, e373, hx373_0, hx373_1, hx373_2⟩ := at_T38 (Kd.R_reads' HO371.out).2.2 0 p373 q373; obtain rfl : ad372 = ad373 := (by injection e373); have qi373 : (0 < t369.length) = True := eq_true (by omega); (try rw [show ((0 : Int)).toNat = 0 from rfl] at hx373_0); (try rw [show 0 * 3 = 0 from rfl] at hx373_0); (try rw [Addr.add_zero'] at hx373_0); (try rw [show ((0 : Int)).toNat = 0 from rfl] at hx373_1); (try rw [show 0 * 3 = 0 from rfl] at hx373_1); (try rw [Addr.add_zero'] at hx373_1); (try rw [show ((0 : Int)).toNat = 0 from rfl] at hx373_2); (try rw [show 0 * 3 = 0 from rfl] at hx373_2); (try rw [Addr.add_zero'] at hx373_2); replace p373 := eq_true p373; replace q373 := eq_true q373)))
           go_ret
           exact ⟨by first | rfl | (simp [errW_none, errW_some] <;> rfl) | (simp [*, errW_none, errW_some] <;> rfl) | (exfalso; simp_all; done), by repeat first | exact HB.out | with_reducible refine below_setA ?_ ‹_› | apply below_alloc | apply pw_below_drewN⟩
          ·rw [if_neg c54] at H
           have c54b0 : (((rd_T38 t369 0).f2) == 64) = false := beq_eq_false_iff_ne.mpr c54
           have c54b1 : (((rd_T38 t369 0).f2) != 64) = true := bne_iff_ne.mpr c54
           obtain rfl := Option.some.inj H
           exact absurd HRT.out (by decide)
         ·rw [if_neg c53] at H
          exact absurd H (by simp)
        ·rw [if_neg c52] at H
         have c52b0 : ((t369.length : Int) == 1) = false := beq_eq_false_iff_ne.mpr c52
         have c52b1 : ((t369.length : Int) != 1) = true := bne_iff_ne.mpr c52
         obtain rfl := Option.some.inj H
         exact absurd HRT.out (by decide)
/-- THE ONE PURE STATEMENT of laws_FnTrailClear: yours. -/
def laws_FnTrailClear.Pure : Prop := ∀ (l0 : List Int), l0.length <= maxLen -> l0.length * 1 <= 140737488351232 -> (∀ x ∈ l0, (Lit.int .u8 x).wf = true) -> ∃ k, laws_FnTrailClear.f k l0 = some true
theorem laws_FnTrailClear.walk (P : laws_FnTrailClear.Pure) (a0 : Option Addr) (len0 cap0 : Nat) (z0 : List Int) (w : World) (w0 : (a0 = none ∧ len0 = 0 ∧ cap0 = 0 ∧ z0 = []) ∨ ∃ x, a0 = some x ∧ len0 <= cap0 ∧ cap0 <= maxLen ∧ z0.length = cap0 ∧ (∀ i, i < z0.length -> w.cell? (x.add i) = some (.int .u8 (z0.getD i 0))) ∧ ∀ n ∈ z0, (Lit.int .u8 n).wf = true) (y0 : len0 * 1 <= 140737488351232) :
  Calls Try.prog 3 #[.slice a0 len0 cap0] w fun e w' => e = .returned (.bool true) ∧ Below w.heap.size w w' := by
 obtain ⟨l0, rfl, hr0, hm0, hw0, hc0⟩ := ReadsInt.ofRowC w0
 obtain ⟨k, h⟩ := P l0 hm0 y0 hw0
 refine (laws_FnTrailClear.calls k _ _ l0 true w (Kd.C_of_reads (d := (0 : Int)) (h1 := fun _ => rfl) hr0) hc0 h rfl).mono ?_
 rintro e w' ⟨rfl, hd⟩
 exact ⟨rfl, hd⟩
end Go.Proofs.Yteapnipnoadejaa.P
