/- PROVED: contracts of functions of the program, the reference and the statements; written by this session's driver (pk.py) through its own changed copy of the kit's print. No condition. -/
import Derived.Test.YtmohfoleolmijaaPx0
import Derived.Test.YtmohfoleolmijaaPx2
import Derived.Test.YtmohfoleolmijaaPx22
import Derived.Test.YtmohfoleolmijaaPx23
import Derived.Test.YtmohfoleolmijaaPx34
import Derived.Test.YtmohfoleolmijaaPx49
import Derived.Test.YtmohfoleolmijaaPx57
import Derived.Test.YtmohfoleolmijaaT3Go
namespace Go.Proofs.Ytmohfoleolmijaa.P
open Go.RowKit Go.Proofs.YtmohfoleolmijaaW.PrintWords Go.Proofs.YtmohfoleolmijaaW.PrintLast Go.Proofs.YtmohfoleolmijaaW.PrintMore
attribute [local go_sem] max2_int min2_int max_two min_two max_three min_three max_four min_four   -- for this text's walks alone
set_option linter.unusedVariables false
set_option linter.unusedSimpArgs false

attribute [local go_sem high] eqA55
/-! ### laws_FnTrailFirst: function 8 -/
mutual
def laws_FnTrailFirst.j0 : Nat → Int → List (S55) → Bool → Int → List (S57) → Option (Bool)
 | 0, _, _, _, _, _ => none
 | k + 1, x4, x5, x31, x582000, x582001 => if x31 = true then ((spec_TrailVisits.f k x582000 x582001 x4).bind fun t590 => ((laws_llVisits.f k x5 t590).bind fun t593 => (some t593))) else ((impl_SightRay.f k x582000 x582001 x4).bind fun bt594 => (laws_FnTrailFirst.l0 k x5 bt594.2.2 0 bt594.1 bt594.2.1))
def laws_FnTrailFirst.l0 : Nat → List (S55) → Bool → Int → Int → Int → Option (Bool)
 | 0, _, _, _, _, _ => none
 | k + 1, x5, x7, x8, x598000, x598001 => if x8 < (x5.length : Int) then (if 0 ≤ x8 then (if ((rd_T55 x5 x8).f2) < 1 then (some false) else (if ((rd_T55 x5 x8).f2) > 64 then (some false) else (laws_FnTrailFirst.l0 k x5 x7 (wrap64 (x8 + 1)) x598000 x598001))) else (none)) else (if x7 = true then (if 0 < (x5.length : Int) then (some (((rd_T55 x5 0).f0) == x598000 && (((rd_T55 x5 0).f1) == x598001 && (((rd_T55 x5 0).f2) == 64)))) else (none)) else (some false))
end
def laws_FnTrailFirst.f (k : Nat) (l0 : List Int) : Option (Bool) := if (l0.length : Int) > 1048576 then (some true) else ((spec_DrawTrailVisits.f k l0).bind fun bt576 => ((impl_TrailVisits.f k bt576.1 bt576.2.1 bt576.2.2).bind fun t582 => ((spec_TrailVisits.f k bt576.1 bt576.2.1 bt576.2.2).bind fun t585 => ((laws_llVisits.f k t582 t585).bind fun t588 => (if t588 = true then ((laws_llSight.f k bt576.1 bt576.2.1 bt576.2.2).bind fun t589 => (laws_FnTrailFirst.j0 k bt576.2.2 t582 (!t589) bt576.1 bt576.2.1)) else (laws_FnTrailFirst.j0 k bt576.2.2 t582 true bt576.1 bt576.2.1))))))
set_option maxHeartbeats 8000000 in
set_option maxRecDepth 100000 in
theorem laws_FnTrailFirst.calls (k : Nat) (A0 : Option Addr) (c0 : Nat) (l0 : List Int) (r : Bool) (w : World) (hr0 : Kd.C (Kd.int .u8) w A0 l0.length l0) (hc0 : l0.length ≤ c0) (h : laws_FnTrailFirst.f k l0 = some r) (hrt : r = true) :
  Calls Try.prog 8 #[.slice A0 l0.length c0] w fun e w' => e = .returned (.bool r) ∧ Below w.heap.size w w' := by
 have HRT := Aside0.mk hrt
 clear hrt
 have hu30 := Try.underlying30
 have hu51 := Try.underlying51
 have hu55 := Try.underlying55
 have HR0 := Aside0.mk hr0
 have HC0 := Aside0.mk hc0
 clear hr0 hc0
 have HB := Aside0.mk (Below.refl w.heap.size w)
 have H : (if (l0.length : Int) > 1048576 then (some true) else ((spec_DrawTrailVisits.f k l0).bind fun bt576 => ((impl_TrailVisits.f k bt576.1 bt576.2.1 bt576.2.2).bind fun t582 => ((spec_TrailVisits.f k bt576.1 bt576.2.1 bt576.2.2).bind fun t585 => ((laws_llVisits.f k t582 t585).bind fun t588 => (if t588 = true then ((laws_llSight.f k bt576.1 bt576.2.1 bt576.2.2).bind fun t589 => (laws_FnTrailFirst.j0 k bt576.2.2 t582 (!t589) bt576.1 bt576.2.1)) else (laws_FnTrailFirst.j0 k bt576.2.2 t582 true bt576.1 bt576.2.1))))))) = some r := h
 clear h
 by_cases c2 : (l0.length : Int) > 1048576
 ·rw [if_pos c2] at H
  have c2b0 : decide (1048576 < (l0.length : Int)) = true := decide_eq_true c2
  have c2b1 : decide (1048576 < l0.length) = true := decide_eq_true (by omega)
  clear c2
  obtain rfl := Option.some.inj H
  go_enter Try.func8, Try.ntmps8
  go_wp2
  repeat (go_quiet (fail); try go_wp2)
  go_ret
  exact ⟨by first | rfl | (simp [errW_none, errW_some] <;> rfl) | (simp [*, errW_none, errW_some] <;> rfl) | (exfalso; simp_all; done), by repeat first | exact HB.out | apply below_alloc | apply pw_below_drewN⟩
 ·rw [if_neg c2] at H
  have c2b0 : decide (1048576 < (l0.length : Int)) = false := decide_eq_false c2
  have c2b1 : decide (1048576 < l0.length) = false := decide_eq_false (by omega)
  clear c2
  replace H := Option.bind_eq_some_iff.mp H
  obtain ⟨⟨t576, t577, t580⟩, A30, H⟩ := H
  replace H : ((impl_TrailVisits.f k t576 t577 t580).bind fun t582 => ((spec_TrailVisits.f k t576 t577 t580).bind fun t585 => ((laws_llVisits.f k t582 t585).bind fun t588 => (if t588 = true then ((laws_llSight.f k t576 t577 t580).bind fun t589 => (laws_FnTrailFirst.j0 k t580 t582 (!t589) t576 t577)) else (laws_FnTrailFirst.j0 k t580 t582 true t576 t577))))) = some r := H
  have A3 := Aside0.mk A30
  clear A30
  replace H := Option.bind_eq_some_iff.mp H
  obtain ⟨t582, A40, H⟩ := H
  replace H : ((spec_TrailVisits.f k t576 t577 t580).bind fun t585 => ((laws_llVisits.f k t582 t585).bind fun t588 => (if t588 = true then ((laws_llSight.f k t576 t577 t580).bind fun t589 => (laws_FnTrailFirst.j0 k t580 t582 (!t589) t576 t577)) else (laws_FnTrailFirst.j0 k t580 t582 true t576 t577)))) = some r := H
  have A4 := Aside0.mk A40
  clear A40
  have HC5 := Aside0.mk H
  clear H
  go_enter Try.func8, Try.ntmps8
  go_upto_region 5 with (first | (go_at_call 31; (with_reducible refine (spec_DrawTrailVisits.calls k _ _ l0 t576 t577 t580 _ ?side1 ?side2 A3.out).mono ?_); (case side1 => repeat (first | exact HR0.out | (with_reducible refine Kd.C_alloc ?_ _) | (with_reducible refine Kd.C_drewN ?_ _) | (with_reducible refine Kd.C_drew ?_))); (case side2 => exact HC0.out); rintro e w6 ⟨v578, rfl, ho0, hb⟩; have n0_ := Aside0.mk (Kd.Q_lower ho0 (below_size (by repeat first | exact HB.out | apply below_alloc | apply pw_below_drewN))); have n1_ := Aside0.mk (below_step (by repeat first | exact HB.out | apply below_alloc | apply pw_below_drewN) hb); clear HB; have HO579 := n0_; have HB := n1_; clear n0_ n1_; (try clear hb); (try clear hb2); (try clear hk); (try clear hi); (try clear ho0)) | ((with_reducible refine gate_dst (N := 3) rfl ?_); refine box_event rfl (N := 3) rfl (cs := #[.int .i64 0, .slice none 0 0]) (t := 30) ?hr ?_; (case hr => first | (go_simp; done) | (go_simp; rfl)); intro gb581 hg w7 hbox hb; have n0_ := Aside0.mk (Kd.Q_below (by (with_reducible repeat apply Kd.Q_alloc); exact HO579.out) hb); have n1_ := Aside0.mk (below_step (by repeat first | exact HB.out | apply below_alloc | apply pw_below_drewN) hb); have n2_ := Aside0.mk (hbox); have n3_ := Aside0.mk ((by rw [hg]; exact (below_size (by repeat first | exact HB.out | apply below_alloc | apply pw_below_drewN)) : w.heap.size ≤ gb581)); have n4_ := Aside0.mk ((by rw [hg]; exact (below_size (by repeat first | exact HB.out | apply below_alloc | apply pw_below_drewN)) : w.heap.size ≤ gb581)); clear HO579; clear HB; have HO579 := n0_; have HB := n1_; have BK581 := n2_; have GW581 := n3_; have GE581 := n4_; clear n0_ n1_ n2_ n3_ n4_; clear hb hbox hg; have hcz8_0 : w7.cell? ⟨gb581, 0, none⟩ = some (.int .i64 0) := (blk_cell BK581.out 0).trans rfl; have hcz8_1 : w7.cell? ⟨gb581, 1, none⟩ = some (.slice none 0 0) := (blk_cell BK581.out 1).trans rfl; have hfz8_0 := blk_frozen BK581.out 0; have hfz8_1 := blk_frozen BK581.out 1; obtain ⟨Ao9, co9, eo9, _⟩ := Kd.Q_slice HO579.out; subst eo9) | (go_at_call 20; (with_reducible refine (impl_TrailVisits.calls k t576 _ _ t577 t580 t582 _ ?side1 ?side2 A4.out).mono ?_); (case side1 => refine (Kd.Q_reads' (e := 57) (base := w.heap.size) (ok := fun k_ => True) (n := t577.length) (c := co9) ?_).2.2; exact (by (with_reducible repeat apply Kd.Q_alloc); exact (Kd.Q_mono (Kd.Q_far (p := ⟨gb581, 1, none⟩) (Kd.Q_far (p := ⟨gb581, 0, none⟩) (Kd.Q_types HO579.out BK581.out (by decide)) (fun _ hk => hk.2) (.int .i64 t576)) (fun _ hk => hk.2) (.slice Ao9 t577.length co9)) (fun _ h_ => h_.1)))); (case side2 => exact (Kd.Q_reads' HO579.out).2.1); rintro e w10 ⟨v583, rfl, ho0, hb⟩; have n0_ := Aside0.mk (Kd.Q_below (by (with_reducible repeat apply Kd.Q_alloc); exact (Kd.Q_mono (Kd.Q_far (p := ⟨gb581, 1, none⟩) (Kd.Q_far (p := ⟨gb581, 0, none⟩) (Kd.Q_types HO579.out BK581.out (by decide)) (fun _ hk => hk.2) (.int .i64 t576)) (fun _ hk => hk.2) (.slice Ao9 t577.length co9)) (fun _ h_ => h_.1))) hb); have n1_ := Aside0.mk (Kd.R_lower ho0 (below_size (by repeat first | exact HB.out | with_reducible refine below_setA ?_ ‹_› | apply below_alloc | apply pw_below_drewN))); have n2_ := Aside0.mk (blk_below (g := gb581) (o := .cells #[.int .i64 t576, .slice Ao9 t577.length co9] 30 (0, 0)) (by (with_reducible repeat apply blk_alloc); refine blk_put (cs := #[.int .i64 t576, .slice none 0 0]) ?_ 1 _ rfl; (with_reducible repeat apply blk_alloc); refine blk_put (cs := #[.int .i64 0, .slice none 0 0]) ?_ 0 _ rfl; (with_reducible repeat apply blk_alloc); exact BK581.out) hb); have n3_ := Aside0.mk (below_step (by repeat first | exact HB.out | with_reducible refine below_setA ?_ ‹_› | apply below_alloc | apply pw_below_drewN) hb); clear HO579; clear BK581; clear HB; have HO579 := n0_; have HO584 := n1_; have BK581 := n2_; have HB := n3_; clear n0_ n1_ n2_ n3_; (try clear hb); (try clear hb2); (try clear hk); (try clear hi); (try clear ho0)))
  repeat (go_quiet (first | (go_at_call 31; (with_reducible refine (spec_DrawTrailVisits.calls k _ _ l0 t576 t577 t580 _ ?side1 ?side2 A3.out).mono ?_); (case side1 => repeat (first | exact HR0.out | (with_reducible refine Kd.C_alloc ?_ _) | (with_reducible refine Kd.C_drewN ?_ _) | (with_reducible refine Kd.C_drew ?_))); (case side2 => exact HC0.out); rintro e w6 ⟨v578, rfl, ho0, hb⟩; have n0_ := Aside0.mk (Kd.Q_lower ho0 (below_size (by repeat first | exact HB.out | apply below_alloc | apply pw_below_drewN))); have n1_ := Aside0.mk (below_step (by repeat first | exact HB.out | apply below_alloc | apply pw_below_drewN) hb); clear HB; have HO579 := n0_; have HB := n1_; clear n0_ n1_; (try clear hb); (try clear hb2); (try clear hk); (try clear hi); (try clear ho0)) | ((with_reducible refine gate_dst (N := 3) rfl ?_); refine box_event rfl (N := 3) rfl (cs := #[.int .i64 0, .slice none 0 0]) (t := 30) ?hr ?_; (case hr => first | (go_simp; done) | (go_simp; rfl)); intro gb581 hg w7 hbox hb; have n0_ := Aside0.mk (Kd.Q_below (by (with_reducible repeat apply Kd.Q_alloc); exact HO579.out) hb); have n1_ := Aside0.mk (below_step (by repeat first | exact HB.out | apply below_alloc | apply pw_below_drewN) hb); have n2_ := Aside0.mk (hbox); have n3_ := Aside0.mk ((by rw [hg]; exact (below_size (by repeat first | exact HB.out | apply below_alloc | apply pw_below_drewN)) : w.heap.size ≤ gb581)); have n4_ := Aside0.mk ((by rw [hg]; exact (below_size (by repeat first | exact HB.out | apply below_alloc | apply pw_below_drewN)) : w.heap.size ≤ gb581)); clear HO579; clear HB; have HO579 := n0_; have HB := n1_; have BK581 := n2_; have GW581 := n3_; have GE581 := n4_; clear n0_ n1_ n2_ n3_ n4_; clear hb hbox hg; have hcz8_0 : w7.cell? ⟨gb581, 0, none⟩ = some (.int .i64 0) := (blk_cell BK581.out 0).trans rfl; have hcz8_1 : w7.cell? ⟨gb581, 1, none⟩ = some (.slice none 0 0) := (blk_cell BK581.out 1).trans rfl; have hfz8_0 := blk_frozen BK581.out 0; have hfz8_1 := blk_frozen BK581.out 1; obtain ⟨Ao9, co9, eo9, _⟩ := Kd.Q_slice HO579.out; subst eo9) | (go_at_call 20; (with_reducible refine (impl_TrailVisits.calls k t576 _ _ t577 t580 t582 _ ?side1 ?side2 A4.out).mono ?_); (case side1 => refine (Kd.Q_reads' (e := 57) (base := w.heap.size) (ok := fun k_ => True) (n := t577.length) (c := co9) ?_).2.2; exact (by (with_reducible repeat apply Kd.Q_alloc); exact (Kd.Q_mono (Kd.Q_far (p := ⟨gb581, 1, none⟩) (Kd.Q_far (p := ⟨gb581, 0, none⟩) (Kd.Q_types HO579.out BK581.out (by decide)) (fun _ hk => hk.2) (.int .i64 t576)) (fun _ hk => hk.2) (.slice Ao9 t577.length co9)) (fun _ h_ => h_.1)))); (case side2 => exact (Kd.Q_reads' HO579.out).2.1); rintro e w10 ⟨v583, rfl, ho0, hb⟩; have n0_ := Aside0.mk (Kd.Q_below (by (with_reducible repeat apply Kd.Q_alloc); exact (Kd.Q_mono (Kd.Q_far (p := ⟨gb581, 1, none⟩) (Kd.Q_far (p := ⟨gb581, 0, none⟩) (Kd.Q_types HO579.out BK581.out (by decide)) (fun _ hk => hk.2) (.int .i64 t576)) (fun _ hk => hk.2) (.slice Ao9 t577.length co9)) (fun _ h_ => h_.1))) hb); have n1_ := Aside0.mk (Kd.R_lower ho0 (below_size (by repeat first | exact HB.out | with_reducible refine below_setA ?_ ‹_› | apply below_alloc | apply pw_below_drewN))); have n2_ := Aside0.mk (blk_below (g := gb581) (o := .cells #[.int .i64 t576, .slice Ao9 t577.length co9] 30 (0, 0)) (by (with_reducible repeat apply blk_alloc); refine blk_put (cs := #[.int .i64 t576, .slice none 0 0]) ?_ 1 _ rfl; (with_reducible repeat apply blk_alloc); refine blk_put (cs := #[.int .i64 0, .slice none 0 0]) ?_ 0 _ rfl; (with_reducible repeat apply blk_alloc); exact BK581.out) hb); have n3_ := Aside0.mk (below_step (by repeat first | exact HB.out | with_reducible refine below_setA ?_ ‹_› | apply below_alloc | apply pw_below_drewN) hb); clear HO579; clear BK581; clear HB; have HO579 := n0_; have HO584 := n1_; have BK581 := n2_; have HB := n3_; clear n0_ n1_ n2_ n3_; (try clear hb); (try clear hb2); (try clear hk); (try clear hi); (try clear ho0))); go_upto_region 5 with (first | (go_at_call 31; (with_reducible refine (spec_DrawTrailVisits.calls k _ _ l0 t576 t577 t580 _ ?side1 ?side2 A3.out).mono ?_); (case side1 => repeat (first | exact HR0.out | (with_reducible refine Kd.C_alloc ?_ _) | (with_reducible refine Kd.C_drewN ?_ _) | (with_reducible refine Kd.C_drew ?_))); (case side2 => exact HC0.out); rintro e w6 ⟨v578, rfl, ho0, hb⟩; have n0_ := Aside0.mk (Kd.Q_lower ho0 (below_size (by repeat first | exact HB.out | apply below_alloc | apply pw_below_drewN))); have n1_ := Aside0.mk (below_step (by repeat first | exact HB.out | apply below_alloc | apply pw_below_drewN) hb); clear HB; have HO579 := n0_; have HB := n1_; clear n0_ n1_; (try clear hb); (try clear hb2); (try clear hk); (try clear hi); (try clear ho0)) | ((with_reducible refine gate_dst (N := 3) rfl ?_); refine box_event rfl (N := 3) rfl (cs := #[.int .i64 0, .slice none 0 0]) (t := 30) ?hr ?_; (case hr => first | (go_simp; done) | (go_simp; rfl)); intro gb581 hg w7 hbox hb; have n0_ := Aside0.mk (Kd.Q_below (by (with_reducible repeat apply Kd.Q_alloc); exact HO579.out) hb); have n1_ := Aside0.mk (below_step (by repeat first | exact HB.out | apply below_alloc | apply pw_below_drewN) hb); have n2_ := Aside0.mk (hbox); have n3_ := Aside0.mk ((by rw [hg]; exact (below_size (by repeat first | exact HB.out | apply below_alloc | apply pw_below_drewN)) : w.heap.size ≤ gb581)); have n4_ := Aside0.mk ((by rw [hg]; exact (below_size (by repeat first | exact HB.out | apply below_alloc | apply pw_below_drewN)) : w.heap.size ≤ gb581)); clear HO579; clear HB; have HO579 := n0_; have HB := n1_; have BK581 := n2_; have GW581 := n3_; have GE581 := n4_; clear n0_ n1_ n2_ n3_ n4_; clear hb hbox hg; have hcz8_0 : w7.cell? ⟨gb581, 0, none⟩ = some (.int .i64 0) := (blk_cell BK581.out 0).trans rfl; have hcz8_1 : w7.cell? ⟨gb581, 1, none⟩ = some (.slice none 0 0) := (blk_cell BK581.out 1).trans rfl; have hfz8_0 := blk_frozen BK581.out 0; have hfz8_1 := blk_frozen BK581.out 1; obtain ⟨Ao9, co9, eo9, _⟩ := Kd.Q_slice HO579.out; subst eo9) | (go_at_call 20; (with_reducible refine (impl_TrailVisits.calls k t576 _ _ t577 t580 t582 _ ?side1 ?side2 A4.out).mono ?_); (case side1 => refine (Kd.Q_reads' (e := 57) (base := w.heap.size) (ok := fun k_ => True) (n := t577.length) (c := co9) ?_).2.2; exact (by (with_reducible repeat apply Kd.Q_alloc); exact (Kd.Q_mono (Kd.Q_far (p := ⟨gb581, 1, none⟩) (Kd.Q_far (p := ⟨gb581, 0, none⟩) (Kd.Q_types HO579.out BK581.out (by decide)) (fun _ hk => hk.2) (.int .i64 t576)) (fun _ hk => hk.2) (.slice Ao9 t577.length co9)) (fun _ h_ => h_.1)))); (case side2 => exact (Kd.Q_reads' HO579.out).2.1); rintro e w10 ⟨v583, rfl, ho0, hb⟩; have n0_ := Aside0.mk (Kd.Q_below (by (with_reducible repeat apply Kd.Q_alloc); exact (Kd.Q_mono (Kd.Q_far (p := ⟨gb581, 1, none⟩) (Kd.Q_far (p := ⟨gb581, 0, none⟩) (Kd.Q_types HO579.out BK581.out (by decide)) (fun _ hk => hk.2) (.int .i64 t576)) (fun _ hk => hk.2) (.slice Ao9 t577.length co9)) (fun _ h_ => h_.1))) hb); have n1_ := Aside0.mk (Kd.R_lower ho0 (below_size (by repeat first | exact HB.out | with_reducible refine below_setA ?_ ‹_› | apply below_alloc | apply pw_below_drewN))); have n2_ := Aside0.mk (blk_below (g := gb581) (o := .cells #[.int .i64 t576, .slice Ao9 t577.length co9] 30 (0, 0)) (by (with_reducible repeat apply blk_alloc); refine blk_put (cs := #[.int .i64 t576, .slice none 0 0]) ?_ 1 _ rfl; (with_reducible repeat apply blk_alloc); refine blk_put (cs := #[.int .i64 0, .slice none 0 0]) ?_ 0 _ rfl; (with_reducible repeat apply blk_alloc); exact BK581.out) hb); have n3_ := Aside0.mk (below_step (by repeat first | exact HB.out | with_reducible refine below_setA ?_ ‹_› | apply below_alloc | apply pw_below_drewN) hb); clear HO579; clear BK581; clear HB; have HO579 := n0_; have HO584 := n1_; have BK581 := n2_; have HB := n3_; clear n0_ n1_ n2_ n3_; (try clear hb); (try clear hb2); (try clear hk); (try clear hi); (try clear ho0))))
  (try simp only [Act.put, List.setIfInBounds_toArray, List.set_cons_zero, List.set_cons_succ])
  go_cut [31] (fun v31 wc => ∃ (kq : Nat) (x31_4 : Bool), v31 = .bool x31_4 ∧ Aside0 (laws_FnTrailFirst.j0 kq t580 t582 x31_4 t576 t577 = some r) ∧ Aside0 (kq ≤ k) ∧ Aside0 (Kd.R k55 55 wc w.heap.size (fun _ => True) v583 t582) ∧ Aside0 (Kd.Q k57 57 wc w.heap.size (fun _ => True) (.slice Ao9 t577.length co9) t577) ∧ Aside0 (wc.heap[gb581]? = some (.cells #[.int .i64 t576, (.slice Ao9 t577.length co9)] 30 (0, 0))) ∧ Aside0 (Below w.heap.size w wc))
  case first =>
   have H := HC5.out
   clear HC5
   replace H := Option.bind_eq_some_iff.mp H
   obtain ⟨t585, A110, H⟩ := H
   replace H : ((laws_llVisits.f k t582 t585).bind fun t588 => (if t588 = true then ((laws_llSight.f k t576 t577 t580).bind fun t589 => (laws_FnTrailFirst.j0 k t580 t582 (!t589) t576 t577)) else (laws_FnTrailFirst.j0 k t580 t582 true t576 t577))) = some r := H
   have A11 := Aside0.mk A110
   clear A110
   replace H := Option.bind_eq_some_iff.mp H
   obtain ⟨t588, A120, H⟩ := H
   replace H : (if t588 = true then ((laws_llSight.f k t576 t577 t580).bind fun t589 => (laws_FnTrailFirst.j0 k t580 t582 (!t589) t576 t577)) else (laws_FnTrailFirst.j0 k t580 t582 true t576 t577)) = some r := H
   have A12 := Aside0.mk A120
   clear A120
   by_cases c13 : t588 = true
   ·subst c13
    have H1 : ((laws_llSight.f k t576 t577 t580).bind fun t589 => (laws_FnTrailFirst.j0 k t580 t582 (!t589) t576 t577)) = some r := by rw [if_pos rfl] at H; exact H
    clear H
    have H := H1
    clear H1
    replace H := Option.bind_eq_some_iff.mp H
    obtain ⟨t589, A140, H⟩ := H
    replace H : (laws_FnTrailFirst.j0 k t580 t582 (!t589) t576 t577) = some r := H
    have A14 := Aside0.mk A140
    clear A140
    have H' := Aside0.mk H
    clear H
    have hcz15_0 : w10.cell? ⟨gb581, 0, none⟩ = some (.int .i64 t576) := (blk_cell BK581.out 0).trans rfl
    have hcz15_1 : w10.cell? ⟨gb581, 1, none⟩ = some (.slice Ao9 t577.length co9) := (blk_cell BK581.out 1).trans rfl
    have hfz15_0 := blk_frozen BK581.out 0
    have hfz15_1 := blk_frozen BK581.out 1
    go_wp2_with (first | (go_at_call 19; (with_reducible refine (spec_TrailVisits.calls k t576 _ _ t577 t580 t585 _ ?side1 ?side2 A11.out).mono ?_); (case side1 => repeat (first | exact (Kd.Q_reads' HO579.out).2.2 | (with_reducible refine Kd.C_alloc ?_ _) | (with_reducible refine Kd.C_drewN ?_ _) | (with_reducible refine Kd.C_drew ?_))); (case side2 => exact (Kd.Q_reads' HO579.out).2.1); rintro e w16 ⟨v586, rfl, ho0, hb⟩; have n0_ := Aside0.mk (Kd.Q_below (by (with_reducible repeat apply Kd.Q_alloc); exact HO579.out) hb); have n1_ := Aside0.mk (Kd.R_elder' (kR HO584.out) (Kd.R_base ho0) hb); have n2_ := Aside0.mk (Kd.R_lower (Kd.R_new' ho0 (Kd.R_lt (kR HO584.out))) (below_size (by repeat first | exact HB.out | with_reducible refine below_setA ?_ ‹_› | apply below_alloc | apply pw_below_drewN))); have n3_ := Aside0.mk (blk_below (bK BK581.out) hb); have n4_ := Aside0.mk (below_step (by repeat first | exact HB.out | with_reducible refine below_setA ?_ ‹_› | apply below_alloc | apply pw_below_drewN) hb); clear HO579; clear HO584; clear BK581; clear HB; have HO579 := n0_; have HO584 := n1_; have HO587 := n2_; have BK581 := n3_; have HB := n4_; clear n0_ n1_ n2_ n3_ n4_; (try clear hb); (try clear hb2); (try clear hk); (try clear hi); (try clear ho0); obtain ⟨Ao17, co17, eo17⟩ := Kd.R_slice HO584.out; subst eo17; obtain ⟨Ao18, co18, eo18⟩ := Kd.R_slice HO587.out; subst eo18) | (go_at_call 32; (with_reducible refine (laws_llVisits.calls k _ _ t582 _ _ t585 true _ ?side1 ?side2 ?side3 ?side4 A12.out).mono ?_); (case side1 => repeat (first | exact (Kd.R_reads' HO584.out).2.2 | (with_reducible refine Kd.C_alloc ?_ _) | (with_reducible refine Kd.C_drewN ?_ _) | (with_reducible refine Kd.C_drew ?_))); (case side2 => exact (Kd.R_reads' HO584.out).2.1); (case side3 => repeat (first | exact (Kd.R_reads' HO587.out).2.2 | (with_reducible refine Kd.C_alloc ?_ _) | (with_reducible refine Kd.C_drewN ?_ _) | (with_reducible refine Kd.C_drew ?_))); (case side4 => exact (Kd.R_reads' HO587.out).2.1); rintro e w' ⟨rfl, ⟨nd, rfl⟩⟩; (try first | exact ⟨rfl, _, World.drewN_drewN _ _ _⟩ | exact ⟨rfl, _, Eq.trans (World.drewN_drewN _ _ _) (congrArg (World.drewN _) (Nat.add_assoc _ _ _))⟩); have hcz19_0 : w16.cell? ⟨gb581, 0, none⟩ = some (.int .i64 t576) := (blk_cell BK581.out 0).trans rfl; have hcz19_1 : w16.cell? ⟨gb581, 1, none⟩ = some (.slice Ao9 t577.length co9) := (blk_cell BK581.out 1).trans rfl; have hfz19_0 := blk_frozen BK581.out 0; have hfz19_1 := blk_frozen BK581.out 1) | (go_at_call 30; (with_reducible refine (laws_llSight.calls k t576 _ _ t577 t580 t589 _ ?side1 ?side2 A14.out).mono ?_); (case side1 => repeat (first | exact (Kd.Q_reads' HO579.out).2.2 | (with_reducible refine Kd.C_alloc ?_ _) | (with_reducible refine Kd.C_drewN ?_ _) | (with_reducible refine Kd.C_drew ?_))); (case side2 => exact (Kd.Q_reads' HO579.out).2.1); rintro e w20 ⟨rfl, hb⟩; have n0_ := Aside0.mk (Kd.Q_below (by (with_reducible repeat apply Kd.Q_alloc); exact HO579.out) hb); have n1_ := Aside0.mk (Kd.R_below (kR HO584.out) hb); have n2_ := Aside0.mk (Kd.R_below (kR HO587.out) hb); have n3_ := Aside0.mk (blk_below (bK BK581.out) hb); have n4_ := Aside0.mk (below_step (by repeat first | exact HB.out | with_reducible refine below_setA ?_ ‹_› | apply below_alloc | apply pw_below_drewN) hb); clear HO579; clear HO584; clear HO587; clear BK581; clear HB; have HO579 := n0_; have HO584 := n1_; have HO587 := n2_; have BK581 := n3_; have HB := n4_; clear n0_ n1_ n2_ n3_ n4_; (try clear hb); (try clear hb2); (try clear hk); (try clear hi)))
    repeat (go_quiet (first | (go_at_call 19; (with_reducible refine (spec_TrailVisits.calls k t576 _ _ t577 t580 t585 _ ?side1 ?side2 A11.out).mono ?_); (case side1 => repeat (first | exact (Kd.Q_reads' HO579.out).2.2 | (with_reducible refine Kd.C_alloc ?_ _) | (with_reducible refine Kd.C_drewN ?_ _) | (with_reducible refine Kd.C_drew ?_))); (case side2 => exact (Kd.Q_reads' HO579.out).2.1); rintro e w16 ⟨v586, rfl, ho0, hb⟩; have n0_ := Aside0.mk (Kd.Q_below (by (with_reducible repeat apply Kd.Q_alloc); exact HO579.out) hb); have n1_ := Aside0.mk (Kd.R_elder' (kR HO584.out) (Kd.R_base ho0) hb); have n2_ := Aside0.mk (Kd.R_lower (Kd.R_new' ho0 (Kd.R_lt (kR HO584.out))) (below_size (by repeat first | exact HB.out | with_reducible refine below_setA ?_ ‹_› | apply below_alloc | apply pw_below_drewN))); have n3_ := Aside0.mk (blk_below (bK BK581.out) hb); have n4_ := Aside0.mk (below_step (by repeat first | exact HB.out | with_reducible refine below_setA ?_ ‹_› | apply below_alloc | apply pw_below_drewN) hb); clear HO579; clear HO584; clear BK581; clear HB; have HO579 := n0_; have HO584 := n1_; have HO587 := n2_; have BK581 := n3_; have HB := n4_; clear n0_ n1_ n2_ n3_ n4_; (try clear hb); (try clear hb2); (try clear hk); (try clear hi); (try clear ho0); obtain ⟨Ao17, co17, eo17⟩ := Kd.R_slice HO584.out; subst eo17; obtain ⟨Ao18, co18, eo18⟩ := Kd.R_slice HO587.out; subst eo18) | (go_at_call 32; (with_reducible refine (laws_llVisits.calls k _ _ t582 _ _ t585 true _ ?side1 ?side2 ?side3 ?side4 A12.out).mono ?_); (case side1 => repeat (first | exact (Kd.R_reads' HO584.out).2.2 | (with_reducible refine Kd.C_alloc ?_ _) | (with_reducible refine Kd.C_drewN ?_ _) | (with_reducible refine Kd.C_drew ?_))); (case side2 => exact (Kd.R_reads' HO584.out).2.1); (case side3 => repeat (first | exact (Kd.R_reads' HO587.out).2.2 | (with_reducible refine Kd.C_alloc ?_ _) | (with_reducible refine Kd.C_drewN ?_ _) | (with_reducible refine Kd.C_drew ?_))); (case side4 => exact (Kd.R_reads' HO587.out).2.1); rintro e w' ⟨rfl, ⟨nd, rfl⟩⟩; (try first | exact ⟨rfl, _, World.drewN_drewN _ _ _⟩ | exact ⟨rfl, _, Eq.trans (World.drewN_drewN _ _ _) (congrArg (World.drewN _) (Nat.add_assoc _ _ _))⟩); have hcz19_0 : w16.cell? ⟨gb581, 0, none⟩ = some (.int .i64 t576) := (blk_cell BK581.out 0).trans rfl; have hcz19_1 : w16.cell? ⟨gb581, 1, none⟩ = some (.slice Ao9 t577.length co9) := (blk_cell BK581.out 1).trans rfl; have hfz19_0 := blk_frozen BK581.out 0; have hfz19_1 := blk_frozen BK581.out 1) | (go_at_call 30; (with_reducible refine (laws_llSight.calls k t576 _ _ t577 t580 t589 _ ?side1 ?side2 A14.out).mono ?_); (case side1 => repeat (first | exact (Kd.Q_reads' HO579.out).2.2 | (with_reducible refine Kd.C_alloc ?_ _) | (with_reducible refine Kd.C_drewN ?_ _) | (with_reducible refine Kd.C_drew ?_))); (case side2 => exact (Kd.Q_reads' HO579.out).2.1); rintro e w20 ⟨rfl, hb⟩; have n0_ := Aside0.mk (Kd.Q_below (by (with_reducible repeat apply Kd.Q_alloc); exact HO579.out) hb); have n1_ := Aside0.mk (Kd.R_below (kR HO584.out) hb); have n2_ := Aside0.mk (Kd.R_below (kR HO587.out) hb); have n3_ := Aside0.mk (blk_below (bK BK581.out) hb); have n4_ := Aside0.mk (below_step (by repeat first | exact HB.out | with_reducible refine below_setA ?_ ‹_› | apply below_alloc | apply pw_below_drewN) hb); clear HO579; clear HO584; clear HO587; clear BK581; clear HB; have HO579 := n0_; have HO584 := n1_; have HO587 := n2_; have BK581 := n3_; have HB := n4_; clear n0_ n1_ n2_ n3_ n4_; (try clear hb); (try clear hb2); (try clear hk); (try clear hi))); try go_wp2_with (first | (go_at_call 19; (with_reducible refine (spec_TrailVisits.calls k t576 _ _ t577 t580 t585 _ ?side1 ?side2 A11.out).mono ?_); (case side1 => repeat (first | exact (Kd.Q_reads' HO579.out).2.2 | (with_reducible refine Kd.C_alloc ?_ _) | (with_reducible refine Kd.C_drewN ?_ _) | (with_reducible refine Kd.C_drew ?_))); (case side2 => exact (Kd.Q_reads' HO579.out).2.1); rintro e w16 ⟨v586, rfl, ho0, hb⟩; have n0_ := Aside0.mk (Kd.Q_below (by (with_reducible repeat apply Kd.Q_alloc); exact HO579.out) hb); have n1_ := Aside0.mk (Kd.R_elder' (kR HO584.out) (Kd.R_base ho0) hb); have n2_ := Aside0.mk (Kd.R_lower (Kd.R_new' ho0 (Kd.R_lt (kR HO584.out))) (below_size (by repeat first | exact HB.out | with_reducible refine below_setA ?_ ‹_› | apply below_alloc | apply pw_below_drewN))); have n3_ := Aside0.mk (blk_below (bK BK581.out) hb); have n4_ := Aside0.mk (below_step (by repeat first | exact HB.out | with_reducible refine below_setA ?_ ‹_› | apply below_alloc | apply pw_below_drewN) hb); clear HO579; clear HO584; clear BK581; clear HB; have HO579 := n0_; have HO584 := n1_; have HO587 := n2_; have BK581 := n3_; have HB := n4_; clear n0_ n1_ n2_ n3_ n4_; (try clear hb); (try clear hb2); (try clear hk); (try clear hi); (try clear ho0); obtain ⟨Ao17, co17, eo17⟩ := Kd.R_slice HO584.out; subst eo17; obtain ⟨Ao18, co18, eo18⟩ := Kd.R_slice HO587.out; subst eo18) | (go_at_call 32; (with_reducible refine (laws_llVisits.calls k _ _ t582 _ _ t585 true _ ?side1 ?side2 ?side3 ?side4 A12.out).mono ?_); (case side1 => repeat (first | exact (Kd.R_reads' HO584.out).2.2 | (with_reducible refine Kd.C_alloc ?_ _) | (with_reducible refine Kd.C_drewN ?_ _) | (with_reducible refine Kd.C_drew ?_))); (case side2 => exact (Kd.R_reads' HO584.out).2.1); (case side3 => repeat (first | exact (Kd.R_reads' HO587.out).2.2 | (with_reducible refine Kd.C_alloc ?_ _) | (with_reducible refine Kd.C_drewN ?_ _) | (with_reducible refine Kd.C_drew ?_))); (case side4 => exact (Kd.R_reads' HO587.out).2.1); rintro e w' ⟨rfl, ⟨nd, rfl⟩⟩; (try first | exact ⟨rfl, _, World.drewN_drewN _ _ _⟩ | exact ⟨rfl, _, Eq.trans (World.drewN_drewN _ _ _) (congrArg (World.drewN _) (Nat.add_assoc _ _ _))⟩); have hcz19_0 : w16.cell? ⟨gb581, 0, none⟩ = some (.int .i64 t576) := (blk_cell BK581.out 0).trans rfl; have hcz19_1 : w16.cell? ⟨gb581, 1, none⟩ = some (.slice Ao9 t577.length co9) := (blk_cell BK581.out 1).trans rfl; have hfz19_0 := blk_frozen BK581.out 0; have hfz19_1 := blk_frozen BK581.out 1) | (go_at_call 30; (with_reducible refine (laws_llSight.calls k t576 _ _ t577 t580 t589 _ ?side1 ?side2 A14.out).mono ?_); (case side1 => repeat (first | exact (Kd.Q_reads' HO579.out).2.2 | (with_reducible refine Kd.C_alloc ?_ _) | (with_reducible refine Kd.C_drewN ?_ _) | (with_reducible refine Kd.C_drew ?_))); (case side2 => exact (Kd.Q_reads' HO579.out).2.1); rintro e w20 ⟨rfl, hb⟩; have n0_ := Aside0.mk (Kd.Q_below (by (with_reducible repeat apply Kd.Q_alloc); exact HO579.out) hb); have n1_ := Aside0.mk (Kd.R_below (kR HO584.out) hb); have n2_ := Aside0.mk (Kd.R_below (kR HO587.out) hb); have n3_ := Aside0.mk (blk_below (bK BK581.out) hb); have n4_ := Aside0.mk (below_step (by repeat first | exact HB.out | with_reducible refine below_setA ?_ ‹_› | apply below_alloc | apply pw_below_drewN) hb); clear HO579; clear HO584; clear HO587; clear BK581; clear HB; have HO579 := n0_; have HO584 := n1_; have HO587 := n2_; have BK581 := n3_; have HB := n4_; clear n0_ n1_ n2_ n3_ n4_; (try clear hb); (try clear hb2); (try clear hk); (try clear hi))))
    go_meet
    case rel => exact ⟨_, (!t589), (by first | rfl | (simp; done) | (simp [*]; done)), H', ⟨by first | omega | exact Nat.le_refl _⟩, ⟨by (with_reducible repeat apply Kd.R_alloc); exact Kd.R_mono HO584.out (fun _ hk => trivial)⟩, ⟨by (with_reducible repeat apply Kd.Q_alloc); exact HO579.out⟩, ⟨by (with_reducible repeat apply blk_alloc); exact BK581.out⟩, ⟨by repeat first | exact HB.out | with_reducible refine below_setA ?_ ‹_› | apply below_alloc | apply pw_below_drewN⟩⟩
   ·replace c13 := Bool.eq_false_iff.mpr c13
    subst c13
    have H1 : (laws_FnTrailFirst.j0 k t580 t582 true t576 t577) = some r := by rw [if_neg (show ¬ (false = true) by decide)] at H; exact H
    clear H
    have H := H1
    clear H1
    have H' := Aside0.mk H
    clear H
    have hcz21_0 : w10.cell? ⟨gb581, 0, none⟩ = some (.int .i64 t576) := (blk_cell BK581.out 0).trans rfl
    have hcz21_1 : w10.cell? ⟨gb581, 1, none⟩ = some (.slice Ao9 t577.length co9) := (blk_cell BK581.out 1).trans rfl
    have hfz21_0 := blk_frozen BK581.out 0
    have hfz21_1 := blk_frozen BK581.out 1
    go_wp2_with (first | (go_at_call 19; (with_reducible refine (spec_TrailVisits.calls k t576 _ _ t577 t580 t585 _ ?side1 ?side2 A11.out).mono ?_); (case side1 => repeat (first | exact (Kd.Q_reads' HO579.out).2.2 | (with_reducible refine Kd.C_alloc ?_ _) | (with_reducible refine Kd.C_drewN ?_ _) | (with_reducible refine Kd.C_drew ?_))); (case side2 => exact (Kd.Q_reads' HO579.out).2.1); rintro e w22 ⟨v586, rfl, ho0, hb⟩; have n0_ := Aside0.mk (Kd.Q_below (by (with_reducible repeat apply Kd.Q_alloc); exact HO579.out) hb); have n1_ := Aside0.mk (Kd.R_elder' (kR HO584.out) (Kd.R_base ho0) hb); have n2_ := Aside0.mk (Kd.R_lower (Kd.R_new' ho0 (Kd.R_lt (kR HO584.out))) (below_size (by repeat first | exact HB.out | with_reducible refine below_setA ?_ ‹_› | apply below_alloc | apply pw_below_drewN))); have n3_ := Aside0.mk (blk_below (bK BK581.out) hb); have n4_ := Aside0.mk (below_step (by repeat first | exact HB.out | with_reducible refine below_setA ?_ ‹_› | apply below_alloc | apply pw_below_drewN) hb); clear HO579; clear HO584; clear BK581; clear HB; have HO579 := n0_; have HO584 := n1_; have HO587 := n2_; have BK581 := n3_; have HB := n4_; clear n0_ n1_ n2_ n3_ n4_; (try clear hb); (try clear hb2); (try clear hk); (try clear hi); (try clear ho0); obtain ⟨Ao23, co23, eo23⟩ := Kd.R_slice HO584.out; subst eo23; obtain ⟨Ao24, co24, eo24⟩ := Kd.R_slice HO587.out; subst eo24) | (go_at_call 32; (with_reducible refine (laws_llVisits.calls k _ _ t582 _ _ t585 false _ ?side1 ?side2 ?side3 ?side4 A12.out).mono ?_); (case side1 => repeat (first | exact (Kd.R_reads' HO584.out).2.2 | (with_reducible refine Kd.C_alloc ?_ _) | (with_reducible refine Kd.C_drewN ?_ _) | (with_reducible refine Kd.C_drew ?_))); (case side2 => exact (Kd.R_reads' HO584.out).2.1); (case side3 => repeat (first | exact (Kd.R_reads' HO587.out).2.2 | (with_reducible refine Kd.C_alloc ?_ _) | (with_reducible refine Kd.C_drewN ?_ _) | (with_reducible refine Kd.C_drew ?_))); (case side4 => exact (Kd.R_reads' HO587.out).2.1); rintro e w' ⟨rfl, ⟨nd, rfl⟩⟩; (try first | exact ⟨rfl, _, World.drewN_drewN _ _ _⟩ | exact ⟨rfl, _, Eq.trans (World.drewN_drewN _ _ _) (congrArg (World.drewN _) (Nat.add_assoc _ _ _))⟩)))
    repeat (go_quiet (first | (go_at_call 19; (with_reducible refine (spec_TrailVisits.calls k t576 _ _ t577 t580 t585 _ ?side1 ?side2 A11.out).mono ?_); (case side1 => repeat (first | exact (Kd.Q_reads' HO579.out).2.2 | (with_reducible refine Kd.C_alloc ?_ _) | (with_reducible refine Kd.C_drewN ?_ _) | (with_reducible refine Kd.C_drew ?_))); (case side2 => exact (Kd.Q_reads' HO579.out).2.1); rintro e w22 ⟨v586, rfl, ho0, hb⟩; have n0_ := Aside0.mk (Kd.Q_below (by (with_reducible repeat apply Kd.Q_alloc); exact HO579.out) hb); have n1_ := Aside0.mk (Kd.R_elder' (kR HO584.out) (Kd.R_base ho0) hb); have n2_ := Aside0.mk (Kd.R_lower (Kd.R_new' ho0 (Kd.R_lt (kR HO584.out))) (below_size (by repeat first | exact HB.out | with_reducible refine below_setA ?_ ‹_› | apply below_alloc | apply pw_below_drewN))); have n3_ := Aside0.mk (blk_below (bK BK581.out) hb); have n4_ := Aside0.mk (below_step (by repeat first | exact HB.out | with_reducible refine below_setA ?_ ‹_› | apply below_alloc | apply pw_below_drewN) hb); clear HO579; clear HO584; clear BK581; clear HB; have HO579 := n0_; have HO584 := n1_; have HO587 := n2_; have BK581 := n3_; have HB := n4_; clear n0_ n1_ n2_ n3_ n4_; (try clear hb); (try clear hb2); (try clear hk); (try clear hi); (try clear ho0); obtain ⟨Ao23, co23, eo23⟩ := Kd.R_slice HO584.out; subst eo23; obtain ⟨Ao24, co24, eo24⟩ := Kd.R_slice HO587.out; subst eo24) | (go_at_call 32; (with_reducible refine (laws_llVisits.calls k _ _ t582 _ _ t585 false _ ?side1 ?side2 ?side3 ?side4 A12.out).mono ?_); (case side1 => repeat (first | exact (Kd.R_reads' HO584.out).2.2 | (with_reducible refine Kd.C_alloc ?_ _) | (with_reducible refine Kd.C_drewN ?_ _) | (with_reducible refine Kd.C_drew ?_))); (case side2 => exact (Kd.R_reads' HO584.out).2.1); (case side3 => repeat (first | exact (Kd.R_reads' HO587.out).2.2 | (with_reducible refine Kd.C_alloc ?_ _) | (with_reducible refine Kd.C_drewN ?_ _) | (with_reducible refine Kd.C_drew ?_))); (case side4 => exact (Kd.R_reads' HO587.out).2.1); rintro e w' ⟨rfl, ⟨nd, rfl⟩⟩; (try first | exact ⟨rfl, _, World.drewN_drewN _ _ _⟩ | exact ⟨rfl, _, Eq.trans (World.drewN_drewN _ _ _) (congrArg (World.drewN _) (Nat.add_assoc _ _ _))⟩))); try go_wp2_with (first | (go_at_call 19; (with_reducible refine (spec_TrailVisits.calls k t576 _ _ t577 t580 t585 _ ?side1 ?side2 A11.out).mono ?_); (case side1 => repeat (first | exact (Kd.Q_reads' HO579.out).2.2 | (with_reducible refine Kd.C_alloc ?_ _) | (with_reducible refine Kd.C_drewN ?_ _) | (with_reducible refine Kd.C_drew ?_))); (case side2 => exact (Kd.Q_reads' HO579.out).2.1); rintro e w22 ⟨v586, rfl, ho0, hb⟩; have n0_ := Aside0.mk (Kd.Q_below (by (with_reducible repeat apply Kd.Q_alloc); exact HO579.out) hb); have n1_ := Aside0.mk (Kd.R_elder' (kR HO584.out) (Kd.R_base ho0) hb); have n2_ := Aside0.mk (Kd.R_lower (Kd.R_new' ho0 (Kd.R_lt (kR HO584.out))) (below_size (by repeat first | exact HB.out | with_reducible refine below_setA ?_ ‹_› | apply below_alloc | apply pw_below_drewN))); have n3_ := Aside0.mk (blk_below (bK BK581.out) hb); have n4_ := Aside0.mk (below_step (by repeat first | exact HB.out | with_reducible refine below_setA ?_ ‹_› | apply below_alloc | apply pw_below_drewN) hb); clear HO579; clear HO584; clear BK581; clear HB; have HO579 := n0_; have HO584 := n1_; have HO587 := n2_; have BK581 := n3_; have HB := n4_; clear n0_ n1_ n2_ n3_ n4_; (try clear hb); (try clear hb2); (try clear hk); (try clear hi); (try clear ho0); obtain ⟨Ao23, co23, eo23⟩ := Kd.R_slice HO584.out; subst eo23; obtain ⟨Ao24, co24, eo24⟩ := Kd.R_slice HO587.out; subst eo24) | (go_at_call 32; (with_reducible refine (laws_llVisits.calls k _ _ t582 _ _ t585 false _ ?side1 ?side2 ?side3 ?side4 A12.out).mono ?_); (case side1 => repeat (first | exact (Kd.R_reads' HO584.out).2.2 | (with_reducible refine Kd.C_alloc ?_ _) | (with_reducible refine Kd.C_drewN ?_ _) | (with_reducible refine Kd.C_drew ?_))); (case side2 => exact (Kd.R_reads' HO584.out).2.1); (case side3 => repeat (first | exact (Kd.R_reads' HO587.out).2.2 | (with_reducible refine Kd.C_alloc ?_ _) | (with_reducible refine Kd.C_drewN ?_ _) | (with_reducible refine Kd.C_drew ?_))); (case side4 => exact (Kd.R_reads' HO587.out).2.1); rintro e w' ⟨rfl, ⟨nd, rfl⟩⟩; (try first | exact ⟨rfl, _, World.drewN_drewN _ _ _⟩ | exact ⟨rfl, _, Eq.trans (World.drewN_drewN _ _ _) (congrArg (World.drewN _) (Nat.add_assoc _ _ _))⟩))))
    go_meet
    case rel => exact ⟨_, (true), (by first | rfl | (simp; done) | (simp [*]; done)), H', ⟨by first | omega | exact Nat.le_refl _⟩, ⟨by (with_reducible repeat apply Kd.R_alloc); exact Kd.R_mono HO584.out (fun _ hk => trivial)⟩, ⟨by (with_reducible repeat apply Kd.Q_alloc); exact HO579.out⟩, ⟨by (with_reducible repeat apply blk_alloc); exact BK581.out⟩, ⟨by repeat first | exact HB.out | with_reducible refine below_setA ?_ ‹_› | apply below_alloc | apply pw_below_drewN⟩⟩
  case rest =>
   clear HC5
   try clear c1
   try clear c2
   try clear c2b0
   try clear c2b1
   try clear p2
   try clear c8
   try clear c13
   try clear hcz15_0
   try clear hcz15_1
   try clear hcz19_0
   try clear hcz19_1
   try clear hcz21_0
   try clear hcz21_1
   try clear hcz8_0
   try clear hcz8_1
   try clear hfz15_0
   try clear hfz15_1
   try clear hfz19_0
   try clear hfz19_1
   try clear hfz21_0
   try clear hfz21_1
   try clear hfz8_0
   try clear hfz8_1
   obtain ⟨kq, x31_4, rfl, HA, HJ4, HO_5, HO_582001, BK581, HB⟩ := hcut
   cases kq with
   | zero => exact absurd HA.out (by simp [laws_FnTrailFirst.j0])
   | succ kj4 =>
    have H := HA.out
    clear HA
    simp only [laws_FnTrailFirst.j0] at H
    by_cases c25 : x31_4 = true
    ·subst c25
     have H1 : ((spec_TrailVisits.f kj4 t576 t577 t580).bind fun t590 => ((laws_llVisits.f kj4 t582 t590).bind fun t593 => (some t593))) = some r := by rw [if_pos rfl] at H; exact H
     clear H
     have H := H1
     clear H1
     replace H := Option.bind_eq_some_iff.mp H
     obtain ⟨t590, A260, H⟩ := H
     replace H : ((laws_llVisits.f kj4 t582 t590).bind fun t593 => (some t593)) = some r := H
     have A26 := Aside0.mk A260
     clear A260
     replace H := Option.bind_eq_some_iff.mp H
     obtain ⟨t593, A270, H⟩ := H
     replace H : (some t593) = some r := H
     have A27 := Aside0.mk A270
     clear A270
     obtain rfl := Option.some.inj H
     have hcz28_0 : wc.cell? ⟨gb581, 0, none⟩ = some (.int .i64 t576) := (blk_cell BK581.out 0).trans rfl
     have hcz28_1 : wc.cell? ⟨gb581, 1, none⟩ = some (.slice Ao9 t577.length co9) := (blk_cell BK581.out 1).trans rfl
     have hfz28_0 := blk_frozen BK581.out 0
     have hfz28_1 := blk_frozen BK581.out 1
     go_wp2_with (first | (go_at_call 19; (with_reducible refine (spec_TrailVisits.calls kj4 t576 _ _ t577 t580 t590 _ ?side1 ?side2 A26.out).mono ?_); (case side1 => repeat (first | exact (Kd.Q_reads' HO_582001.out).2.2 | (with_reducible refine Kd.C_alloc ?_ _) | (with_reducible refine Kd.C_drewN ?_ _) | (with_reducible refine Kd.C_drew ?_))); (case side2 => exact (Kd.Q_reads' HO_582001.out).2.1); rintro e w29 ⟨v591, rfl, ho0, hb⟩; have n0_ := Aside0.mk (Kd.R_elder' (kR HO_5.out) (Kd.R_base ho0) hb); have n1_ := Aside0.mk (Kd.Q_below (by (with_reducible repeat apply Kd.Q_alloc); exact HO_582001.out) hb); have n2_ := Aside0.mk (Kd.R_lower (Kd.R_new' ho0 (Kd.R_lt (kR HO_5.out))) (below_size (by repeat first | exact HB.out | with_reducible refine below_setA ?_ ‹_› | apply below_alloc | apply pw_below_drewN))); have n3_ := Aside0.mk (blk_below (bK BK581.out) hb); have n4_ := Aside0.mk (below_step (by repeat first | exact HB.out | with_reducible refine below_setA ?_ ‹_› | apply below_alloc | apply pw_below_drewN) hb); clear HO_5; clear HO_582001; clear BK581; clear HB; have HO_5 := n0_; have HO_582001 := n1_; have HO592 := n2_; have BK581 := n3_; have HB := n4_; clear n0_ n1_ n2_ n3_ n4_; (try clear hb); (try clear hb2); (try clear hk); (try clear hi); (try clear ho0); obtain ⟨Ao30, co30, eo30⟩ := Kd.R_slice HO_5.out; subst eo30; obtain ⟨Ao31, co31, eo31⟩ := Kd.R_slice HO592.out; subst eo31) | (go_at_call 32; (with_reducible refine (laws_llVisits.calls kj4 _ _ t582 _ _ t590 t593 _ ?side1 ?side2 ?side3 ?side4 A27.out).mono ?_); (case side1 => repeat (first | exact (Kd.R_reads' HO_5.out).2.2 | (with_reducible refine Kd.C_alloc ?_ _) | (with_reducible refine Kd.C_drewN ?_ _) | (with_reducible refine Kd.C_drew ?_))); (case side2 => exact (Kd.R_reads' HO_5.out).2.1); (case side3 => repeat (first | exact (Kd.R_reads' HO592.out).2.2 | (with_reducible refine Kd.C_alloc ?_ _) | (with_reducible refine Kd.C_drewN ?_ _) | (with_reducible refine Kd.C_drew ?_))); (case side4 => exact (Kd.R_reads' HO592.out).2.1); rintro e w' ⟨rfl, ⟨nd, rfl⟩⟩; (try first | exact ⟨rfl, _, World.drewN_drewN _ _ _⟩ | exact ⟨rfl, _, Eq.trans (World.drewN_drewN _ _ _) (congrArg (World.drewN _) (Nat.add_assoc _ _ _))⟩)))
     repeat (go_quiet (first | (go_at_call 19; (with_reducible refine (spec_TrailVisits.calls kj4 t576 _ _ t577 t580 t590 _ ?side1 ?side2 A26.out).mono ?_); (case side1 => repeat (first | exact (Kd.Q_reads' HO_582001.out).2.2 | (with_reducible refine Kd.C_alloc ?_ _) | (with_reducible refine Kd.C_drewN ?_ _) | (with_reducible refine Kd.C_drew ?_))); (case side2 => exact (Kd.Q_reads' HO_582001.out).2.1); rintro e w29 ⟨v591, rfl, ho0, hb⟩; have n0_ := Aside0.mk (Kd.R_elder' (kR HO_5.out) (Kd.R_base ho0) hb); have n1_ := Aside0.mk (Kd.Q_below (by (with_reducible repeat apply Kd.Q_alloc); exact HO_582001.out) hb); have n2_ := Aside0.mk (Kd.R_lower (Kd.R_new' ho0 (Kd.R_lt (kR HO_5.out))) (below_size (by repeat first | exact HB.out | with_reducible refine below_setA ?_ ‹_› | apply below_alloc | apply pw_below_drewN))); have n3_ := Aside0.mk (blk_below (bK BK581.out) hb); have n4_ := Aside0.mk (below_step (by repeat first | exact HB.out | with_reducible refine below_setA ?_ ‹_› | apply below_alloc | apply pw_below_drewN) hb); clear HO_5; clear HO_582001; clear BK581; clear HB; have HO_5 := n0_; have HO_582001 := n1_; have HO592 := n2_; have BK581 := n3_; have HB := n4_; clear n0_ n1_ n2_ n3_ n4_; (try clear hb); (try clear hb2); (try clear hk); (try clear hi); (try clear ho0); obtain ⟨Ao30, co30, eo30⟩ := Kd.R_slice HO_5.out; subst eo30; obtain ⟨Ao31, co31, eo31⟩ := Kd.R_slice HO592.out; subst eo31) | (go_at_call 32; (with_reducible refine (laws_llVisits.calls kj4 _ _ t582 _ _ t590 t593 _ ?side1 ?side2 ?side3 ?side4 A27.out).mono ?_); (case side1 => repeat (first | exact (Kd.R_reads' HO_5.out).2.2 | (with_reducible refine Kd.C_alloc ?_ _) | (with_reducible refine Kd.C_drewN ?_ _) | (with_reducible refine Kd.C_drew ?_))); (case side2 => exact (Kd.R_reads' HO_5.out).2.1); (case side3 => repeat (first | exact (Kd.R_reads' HO592.out).2.2 | (with_reducible refine Kd.C_alloc ?_ _) | (with_reducible refine Kd.C_drewN ?_ _) | (with_reducible refine Kd.C_drew ?_))); (case side4 => exact (Kd.R_reads' HO592.out).2.1); rintro e w' ⟨rfl, ⟨nd, rfl⟩⟩; (try first | exact ⟨rfl, _, World.drewN_drewN _ _ _⟩ | exact ⟨rfl, _, Eq.trans (World.drewN_drewN _ _ _) (congrArg (World.drewN _) (Nat.add_assoc _ _ _))⟩))); try go_wp2_with (first | (go_at_call 19; (with_reducible refine (spec_TrailVisits.calls kj4 t576 _ _ t577 t580 t590 _ ?side1 ?side2 A26.out).mono ?_); (case side1 => repeat (first | exact (Kd.Q_reads' HO_582001.out).2.2 | (with_reducible refine Kd.C_alloc ?_ _) | (with_reducible refine Kd.C_drewN ?_ _) | (with_reducible refine Kd.C_drew ?_))); (case side2 => exact (Kd.Q_reads' HO_582001.out).2.1); rintro e w29 ⟨v591, rfl, ho0, hb⟩; have n0_ := Aside0.mk (Kd.R_elder' (kR HO_5.out) (Kd.R_base ho0) hb); have n1_ := Aside0.mk (Kd.Q_below (by (with_reducible repeat apply Kd.Q_alloc); exact HO_582001.out) hb); have n2_ := Aside0.mk (Kd.R_lower (Kd.R_new' ho0 (Kd.R_lt (kR HO_5.out))) (below_size (by repeat first | exact HB.out | with_reducible refine below_setA ?_ ‹_› | apply below_alloc | apply pw_below_drewN))); have n3_ := Aside0.mk (blk_below (bK BK581.out) hb); have n4_ := Aside0.mk (below_step (by repeat first | exact HB.out | with_reducible refine below_setA ?_ ‹_› | apply below_alloc | apply pw_below_drewN) hb); clear HO_5; clear HO_582001; clear BK581; clear HB; have HO_5 := n0_; have HO_582001 := n1_; have HO592 := n2_; have BK581 := n3_; have HB := n4_; clear n0_ n1_ n2_ n3_ n4_; (try clear hb); (try clear hb2); (try clear hk); (try clear hi); (try clear ho0); obtain ⟨Ao30, co30, eo30⟩ := Kd.R_slice HO_5.out; subst eo30; obtain ⟨Ao31, co31, eo31⟩ := Kd.R_slice HO592.out; subst eo31) | (go_at_call 32; (with_reducible refine (laws_llVisits.calls kj4 _ _ t582 _ _ t590 t593 _ ?side1 ?side2 ?side3 ?side4 A27.out).mono ?_); (case side1 => repeat (first | exact (Kd.R_reads' HO_5.out).2.2 | (with_reducible refine Kd.C_alloc ?_ _) | (with_reducible refine Kd.C_drewN ?_ _) | (with_reducible refine Kd.C_drew ?_))); (case side2 => exact (Kd.R_reads' HO_5.out).2.1); (case side3 => repeat (first | exact (Kd.R_reads' HO592.out).2.2 | (with_reducible refine Kd.C_alloc ?_ _) | (with_reducible refine Kd.C_drewN ?_ _) | (with_reducible refine Kd.C_drew ?_))); (case side4 => exact (Kd.R_reads' HO592.out).2.1); rintro e w' ⟨rfl, ⟨nd, rfl⟩⟩; (try first | exact ⟨rfl, _, World.drewN_drewN _ _ _⟩ | exact ⟨rfl, _, Eq.trans (World.drewN_drewN _ _ _) (congrArg (World.drewN _) (Nat.add_assoc _ _ _))⟩))))
     go_ret
     exact ⟨by first | rfl | (simp [errW_none, errW_some] <;> rfl) | (simp [*, errW_none, errW_some] <;> rfl) | (exfalso; simp_all; done), by repeat first | exact HB.out | with_reducible refine below_setA ?_ ‹_› | apply below_alloc | apply pw_below_drewN⟩
    ·replace c25 := Bool.eq_false_iff.mpr c25
     subst c25
     have H1 : ((impl_SightRay.f kj4 t576 t577 t580).bind fun bt594 => (laws_FnTrailFirst.l0 kj4 t582 bt594.2.2 0 bt594.1 bt594.2.1)) = some r := by rw [if_neg (show ¬ (false = true) by decide)] at H; exact H
     clear H
     have H := H1
     clear H1
     replace H := Option.bind_eq_some_iff.mp H
     obtain ⟨⟨t594, t595, t596⟩, A320, H⟩ := H
     replace H : (laws_FnTrailFirst.l0 kj4 t582 t596 0 t594 t595) = some r := H
     have A32 := Aside0.mk A320
     clear A320
     have H' := Aside0.mk H
     clear H
     have hcz33_0 : wc.cell? ⟨gb581, 0, none⟩ = some (.int .i64 t576) := (blk_cell BK581.out 0).trans rfl
     have hcz33_1 : wc.cell? ⟨gb581, 1, none⟩ = some (.slice Ao9 t577.length co9) := (blk_cell BK581.out 1).trans rfl
     have hfz33_0 := blk_frozen BK581.out 0
     have hfz33_1 := blk_frozen BK581.out 1
     go_wp2_with (first | (go_at_call 33; (with_reducible refine (impl_SightRay.calls kj4 t576 _ _ t577 t580 t594 t595 t596 _ ?side1 ?side2 A32.out).mono ?_); (case side1 => repeat (first | exact (Kd.Q_reads' HO_582001.out).2.2 | (with_reducible refine Kd.C_alloc ?_ _) | (with_reducible refine Kd.C_drewN ?_ _) | (with_reducible refine Kd.C_drew ?_))); (case side2 => exact (Kd.Q_reads' HO_582001.out).2.1); rintro e w34 ⟨rfl, hb⟩; have n0_ := Aside0.mk (Kd.R_below (kR HO_5.out) hb); have n1_ := Aside0.mk (Kd.Q_below (by (with_reducible repeat apply Kd.Q_alloc); exact HO_582001.out) hb); have n2_ := Aside0.mk (blk_below (bK BK581.out) hb); have n3_ := Aside0.mk (below_step (by repeat first | exact HB.out | with_reducible refine below_setA ?_ ‹_› | apply below_alloc | apply pw_below_drewN) hb); clear HO_5; clear HO_582001; clear BK581; clear HB; have HO_5 := n0_; have HO_582001 := n1_; have BK581 := n2_; have HB := n3_; clear n0_ n1_ n2_ n3_; (try clear hb); (try clear hb2); (try clear hk); (try clear hi)) | ((with_reducible refine gate_dst (N := 6) rfl ?_); refine box_event rfl (N := 6) rfl (cs := #[.int .i64 0, .int .i64 0]) (t := 51) ?hr ?_; (case hr => first | (go_simp; done) | (go_simp; rfl)); intro gb597 hg w35 hbox hb; have n0_ := Aside0.mk (Kd.R_below (kR HO_5.out) hb); have n1_ := Aside0.mk (Kd.Q_below (by (with_reducible repeat apply Kd.Q_alloc); exact HO_582001.out) hb); have n2_ := Aside0.mk (blk_below (bK BK581.out) hb); have n3_ := Aside0.mk (below_step (by repeat first | exact HB.out | with_reducible refine below_setA ?_ ‹_› | apply below_alloc | apply pw_below_drewN) hb); have n4_ := Aside0.mk (hbox); have n5_ := Aside0.mk ((by rw [hg]; exact (below_size (by repeat first | exact HB.out | with_reducible refine below_setA ?_ ‹_› | apply below_alloc | apply pw_below_drewN)) : w.heap.size ≤ gb597)); have n6_ := Aside0.mk ((by rw [hg]; exact (below_size (by repeat first | exact HB.out | with_reducible refine below_setA ?_ ‹_› | apply below_alloc | apply pw_below_drewN)) : w.heap.size ≤ gb597)); have n7_ := Aside0.mk ((by rw [hg]; exact Nat.ne_of_lt (blk_lt (bK BK581.out)) : gb581 ≠ gb597)); have n8_ := Aside0.mk ((by rw [hg]; exact Nat.ne_of_gt (blk_lt (bK BK581.out)) : gb597 ≠ gb581)); clear HO_5; clear HO_582001; clear BK581; clear HB; have HO_5 := n0_; have HO_582001 := n1_; have BK581 := n2_; have HB := n3_; have BK597 := n4_; have GW597 := n5_; have GE597 := n6_; have NB581_597 := n7_; have NB597_581 := n8_; clear n0_ n1_ n2_ n3_ n4_ n5_ n6_ n7_ n8_; clear hb hbox hg; have hnb36 := NB597_581.out; have hnc36 := NB581_597.out; have hcz37_0 : w35.cell? ⟨gb597, 0, none⟩ = some (.int .i64 0) := (blk_cell BK597.out 0).trans rfl; have hcz37_1 : w35.cell? ⟨gb597, 1, none⟩ = some (.int .i64 0) := (blk_cell BK597.out 1).trans rfl; have hfz37_0 := blk_frozen BK597.out 0; have hfz37_1 := blk_frozen BK597.out 1))
     repeat (go_quiet (first | (go_at_call 33; (with_reducible refine (impl_SightRay.calls kj4 t576 _ _ t577 t580 t594 t595 t596 _ ?side1 ?side2 A32.out).mono ?_); (case side1 => repeat (first | exact (Kd.Q_reads' HO_582001.out).2.2 | (with_reducible refine Kd.C_alloc ?_ _) | (with_reducible refine Kd.C_drewN ?_ _) | (with_reducible refine Kd.C_drew ?_))); (case side2 => exact (Kd.Q_reads' HO_582001.out).2.1); rintro e w34 ⟨rfl, hb⟩; have n0_ := Aside0.mk (Kd.R_below (kR HO_5.out) hb); have n1_ := Aside0.mk (Kd.Q_below (by (with_reducible repeat apply Kd.Q_alloc); exact HO_582001.out) hb); have n2_ := Aside0.mk (blk_below (bK BK581.out) hb); have n3_ := Aside0.mk (below_step (by repeat first | exact HB.out | with_reducible refine below_setA ?_ ‹_› | apply below_alloc | apply pw_below_drewN) hb); clear HO_5; clear HO_582001; clear BK581; clear HB; have HO_5 := n0_; have HO_582001 := n1_; have BK581 := n2_; have HB := n3_; clear n0_ n1_ n2_ n3_; (try clear hb); (try clear hb2); (try clear hk); (try clear hi)) | ((with_reducible refine gate_dst (N := 6) rfl ?_); refine box_event rfl (N := 6) rfl (cs := #[.int .i64 0, .int .i64 0]) (t := 51) ?hr ?_; (case hr => first | (go_simp; done) | (go_simp; rfl)); intro gb597 hg w35 hbox hb; have n0_ := Aside0.mk (Kd.R_below (kR HO_5.out) hb); have n1_ := Aside0.mk (Kd.Q_below (by (with_reducible repeat apply Kd.Q_alloc); exact HO_582001.out) hb); have n2_ := Aside0.mk (blk_below (bK BK581.out) hb); have n3_ := Aside0.mk (below_step (by repeat first | exact HB.out | with_reducible refine below_setA ?_ ‹_› | apply below_alloc | apply pw_below_drewN) hb); have n4_ := Aside0.mk (hbox); have n5_ := Aside0.mk ((by rw [hg]; exact (below_size (by repeat first | exact HB.out | with_reducible refine below_setA ?_ ‹_› | apply below_alloc | apply pw_below_drewN)) : w.heap.size ≤ gb597)); have n6_ := Aside0.mk ((by rw [hg]; exact (below_size (by repeat first | exact HB.out | with_reducible refine below_setA ?_ ‹_› | apply below_alloc | apply pw_below_drewN)) : w.heap.size ≤ gb597)); have n7_ := Aside0.mk ((by rw [hg]; exact Nat.ne_of_lt (blk_lt (bK BK581.out)) : gb581 ≠ gb597)); have n8_ := Aside0.mk ((by rw [hg]; exact Nat.ne_of_gt (blk_lt (bK BK581.out)) : gb597 ≠ gb581)); clear HO_5; clear HO_582001; clear BK581; clear HB; have HO_5 := n0_; have HO_582001 := n1_; have BK581 := n2_; have HB := n3_; have BK597 := n4_; have GW597 := n5_; have GE597 := n6_; have NB581_597 := n7_; have NB597_581 := n8_; clear n0_ n1_ n2_ n3_ n4_ n5_ n6_ n7_ n8_; clear hb hbox hg; have hnb36 := NB597_581.out; have hnc36 := NB581_597.out; have hcz37_0 : w35.cell? ⟨gb597, 0, none⟩ = some (.int .i64 0) := (blk_cell BK597.out 0).trans rfl; have hcz37_1 : w35.cell? ⟨gb597, 1, none⟩ = some (.int .i64 0) := (blk_cell BK597.out 1).trans rfl; have hfz37_0 := blk_frozen BK597.out 0; have hfz37_1 := blk_frozen BK597.out 1)); try go_wp2_with (first | (go_at_call 33; (with_reducible refine (impl_SightRay.calls kj4 t576 _ _ t577 t580 t594 t595 t596 _ ?side1 ?side2 A32.out).mono ?_); (case side1 => repeat (first | exact (Kd.Q_reads' HO_582001.out).2.2 | (with_reducible refine Kd.C_alloc ?_ _) | (with_reducible refine Kd.C_drewN ?_ _) | (with_reducible refine Kd.C_drew ?_))); (case side2 => exact (Kd.Q_reads' HO_582001.out).2.1); rintro e w34 ⟨rfl, hb⟩; have n0_ := Aside0.mk (Kd.R_below (kR HO_5.out) hb); have n1_ := Aside0.mk (Kd.Q_below (by (with_reducible repeat apply Kd.Q_alloc); exact HO_582001.out) hb); have n2_ := Aside0.mk (blk_below (bK BK581.out) hb); have n3_ := Aside0.mk (below_step (by repeat first | exact HB.out | with_reducible refine below_setA ?_ ‹_› | apply below_alloc | apply pw_below_drewN) hb); clear HO_5; clear HO_582001; clear BK581; clear HB; have HO_5 := n0_; have HO_582001 := n1_; have BK581 := n2_; have HB := n3_; clear n0_ n1_ n2_ n3_; (try clear hb); (try clear hb2); (try clear hk); (try clear hi)) | ((with_reducible refine gate_dst (N := 6) rfl ?_); refine box_event rfl (N := 6) rfl (cs := #[.int .i64 0, .int .i64 0]) (t := 51) ?hr ?_; (case hr => first | (go_simp; done) | (go_simp; rfl)); intro gb597 hg w35 hbox hb; have n0_ := Aside0.mk (Kd.R_below (kR HO_5.out) hb); have n1_ := Aside0.mk (Kd.Q_below (by (with_reducible repeat apply Kd.Q_alloc); exact HO_582001.out) hb); have n2_ := Aside0.mk (blk_below (bK BK581.out) hb); have n3_ := Aside0.mk (below_step (by repeat first | exact HB.out | with_reducible refine below_setA ?_ ‹_› | apply below_alloc | apply pw_below_drewN) hb); have n4_ := Aside0.mk (hbox); have n5_ := Aside0.mk ((by rw [hg]; exact (below_size (by repeat first | exact HB.out | with_reducible refine below_setA ?_ ‹_› | apply below_alloc | apply pw_below_drewN)) : w.heap.size ≤ gb597)); have n6_ := Aside0.mk ((by rw [hg]; exact (below_size (by repeat first | exact HB.out | with_reducible refine below_setA ?_ ‹_› | apply below_alloc | apply pw_below_drewN)) : w.heap.size ≤ gb597)); have n7_ := Aside0.mk ((by rw [hg]; exact Nat.ne_of_lt (blk_lt (bK BK581.out)) : gb581 ≠ gb597)); have n8_ := Aside0.mk ((by rw [hg]; exact Nat.ne_of_gt (blk_lt (bK BK581.out)) : gb597 ≠ gb581)); clear HO_5; clear HO_582001; clear BK581; clear HB; have HO_5 := n0_; have HO_582001 := n1_; have BK581 := n2_; have HB := n3_; have BK597 := n4_; have GW597 := n5_; have GE597 := n6_; have NB581_597 := n7_; have NB597_581 := n8_; clear n0_ n1_ n2_ n3_ n4_ n5_ n6_ n7_ n8_; clear hb hbox hg; have hnb36 := NB597_581.out; have hnc36 := NB581_597.out; have hcz37_0 : w35.cell? ⟨gb597, 0, none⟩ = some (.int .i64 0) := (blk_cell BK597.out 0).trans rfl; have hcz37_1 : w35.cell? ⟨gb597, 1, none⟩ = some (.int .i64 0) := (blk_cell BK597.out 1).trans rfl; have hfz37_0 := blk_frozen BK597.out 0; have hfz37_1 := blk_frozen BK597.out 1)))
     go_loopg [8] kj4 (fun kq v8 w' => ∃ (x8_2 : Int), v8 = .int .i64 x8_2 ∧ Aside0 (laws_FnTrailFirst.l0 kq t582 t596 x8_2 t594 t595 = some r) ∧ Aside0 (kq ≤ kj4) ∧ Aside0 (Kd.R k55 55 w' w.heap.size (fun _ => True) v583 t582) ∧ Aside0 (Kd.Q k57 57 w' w.heap.size (fun _ => True) (.slice Ao9 t577.length co9) t577) ∧ Aside0 (w'.heap[gb581]? = some (.cells #[.int .i64 t576, (.slice Ao9 t577.length co9)] 30 (0, 0))) ∧ Aside0 (w'.heap[gb597]? = some (.cells #[.int .i64 t594, .int .i64 t595] 51 (0, 0))) ∧ Aside0 (Below w.heap.size w w'))
     case atStart => exact ⟨(0), (by first | rfl | (simp; done) | (simp [*]; done)), H', ⟨Nat.le_refl _⟩, ⟨by (with_reducible repeat apply Kd.R_alloc); exact Kd.R_mono (Kd.R_far (p := ⟨gb597, 1, none⟩) (Kd.R_far (p := ⟨gb597, 0, none⟩) (Kd.R_types HO_5.out BK597.out (by decide)) (fun _ hk => hk.2) (.int .i64 t594)) (fun _ hk => hk.2) (.int .i64 t595)) (fun _ hk => trivial)⟩, ⟨by (with_reducible repeat apply Kd.Q_alloc); exact Kd.Q_mono (Kd.Q_far (p := ⟨gb597, 1, none⟩) (Kd.Q_far (p := ⟨gb597, 0, none⟩) (Kd.Q_types HO_582001.out BK597.out (by decide)) (fun _ hk => hk.2) (.int .i64 t594)) (fun _ hk => hk.2) (.int .i64 t595)) (fun _ hk => trivial)⟩, ⟨by (with_reducible repeat apply blk_alloc); refine blk_far ?_ NB581_597.out _; (with_reducible repeat apply blk_alloc); refine blk_far ?_ NB581_597.out _; (with_reducible repeat apply blk_alloc); exact BK581.out⟩, ⟨by (with_reducible repeat apply blk_alloc); refine blk_put (cs := #[.int .i64 t594, .int .i64 0]) ?_ 1 _ rfl; (with_reducible repeat apply blk_alloc); refine blk_put (cs := #[.int .i64 0, .int .i64 0]) ?_ 0 _ rfl; (with_reducible repeat apply blk_alloc); exact BK597.out⟩, ⟨by repeat first | exact HB.out | with_reducible refine below_setA ?_ ‹_› | apply below_alloc | apply pw_below_drewN⟩⟩
     case round =>
      clear H'
      try clear c1
      try clear c2
      try clear c2b0
      try clear c2b1
      try clear p2
      try clear c3
      try clear c8
      try clear c13
      try clear c25
      try clear c36
      try clear hcz15_0
      try clear hcz15_1
      try clear hcz19_0
      try clear hcz19_1
      try clear hcz21_0
      try clear hcz21_1
      try clear hcz28_0
      try clear hcz28_1
      try clear hcz33_0
      try clear hcz33_1
      try clear hcz37_0
      try clear hcz37_1
      try clear hcz8_0
      try clear hcz8_1
      try clear hfz15_0
      try clear hfz15_1
      try clear hfz19_0
      try clear hfz19_1
      try clear hfz21_0
      try clear hfz21_1
      try clear hfz28_0
      try clear hfz28_1
      try clear hfz33_0
      try clear hfz33_1
      try clear hfz37_0
      try clear hfz37_1
      try clear hfz8_0
      try clear hfz8_1
      try clear p2
      obtain ⟨x8_2, rfl, HA, HK2, HO_5, HO_582001, BK581, BK597, HB⟩ := hrel
      cases gk with
      | zero => exact absurd HA.out (by simp [laws_FnTrailFirst.l0])
      | succ k2 =>
       have H := HA.out
       clear HA
       simp only [laws_FnTrailFirst.l0] at H
       by_cases c38 : x8_2 < (t582.length : Int)
       ·rw [if_pos c38] at H
        have c38b0 : decide (x8_2 < (t582.length : Int)) = true := decide_eq_true c38
        clear c38
        by_cases c39 : 0 ≤ x8_2
        ·rw [if_pos c39] at H
         have c39b0 : decide (0 ≤ x8_2) = true := decide_eq_true c39
         clear c39
         by_cases c40 : ((rd_T55 t582 x8_2).f2) < 1
         ·rw [if_pos c40] at H
          have c40b0 : decide (((rd_T55 t582 x8_2).f2) < 1) = true := decide_eq_true c40
          clear c40
          obtain rfl := Option.some.inj H
          exact absurd HRT.out (by decide)
         ·rw [if_neg c40] at H
          have c40b0 : decide (((rd_T55 t582 x8_2).f2) < 1) = false := decide_eq_false c40
          clear c40
          by_cases c41 : ((rd_T55 t582 x8_2).f2) > 64
          ·rw [if_pos c41] at H
           have c41b0 : decide (64 < ((rd_T55 t582 x8_2).f2)) = true := decide_eq_true c41
           clear c41
           obtain rfl := Option.some.inj H
           exact absurd HRT.out (by decide)
          ·rw [if_neg c41] at H
           have c41b0 : decide (64 < ((rd_T55 t582 x8_2).f2)) = false := decide_eq_false c41
           clear c41
           have H' := Aside0.mk H
           clear H
           obtain ⟨Ao42, co42, eo42⟩ := Kd.R_slice HO_5.out
           subst eo42
           have p598 : 0 ≤ (x8_2 : Int) := of_decide_eq_true (by first | (with_reducible assumption) | assumption)
           have q598 : x8_2 < (t582.length : Int) := of_decide_eq_true (by first | (with_reducible assumption) | assumption)
           obtain ⟨ad598, e598, hx598_0, hx598_1, hx598_2⟩ := at_T55 (Kd.R_reads' HO_5.out).2.2 x8_2 p598 q598
           cases e598
           replace p598 := eq_true p598
           replace q598 := eq_true q598
           have p599 : 0 ≤ (x8_2 : Int) := of_decide_eq_true (by first | (with_reducible assumption) | assumption)
           have q599 : x8_2 < (t582.length : Int) := of_decide_eq_true (by first | (with_reducible assumption) | assumption)
           obtain ⟨ad599, e599, hx599_0, hx599_1, hx599_2⟩ := at_T55 (Kd.R_reads' HO_5.out).2.2 x8_2 p599 q599
           obtain rfl : ad598 = ad599 := (by injection e599)
           replace p599 := eq_true p599
           replace q599 := eq_true q599
           go_wp2
           repeat (go_quiet (fail); try go_wp2)
           go_roundg k2
           case measure => have := HJ4.out; have := HK2.out; omega
           case rel => exact ⟨(wrap64 (x8_2 + 1)), (by first | rfl | (simp; done) | (simp [*]; done)), H', ⟨by have := HJ4.out; have := HK2.out; omega⟩, ⟨by (with_reducible repeat apply Kd.R_alloc); exact HO_5.out⟩, ⟨by (with_reducible repeat apply Kd.Q_alloc); exact HO_582001.out⟩, ⟨by (with_reducible repeat apply blk_alloc); exact BK581.out⟩, ⟨by (with_reducible repeat apply blk_alloc); exact BK597.out⟩, ⟨by repeat first | exact HB.out | with_reducible refine below_setA ?_ ‹_› | apply below_alloc | apply pw_below_drewN⟩⟩
        ·rw [if_neg c39] at H
         exact absurd H (by simp)
       ·rw [if_neg c38] at H
        have c38b0 : decide (x8_2 < (t582.length : Int)) = false := decide_eq_false c38
        clear c38
        by_cases c43 : t596 = true
        ·subst c43
         have H1 : (if 0 < (t582.length : Int) then (some (((rd_T55 t582 0).f0) == t594 && (((rd_T55 t582 0).f1) == t595 && (((rd_T55 t582 0).f2) == 64)))) else (none)) = some r := by rw [if_pos rfl] at H; exact H
         clear H
         have H := H1
         clear H1
         by_cases c44 : 0 < (t582.length : Int)
         ·rw [if_pos c44] at H
          have c44b0 : decide (0 < (t582.length : Int)) = true := decide_eq_true c44
          have c44b1 : decide (0 < t582.length) = true := decide_eq_true (by omega)
          clear c44
          obtain rfl := Option.some.inj H
          obtain ⟨Ao45, co45, eo45⟩ := Kd.R_slice HO_5.out
          subst eo45
          have p600 : 0 ≤ (0 : Int) := (by omega)
          have q600 : 0 < (t582.length : Int) := of_decide_eq_true (by first | (with_reducible assumption) | assumption)
          obtain ⟨ad600, e600, hx600_0, hx600_1, hx600_2⟩ := at_T55 (Kd.R_reads' HO_5.out).2.2 0 p600 q600
          cases e600
          have qi600 : (0 < t582.length) = True := eq_true (by omega)
          (try rw [show ((0 : Int)).toNat = 0 from rfl] at hx600_0)
          (try rw [show 0 * 3 = 0 from rfl] at hx600_0)
          (try rw [Addr.add_zero'] at hx600_0)
          (try rw [show ((0 : Int)).toNat = 0 from rfl] at hx600_1)
          (try rw [show 0 * 3 = 0 from rfl] at hx600_1)
          (try rw [Addr.add_zero'] at hx600_1)
          (try rw [show ((0 : Int)).toNat = 0 from rfl] at hx600_2)
          (try rw [show 0 * 3 = 0 from rfl] at hx600_2)
          (try rw [Addr.add_zero'] at hx600_2)
          replace p600 := eq_true p600
          replace q600 := eq_true q600
          have hnb46 := NB597_581.out
          have hnc46 := NB581_597.out
          have hcz47_0 : wr.cell? ⟨gb597, 0, none⟩ = some (.int .i64 t594) := (blk_cell BK597.out 0).trans rfl
          have hcz47_1 : wr.cell? ⟨gb597, 1, none⟩ = some (.int .i64 t595) := (blk_cell BK597.out 1).trans rfl
          have hfz47_0 := blk_frozen BK597.out 0
          have hfz47_1 := blk_frozen BK597.out 1
          go_wp2
          repeat (go_quiet (fail); try go_wp2)
          go_ret
          exact ⟨by first | rfl | (simp [errW_none, errW_some] <;> rfl) | (simp [*, errW_none, errW_some] <;> rfl) | (exfalso; simp_all; done), by repeat first | exact HB.out | with_reducible refine below_setA ?_ ‹_› | apply below_alloc | apply pw_below_drewN⟩
         ·rw [if_neg c44] at H
          exact absurd H (by simp)
        ·replace c43 := Bool.eq_false_iff.mpr c43
         subst c43
         have H1 : (some false) = some r := by rw [if_neg (show ¬ (false = true) by decide)] at H; exact H
         clear H
         have H := H1
         clear H1
         obtain rfl := Option.some.inj H
         exact absurd HRT.out (by decide)

/-- THE ONE PURE STATEMENT of laws_FnTrailFirst: yours. -/
def laws_FnTrailFirst.Pure : Prop := ∀ (l0 : List Int), l0.length ≤ maxLen → l0.length * 1 ≤ 140737488351232 → (∀ x ∈ l0, (Lit.int .u8 x).wf = true) → ∃ k, laws_FnTrailFirst.f k l0 = some true
theorem laws_FnTrailFirst.walk (P : laws_FnTrailFirst.Pure) (a0 : Option Addr) (len0 cap0 : Nat) (z0 : List Int) (w : World) (w0 : (a0 = none ∧ len0 = 0 ∧ cap0 = 0 ∧ z0 = []) ∨ ∃ x, a0 = some x ∧ len0 ≤ cap0 ∧ cap0 ≤ maxLen ∧ z0.length = cap0 ∧ (∀ i, i < z0.length → w.cell? (x.add i) = some (.int .u8 (z0.getD i 0))) ∧ ∀ n ∈ z0, (Lit.int .u8 n).wf = true) (y0 : len0 * 1 ≤ 140737488351232) :
  Calls Try.prog 8 #[.slice a0 len0 cap0] w fun e w' => e = .returned (.bool true) ∧ Below w.heap.size w w' := by
 obtain ⟨l0, rfl, hr0, hm0, hw0, hc0⟩ := ReadsInt.ofRowC w0
 obtain ⟨k, h⟩ := P l0 hm0 y0 hw0
 refine (laws_FnTrailFirst.calls k _ _ l0 true w (Kd.C_of_reads (d := (0 : Int)) (h1 := fun _ => rfl) hr0) hc0 h rfl).mono ?_
 rintro e w' ⟨rfl, hd⟩
 exact ⟨rfl, hd⟩

end Go.Proofs.Ytmohfoleolmijaa.P
