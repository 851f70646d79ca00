/- PROVED: contracts of functions; written by this session's driver (pk.py). No condition. -/
import Derived.Test.YteapnipnoadejaaPx0
import Derived.Test.YteapnipnoadejaaPx12
import Derived.Test.YteapnipnoadejaaPx36
import Derived.Test.YteapnipnoadejaaPx37
import Derived.Test.YteapnipnoadejaaPx39
import Derived.Test.YteapnipnoadejaaPx44
import Derived.Test.YteapnipnoadejaaT3Go
namespace Go.Proofs.Yteapnipnoadejaa.P
open Go.RowKit Go.Proofs.YteapnipnoadejaaW.PrintWords Go.Proofs.YteapnipnoadejaaW.PrintLast Go.Proofs.YteapnipnoadejaaW.PrintMore
attribute [local go_sem] max2_int min2_int max_two min_two max_three min_three max_four min_four   -- for this text's walks alone
set_option linter.unusedVariables false
set_option linter.unusedSimpArgs false

/-! ### laws_FnTrailHalves: function 7 -/
mutual
def laws_FnTrailHalves.l0 : Nat → Int → List (S34) → List Int → Int → Int → List (S42) → Option (Bool)
 | 0, _, _, _, _, _, _ => none
 | k + 1, x4, x5, x6, x7, x544000, x544001 => if x7 < (x5.length : Int) then (if 0 ≤ x7 then ((laws_llHas.f k x6 ((rd_T34 x5 x7).f2)).bind fun t555 => (if t555 = true then (laws_FnTrailHalves.l0 k x4 x5 x6 (wrap64 (x7 + 1)) x544000 x544001) else (some false))) else (none)) else ((impl_TrailEnds.f k x544000 x544001 x4).bind fun t556 => (laws_FnTrailHalves.l1 k x6 t556 0))
def laws_FnTrailHalves.l1 : Nat → List Int → List (S38) → Int → Option (Bool)
 | 0, _, _, _ => none
 | k + 1, x6, x8, x9 => if x9 < (x8.length : Int) then (if 0 ≤ x9 then (if ((rd_T38 x8 x9).f0) = 3 then (laws_FnTrailHalves.l1 k x6 x8 (wrap64 (x9 + 1))) else ((laws_llHas.f k x6 ((rd_T38 x8 x9).f2)).bind fun t561 => (if t561 = true then (laws_FnTrailHalves.l1 k x6 x8 (wrap64 (x9 + 1))) else (some false)))) else (none)) else (some (decide ((x8.length : Int) ≤ 64)))
end
def laws_FnTrailHalves.f (k : Nat) (l0 : List Int) : Option (Bool) := if (l0.length : Int) > 1048576 then (some true) else ((spec_DrawTrailVisits.f k l0).bind fun bt538 => ((impl_TrailVisits.f k bt538.1 bt538.2.1 bt538.2.2).bind fun t544 => ((spec_TrailVisits.f k bt538.1 bt538.2.1 bt538.2.2).bind fun t547 => ((laws_llVisits.f k t544 t547).bind fun t550 => (if t550 = true then (laws_FnTrailHalves.l0 k bt538.2.2 t544 (([64, 32, 16, 8, 4, 2, 1] : List Int)) 0 bt538.1 bt538.2.1) else (some false))))))
set_option maxHeartbeats 8000000 in
set_option maxRecDepth 100000 in
theorem laws_FnTrailHalves.calls (k : Nat) (A0 : Option Addr) (c0 : Nat) (l0 : List Int) (r : Bool) (w : World) (hr0 : Kd.C (Kd.int .u8) w A0 l0.length l0) (hc0 : l0.length ≤ c0) (h : laws_FnTrailHalves.f k l0 = some r) (hrt : r = true) :
  Calls Try.prog 7 #[.slice A0 l0.length c0] w fun e w' => e = .returned (.bool r) ∧ Below w.heap.size w w' := by
 have HRT := Aside0.mk hrt
 clear hrt
 have hu25 := Try.underlying25
 have HR0 := Aside0.mk hr0
 have HC0 := Aside0.mk hc0
 clear hr0 hc0
 have HB := Aside0.mk (Below.refl w.heap.size w)
 have H : (if (l0.length : Int) > 1048576 then (some true) else ((spec_DrawTrailVisits.f k l0).bind fun bt538 => ((impl_TrailVisits.f k bt538.1 bt538.2.1 bt538.2.2).bind fun t544 => ((spec_TrailVisits.f k bt538.1 bt538.2.1 bt538.2.2).bind fun t547 => ((laws_llVisits.f k t544 t547).bind fun t550 => (if t550 = true then (laws_FnTrailHalves.l0 k bt538.2.2 t544 (([64, 32, 16, 8, 4, 2, 1] : List Int)) 0 bt538.1 bt538.2.1) else (some false))))))) = some r := h
 clear h
 by_cases c2 : (l0.length : Int) > 1048576
 ·rw [if_pos c2] at H
  have c2b0 : decide (1048576 < (l0.length : Int)) = true := decide_eq_true c2
  have c2b1 : decide (1048576 < l0.length) = true := decide_eq_true (by omega)
  clear c2
  obtain rfl := Option.some.inj H
  go_enter Try.func7, Try.ntmps7
  go_wp2
  go_ret
  exact ⟨by first | rfl | (simp [errW_none, errW_some] <;> rfl) | (simp [*, errW_none, errW_some] <;> rfl) | (exfalso; simp_all; done), by repeat first | exact HB.out | apply below_alloc | apply pw_below_drewN⟩
 ·rw [if_neg c2] at H
  have c2b0 : decide (1048576 < (l0.length : Int)) = false := decide_eq_false c2
  have c2b1 : decide (1048576 < l0.length) = false := decide_eq_false (by omega)
  clear c2
  replace H := Option.bind_eq_some_iff.mp H
  obtain ⟨⟨t538, t539, t542⟩, A30, H⟩ := H
  replace H : ((impl_TrailVisits.f k t538 t539 t542).bind fun t544 => ((spec_TrailVisits.f k t538 t539 t542).bind fun t547 => ((laws_llVisits.f k t544 t547).bind fun t550 => (if t550 = true then (laws_FnTrailHalves.l0 k t542 t544 (([64, 32, 16, 8, 4, 2, 1] : List Int)) 0 t538 t539) else (some false))))) = some r := H
  have A3 := Aside0.mk A30
  clear A30
  replace H := Option.bind_eq_some_iff.mp H
  obtain ⟨t544, A40, H⟩ := H
  replace H : ((spec_TrailVisits.f k t538 t539 t542).bind fun t547 => ((laws_llVisits.f k t544 t547).bind fun t550 => (if t550 = true then (laws_FnTrailHalves.l0 k t542 t544 (([64, 32, 16, 8, 4, 2, 1] : List Int)) 0 t538 t539) else (some false)))) = some r := H
  have A4 := Aside0.mk A40
  clear A40
  replace H := Option.bind_eq_some_iff.mp H
  obtain ⟨t547, A50, H⟩ := H
  replace H : ((laws_llVisits.f k t544 t547).bind fun t550 => (if t550 = true then (laws_FnTrailHalves.l0 k t542 t544 (([64, 32, 16, 8, 4, 2, 1] : List Int)) 0 t538 t539) else (some false))) = some r := H
  have A5 := Aside0.mk A50
  clear A50
  replace H := Option.bind_eq_some_iff.mp H
  obtain ⟨t550, A60, H⟩ := H
  replace H : (if t550 = true then (laws_FnTrailHalves.l0 k t542 t544 (([64, 32, 16, 8, 4, 2, 1] : List Int)) 0 t538 t539) else (some false)) = some r := H
  have A6 := Aside0.mk A60
  clear A60
  by_cases c7 : t550 = true
  ·subst c7
   have H1 : (laws_FnTrailHalves.l0 k t542 t544 (([64, 32, 16, 8, 4, 2, 1] : List Int)) 0 t538 t539) = some r := by rw [if_pos rfl] at H; exact H
   clear H
   have H := H1
   clear H1
   obtain ⟨y551, hy551⟩ : ∃ y_ : List Int, y_ = (([64, 32, 16, 8, 4, 2, 1] : List Int)) := ⟨_, rfl⟩
   replace H : (laws_FnTrailHalves.l0 k t542 t544 y551 0 t538 t539) = some r := by first | (rw [hy551]; with_reducible exact H) | (have H2_ := (Option.bind_some _ _).symm.trans H; rw [hy551]; with_reducible exact H2_) | (have H2_ := (Option.bind_some _ _).symm.trans H; with_reducible exact H2_) | with_reducible exact H | (rw [hy551]; exact H) | exact H
   have Ny551 := Aside0.mk hy551
   clear hy551
   have H' := Aside0.mk H
   clear H
   go_enter Try.func7, Try.ntmps7
   go_wp2_with (first | ((with_reducible refine gate_callee (f := 10) rfl ?_); refine goesL_ (some 15) rfl rfl Try.func10 (by kernel_rfl) rfl #[.slice A0 l0.length c0] rfl (by first | rfl | (simp only [List.map_toArray, List.map_cons, List.map_nil, List.length_drop, List.length_take]; try rfl)) ?_; (with_reducible refine (spec_DrawTrailVisits.calls k _ _ l0 t538 t539 t542 _ ?side1 ?side2 A3.out).mono ?_); (case side1 => repeat (first | exact HR0.out | (with_reducible refine Kd.C_alloc ?_ _) | (with_reducible refine Kd.C_drewN ?_ _) | (with_reducible refine Kd.C_drew ?_))); (case side2 => exact HC0.out); rintro e w8 ⟨v540, rfl, ho0, hb⟩; refine ⟨_, rfl, ?_⟩; have n0_ := Aside0.mk (Kd.Q_lower ho0 (below_size (by repeat first | exact HB.out | apply below_alloc | apply pw_below_drewN))); have n1_ := Aside0.mk (below_step (by repeat first | exact HB.out | apply below_alloc | apply pw_below_drewN) hb); clear HB; have HO541 := n0_; have HB := n1_; clear n0_ n1_; (try clear hb); (try clear hb2); (try clear hk); (try clear hi); (try clear ho0)) | ((with_reducible refine gate_dst (N := 3) rfl ?_); refine box_event rfl (N := 3) rfl (cs := #[.int .i64 0, .slice none 0 0]) (t := 25) ?hr ?_; (case hr => first | (go_simp; done) | (go_simp; rfl)); intro gb543 hg w9 hbox hb; have n0_ := Aside0.mk (Kd.Q_below (by (with_reducible repeat apply Kd.Q_alloc); exact HO541.out) hb); have n1_ := Aside0.mk (below_step (by repeat first | exact HB.out | apply below_alloc | apply pw_below_drewN) hb); have n2_ := Aside0.mk (hbox); have n3_ := Aside0.mk ((by rw [hg]; exact (below_size (by repeat first | exact HB.out | apply below_alloc | apply pw_below_drewN)) : w.heap.size ≤ gb543)); have n4_ := n3_; clear HO541; clear HB; have HO541 := n0_; have HB := n1_; have BK543 := n2_; have GW543 := n3_; have GE543 := n4_; clear n0_ n1_ n2_ n3_ n4_; clear hb hbox hg; have hcz10_0 : w9.cell? ⟨gb543, 0, none⟩ = some (.int .i64 0) := (blk_cell BK543.out 0).trans rfl; have hcz10_1 : w9.cell? ⟨gb543, 1, none⟩ = some (.slice none 0 0) := (blk_cell BK543.out 1).trans rfl; have hfz10_0 := blk_frozen BK543.out 0; have hfz10_1 := blk_frozen BK543.out 1; obtain ⟨Ao11, co11, eo11, _⟩ := Kd.Q_slice HO541.out; subst eo11) | ((with_reducible refine gate_callee (f := 11) rfl ?_); refine goesL_ (some 20) rfl rfl Try.func11 (by kernel_rfl) rfl #[.agg #[.int .i64 t538, .slice Ao11 t539.length co11], .int .i64 t542] rfl (by first | rfl | (simp only [List.map_toArray, List.map_cons, List.map_nil, List.length_drop, List.length_take]; try rfl)) ?_; (with_reducible refine (impl_TrailVisits.calls k t538 _ _ t539 t542 t544 _ ?side1 ?side2 A4.out).mono ?_); (case side1 => refine (Kd.Q_reads' (e := 42) (base := w.heap.size) (ok := fun k_ => True) (n := t539.length) (c := co11) ?_).2.2; exact (by (with_reducible repeat apply Kd.Q_alloc); exact (Kd.Q_mono (Kd.Q_far (p := ⟨gb543, 1, none⟩) (Kd.Q_far (p := ⟨gb543, 0, none⟩) (Kd.Q_types HO541.out BK543.out (by decide)) (fun _ hk => hk.2) (.int .i64 t538)) (fun _ hk => hk.2) (.slice Ao11 t539.length co11)) (fun _ h_ => h_.1)))); (case side2 => exact (Kd.Q_reads' HO541.out).2.1); rintro e w12 ⟨v545, rfl, ho0, hb⟩; refine ⟨_, rfl, ?_⟩; have n0_ := Aside0.mk (Kd.Q_below (by (with_reducible repeat apply Kd.Q_alloc); exact (Kd.Q_mono (Kd.Q_far (p := ⟨gb543, 1, none⟩) (Kd.Q_far (p := ⟨gb543, 0, none⟩) (Kd.Q_types HO541.out BK543.out (by decide)) (fun _ hk => hk.2) (.int .i64 t538)) (fun _ hk => hk.2) (.slice Ao11 t539.length co11)) (fun _ h_ => h_.1))) hb); have n1_ := Aside0.mk (Kd.R_lower ho0 (below_size (by repeat first | exact HB.out | with_reducible refine below_setA ?_ ‹_› | apply below_alloc | apply pw_below_drewN))); have n2_ := Aside0.mk (blk_below (g := gb543) (o := .cells #[.int .i64 t538, .slice Ao11 t539.length co11] 25 (0, 0)) (by (with_reducible repeat apply blk_alloc); refine blk_put (cs := #[.int .i64 t538, .slice none 0 0]) ?_ 1 _ rfl; (with_reducible repeat apply blk_alloc); refine blk_put (cs := #[.int .i64 0, .slice none 0 0]) ?_ 0 _ rfl; (with_reducible repeat apply blk_alloc); exact BK543.out) hb); have n3_ := Aside0.mk (below_step (by repeat first | exact HB.out | with_reducible refine below_setA ?_ ‹_› | apply below_alloc | apply pw_below_drewN) hb); clear HO541; clear BK543; clear HB; have HO541 := n0_; have HO546 := n1_; have BK543 := n2_; have HB := n3_; clear n0_ n1_ n2_ n3_; (try clear hb); (try clear hb2); (try clear hk); (try clear hi); (try clear ho0); have hcz13_0 : w12.cell? ⟨gb543, 0, none⟩ = some (.int .i64 t538) := (blk_cell BK543.out 0).trans rfl; have hcz13_1 : w12.cell? ⟨gb543, 1, none⟩ = some (.slice Ao11 t539.length co11) := (blk_cell BK543.out 1).trans rfl; have hfz13_0 := blk_frozen BK543.out 0; have hfz13_1 := blk_frozen BK543.out 1) | ((with_reducible refine gate_callee (f := 13) rfl ?_); refine goesL_ (some 24) rfl rfl Try.func13 (by kernel_rfl) rfl #[.agg #[.int .i64 t538, .slice Ao11 t539.length co11], .int .i64 t542] rfl (by first | rfl | (simp only [List.map_toArray, List.map_cons, List.map_nil, List.length_drop, List.length_take]; try rfl)) ?_; (with_reducible refine (spec_TrailVisits.calls k t538 _ _ t539 t542 t547 _ ?side1 ?side2 A5.out).mono ?_); (case side1 => repeat (first | exact (Kd.Q_reads' HO541.out).2.2 | (with_reducible refine Kd.C_alloc ?_ _) | (with_reducible refine Kd.C_drewN ?_ _) | (with_reducible refine Kd.C_drew ?_))); (case side2 => exact (Kd.Q_reads' HO541.out).2.1); rintro e w14 ⟨v548, rfl, ho0, hb⟩; refine ⟨_, rfl, ?_⟩; have n0_ := Aside0.mk (Kd.Q_below (by (with_reducible repeat apply Kd.Q_alloc); exact HO541.out) hb); have n1_ := Aside0.mk (Kd.R_elder' (kR HO546.out) (Kd.R_base ho0) hb); have n2_ := Aside0.mk (Kd.R_lower (Kd.R_new' ho0 (Kd.R_lt (kR HO546.out))) (below_size (by repeat first | exact HB.out | with_reducible refine below_setA ?_ ‹_› | apply below_alloc | apply pw_below_drewN))); have n3_ := Aside0.mk (blk_below (bK BK543.out) hb); have n4_ := Aside0.mk (below_step (by repeat first | exact HB.out | with_reducible refine below_setA ?_ ‹_› | apply below_alloc | apply pw_below_drewN) hb); clear HO541; clear HO546; clear BK543; clear HB; have HO541 := n0_; have HO546 := n1_; have HO549 := n2_; have BK543 := n3_; have HB := n4_; clear n0_ n1_ n2_ n3_ n4_; (try clear hb); (try clear hb2); (try clear hk); (try clear hi); (try clear ho0); obtain ⟨Ao15, co15, eo15⟩ := Kd.R_slice HO546.out; subst eo15; obtain ⟨Ao16, co16, eo16⟩ := Kd.R_slice HO549.out; subst eo16) | ((with_reducible refine gate_callee (f := 12) rfl ?_); refine goesL_ (some 25) rfl rfl Try.func12 (by kernel_rfl) rfl #[.slice Ao15 t544.length co15, .slice Ao16 t547.length co16] rfl (by first | rfl | (simp only [List.map_toArray, List.map_cons, List.map_nil, List.length_drop, List.length_take]; try rfl)) ?_; (with_reducible refine (laws_llVisits.calls k _ _ t544 _ _ t547 true _ ?side1 ?side2 ?side3 ?side4 A6.out).mono ?_); (case side1 => repeat (first | exact (Kd.R_reads' HO546.out).2.2 | (with_reducible refine Kd.C_alloc ?_ _) | (with_reducible refine Kd.C_drewN ?_ _) | (with_reducible refine Kd.C_drew ?_))); (case side2 => exact (Kd.R_reads' HO546.out).2.1); (case side3 => repeat (first | exact (Kd.R_reads' HO549.out).2.2 | (with_reducible refine Kd.C_alloc ?_ _) | (with_reducible refine Kd.C_drewN ?_ _) | (with_reducible refine Kd.C_drew ?_))); (case side4 => exact (Kd.R_reads' HO549.out).2.1); rintro e w' ⟨rfl, ⟨nd, rfl⟩⟩; refine ⟨_, rfl, ?_⟩) | ((with_reducible refine gate_dst (N := 27) rfl ?_); refine Kd.R_lit (Kd.int .i64) _ 3 ?hg (N := 27) ?hd (xs := ([64, 32, 16, 8, 4, 2, 1] : List Int)) (inner := [.int .i64 64, .int .i64 32, .int .i64 16, .int .i64 8, .int .i64 4, .int .i64 2, .int .i64 1]) (ok := fun _ => True) (okp := fun _ => True) ?hr ?hp (fun _ hk => hk) trivial (Below.refl _ _) (Nat.le_refl _) (by simp) ?_; (case hd => rfl); (case hg => rfl); (case hr => first | (go_simp; done) | (go_simp; rfl)); (case hp => exact (Reps.one (show Kd.M (Kd.int .i64) _ _ _ 64 [.int .i64 64] from rfl) (Reps.one (show Kd.M (Kd.int .i64) _ _ _ 32 [.int .i64 32] from rfl) (Reps.one (show Kd.M (Kd.int .i64) _ _ _ 16 [.int .i64 16] from rfl) (Reps.one (show Kd.M (Kd.int .i64) _ _ _ 8 [.int .i64 8] from rfl) (Reps.one (show Kd.M (Kd.int .i64) _ _ _ 4 [.int .i64 4] from rfl) (Reps.one (show Kd.M (Kd.int .i64) _ _ _ 2 [.int .i64 2] from rfl) (Reps.one (show Kd.M (Kd.int .i64) _ _ _ 1 [.int .i64 1] from rfl) (Reps.none _ _))))))))); intro v552 w17 ho18 hb hg_ hnew_; clear hg_ hnew_; (first | rw [← Ny551.out] at ho18 | (simp only [Int.reduceToNat] at ho18; rw [← Ny551.out] at ho18)); have n0_ := Aside0.mk (Kd.Q_below (by (with_reducible repeat apply Kd.Q_alloc); exact HO541.out) hb); have n1_ := Aside0.mk (Kd.R_below (kR HO546.out) hb); have n2_ := Aside0.mk (Kd.R_below (kR HO549.out) hb); have n3_ := Aside0.mk (Kd.R_lower ho18 (below_size (by repeat first | exact HB.out | with_reducible refine below_setA ?_ ‹_› | apply below_alloc | apply pw_below_drewN))); have n4_ := Aside0.mk (blk_below (bK BK543.out) hb); have n5_ := Aside0.mk (below_step (by repeat first | exact HB.out | with_reducible refine below_setA ?_ ‹_› | apply below_alloc | apply pw_below_drewN) hb); clear HO541; clear HO546; clear HO549; clear BK543; clear HB; have HO541 := n0_; have HO546 := n1_; have HO549 := n2_; have HO553 := n3_; have BK543 := n4_; have HB := n5_; clear n0_ n1_ n2_ n3_ n4_ n5_; clear hb ho18))
   go_loopg [7] k (fun kq v7 w' => ∃ (x7_1 : Int), v7 = .int .i64 x7_1 ∧ Aside0 (laws_FnTrailHalves.l0 kq t542 t544 y551 x7_1 t538 t539 = some r) ∧ Aside0 (kq ≤ k) ∧ Aside0 (Kd.R k34 34 w' w.heap.size (fun _ => True) (.slice Ao15 t544.length co15) t544) ∧ Aside0 (Kd.R (Kd.int .i64) 3 w' w.heap.size (fun _ => True) v552 y551) ∧ Aside0 (Kd.Q k42 42 w' w.heap.size (fun _ => True) (.slice Ao11 t539.length co11) t539) ∧ Aside0 (w'.heap[gb543]? = some (.cells #[.int .i64 t538, (.slice Ao11 t539.length co11)] 25 (0, 0))) ∧ Aside0 (Below w.heap.size w w'))
   case atStart => exact ⟨(0), (by first | rfl | (simp; done) | (simp [*]; done)), H', ⟨Nat.le_refl _⟩, ⟨by (with_reducible repeat apply Kd.R_alloc); exact Kd.R_mono HO546.out (fun _ hk => trivial)⟩, ⟨by (with_reducible repeat apply Kd.R_alloc); exact HO553.out⟩, ⟨by (with_reducible repeat apply Kd.Q_alloc); exact HO541.out⟩, ⟨by (with_reducible repeat apply blk_alloc); exact BK543.out⟩, ⟨by repeat first | exact HB.out | with_reducible refine below_setA ?_ ‹_› | apply below_alloc | apply pw_below_drewN⟩⟩
   case round =>
    clear H'
    try clear c1
    try clear c2
    try clear c2b0
    try clear c2b1
    try clear p2
    try clear c7
    try clear c10
    try clear c11
    try clear c12
    try clear c13
    try clear hcz10_0
    try clear hcz10_1
    try clear hcz13_0
    try clear hcz13_1
    try clear hfz10_0
    try clear hfz10_1
    try clear hfz13_0
    try clear hfz13_1
    obtain ⟨x7_1, rfl, HA, HK1, HO_5, HO_6, HO_544001, BK543, HB⟩ := hrel
    cases gk with
    | zero => exact absurd HA.out (by simp [laws_FnTrailHalves.l0])
    | succ k1 =>
     have H := HA.out
     clear HA
     simp only [laws_FnTrailHalves.l0] at H
     by_cases c19 : x7_1 < (t544.length : Int)
     ·rw [if_pos c19] at H
      have c19b0 : decide (x7_1 < (t544.length : Int)) = true := decide_eq_true c19
      clear c19
      by_cases c20 : 0 ≤ x7_1
      ·rw [if_pos c20] at H
       have c20b0 : decide (0 ≤ x7_1) = true := decide_eq_true c20
       clear c20
       replace H := Option.bind_eq_some_iff.mp H
       obtain ⟨t555, A210, H⟩ := H
       replace H : (if t555 = true then (laws_FnTrailHalves.l0 k1 t542 t544 y551 (wrap64 (x7_1 + 1)) t538 t539) else (some false)) = some r := H
       have A21 := Aside0.mk A210
       clear A210
       by_cases c22 : t555 = true
       ·subst c22
        have H1 : (laws_FnTrailHalves.l0 k1 t542 t544 y551 (wrap64 (x7_1 + 1)) t538 t539) = some r := by rw [if_pos rfl] at H; exact H
        clear H
        have H := H1
        clear H1
        have H' := Aside0.mk H
        clear H
        have p554 : 0 ≤ (x7_1 : Int) := of_decide_eq_true (by first | (with_reducible assumption) | assumption)
        have q554 : x7_1 < (t544.length : Int) := of_decide_eq_true (by first | (with_reducible assumption) | assumption)
        obtain ⟨ad554, e554, hx554_0, hx554_1, hx554_2⟩ := at_T34 (Kd.R_reads' HO_5.out).2.2 x7_1 p554 q554
        cases e554
        replace p554 := eq_true p554
        replace q554 := eq_true q554
        obtain ⟨Ao23, co23, eo23⟩ := Kd.R_slice HO_6.out
        subst eo23
        go_wp2_with (first | ((with_reducible refine gate_callee (f := 23) rfl ?_); refine goesL_ (some 40) rfl rfl Try.func23 (by kernel_rfl) rfl #[.slice Ao23 y551.length co23, .int .i64 ((rd_T34 t544 x7_1).f2)] rfl (by first | rfl | (simp only [List.map_toArray, List.map_cons, List.map_nil, List.length_drop, List.length_take]; try rfl)) ?_; (with_reducible refine (laws_llHas.calls k1 _ _ y551 ((rd_T34 t544 x7_1).f2) true _ ?side1 ?side2 A21.out).mono ?_); (case side1 => repeat (first | exact (Kd.R_reads' HO_6.out).2.2 | (with_reducible refine Kd.C_alloc ?_ _) | (with_reducible refine Kd.C_drewN ?_ _) | (with_reducible refine Kd.C_drew ?_))); (case side2 => exact (Kd.R_reads' HO_6.out).2.1); rintro e w' ⟨rfl, ⟨nd, rfl⟩⟩; refine ⟨_, rfl, ?_⟩))
        go_roundg k1
        case measure => have := HK1.out; omega
        case rel => exact ⟨(wrap64 (x7_1 + 1)), (by first | rfl | (simp; done) | (simp [*]; done)), H', ⟨by have := HK1.out; omega⟩, ⟨by (with_reducible repeat apply Kd.R_alloc); exact HO_5.out⟩, ⟨by (with_reducible repeat apply Kd.R_alloc); exact HO_6.out⟩, ⟨by (with_reducible repeat apply Kd.Q_alloc); exact HO_544001.out⟩, ⟨by (with_reducible repeat apply blk_alloc); exact BK543.out⟩, ⟨by repeat first | exact HB.out | with_reducible refine below_setA ?_ ‹_› | apply below_alloc | apply pw_below_drewN⟩⟩
       ·replace c22 := Bool.eq_false_iff.mpr c22
        subst c22
        have H1 : (some false) = some r := by rw [if_neg (show ¬ (false = true) by decide)] at H; exact H
        clear H
        have H := H1
        clear H1
        obtain rfl := Option.some.inj H
        exact absurd HRT.out (by decide)
      ·rw [if_neg c20] at H
       exact absurd H (by simp)
     ·rw [if_neg c19] at H
      have c19b0 : decide (x7_1 < (t544.length : Int)) = false := decide_eq_false c19
      clear c19
      replace H := Option.bind_eq_some_iff.mp H
      obtain ⟨t556, A240, H⟩ := H
      replace H : (laws_FnTrailHalves.l1 k1 y551 t556 0) = some r := H
      have A24 := Aside0.mk A240
      clear A240
      have H' := Aside0.mk H
      clear H
      have hcz25_0 : wr.cell? ⟨gb543, 0, none⟩ = some (.int .i64 t538) := (blk_cell BK543.out 0).trans rfl
      have hcz25_1 : wr.cell? ⟨gb543, 1, none⟩ = some (.slice Ao11 t539.length co11) := (blk_cell BK543.out 1).trans rfl
      have hfz25_0 := blk_frozen BK543.out 0
      have hfz25_1 := blk_frozen BK543.out 1
      go_wp2_with (first | ((with_reducible refine gate_callee (f := 16) rfl ?_); refine goesL_ (some 44) rfl rfl Try.func16 (by kernel_rfl) rfl #[.agg #[.int .i64 t538, .slice Ao11 t539.length co11], .int .i64 t542] rfl (by first | rfl | (simp only [List.map_toArray, List.map_cons, List.map_nil, List.length_drop, List.length_take]; try rfl)) ?_; (with_reducible refine (impl_TrailEnds.calls k1 t538 _ _ t539 t542 t556 _ ?side1 ?side2 A24.out).mono ?_); (case side1 => repeat (first | exact (Kd.Q_reads' HO_544001.out).2.2 | (with_reducible refine Kd.C_alloc ?_ _) | (with_reducible refine Kd.C_drewN ?_ _) | (with_reducible refine Kd.C_drew ?_))); (case side2 => exact (Kd.Q_reads' HO_544001.out).2.1); rintro e w26 ⟨v557, rfl, ho0, hb⟩; refine ⟨_, rfl, ?_⟩; have n0_ := Aside0.mk (Kd.R_below (kR HO_5.out) hb); have n1_ := Aside0.mk (Kd.R_below (kR HO_6.out) hb); have n2_ := Aside0.mk (Kd.Q_below (by (with_reducible repeat apply Kd.Q_alloc); exact HO_544001.out) hb); have n3_ := Aside0.mk (Kd.R_lower ho0 (below_size (by repeat first | exact HB.out | with_reducible refine below_setA ?_ ‹_› | apply below_alloc | apply pw_below_drewN))); have n4_ := Aside0.mk (blk_below (bK BK543.out) hb); have n5_ := Aside0.mk (below_step (by repeat first | exact HB.out | with_reducible refine below_setA ?_ ‹_› | apply below_alloc | apply pw_below_drewN) hb); clear HO_5; clear HO_6; clear HO_544001; clear BK543; clear HB; have HO_5 := n0_; have HO_6 := n1_; have HO_544001 := n2_; have HO558 := n3_; have BK543 := n4_; have HB := n5_; clear n0_ n1_ n2_ n3_ n4_ n5_; (try clear hb); (try clear hb2); (try clear hk); (try clear hi); (try clear ho0)))
      go_loopg [9] k1 (fun kq v9 w' => ∃ (x9_2 : Int), v9 = .int .i64 x9_2 ∧ Aside0 (laws_FnTrailHalves.l1 kq y551 t556 x9_2 = some r) ∧ Aside0 (kq ≤ k1) ∧ Aside0 (Kd.R (Kd.int .i64) 3 w' w.heap.size (fun _ => True) v552 y551) ∧ Aside0 (Kd.R k38 38 w' w.heap.size (fun _ => True) v557 t556) ∧ Aside0 (Kd.Q k42 42 w' w.heap.size (fun _ => True) (.slice Ao11 t539.length co11) t539) ∧ Aside0 (w'.heap[gb543]? = some (.cells #[.int .i64 t538, (.slice Ao11 t539.length co11)] 25 (0, 0))) ∧ Aside0 (Below w.heap.size w w'))
      case atStart => exact ⟨(0), (by first | rfl | (simp; done) | (simp [*]; done)), H', ⟨Nat.le_refl _⟩, ⟨by (with_reducible repeat apply Kd.R_alloc); exact HO_6.out⟩, ⟨by (with_reducible repeat apply Kd.R_alloc); exact HO558.out⟩, ⟨by (with_reducible repeat apply Kd.Q_alloc); exact HO_544001.out⟩, ⟨by (with_reducible repeat apply blk_alloc); exact BK543.out⟩, ⟨by repeat first | exact HB.out | with_reducible refine below_setA ?_ ‹_› | apply below_alloc | apply pw_below_drewN⟩⟩
      case round =>
       clear H'
       try clear c1
       try clear c2
       try clear c2b0
       try clear c2b1
       try clear p2
       try clear p5
       try clear q5
       try clear hx5
       try clear p6
       try clear c7
       try clear c10
       try clear c11
       try clear c12
       try clear c13
       try clear c16
       try clear c19
       try clear c19b0
       try clear c20
       try clear c20b0
       try clear c22
       try clear c23
       try clear hcz10_0
       try clear hcz10_1
       try clear hcz13_0
       try clear hcz13_1
       try clear hcz25_0
       try clear hcz25_1
       try clear hfz10_0
       try clear hfz10_1
       try clear hfz13_0
       try clear hfz13_1
       try clear hfz25_0
       try clear hfz25_1
       try clear hx554_0
       try clear hx554_1
       try clear hx554_2
       try clear p2
       try clear p554
       try clear q554
       obtain ⟨x9_2, rfl, HA, HK2, HO_6, HO_8, HO_544001, BK543, HB⟩ := hrel
       cases gk with
       | zero => exact absurd HA.out (by simp [laws_FnTrailHalves.l1])
       | succ k2 =>
        have H := HA.out
        clear HA
        simp only [laws_FnTrailHalves.l1] at H
        by_cases c27 : x9_2 < (t556.length : Int)
        ·rw [if_pos c27] at H
         have c27b0 : decide (x9_2 < (t556.length : Int)) = true := decide_eq_true c27
         clear c27
         by_cases c28 : 0 ≤ x9_2
         ·rw [if_pos c28] at H
          have c28b0 : decide (0 ≤ x9_2) = true := decide_eq_true c28
          clear c28
          by_cases c29 : ((rd_T38 t556 x9_2).f0) = 3
          ·rw [if_pos c29] at H
           have c29b0 : (((rd_T38 t556 x9_2).f0) == 3) = true := beq_iff_eq.mpr c29
           have c29b1 : (((rd_T38 t556 x9_2).f0) != 3) = false := bne_eq_false_iff_eq.mpr c29
           clear c29
           have H' := Aside0.mk H
           clear H
           obtain ⟨Ao30, co30, eo30⟩ := Kd.R_slice HO_8.out
           subst eo30
           have p559 : 0 ≤ (x9_2 : Int) := of_decide_eq_true (by first | (with_reducible assumption) | assumption)
           have q559 : x9_2 < (t556.length : Int) := of_decide_eq_true (by first | (with_reducible assumption) | assumption)
           obtain ⟨ad559, e559, hx559_0, hx559_1, hx559_2⟩ := at_T38 (Kd.R_reads' HO_8.out).2.2 x9_2 p559 q559
           cases e559
           replace p559 := eq_true p559
           replace q559 := eq_true q559
           go_wp2
           go_roundg k2
           case measure => have := HK1.out; have := HK2.out; omega
           case rel => exact ⟨(wrap64 (x9_2 + 1)), (by first | rfl | (simp; done) | (simp [*]; done)), H', ⟨by have := HK1.out; have := HK2.out; omega⟩, ⟨by (with_reducible repeat apply Kd.R_alloc); exact HO_6.out⟩, ⟨by (with_reducible repeat apply Kd.R_alloc); exact HO_8.out⟩, ⟨by (with_reducible repeat apply Kd.Q_alloc); exact HO_544001.out⟩, ⟨by (with_reducible repeat apply blk_alloc); exact BK543.out⟩, ⟨by repeat first | exact HB.out | with_reducible refine below_setA ?_ ‹_› | apply below_alloc | apply pw_below_drewN⟩⟩
          ·rw [if_neg c29] at H
           have c29b0 : (((rd_T38 t556 x9_2).f0) == 3) = false := beq_eq_false_iff_ne.mpr c29
           have c29b1 : (((rd_T38 t556 x9_2).f0) != 3) = true := bne_iff_ne.mpr c29
           replace H := Option.bind_eq_some_iff.mp H
           obtain ⟨t561, A310, H⟩ := H
           replace H : (if t561 = true then (laws_FnTrailHalves.l1 k2 y551 t556 (wrap64 (x9_2 + 1))) else (some false)) = some r := H
           have A31 := Aside0.mk A310
           clear A310
           by_cases c32 : t561 = true
           ·subst c32
            have H1 : (laws_FnTrailHalves.l1 k2 y551 t556 (wrap64 (x9_2 + 1))) = some r := by rw [if_pos rfl] at H; exact H
            clear H
            have H := H1
            clear H1
            have H' := Aside0.mk H
            clear H
            obtain ⟨Ao33, co33, eo33⟩ := Kd.R_slice HO_8.out
            subst eo33
            have p559 : 0 ≤ (x9_2 : Int) := of_decide_eq_true (by first | (with_reducible assumption) | assumption)
            have q559 : x9_2 < (t556.length : Int) := of_decide_eq_true (by first | (with_reducible assumption) | assumption)
            obtain ⟨ad559, e559, hx559_0, hx559_1, hx559_2⟩ := at_T38 (Kd.R_reads' HO_8.out).2.2 x9_2 p559 q559
            cases e559
            replace p559 := eq_true p559
            replace q559 := eq_true q559
            have p560 : 0 ≤ (x9_2 : Int) := of_decide_eq_true (by first | (with_reducible assumption) | assumption)
            have q560 : x9_2 < (t556.length : Int) := of_decide_eq_true (by first | (with_reducible assumption) | assumption)
            obtain ⟨ad560, e560, hx560_0, hx560_1, hx560_2⟩ := at_T38 (Kd.R_reads' HO_8.out).2.2 x9_2 p560 q560
            obtain rfl : ad559 = ad560 := (by injection e560)
            replace p560 := eq_true p560
            replace q560 := eq_true q560
            obtain ⟨Ao34, co34, eo34⟩ := Kd.R_slice HO_6.out
            subst eo34
            go_wp2_with (first | (go_at_call 23; (with_reducible refine (laws_llHas.calls k2 _ _ y551 ((rd_T38 t556 x9_2).f2) true _ ?side1 ?side2 A31.out).mono ?_); (case side1 => repeat (first | exact (Kd.R_reads' HO_6.out).2.2 | (with_reducible refine Kd.C_alloc ?_ _) | (with_reducible refine Kd.C_drewN ?_ _) | (with_reducible refine Kd.C_drew ?_))); (case side2 => exact (Kd.R_reads' HO_6.out).2.1); rintro e w' ⟨rfl, ⟨nd, rfl⟩⟩))
            go_roundg k2
            case measure => have := HK1.out; have := HK2.out; omega
            case rel => exact ⟨(wrap64 (x9_2 + 1)), (by first | rfl | (simp; done) | (simp [*]; done)), H', ⟨by have := HK1.out; have := HK2.out; omega⟩, ⟨by (with_reducible repeat apply Kd.R_alloc); exact HO_6.out⟩, ⟨by (with_reducible repeat apply Kd.R_alloc); exact HO_8.out⟩, ⟨by (with_reducible repeat apply Kd.Q_alloc); exact HO_544001.out⟩, ⟨by (with_reducible repeat apply blk_alloc); exact BK543.out⟩, ⟨by repeat first | exact HB.out | with_reducible refine below_setA ?_ ‹_› | apply below_alloc | apply pw_below_drewN⟩⟩
           ·replace c32 := Bool.eq_false_iff.mpr c32
            subst c32
            have H1 : (some false) = some r := by rw [if_neg (show ¬ (false = true) by decide)] at H; exact H
            clear H
            have H := H1
            clear H1
            obtain rfl := Option.some.inj H
            exact absurd HRT.out (by decide)
         ·rw [if_neg c28] at H
          exact absurd H (by simp)
        ·rw [if_neg c27] at H
         have c27b0 : decide (x9_2 < (t556.length : Int)) = false := decide_eq_false c27
         clear c27
         obtain rfl := Option.some.inj H
         obtain ⟨Ao35, co35, eo35⟩ := Kd.R_slice HO_8.out
         subst eo35
         go_wp2
         go_ret
         exact ⟨by first | rfl | (simp [errW_none, errW_some] <;> rfl) | (simp [*, errW_none, errW_some] <;> rfl) | (exfalso; simp_all; done), by repeat first | exact HB.out | with_reducible refine below_setA ?_ ‹_› | apply below_alloc | apply pw_below_drewN⟩
  ·replace c7 := Bool.eq_false_iff.mpr c7
   subst c7
   have H1 : (some false) = some r := by rw [if_neg (show ¬ (false = true) by decide)] at H; exact H
   clear H
   have H := H1
   clear H1
   obtain rfl := Option.some.inj H
   exact absurd HRT.out (by decide)

/-- THE ONE PURE STATEMENT of laws_FnTrailHalves: yours. -/
def laws_FnTrailHalves.Pure : Prop := ∀ (l0 : List Int), l0.length ≤ maxLen → l0.length * 1 ≤ 140737488351232 → (∀ x ∈ l0, (Lit.int .u8 x).wf = true) → ∃ k, laws_FnTrailHalves.f k l0 = some true
theorem laws_FnTrailHalves.walk (P : laws_FnTrailHalves.Pure) (a0 : Option Addr) (len0 cap0 : Nat) (z0 : List Int) (w : World) (w0 : (a0 = none ∧ len0 = 0 ∧ cap0 = 0 ∧ z0 = []) ∨ ∃ x, a0 = some x ∧ len0 ≤ cap0 ∧ cap0 ≤ maxLen ∧ z0.length = cap0 ∧ (∀ i, i < z0.length → w.cell? (x.add i) = some (.int .u8 (z0.getD i 0))) ∧ ∀ n ∈ z0, (Lit.int .u8 n).wf = true) (y0 : len0 * 1 ≤ 140737488351232) :
  Calls Try.prog 7 #[.slice a0 len0 cap0] w fun e w' => e = .returned (.bool true) ∧ Below w.heap.size w w' := by
 obtain ⟨l0, rfl, hr0, hm0, hw0, hc0⟩ := ReadsInt.ofRowC w0
 obtain ⟨k, h⟩ := P l0 hm0 y0 hw0
 refine (laws_FnTrailHalves.calls k _ _ l0 true w (Kd.C_of_reads (d := (0 : Int)) (h1 := fun _ => rfl) hr0) hc0 h rfl).mono ?_
 rintro e w' ⟨rfl, hd⟩
 exact ⟨rfl, hd⟩

end Go.Proofs.Yteapnipnoadejaa.P
