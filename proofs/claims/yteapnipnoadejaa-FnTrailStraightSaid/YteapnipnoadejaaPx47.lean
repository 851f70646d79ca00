/- PROVED: contracts of functions; No condition. -/
import Derived.Test.YteapnipnoadejaaPx0
import Derived.Test.YteapnipnoadejaaPx13
import Derived.Test.YteapnipnoadejaaPx28
import Derived.Test.YteapnipnoadejaaPx36
import Derived.Test.YteapnipnoadejaaPx37
import Derived.Test.YteapnipnoadejaaPx40
import Derived.Test.YteapnipnoadejaaPx43
import Derived.Test.YteapnipnoadejaaT3Go
namespace Go.Proofs.Yteapnipnoadejaa.P
open Go.RowKit Go.Proofs.YteapnipnoadejaaW
set_option linter.unusedVariables false
set_option linter.unusedSimpArgs false
mutual
def laws_FnTrailStraight.j0 : Nat -> Int -> List (S38) -> Bool -> Int -> List (S42) -> Option (Bool)
 | 0, _, _, _, _, _ => none
 | k + 1, x4, x5, x34, x433000, x433001 => if x34 = true then ((spec_TrailEnds.f k x433000 x433001 x4).bind fun t441 => ((laws_llEnds.f k x5 t441).bind fun t444 => (some t444))) else (if 0 <= (x433001.length : Int) then (if ((x433001.length : Int) : Int).toNat <= 17592186044416 then ((some (List.replicate ((x433001.length : Int) : Int).toNat z42 : List (S42))).bind fun y445 => (if x433000 = 0 then (none) else (if x4 >= x433000 then (if x4 < (wrap64 (x433000 + (wrap64 ((x433001.length : Int) / x433000)))) then (laws_FnTrailStraight.j1 k x4 (wrap64 ((x433001.length : Int) / x433000)) (wrap64 ((wrap64 ((wrap64 ((wrap64 (2 * x433000)) + (wrap64 ((x433001.length : Int) / x433000)))) - 1)) - x4)) true x433000 x433001 x433000 y445) else (laws_FnTrailStraight.j1 k x4 (wrap64 ((x433001.length : Int) / x433000)) (wrap64 ((wrap64 ((wrap64 ((wrap64 (2 * x433000)) + (wrap64 ((x433001.length : Int) / x433000)))) - 1)) - x4)) (decide (x4 >= (wrap64 ((wrap64 (2 * x433000)) + (wrap64 ((x433001.length : Int) / x433000)))))) x433000 x433001 x433000 y445)) else (laws_FnTrailStraight.j1 k x4 (wrap64 ((x433001.length : Int) / x433000)) (wrap64 ((wrap64 ((wrap64 ((wrap64 (2 * x433000)) + (wrap64 ((x433001.length : Int) / x433000)))) - 1)) - x4)) (decide (x4 >= (wrap64 ((wrap64 (2 * x433000)) + (wrap64 ((x433001.length : Int) / x433000)))))) x433000 x433001 x433000 y445)))) else (none)) else (none))
def laws_FnTrailStraight.j1 : Nat -> Int -> Int -> Int -> Bool -> Int -> List (S42) -> Int -> List (S42) -> Option (Bool)
 | 0, _, _, _, _, _, _, _, _ => none
 | k + 1, x4, x7, x8, x81, x433000, x433001, x449000, x449001 => if x81 = true then (laws_FnTrailStraight.j2 k x4 x7 (wrap64 ((wrap64 ((wrap64 ((wrap64 (3 * x433000)) + (wrap64 (2 * x7)))) - 1)) - x4)) x433000 x433001 x449000 x449001) else (laws_FnTrailStraight.j2 k x4 x7 x8 x433000 x433001 x449000 x449001)
def laws_FnTrailStraight.j2 : Nat -> Int -> Int -> Int -> Int -> List (S42) -> Int -> List (S42) -> Option (Bool)
 | 0, _, _, _, _, _, _, _ => none
 | k + 1, x4, x7, x8, x433000, x433001, x449000, x449001 => (impl_SightRay.f k x433000 x433001 x4).bind fun bt449 => (if (Int.tmod bt449.2.1 2) = 1 then ((impl_TrailEnds.f k x449000 x449001 x4).bind fun t453 => ((laws_llEnds.f k t453 (([(⟨0, x8, 64⟩ : S38)] : List (S38)))).bind fun t459 => (if t459 = true then ((impl_TrailVisits.f k x449000 x449001 x4).bind fun t460 => (some ((t460.length : Int) == x433000))) else (some false)))) else ((impl_TrailEnds.f k x449000 x449001 x4).bind fun t463 => ((laws_llEnds.f k t463 (([(⟨0, x8, 64⟩ : S38)] : List (S38)))).bind fun t469 => (if t469 = true then ((impl_TrailVisits.f k x449000 x449001 x4).bind fun t470 => (some ((t470.length : Int) == x7))) else (some false)))))
end
def laws_FnTrailStraight.f (k : Nat) (l0 : List Int) : Option (Bool) := if (l0.length : Int) > 1048576 then (some true) else ((spec_DrawTrailEnds.f k l0).bind fun bt427 => ((impl_TrailEnds.f k bt427.1 bt427.2.1 bt427.2.2).bind fun t433 => ((spec_TrailEnds.f k bt427.1 bt427.2.1 bt427.2.2).bind fun t436 => ((laws_llEnds.f k t433 t436).bind fun t439 => (if t439 = true then ((laws_llSight.f k bt427.1 bt427.2.1 bt427.2.2).bind fun t440 => (laws_FnTrailStraight.j0 k bt427.2.2 t433 (!t440) bt427.1 bt427.2.1)) else (laws_FnTrailStraight.j0 k bt427.2.2 t433 true bt427.1 bt427.2.1))))))
def laws_FnTrailStraight.T7 : Bool × List (List Nat × List Nat) := (true, [([], []), ([0], [0]), ([], []), ([2], [2]), ([3], [3]), ([4, 4], [4]), ([1, 5], [1, 5]), ([], []), ([7, 6, 0, 1, 2, 3, 4, 5, 6, 7], [6, 7])])
def laws_FnTrailStraight.B7 : List Nat := [0, 1, 0, 4, 12, 28, 63, 0, 255]
theorem laws_FnTrailStraight.tab7 : rtab .any (opsOf Try.f5 7) = laws_FnTrailStraight.T7 := by kernel_rfl
theorem laws_FnTrailStraight.bits7 : waitsOk laws_FnTrailStraight.T7.2 laws_FnTrailStraight.B7 = true := by kernel_rfl
set_option maxHeartbeats 8000000 in
set_option maxRecDepth 100000 in
theorem laws_FnTrailStraight.calls (k : Nat) (A0 : Option Addr) (c0 : Nat) (l0 : List Int) (r : Bool) (w : World) (hr0 : Kd.C (Kd.int .u8) w A0 l0.length l0) (hc0 : l0.length <= c0) (h : laws_FnTrailStraight.f k l0 = some r) (hrt : r = true) :
  Calls Try.prog 5 #[.slice A0 l0.length c0] w fun e w' => e = .returned (.bool r) ∧ Below w.heap.size w w' := by
 have HRT := Aside0.mk hrt
 clear hrt
 have hu25 := Try.underlying25
 have hu44 := Try.underlying44
 have hu38 := Try.underlying38
 have HR0 := Aside0.mk hr0
 have HC0 := Aside0.mk hc0
 clear hr0 hc0
 have HB := Aside0.mk (Below.refl w.heap.size w)
 have H : (if (l0.length : Int) > 1048576 then (some true) else ((spec_DrawTrailEnds.f k l0).bind fun bt427 => ((impl_TrailEnds.f k bt427.1 bt427.2.1 bt427.2.2).bind fun t433 => ((spec_TrailEnds.f k bt427.1 bt427.2.1 bt427.2.2).bind fun t436 => ((laws_llEnds.f k t433 t436).bind fun t439 => (if t439 = true then ((laws_llSight.f k bt427.1 bt427.2.1 bt427.2.2).bind fun t440 => (laws_FnTrailStraight.j0 k bt427.2.2 t433 (!t440) bt427.1 bt427.2.1)) else (laws_FnTrailStraight.j0 k bt427.2.2 t433 true bt427.1 bt427.2.1))))))) = some r := h
 clear h
 by_cases c2 : (l0.length : Int) > 1048576
 ·rw [if_pos c2] at H
  have c2b0 : decide (1048576 < (l0.length : Int)) = true := decide_eq_true c2
  have c2b1 : decide (1048576 < l0.length) = true := decide_eq_true (by omega)
  clear c2
  obtain rfl := Option.some.inj H
  go_enter Try.func5, Try.ntmps5
  go_wp2
  go_ret
  exact ⟨by first | rfl | (simp [errW_none, errW_some] <;> rfl) | (simp [*, errW_none, errW_some] <;> rfl) | (exfalso; simp_all; done), by repeat first | exact HB.out | apply below_alloc | apply pw_below_drewN⟩
 ·rw [if_neg c2] at H
  have c2b0 : decide (1048576 < (l0.length : Int)) = false := decide_eq_false c2
  have c2b1 : decide (1048576 < l0.length) = false := decide_eq_false (by omega)
  clear c2
  replace H := Option.bind_eq_some_iff.mp H
  obtain ⟨⟨t427, t428, t431⟩, A30, H⟩ := H
  replace H : ((impl_TrailEnds.f k t427 t428 t431).bind fun t433 => ((spec_TrailEnds.f k t427 t428 t431).bind fun t436 => ((laws_llEnds.f k t433 t436).bind fun t439 => (if t439 = true then ((laws_llSight.f k t427 t428 t431).bind fun t440 => (laws_FnTrailStraight.j0 k t431 t433 (!t440) t427 t428)) else (laws_FnTrailStraight.j0 k t431 t433 true t427 t428))))) = some r := H
  have A3 := Aside0.mk A30
  clear A30
  replace H := Option.bind_eq_some_iff.mp H
  obtain ⟨t433, A40, H⟩ := H
  replace H : ((spec_TrailEnds.f k t427 t428 t431).bind fun t436 => ((laws_llEnds.f k t433 t436).bind fun t439 => (if t439 = true then ((laws_llSight.f k t427 t428 t431).bind fun t440 => (laws_FnTrailStraight.j0 k t431 t433 (!t440) t427 t428)) else (laws_FnTrailStraight.j0 k t431 t433 true t427 t428)))) = some r := H
  have A4 := Aside0.mk A40
  clear A40
  have HC5 := Aside0.mk H
  clear H
  go_enter Try.func5, Try.ntmps5
  go_upto_region 5 with (first | ((with_reducible refine gate_callee (f := 17) rfl ?_); refine goesL_ (some 17) rfl rfl Try.func17 (by kernel_rfl) rfl #[.slice A0 l0.length c0] rfl (by first | rfl | (simp only [List.map_toArray, List.map_cons, List.map_nil, List.length_drop, List.length_take]; try rfl)) ?_; (with_reducible refine (spec_DrawTrailEnds.calls k _ _ l0 t427 t428 t431 _ ?side1 ?side2 A3.out).mono ?_); (case side1 => repeat (first | exact HR0.out | (with_reducible refine Kd.C_alloc ?_ _) | (with_reducible refine Kd.C_drewN ?_ _) | (with_reducible refine Kd.C_drew ?_))); (case side2 => exact HC0.out); rintro e w6 ⟨v429, rfl, ho0, hb⟩; refine ⟨_, rfl, ?_⟩; have n0_ := Aside0.mk (Kd.Q_lower ho0 (below_size (by repeat first | exact HB.out | apply below_alloc | apply pw_below_drewN))); have n1_ := Aside0.mk (below_step (by repeat first | exact HB.out | apply below_alloc | apply pw_below_drewN) hb); clear HB; have HO430 := n0_; have HB := n1_; clear n0_ n1_; (try clear hb); (try clear hb2); (try clear hk); (try clear hi); (try clear ho0)) | ((with_reducible refine gate_dst (N := 3) rfl ?_); (try (refine gate_guard (by rfl) ?_; dsimp only)); refine box_event rfl (N := 3) rfl (cs := #[.int .i64 0, .slice none 0 0]) (t := 25) ?hr ?_; (case hr => first | (go_simp; done) | (go_simp; rfl)); intro gb432 hg w7 hbox hb; have n0_ := Aside0.mk (Kd.Q_below (by (with_reducible repeat apply Kd.Q_alloc); exact HO430.out) hb); have n1_ := Aside0.mk (below_step (by repeat first | exact HB.out | apply below_alloc | apply pw_below_drewN) hb); have n2_ := Aside0.mk (hbox); have n3_ := Aside0.mk ((by rw [hg]; exact (below_size (by repeat first | exact HB.out | apply below_alloc | apply pw_below_drewN)) : w.heap.size <= gb432)); have n4_ := n3_; clear HO430; clear HB; have HO430 := n0_; have HB := n1_; have BK432 := n2_; have GW432 := n3_; have GE432 := n4_; clear n0_ n1_ n2_ n3_ n4_; clear hb hbox hg; have hcz8_0 : w7.cell? ⟨gb432, 0, none⟩ = some (.int .i64 0) := (blk_cell BK432.out 0).trans rfl; have hcz8_1 : w7.cell? ⟨gb432, 1, none⟩ = some (.slice none 0 0) := (blk_cell BK432.out 1).trans rfl; have hfz8_0 := blk_frozen BK432.out 0; have hfz8_1 := blk_frozen BK432.out 1; obtain ⟨Ao9, co9, eo9, _⟩ := Kd.Q_slice HO430.out; subst eo9) | ((with_reducible refine gate_callee (f := 16) rfl ?_); refine goesL_ (some 22) rfl rfl Try.func16 (by kernel_rfl) rfl #[.agg #[.int .i64 t427, .slice Ao9 t428.length co9], .int .i64 t431] rfl (by first | rfl | (simp only [List.map_toArray, List.map_cons, List.map_nil, List.length_drop, List.length_take]; try rfl)) ?_; (with_reducible refine (impl_TrailEnds.calls k t427 _ _ t428 t431 t433 _ ?side1 ?side2 A4.out).mono ?_); (case side1 => refine (Kd.Q_reads' (e := 42) (base := w.heap.size) (ok := fun k_ => True) (n := t428.length) (c := co9) ?_).2.2; exact (by (with_reducible repeat apply Kd.Q_alloc); exact (Kd.Q_mono (Kd.Q_far (p := ⟨gb432, 1, none⟩) (Kd.Q_far (p := ⟨gb432, 0, none⟩) (Kd.Q_types HO430.out BK432.out (by decide)) (fun _ hk => hk.2) (.int .i64 t427)) (fun _ hk => hk.2) (.slice Ao9 t428.length co9)) (fun _ h_ => h_.1)))); (case side2 => exact (Kd.Q_reads' HO430.out).2.1); rintro e w10 ⟨v434, rfl, ho0, hb⟩; refine ⟨_, rfl, ?_⟩; have n0_ := Aside0.mk (Kd.Q_below (by (with_reducible repeat apply Kd.Q_alloc); exact (Kd.Q_mono (Kd.Q_far (p := ⟨gb432, 1, none⟩) (Kd.Q_far (p := ⟨gb432, 0, none⟩) (Kd.Q_types HO430.out BK432.out (by decide)) (fun _ hk => hk.2) (.int .i64 t427)) (fun _ hk => hk.2) (.slice Ao9 t428.length co9)) (fun _ h_ => h_.1))) hb); have n1_ := Aside0.mk (Kd.R_lower ho0 (below_size (by repeat first | exact HB.out | with_reducible refine below_setA ?_ ‹_› | apply below_alloc | apply pw_below_drewN))); have n2_ := Aside0.mk (blk_below (g := gb432) (o := .cells #[.int .i64 t427, .slice Ao9 t428.length co9] 25 (0, 0)) (by (with_reducible repeat apply blk_alloc); refine blk_put (cs := #[.int .i64 t427, .slice none 0 0]) ?_ 1 _ rfl; (with_reducible repeat apply blk_alloc); refine blk_put (cs := #[.int .i64 0, .slice none 0 0]) ?_ 0 _ rfl; (with_reducible repeat apply blk_alloc); exact BK432.out) hb); have n3_ := Aside0.mk (below_step (by repeat first | exact HB.out | with_reducible refine below_setA ?_ ‹_› | apply below_alloc | apply pw_below_drewN) hb); clear HO430; clear BK432; clear HB; have HO430 := n0_; have HO435 := n1_; have BK432 := n2_; have HB := n3_; clear n0_ n1_ n2_ n3_; (try clear hb); (try clear hb2); (try clear hk); (try clear hi); (try clear ho0)))
  (try simp only [Act.put, List.setIfInBounds_toArray, List.set_cons_zero, List.set_cons_succ])
  go_cut [34] (fun v34 wc => ∃ (kq : Nat) (x34_4 : Bool), v34 = .bool x34_4 ∧ Aside0 (laws_FnTrailStraight.j0 kq t431 t433 x34_4 t427 t428 = some r) ∧ Aside0 (kq <= k) ∧ Aside0 (Kd.R k38 38 wc w.heap.size (fun _ => True) v434 t433) ∧ Aside0 (Kd.Q k42 42 wc w.heap.size (fun _ => True) (.slice Ao9 t428.length co9) t428) ∧ Aside0 (wc.heap[gb432]? = some (.cells #[.int .i64 t427, (.slice Ao9 t428.length co9)] 25 (0, 0))) ∧ Aside0 (Below w.heap.size w wc))
  case first =>
   have H := HC5.out
   clear HC5
   replace H := Option.bind_eq_some_iff.mp H
   obtain ⟨t436, A110, H⟩ := H
   replace H : ((laws_llEnds.f k t433 t436).bind fun t439 => (if t439 = true then ((laws_llSight.f k t427 t428 t431).bind fun t440 => (laws_FnTrailStraight.j0 k t431 t433 (!t440) t427 t428)) else (laws_FnTrailStraight.j0 k t431 t433 true t427 t428))) = some r := H
   have A11 := Aside0.mk A110
   clear A110
   replace H := Option.bind_eq_some_iff.mp H
   obtain ⟨t439, A120, H⟩ := H
   replace H : (if t439 = true then ((laws_llSight.f k t427 t428 t431).bind fun t440 => (laws_FnTrailStraight.j0 k t431 t433 (!t440) t427 t428)) else (laws_FnTrailStraight.j0 k t431 t433 true t427 t428)) = some r := H
   have A12 := Aside0.mk A120
   clear A120
   by_cases c13 : t439 = true
   ·subst c13
    have H1 : ((laws_llSight.f k t427 t428 t431).bind fun t440 => (laws_FnTrailStraight.j0 k t431 t433 (!t440) t427 t428)) = some r := by rw [if_pos rfl] at H; exact H
    clear H
    have H := H1
    clear H1
    replace H := Option.bind_eq_some_iff.mp H
    obtain ⟨t440, A140, H⟩ := H
    replace H : (laws_FnTrailStraight.j0 k t431 t433 (!t440) t427 t428) = some r := H
    have A14 := Aside0.mk A140
    clear A140
    have H' := Aside0.mk H
    clear H
    have hcz15_0 : w10.cell? ⟨gb432, 0, none⟩ = some (.int .i64 t427) := (blk_cell BK432.out 0).trans rfl
    have hcz15_1 : w10.cell? ⟨gb432, 1, none⟩ = some (.slice Ao9 t428.length co9) := (blk_cell BK432.out 1).trans rfl
    have hfz15_0 := blk_frozen BK432.out 0
    have hfz15_1 := blk_frozen BK432.out 1
    go_wp2_with (first | ((with_reducible refine gate_callee (f := 19) rfl ?_); refine goesL_ (some 26) rfl rfl Try.func19 (by kernel_rfl) rfl #[.agg #[.int .i64 t427, .slice Ao9 t428.length co9], .int .i64 t431] rfl (by first | rfl | (simp only [List.map_toArray, List.map_cons, List.map_nil, List.length_drop, List.length_take]; try rfl)) ?_; (with_reducible refine (spec_TrailEnds.calls k t427 _ _ t428 t431 t436 _ ?side1 ?side2 A11.out).mono ?_); (case side1 => repeat (first | exact (Kd.Q_reads' HO430.out).2.2 | (with_reducible refine Kd.C_alloc ?_ _) | (with_reducible refine Kd.C_drewN ?_ _) | (with_reducible refine Kd.C_drew ?_))); (case side2 => exact (Kd.Q_reads' HO430.out).2.1); rintro e w16 ⟨v437, rfl, ho0, hb⟩; refine ⟨_, rfl, ?_⟩; have n0_ := Aside0.mk (Kd.Q_below (by (with_reducible repeat apply Kd.Q_alloc); exact HO430.out) hb); have n1_ := Aside0.mk (Kd.R_elder' (kR HO435.out) (Kd.R_base ho0) hb); have n2_ := Aside0.mk (Kd.R_lower (Kd.R_new' ho0 (Kd.R_lt (kR HO435.out))) (below_size (by repeat first | exact HB.out | with_reducible refine below_setA ?_ ‹_› | apply below_alloc | apply pw_below_drewN))); have n3_ := Aside0.mk (blk_below (bK BK432.out) hb); have n4_ := Aside0.mk (below_step (by repeat first | exact HB.out | with_reducible refine below_setA ?_ ‹_› | apply below_alloc | apply pw_below_drewN) hb); clear HO430; clear HO435; clear BK432; clear HB; have HO430 := n0_; have HO435 := n1_; have HO438 := n2_; have BK432 := n3_; have HB := n4_; clear n0_ n1_ n2_ n3_ n4_; (try clear hb); (try clear hb2); (try clear hk); (try clear hi); (try clear ho0); obtain ⟨Ao17, co17, eo17⟩ := Kd.R_slice HO435.out; subst eo17; obtain ⟨Ao18, co18, eo18⟩ := Kd.R_slice HO438.out; subst eo18) | ((with_reducible refine gate_callee (f := 18) rfl ?_); refine goesL_ (some 27) rfl rfl Try.func18 (by kernel_rfl) rfl #[.slice Ao17 t433.length co17, .slice Ao18 t436.length co18] rfl (by first | rfl | (simp only [List.map_toArray, List.map_cons, List.map_nil, List.length_drop, List.length_take]; try rfl)) ?_; (with_reducible refine (laws_llEnds.calls k _ _ t433 _ _ t436 true _ ?side1 ?side2 ?side3 ?side4 A12.out).mono ?_); (case side1 => repeat (first | exact (Kd.R_reads' HO435.out).2.2 | (with_reducible refine Kd.C_alloc ?_ _) | (with_reducible refine Kd.C_drewN ?_ _) | (with_reducible refine Kd.C_drew ?_))); (case side2 => exact (Kd.R_reads' HO435.out).2.1); (case side3 => repeat (first | exact (Kd.R_reads' HO438.out).2.2 | (with_reducible refine Kd.C_alloc ?_ _) | (with_reducible refine Kd.C_drewN ?_ _) | (with_reducible refine Kd.C_drew ?_))); (case side4 => exact (Kd.R_reads' HO438.out).2.1); rintro e w' ⟨rfl, ⟨nd, rfl⟩⟩; refine ⟨_, rfl, ?_⟩; have hcz19_0 : w16.cell? ⟨gb432, 0, none⟩ = some (.int .i64 t427) := (blk_cell BK432.out 0).trans rfl; have hcz19_1 : w16.cell? ⟨gb432, 1, none⟩ = some (.slice Ao9 t428.length co9) := (blk_cell BK432.out 1).trans rfl; have hfz19_0 := blk_frozen BK432.out 0; have hfz19_1 := blk_frozen BK432.out 1) | (go_at_call 14; (with_reducible refine (laws_llSight.calls k t427 _ _ t428 t431 t440 _ ?side1 ?side2 A14.out).mono ?_); (case side1 => repeat (first | exact (Kd.Q_reads' HO430.out).2.2 | (with_reducible refine Kd.C_alloc ?_ _) | (with_reducible refine Kd.C_drewN ?_ _) | (with_reducible refine Kd.C_drew ?_))); (case side2 => exact (Kd.Q_reads' HO430.out).2.1); rintro e w20 ⟨rfl, hb⟩; have n0_ := Aside0.mk (Kd.Q_below (by (with_reducible repeat apply Kd.Q_alloc); exact HO430.out) hb); have n1_ := Aside0.mk (Kd.R_below (kR HO435.out) hb); have n2_ := Aside0.mk (Kd.R_below (kR HO438.out) hb); have n3_ := Aside0.mk (blk_below (bK BK432.out) hb); have n4_ := Aside0.mk (below_step (by repeat first | exact HB.out | with_reducible refine below_setA ?_ ‹_› | apply below_alloc | apply pw_below_drewN) hb); clear HO430; clear HO435; clear HO438; clear BK432; clear HB; have HO430 := n0_; have HO435 := n1_; have HO438 := n2_; have BK432 := n3_; have HB := n4_; clear n0_ n1_ n2_ n3_ n4_; (try clear hb); (try clear hb2); (try clear hk); (try clear hi)))
    go_meet
    case rel => exact ⟨_, (!t440), (by first | rfl | (simp; done) | (simp [*]; done)), H', ⟨by first | omega | exact Nat.le_refl _⟩, ⟨by (with_reducible repeat apply Kd.R_alloc); exact Kd.R_mono HO435.out (fun _ hk => trivial)⟩, ⟨by (with_reducible repeat apply Kd.Q_alloc); exact HO430.out⟩, ⟨by (with_reducible repeat apply blk_alloc); exact BK432.out⟩, ⟨by repeat first | exact HB.out | with_reducible refine below_setA ?_ ‹_› | apply below_alloc | apply pw_below_drewN⟩⟩
   ·replace c13 := Bool.eq_false_iff.mpr c13
    subst c13
    have H1 : (laws_FnTrailStraight.j0 k t431 t433 true t427 t428) = some r := by rw [if_neg (show ¬ (false = true) by decide)] at H; exact H
    clear H
    have H := H1
    clear H1
    have H' := Aside0.mk H
    clear H
    have hcz21_0 : w10.cell? ⟨gb432, 0, none⟩ = some (.int .i64 t427) := (blk_cell BK432.out 0).trans rfl
    have hcz21_1 : w10.cell? ⟨gb432, 1, none⟩ = some (.slice Ao9 t428.length co9) := (blk_cell BK432.out 1).trans rfl
    have hfz21_0 := blk_frozen BK432.out 0
    have hfz21_1 := blk_frozen BK432.out 1
    go_wp2_with (first | ((with_reducible refine gate_callee (f := 19) rfl ?_); refine goesL_ (some 26) rfl rfl Try.func19 (by kernel_rfl) rfl #[.agg #[.int .i64 t427, .slice Ao9 t428.length co9], .int .i64 t431] rfl (by first | rfl | (simp only [List.map_toArray, List.map_cons, List.map_nil, List.length_drop, List.length_take]; try rfl)) ?_; (with_reducible refine (spec_TrailEnds.calls k t427 _ _ t428 t431 t436 _ ?side1 ?side2 A11.out).mono ?_); (case side1 => repeat (first | exact (Kd.Q_reads' HO430.out).2.2 | (with_reducible refine Kd.C_alloc ?_ _) | (with_reducible refine Kd.C_drewN ?_ _) | (with_reducible refine Kd.C_drew ?_))); (case side2 => exact (Kd.Q_reads' HO430.out).2.1); rintro e w22 ⟨v437, rfl, ho0, hb⟩; refine ⟨_, rfl, ?_⟩; have n0_ := Aside0.mk (Kd.Q_below (by (with_reducible repeat apply Kd.Q_alloc); exact HO430.out) hb); have n1_ := Aside0.mk (Kd.R_elder' (kR HO435.out) (Kd.R_base ho0) hb); have n2_ := Aside0.mk (Kd.R_lower (Kd.R_new' ho0 (Kd.R_lt (kR HO435.out))) (below_size (by repeat first | exact HB.out | with_reducible refine below_setA ?_ ‹_› | apply below_alloc | apply pw_below_drewN))); have n3_ := Aside0.mk (blk_below (bK BK432.out) hb); have n4_ := Aside0.mk (below_step (by repeat first | exact HB.out | with_reducible refine below_setA ?_ ‹_› | apply below_alloc | apply pw_below_drewN) hb); clear HO430; clear HO435; clear BK432; clear HB; have HO430 := n0_; have HO435 := n1_; have HO438 := n2_; have BK432 := n3_; have HB := n4_; clear n0_ n1_ n2_ n3_ n4_; (try clear hb); (try clear hb2); (try clear hk); (try clear hi); (try clear ho0); obtain ⟨Ao23, co23, eo23⟩ := Kd.R_slice HO435.out; subst eo23; obtain ⟨Ao24, co24, eo24⟩ := Kd.R_slice HO438.out; subst eo24) | ((with_reducible refine gate_callee (f := 18) rfl ?_); refine goesL_ (some 27) rfl rfl Try.func18 (by kernel_rfl) rfl #[.slice Ao23 t433.length co23, .slice Ao24 t436.length co24] rfl (by first | rfl | (simp only [List.map_toArray, List.map_cons, List.map_nil, List.length_drop, List.length_take]; try rfl)) ?_; (with_reducible refine (laws_llEnds.calls k _ _ t433 _ _ t436 false _ ?side1 ?side2 ?side3 ?side4 A12.out).mono ?_); (case side1 => repeat (first | exact (Kd.R_reads' HO435.out).2.2 | (with_reducible refine Kd.C_alloc ?_ _) | (with_reducible refine Kd.C_drewN ?_ _) | (with_reducible refine Kd.C_drew ?_))); (case side2 => exact (Kd.R_reads' HO435.out).2.1); (case side3 => repeat (first | exact (Kd.R_reads' HO438.out).2.2 | (with_reducible refine Kd.C_alloc ?_ _) | (with_reducible refine Kd.C_drewN ?_ _) | (with_reducible refine Kd.C_drew ?_))); (case side4 => exact (Kd.R_reads' HO438.out).2.1); rintro e w' ⟨rfl, ⟨nd, rfl⟩⟩; refine ⟨_, rfl, ?_⟩))
    go_meet
    case rel => exact ⟨_, (true), (by first | rfl | (simp; done) | (simp [*]; done)), H', ⟨by first | omega | exact Nat.le_refl _⟩, ⟨by (with_reducible repeat apply Kd.R_alloc); exact Kd.R_mono HO435.out (fun _ hk => trivial)⟩, ⟨by (with_reducible repeat apply Kd.Q_alloc); exact HO430.out⟩, ⟨by (with_reducible repeat apply blk_alloc); exact BK432.out⟩, ⟨by repeat first | exact HB.out | with_reducible refine below_setA ?_ ‹_› | apply below_alloc | apply pw_below_drewN⟩⟩
  case rest =>
   clear HC5
   try clear c1
   try clear c2
   try clear c2b0
   try clear c2b1
   try clear p2
   try clear c5
   try clear c13
   try clear c16
   try clear c17
   try clear c18
   try clear c19
   try clear hcz15_0
   try clear hcz15_1
   try clear hcz19_0
   try clear hcz19_1
   try clear hcz21_0
   try clear hcz21_1
   try clear hcz8_0
   try clear hcz8_1
   try clear hfz15_0
   try clear hfz15_1
   try clear hfz19_0
   try clear hfz19_1
   try clear hfz21_0
   try clear hfz21_1
   try clear hfz8_0
   try clear hfz8_1
   obtain ⟨kq, x34_4, rfl, HA, HJ4, HO_5, HO_433001, BK432, HB⟩ := hcut
   cases kq with
   | zero => exact absurd HA.out (by simp [laws_FnTrailStraight.j0])
   | succ kj4 =>
    have H := HA.out
    clear HA
    simp only [laws_FnTrailStraight.j0] at H
    by_cases c25 : x34_4 = true
    ·subst c25
     have H1 : ((spec_TrailEnds.f kj4 t427 t428 t431).bind fun t441 => ((laws_llEnds.f kj4 t433 t441).bind fun t444 => (some t444))) = some r := by rw [if_pos rfl] at H; exact H
     clear H
     have H := H1
     clear H1
     replace H := Option.bind_eq_some_iff.mp H
     obtain ⟨t441, A260, H⟩ := H
     replace H : ((laws_llEnds.f kj4 t433 t441).bind fun t444 => (some t444)) = some r := H
     have A26 := Aside0.mk A260
     clear A260
     replace H := Option.bind_eq_some_iff.mp H
     obtain ⟨t444, A270, H⟩ := H
     replace H : (some t444) = some r := H
     have A27 := Aside0.mk A270
     clear A270
     obtain rfl := Option.some.inj H
     have hcz28_0 : wc.cell? ⟨gb432, 0, none⟩ = some (.int .i64 t427) := (blk_cell BK432.out 0).trans rfl
     have hcz28_1 : wc.cell? ⟨gb432, 1, none⟩ = some (.slice Ao9 t428.length co9) := (blk_cell BK432.out 1).trans rfl
     have hfz28_0 := blk_frozen BK432.out 0
     have hfz28_1 := blk_frozen BK432.out 1
     go_wp2_with (first | ((with_reducible refine gate_callee (f := 19) rfl ?_); refine goesL_ (some 38) rfl rfl Try.func19 (by kernel_rfl) rfl #[.agg #[.int .i64 t427, .slice Ao9 t428.length co9], .int .i64 t431] rfl (by first | rfl | (simp only [List.map_toArray, List.map_cons, List.map_nil, List.length_drop, List.length_take]; try rfl)) ?_; (with_reducible refine (spec_TrailEnds.calls kj4 t427 _ _ t428 t431 t441 _ ?side1 ?side2 A26.out).mono ?_); (case side1 => repeat (first | exact (Kd.Q_reads' HO_433001.out).2.2 | (with_reducible refine Kd.C_alloc ?_ _) | (with_reducible refine Kd.C_drewN ?_ _) | (with_reducible refine Kd.C_drew ?_))); (case side2 => exact (Kd.Q_reads' HO_433001.out).2.1); rintro e w29 ⟨v442, rfl, ho0, hb⟩; refine ⟨_, rfl, ?_⟩; have n0_ := Aside0.mk (Kd.R_elder' (kR HO_5.out) (Kd.R_base ho0) hb); have n1_ := Aside0.mk (Kd.Q_below (by (with_reducible repeat apply Kd.Q_alloc); exact HO_433001.out) hb); have n2_ := Aside0.mk (Kd.R_lower (Kd.R_new' ho0 (Kd.R_lt (kR HO_5.out))) (below_size (by repeat first | exact HB.out | with_reducible refine below_setA ?_ ‹_› | apply below_alloc | apply pw_below_drewN))); have n3_ := Aside0.mk (blk_below (bK BK432.out) hb); have n4_ := Aside0.mk (below_step (by repeat first | exact HB.out | with_reducible refine below_setA ?_ ‹_› | apply below_alloc | apply pw_below_drewN) hb); clear HO_5; clear HO_433001; clear BK432; clear HB; have HO_5 := n0_; have HO_433001 := n1_; have HO443 := n2_; have BK432 := n3_; have HB := n4_; clear n0_ n1_ n2_ n3_ n4_; (try clear hb); (try clear hb2); (try clear hk); (try clear hi); (try clear ho0); obtain ⟨Ao30, co30, eo30⟩ := Kd.R_slice HO_5.out; subst eo30; obtain ⟨Ao31, co31, eo31⟩ := Kd.R_slice HO443.out; subst eo31) | ((with_reducible refine gate_callee (f := 18) rfl ?_); refine goesL_ (some 39) rfl rfl Try.func18 (by kernel_rfl) rfl #[.slice Ao30 t433.length co30, .slice Ao31 t441.length co31] rfl (by first | rfl | (simp only [List.map_toArray, List.map_cons, List.map_nil, List.length_drop, List.length_take]; try rfl)) ?_; (with_reducible refine (laws_llEnds.calls kj4 _ _ t433 _ _ t441 t444 _ ?side1 ?side2 ?side3 ?side4 A27.out).mono ?_); (case side1 => repeat (first | exact (Kd.R_reads' HO_5.out).2.2 | (with_reducible refine Kd.C_alloc ?_ _) | (with_reducible refine Kd.C_drewN ?_ _) | (with_reducible refine Kd.C_drew ?_))); (case side2 => exact (Kd.R_reads' HO_5.out).2.1); (case side3 => repeat (first | exact (Kd.R_reads' HO443.out).2.2 | (with_reducible refine Kd.C_alloc ?_ _) | (with_reducible refine Kd.C_drewN ?_ _) | (with_reducible refine Kd.C_drew ?_))); (case side4 => exact (Kd.R_reads' HO443.out).2.1); rintro e w' ⟨rfl, ⟨nd, rfl⟩⟩; refine ⟨_, rfl, ?_⟩))
     go_ret
     exact ⟨by first | rfl | (simp [errW_none, errW_some] <;> rfl) | (simp [*, errW_none, errW_some] <;> rfl) | (exfalso; simp_all; done), by repeat first | exact HB.out | with_reducible refine below_setA ?_ ‹_› | apply below_alloc | apply pw_below_drewN⟩
    ·replace c25 := Bool.eq_false_iff.mpr c25
     subst c25
     have H1 : (if 0 <= (t428.length : Int) then (if ((t428.length : Int) : Int).toNat <= 17592186044416 then ((some (List.replicate ((t428.length : Int) : Int).toNat z42 : List (S42))).bind fun y445 => (if t427 = 0 then (none) else (if t431 >= t427 then (if t431 < (wrap64 (t427 + (wrap64 ((t428.length : Int) / t427)))) then (laws_FnTrailStraight.j1 kj4 t431 (wrap64 ((t428.length : Int) / t427)) (wrap64 ((wrap64 ((wrap64 ((wrap64 (2 * t427)) + (wrap64 ((t428.length : Int) / t427)))) - 1)) - t431)) true t427 t428 t427 y445) else (laws_FnTrailStraight.j1 kj4 t431 (wrap64 ((t428.length : Int) / t427)) (wrap64 ((wrap64 ((wrap64 ((wrap64 (2 * t427)) + (wrap64 ((t428.length : Int) / t427)))) - 1)) - t431)) (decide (t431 >= (wrap64 ((wrap64 (2 * t427)) + (wrap64 ((t428.length : Int) / t427)))))) t427 t428 t427 y445)) else (laws_FnTrailStraight.j1 kj4 t431 (wrap64 ((t428.length : Int) / t427)) (wrap64 ((wrap64 ((wrap64 ((wrap64 (2 * t427)) + (wrap64 ((t428.length : Int) / t427)))) - 1)) - t431)) (decide (t431 >= (wrap64 ((wrap64 (2 * t427)) + (wrap64 ((t428.length : Int) / t427)))))) t427 t428 t427 y445)))) else (none)) else (none)) = some r := by rw [if_neg (show ¬ (false = true) by decide)] at H; exact H
     clear H
     have H := H1
     clear H1
     by_cases c32 : 0 <= (t428.length : Int)
     ·rw [if_pos c32] at H
      have c32b0 := eq_true c32
      have c32b1 : decide (0 <= (t428.length : Int)) = true := decide_eq_true c32
      clear c32
      by_cases c33 : ((t428.length : Int) : Int).toNat <= 17592186044416
      ·rw [if_pos c33] at H
       have c33b0 := eq_true c33
       have c33b1 : decide (((t428.length : Int) : Int).toNat <= 17592186044416) = true := decide_eq_true c33
       clear c33
       obtain ⟨y445, hy445⟩ : ∃ y_ : List (S42), y_ = (List.replicate ((t428.length : Int) : Int).toNat z42) := ⟨_, rfl⟩
       replace H : (if t427 = 0 then (none) else (if t431 >= t427 then (if t431 < (wrap64 (t427 + (wrap64 ((t428.length : Int) / t427)))) then (laws_FnTrailStraight.j1 kj4 t431 (wrap64 ((t428.length : Int) / t427)) (wrap64 ((wrap64 ((wrap64 ((wrap64 (2 * t427)) + (wrap64 ((t428.length : Int) / t427)))) - 1)) - t431)) true t427 t428 t427 y445) else (laws_FnTrailStraight.j1 kj4 t431 (wrap64 ((t428.length : Int) / t427)) (wrap64 ((wrap64 ((wrap64 ((wrap64 (2 * t427)) + (wrap64 ((t428.length : Int) / t427)))) - 1)) - t431)) (decide (t431 >= (wrap64 ((wrap64 (2 * t427)) + (wrap64 ((t428.length : Int) / t427)))))) t427 t428 t427 y445)) else (laws_FnTrailStraight.j1 kj4 t431 (wrap64 ((t428.length : Int) / t427)) (wrap64 ((wrap64 ((wrap64 ((wrap64 (2 * t427)) + (wrap64 ((t428.length : Int) / t427)))) - 1)) - t431)) (decide (t431 >= (wrap64 ((wrap64 (2 * t427)) + (wrap64 ((t428.length : Int) / t427)))))) t427 t428 t427 y445))) = some r := by first | (rw [hy445]; with_reducible exact H) | (have H2_ := (Option.bind_some _ _).symm.trans H; rw [hy445]; with_reducible exact H2_) | (have H2_ := (Option.bind_some _ _).symm.trans H; with_reducible exact H2_) | with_reducible exact H | (rw [hy445]; exact H) | exact H
       have Ny445 := Aside0.mk hy445
       clear hy445
       by_cases c34 : t427 = 0
       ·rw [if_pos c34] at H
        exact absurd H (by simp)
       ·rw [if_neg c34] at H
        have c34b0 : (t427 == 0) = false := beq_eq_false_iff_ne.mpr c34
        have c34b1 : (t427 != 0) = true := bne_iff_ne.mpr c34
        have HC35 := Aside0.mk H
        clear H
        try go_wp2
        have n0_ := Aside0.mk (Kd.R_drew HO_5.out)
        have n1_ := Aside0.mk (Kd.Q_drew HO_433001.out)
        have n2_ := Aside0.mk (blk_drew BK432.out)
        have n3_ := Aside0.mk (below_drew1 HB.out)
        clear HO_5
        clear HO_433001
        clear BK432
        clear HB
        have HO_5 := n0_
        have HO_433001 := n1_
        have BK432 := n2_
        have HB := n3_
        clear n0_ n1_ n2_ n3_
        refine start_ (n := 9) (S := fun w' => w'.cell? ⟨gb432, 0, none⟩ = some (.int .i64 t427) ∧ w'.cell? ⟨gb432, 1, none⟩ = some (.slice Ao9 t428.length co9)) (ds := []) #[false, false, false, false, false, false, false, false, false] (by kernel_rfl) rfl rfl ⟨(blk_cell BK432.out 0).trans rfl, (blk_cell BK432.out 1).trans rfl⟩ (fun hHeld => ?_); refine with_tabW laws_FnTrailStraight.tab7 laws_FnTrailStraight.bits7 (fun HT_ HW_ => ?_)
        generalize wc.drew = w36 at HO_5 HO_433001 BK432 HB hHeld ⊢
        refine pure_ (i := 0) (N := some 40) (v := ?_) (a' := ?_) #[true, false, false, false, false, false, false, false, false] rfl rfl (any_of HT_.out (by kernel_rfl)) (fun _ _ _ h => h) (Or.inl ⟨by rfl, ?_⟩) ?_ ?_
        rotate_left
        ·intro w'
         go_simp
         with_reducible rfl
        rotate_left
        ·simp only [Act.put, sA_, sZ_, sS_, i64_w, i32_w]
         rfl
        refine pure_ (i := 2) (N := some 42) (v := ?_) (a' := ?_) #[true, false, true, false, false, false, false, false, false] rfl rfl (any_of HT_.out (by kernel_rfl)) (fun _ _ _ h => h) (Or.inl ⟨by rfl, ?_⟩) ?_ ?_
        rotate_left
        ·intro w'
         go_simp
         with_reducible rfl
        rotate_left
        ·simp only [Act.put, sA_, sZ_, sS_, i64_w, i32_w]
         rfl
        refine take_ (i := 1) (N := some 41) (v := ?_) (a' := ?_) #[true, true, true, false, false, false, false, false, false] rfl rfl (take_ofW HT_.out HW_.out (by kernel_rfl)) (fun _ _ _ h => h) (Or.inl ⟨by rfl, ?_⟩) hHeld ?_ ?_
        rotate_left
        ·rintro w' ⟨s0, s1⟩
         go_simp
         with_reducible rfl
        rotate_left
        ·simp only [Act.put, sA_, sZ_, sS_, i64_w, i32_w]
         rfl
        refine take_ (i := 3) (N := some 43) (v := ?_) (a' := ?_) #[true, true, true, true, false, false, false, false, false] rfl rfl (take_ofW HT_.out HW_.out (by kernel_rfl)) (fun _ _ _ h => h) (Or.inl ⟨by rfl, ?_⟩) hHeld ?_ ?_
        rotate_left
        ·rintro w' ⟨s0, s1⟩
         go_simp
         with_reducible rfl
        rotate_left
        ·simp only [Act.put, sA_, sZ_, sS_, i64_w, i32_w]
         rfl
        refine pure_ (i := 4) (N := some 44) (v := ?_) (a' := ?_) #[true, true, true, true, true, false, false, false, false] rfl rfl (any_of HT_.out (by kernel_rfl)) (fun _ _ _ h => h) (Or.inl ⟨by rfl, ?_⟩) ?_ ?_
        rotate_left
        ·intro w'
         go_simp
         with_reducible rfl
        rotate_left
        ·simp only [Act.put, sA_, sZ_, sS_, i64_w, i32_w]
         rfl
        refine join_ (σ := Value × Nat) 1 #[true, true, true, true, true, true, true, true, false] (fun s_ => [(45, s_.1), (6, .pointer (some ⟨s_.2, 0, none⟩)), (46, .agg #[.int .i64 t427, s_.1])]) (fun s_ w' => (w'.cell? ⟨gb432, 0, none⟩ = some (.int .i64 t427) ∧ w'.cell? ⟨gb432, 1, none⟩ = some (.slice Ao9 t428.length co9)) ∧ (Kd.R k42 42 w' w.heap.size (fun k_ => some k_ ≠ (.slice Ao9 t428.length co9 : Value).ownBlock) s_.1 y445) ∧ (Kd.Q k42 42 w' w.heap.size (fun k_ => some k_ ≠ (s_.1 : Value).ownBlock) (.slice Ao9 t428.length co9) t428) ∧ (Kd.R k38 38 w' w.heap.size (fun _ => True) v434 t433) ∧ (w'.heap[gb432]? = some (.cells #[.int .i64 t427, .slice Ao9 t428.length co9] 25 (0, 0))) ∧ (w'.heap[s_.2]? = some (.cells #[.int .i64 0, .slice none 0 0] 25 (0, 0))) ∧ (w.heap.size <= s_.2) ∧ (w.heap.size <= s_.2) ∧ (gb432 ≠ s_.2) ∧ (s_.2 ≠ gb432) ∧ (Below w.heap.size w w')) ?_ ?_
        rotate_left
        ·intro hCont
         refine two_ (i := 5) (j := 7) (Ni := some 45) (Nj := some 6) #[true, true, true, true, true, true, false, false, false] #[true, true, true, true, true, false, false, true, false] rfl rfl rfl rfl (two_of HT_.out (by kernel_rfl)) (by decide) (by decide) (fun K hK => ?_) (fun K hK => ?_)
         ·skip
          refine Kd.R_make_step k42 _ 42 (by rfl) (N := 45) rfl 23 _ _ rfl (t428.length : Int) rfl rfl Try.underlying23 (.agg #[(.int .i64 0), (.int .i64 0)]) 16 info42 rfl (by decide) (by omega) z42 (ok := fun _ => True) (okp := fun _ => True) (k42_mkM _ _ _ z42 ) (fun _ hk => hk) trivial (of_decide_eq_true (by first | (with_reducible assumption) | assumption)) (Nat.le_trans (Nat.mul_le_mul_right _ (of_decide_eq_true (by first | (with_reducible assumption) | assumption) : (t428.length : Int).toNat <= 17592186044416)) (by omega)) (Below.refl _ _) (Nat.le_refl _) ?_
          intro v446 w37 ho38 hb hg_ hnew_
          clear hg_ hnew_
          (first | rw [<- Ny445.out] at ho38 | (simp only [Int.reduceToNat] at ho38; rw [<- Ny445.out] at ho38))
          have n0_ := Aside0.mk (Kd.R_below (kR HO_5.out) hb)
          have n1_ := Aside0.mk (Kd.Q_elder' (by (with_reducible repeat apply Kd.Q_alloc); exact HO_433001.out) (Kd.R_base ho38) hb)
          have n2_ := Aside0.mk (Kd.R_lower (Kd.R_new' ho38 (Kd.Q_lt (by (with_reducible repeat apply Kd.Q_alloc); exact HO_433001.out))) (below_size (by repeat first | exact HB.out | with_reducible refine below_setA ?_ ‹_› | apply below_alloc | apply pw_below_drewN)))
          have n3_ := Aside0.mk (blk_below (bK BK432.out) hb)
          have n4_ := Aside0.mk (below_step (by repeat first | exact HB.out | with_reducible refine below_setA ?_ ‹_› | apply below_alloc | apply pw_below_drewN) hb)
          clear HO_5
          clear HO_433001
          clear BK432
          clear HB
          have HO_5 := n0_
          have HO_433001 := n1_
          have HO447 := n2_
          have BK432 := n3_
          have HB := n4_
          clear n0_ n1_ n2_ n3_ n4_
          clear hb ho38
          obtain ⟨Ao39, co39, eo39⟩ := Kd.R_slice HO447.out
          (first | subst eo39 | (injection eo39 with f1_ f2_ f3_; have f4_ := f1_.symm; have f5_ := f3_.symm; clear f1_ f2_ f3_; subst f4_; subst f5_))
          refine hK.out _ _ ⟨(blk_cell BK432.out 0).trans rfl, (blk_cell BK432.out 1).trans rfl⟩ (fun hHeld => ?_)
          clear hK K
          refine norm_ (a' := ?_) ?_ ?_
          rotate_left
          ·show Act.put _ (some 45) _ = _
           simp only [Act.put, sA_, sZ_, sS_, i64_w, i32_w]
           rfl
          refine pure_ (i := 6) (N := some 46) (v := ?_) (a' := ?_) #[true, true, true, true, true, true, true, false, false] rfl rfl (any_of HT_.out (by kernel_rfl)) (fun _ _ _ h => h) (Or.inl ⟨by rfl, ?_⟩) ?_ ?_
          rotate_left
          ·intro w'
           go_simp
           with_reducible rfl
          rotate_left
          ·simp only [Act.put, sA_, sZ_, sS_, i64_w, i32_w]
           rfl
          refine one_ (i := 7) (N := some 6) #[true, true, true, true, true, true, true, true, false] rfl rfl (one_of HT_.out (by kernel_rfl)) (by decide) (fun K hK => ?_)
          refine box_step ?hg (N := 6) ?hd (cs := #[.int .i64 0, .slice none 0 0]) (t := 25) ?hr ?_; (case hd => rfl); (case hg => rfl); (case hr => first | (go_simp; done) | (go_simp; rfl))
          intro gb448 hg w40 hbox hb
          have n0_ := Aside0.mk (Kd.R_below (kR HO_5.out) hb)
          have n1_ := Aside0.mk (Kd.Q_below (by (with_reducible repeat apply Kd.Q_alloc); exact HO_433001.out) hb)
          have n2_ := Aside0.mk (Kd.R_below (kR HO447.out) hb)
          have n3_ := Aside0.mk (blk_below (bK BK432.out) hb)
          have n4_ := Aside0.mk (below_step (by repeat first | exact HB.out | with_reducible refine below_setA ?_ ‹_› | apply below_alloc | apply pw_below_drewN) hb)
          have n5_ := Aside0.mk (hbox)
          have n6_ := Aside0.mk ((by rw [hg]; exact (below_size (by repeat first | exact HB.out | with_reducible refine below_setA ?_ ‹_› | apply below_alloc | apply pw_below_drewN)) : w.heap.size <= gb448))
          have n7_ := Aside0.mk ((by rw [hg]; exact (below_size (by repeat first | exact HB.out | with_reducible refine below_setA ?_ ‹_› | apply below_alloc | apply pw_below_drewN)) : w.heap.size <= gb448))
          have n8_ := Aside0.mk ((by rw [hg]; exact Nat.ne_of_lt (blk_lt (bK BK432.out)) : gb432 ≠ gb448))
          have n9_ := Aside0.mk ((by rw [hg]; exact Nat.ne_of_gt (blk_lt (bK BK432.out)) : gb448 ≠ gb432))
          clear HO_5
          clear HO_433001
          clear HO447
          clear BK432
          clear HB
          have HO_5 := n0_
          have HO_433001 := n1_
          have HO447 := n2_
          have BK432 := n3_
          have HB := n4_
          have BK448 := n5_
          have GW448 := n6_
          have GE448 := n7_
          have NB432_448 := n8_
          have NB448_432 := n9_
          clear n0_ n1_ n2_ n3_ n4_ n5_ n6_ n7_ n8_ n9_
          clear hb hbox hg
          refine hK.out _ _ ⟨(blk_cell BK432.out 0).trans rfl, (blk_cell BK432.out 1).trans rfl⟩ (fun hHeld => ?_)
          clear hK K
          refine norm_ (a' := ?_) ?_ ?_
          rotate_left
          ·show Act.put _ (some 6) _ = _
           simp only [Act.put, sA_, sZ_, sS_, i64_w, i32_w]
           rfl
          exact norm_ (by simp only [putAll, Act.put, List.setIfInBounds_toArray, List.set_cons_zero, List.set_cons_succ]) (hCont (.slice Ao39 y445.length co39, gb448) _ ⟨hHeld, (by (with_reducible repeat apply Kd.R_alloc); exact Kd.R_mono HO447.out (fun _ hk => hk.2)), (by (with_reducible repeat apply Kd.Q_alloc); exact Kd.Q_mono HO_433001.out (fun _ hk => hk.2)), (kR HO_5.out), (bK BK432.out), (bK BK448.out), GW448.out, GE448.out, NB432_448.out, NB448_432.out, (by repeat first | exact HB.out | with_reducible refine below_setA ?_ ‹_› | apply below_alloc | apply pw_below_drewN)⟩)
         ·skip
          refine box_step ?hg (N := 6) ?hd (cs := #[.int .i64 0, .slice none 0 0]) (t := 25) ?hr ?_; (case hd => rfl); (case hg => rfl); (case hr => first | (go_simp; done) | (go_simp; rfl))
          intro gb448 hg w37 hbox hb
          have n0_ := Aside0.mk (Kd.R_below (kR HO_5.out) hb)
          have n1_ := Aside0.mk (Kd.Q_below (by (with_reducible repeat apply Kd.Q_alloc); exact HO_433001.out) hb)
          have n2_ := Aside0.mk (blk_below (bK BK432.out) hb)
          have n3_ := Aside0.mk (below_step (by repeat first | exact HB.out | with_reducible refine below_setA ?_ ‹_› | apply below_alloc | apply pw_below_drewN) hb)
          have n4_ := Aside0.mk (hbox)
          have n5_ := Aside0.mk ((by rw [hg]; exact (below_size (by repeat first | exact HB.out | with_reducible refine below_setA ?_ ‹_› | apply below_alloc | apply pw_below_drewN)) : w.heap.size <= gb448))
          have n6_ := Aside0.mk ((by rw [hg]; exact (below_size (by repeat first | exact HB.out | with_reducible refine below_setA ?_ ‹_› | apply below_alloc | apply pw_below_drewN)) : w.heap.size <= gb448))
          have n7_ := Aside0.mk ((by rw [hg]; exact Nat.ne_of_lt (blk_lt (bK BK432.out)) : gb432 ≠ gb448))
          have n8_ := Aside0.mk ((by rw [hg]; exact Nat.ne_of_gt (blk_lt (bK BK432.out)) : gb448 ≠ gb432))
          clear HO_5
          clear HO_433001
          clear BK432
          clear HB
          have HO_5 := n0_
          have HO_433001 := n1_
          have BK432 := n2_
          have HB := n3_
          have BK448 := n4_
          have GW448 := n5_
          have GE448 := n6_
          have NB432_448 := n7_
          have NB448_432 := n8_
          clear n0_ n1_ n2_ n3_ n4_ n5_ n6_ n7_ n8_
          clear hb hbox hg
          refine hK.out _ _ ⟨(blk_cell BK432.out 0).trans rfl, (blk_cell BK432.out 1).trans rfl⟩ (fun hHeld => ?_)
          clear hK K
          refine norm_ (a' := ?_) ?_ ?_
          rotate_left
          ·show Act.put _ (some 6) _ = _
           simp only [Act.put, sA_, sZ_, sS_, i64_w, i32_w]
           rfl
          refine one_ (i := 5) (N := some 45) #[true, true, true, true, true, true, false, true, false] rfl rfl (one_of HT_.out (by kernel_rfl)) (by decide) (fun K hK => ?_)
          refine Kd.R_make_step k42 _ 42 (by rfl) (N := 45) rfl 23 _ _ rfl (t428.length : Int) rfl rfl Try.underlying23 (.agg #[(.int .i64 0), (.int .i64 0)]) 16 info42 rfl (by decide) (by omega) z42 (ok := fun _ => True) (okp := fun _ => True) (k42_mkM _ _ _ z42 ) (fun _ hk => hk) trivial (of_decide_eq_true (by first | (with_reducible assumption) | assumption)) (Nat.le_trans (Nat.mul_le_mul_right _ (of_decide_eq_true (by first | (with_reducible assumption) | assumption) : (t428.length : Int).toNat <= 17592186044416)) (by omega)) (Below.refl _ _) (Nat.le_refl _) ?_
          intro v446 w38 ho39 hb hg_ hnew_
          clear hg_ hnew_
          (first | rw [<- Ny445.out] at ho39 | (simp only [Int.reduceToNat] at ho39; rw [<- Ny445.out] at ho39))
          have n0_ := Aside0.mk (Kd.R_below (kR HO_5.out) hb)
          have n1_ := Aside0.mk (Kd.Q_elder' (by (with_reducible repeat apply Kd.Q_alloc); exact HO_433001.out) (Kd.R_base ho39) hb)
          have n2_ := Aside0.mk (Kd.R_lower (Kd.R_new' ho39 (Kd.Q_lt (by (with_reducible repeat apply Kd.Q_alloc); exact HO_433001.out))) (below_size (by repeat first | exact HB.out | with_reducible refine below_setA ?_ ‹_› | apply below_alloc | apply pw_below_drewN)))
          have n3_ := Aside0.mk (blk_below (bK BK432.out) hb)
          have n4_ := Aside0.mk (blk_below (bK BK448.out) hb)
          have n5_ := Aside0.mk (below_step (by repeat first | exact HB.out | with_reducible refine below_setA ?_ ‹_› | apply below_alloc | apply pw_below_drewN) hb)
          clear HO_5
          clear HO_433001
          clear BK432
          clear BK448
          clear HB
          have HO_5 := n0_
          have HO_433001 := n1_
          have HO447 := n2_
          have BK432 := n3_
          have BK448 := n4_
          have HB := n5_
          clear n0_ n1_ n2_ n3_ n4_ n5_
          clear hb ho39
          obtain ⟨Ao40, co40, eo40⟩ := Kd.R_slice HO447.out
          (first | subst eo40 | (injection eo40 with f1_ f2_ f3_; have f4_ := f1_.symm; have f5_ := f3_.symm; clear f1_ f2_ f3_; subst f4_; subst f5_))
          refine hK.out _ _ ⟨(blk_cell BK432.out 0).trans rfl, (blk_cell BK432.out 1).trans rfl⟩ (fun hHeld => ?_)
          clear hK K
          refine norm_ (a' := ?_) ?_ ?_
          rotate_left
          ·show Act.put _ (some 45) _ = _
           simp only [Act.put, sA_, sZ_, sS_, i64_w, i32_w]
           rfl
          refine pure_ (i := 6) (N := some 46) (v := ?_) (a' := ?_) #[true, true, true, true, true, true, true, true, false] rfl rfl (any_of HT_.out (by kernel_rfl)) (fun _ _ _ h => h) (Or.inl ⟨by rfl, ?_⟩) ?_ ?_
          rotate_left
          ·intro w'
           go_simp
           with_reducible rfl
          rotate_left
          ·simp only [Act.put, sA_, sZ_, sS_, i64_w, i32_w]
           rfl
          exact norm_ (by simp only [putAll, Act.put, List.setIfInBounds_toArray, List.set_cons_zero, List.set_cons_succ]) (hCont (.slice Ao40 y445.length co40, gb448) _ ⟨hHeld, (by (with_reducible repeat apply Kd.R_alloc); exact Kd.R_mono HO447.out (fun _ hk => hk.2)), (by (with_reducible repeat apply Kd.Q_alloc); exact Kd.Q_mono HO_433001.out (fun _ hk => hk.2)), (kR HO_5.out), (bK BK432.out), (bK BK448.out), GW448.out, GE448.out, NB432_448.out, NB448_432.out, (by repeat first | exact HB.out | with_reducible refine below_setA ?_ ‹_› | apply below_alloc | apply pw_below_drewN)⟩)
        rintro ⟨v446, gb448⟩ w41 ⟨hS_, h0_, h1_, h2_, h3_, h4_, h5_, h6_, h7_, h8_, h9_⟩
        have n0_ : Aside0 (Kd.R k42 42 w41 w.heap.size (fun k_ => some k_ ≠ (.slice Ao9 t428.length co9 : Value).ownBlock) v446 y445) := ⟨h0_⟩
        have n1_ : Aside0 (Kd.Q k42 42 w41 w.heap.size (fun k_ => some k_ ≠ (v446 : Value).ownBlock) (.slice Ao9 t428.length co9) t428) := ⟨h1_⟩
        have n2_ : Aside0 (Kd.R k38 38 w41 w.heap.size (fun _ => True) v434 t433) := ⟨h2_⟩
        have n3_ : Aside0 (w41.heap[gb432]? = some (.cells #[.int .i64 t427, .slice Ao9 t428.length co9] 25 (0, 0))) := ⟨h3_⟩
        have n4_ : Aside0 (w41.heap[gb448]? = some (.cells #[.int .i64 0, .slice none 0 0] 25 (0, 0))) := ⟨h4_⟩
        have n5_ : Aside0 (w.heap.size <= gb448) := ⟨h5_⟩
        have n6_ : Aside0 (w.heap.size <= gb448) := ⟨h6_⟩
        have n7_ : Aside0 (gb432 ≠ gb448) := ⟨h7_⟩
        have n8_ : Aside0 (gb448 ≠ gb432) := ⟨h8_⟩
        have n9_ : Aside0 (Below w.heap.size w w41) := ⟨h9_⟩
        clear HO_5
        clear HO_433001
        clear BK432
        clear HB
        clear h0_ h1_ h2_ h3_ h4_ h5_ h6_ h7_ h8_ h9_
        have HO447 := n0_
        have HO_433001 := n1_
        have HO_5 := n2_
        have BK432 := n3_
        have BK448 := n4_
        have GW448 := n5_
        have GE448 := n6_
        have NB432_448 := n7_
        have NB448_432 := n8_
        have HB := n9_
        clear n0_ n1_ n2_ n3_ n4_ n5_ n6_ n7_ n8_ n9_
        have hHeld : w41.cell? ⟨gb432, 0, none⟩ = some (.int .i64 t427) ∧ w41.cell? ⟨gb432, 1, none⟩ = some (.slice Ao9 t428.length co9) := hS_
        obtain ⟨Ao42, co42, eo42⟩ := Kd.R_slice HO447.out
        (first | subst eo42 | (injection eo42 with f1_ f2_ f3_; have f4_ := f1_.symm; have f5_ := f3_.symm; clear f1_ f2_ f3_; subst f4_; subst f5_))
        refine norm_ (a' := ?_) ?_ ?_
        rotate_left
        ·simp only [putAll, Act.put, List.setIfInBounds_toArray, List.set_cons_zero, List.set_cons_succ]
         rfl
        refine one_ (i := 8) (N := none) #[true, true, true, true, true, true, true, true, true] rfl rfl (one_of HT_.out (by kernel_rfl)) (by decide) (fun K hK => ?_)
        have hs43 : w41.cell? ⟨gb448, 0, none⟩ = some (.int .i64 0) := (blk_cell BK448.out 0).trans rfl
        have hfs43 := blk_frozen BK448.out 0
        have hns43_0 := NB432_448.out
        have hms43_0 := NB448_432.out
        have hs44 : w41.cell? ⟨gb448, 1, none⟩ = some (.slice none 0 0) := (blk_cell BK448.out 1).trans rfl
        have hfs44 := blk_frozen BK448.out 1
        have hns44_0 := NB432_448.out
        have hms44_0 := NB448_432.out
        refine skip_ (w1 := ?_) (by rfl) rfl ?_ ?_
        rotate_left
        ·go_simp
         rfl
        refine hK.out _ _ ⟨((cell_far (p := ⟨gb448, _, none⟩) NB432_448.out _).trans (((cell_far (p := ⟨gb448, _, none⟩) NB432_448.out _).trans (hHeld.1)))), ((cell_far (p := ⟨gb448, _, none⟩) NB432_448.out _).trans (((cell_far (p := ⟨gb448, _, none⟩) NB432_448.out _).trans (hHeld.2))))⟩ (fun hHeld => ?_)
        clear hK K
        refine done_ (done_of HT_.out (by kernel_rfl)) ?_
        have hnb45 := NB432_448.out
        have hnc45 := NB448_432.out
        have hcz46_0 : w41.cell? ⟨gb432, 0, none⟩ = some (.int .i64 t427) := (blk_cell BK432.out 0).trans rfl
        have hcz46_1 : w41.cell? ⟨gb432, 1, none⟩ = some (.slice Ao9 t428.length co9) := (blk_cell BK432.out 1).trans rfl
        have hfz46_0 := blk_frozen BK432.out 0
        have hfz46_1 := blk_frozen BK432.out 1
        go_upto_region 10 with (fail)
        go_cut [81] (fun v81 wc => ∃ (kq : Nat) (x81_34 : Bool), v81 = .bool x81_34 ∧ Aside0 (laws_FnTrailStraight.j1 kq t431 (wrap64 ((t428.length : Int) / t427)) (wrap64 ((wrap64 ((wrap64 ((wrap64 (2 * t427)) + (wrap64 ((t428.length : Int) / t427)))) - 1)) - t431)) x81_34 t427 t428 t427 y445 = some r) ∧ Aside0 (kq <= kj4) ∧ Aside0 (Kd.Q k42 42 wc w.heap.size (fun k_ => some k_ ≠ ((.slice Ao42 y445.length co42) : Value).ownBlock) (.slice Ao9 t428.length co9) t428) ∧ Aside0 (Kd.Q k42 42 wc w.heap.size (fun k_ => some k_ ≠ ((.slice Ao9 t428.length co9) : Value).ownBlock) (.slice Ao42 y445.length co42) y445) ∧ Aside0 (wc.heap[gb432]? = some (.cells #[.int .i64 t427, (.slice Ao9 t428.length co9)] 25 (0, 0))) ∧ Aside0 (wc.heap[gb448]? = some (.cells #[.int .i64 t427, (.slice Ao42 y445.length co42)] 25 (0, 0))) ∧ Aside0 (Below w.heap.size w wc))
        case first =>
         have H := HC35.out
         clear HC35
         by_cases c47 : t431 >= t427
         ·rw [if_pos c47] at H
          have c47b0 : decide (t427 <= t431) = true := decide_eq_true c47
          clear c47
          (first | rw [c47b0] | (simp only [i64_w, i32_w]; rw [c47b0]) | skip)
          by_cases c48 : t431 < (wrap64 (t427 + (wrap64 ((t428.length : Int) / t427))))
          ·rw [if_pos c48] at H
           have c48b0 : decide (t431 < (wrap64 (t427 + (wrap64 ((t428.length : Int) / t427))))) = true := decide_eq_true c48
           clear c48
           have H' := Aside0.mk H
           clear H
           have hnb49 := NB432_448.out
           have hnc49 := NB448_432.out
           have hcz50_0 : w41.cell? ⟨gb432, 0, none⟩ = some (.int .i64 t427) := (blk_cell BK432.out 0).trans rfl
           have hcz50_1 : w41.cell? ⟨gb432, 1, none⟩ = some (.slice Ao9 t428.length co9) := (blk_cell BK432.out 1).trans rfl
           have hfz50_0 := blk_frozen BK432.out 0
           have hfz50_1 := blk_frozen BK432.out 1
           go_wp2
           go_meet
           case rel => exact ⟨_, (true), (by first | rfl | (simp; done) | (simp [*]; done)), H', ⟨by have := HJ4.out; first | omega | exact Nat.le_refl _⟩, ⟨by (with_reducible repeat apply Kd.Q_alloc); exact Kd.Q_mono (Kd.Q_far (p := ⟨gb448, 1, none⟩) (Kd.Q_far (p := ⟨gb448, 0, none⟩) (Kd.Q_types HO_433001.out BK448.out (by decide)) (fun _ hk => hk.2) (.int .i64 t427)) (fun _ hk => hk.2) (.slice Ao42 y445.length co42)) (fun _ hk => hk.1)⟩, ⟨Kd.Q_of_R (by (with_reducible repeat apply Kd.R_alloc); exact Kd.R_mono (Kd.R_far (p := ⟨gb448, 1, none⟩) (Kd.R_far (p := ⟨gb448, 0, none⟩) (Kd.R_types HO447.out BK448.out (by decide)) (fun _ hk => hk.2) (.int .i64 t427)) (fun _ hk => hk.2) (.slice Ao42 y445.length co42)) (fun _ hk => hk.1))⟩, ⟨by (with_reducible repeat apply blk_alloc); refine blk_far ?_ NB432_448.out _; (with_reducible repeat apply blk_alloc); refine blk_far ?_ NB432_448.out _; (with_reducible repeat apply blk_alloc); exact BK432.out⟩, ⟨by (with_reducible repeat apply blk_alloc); refine blk_put (cs := #[.int .i64 t427, .slice none 0 0]) ?_ 1 _ rfl; (with_reducible repeat apply blk_alloc); refine blk_put (cs := #[.int .i64 0, .slice none 0 0]) ?_ 0 _ rfl; (with_reducible repeat apply blk_alloc); exact BK448.out⟩, ⟨by repeat first | exact HB.out | with_reducible refine below_setA ?_ ‹_› | apply below_alloc | apply pw_below_drewN⟩⟩
          ·rw [if_neg c48] at H
           have c48b0 : decide (t431 < (wrap64 (t427 + (wrap64 ((t428.length : Int) / t427))))) = false := decide_eq_false c48
           clear c48
           have H' := Aside0.mk H
           clear H
           have hnb51 := NB432_448.out
           have hnc51 := NB448_432.out
           have hcz52_0 : w41.cell? ⟨gb432, 0, none⟩ = some (.int .i64 t427) := (blk_cell BK432.out 0).trans rfl
           have hcz52_1 : w41.cell? ⟨gb432, 1, none⟩ = some (.slice Ao9 t428.length co9) := (blk_cell BK432.out 1).trans rfl
           have hfz52_0 := blk_frozen BK432.out 0
           have hfz52_1 := blk_frozen BK432.out 1
           go_wp2
           go_meet
           case rel => exact ⟨_, (decide (t431 >= (wrap64 ((wrap64 (2 * t427)) + (wrap64 ((t428.length : Int) / t427)))))), (by first | rfl | (simp; done) | (simp [*]; done)), H', ⟨by have := HJ4.out; first | omega | exact Nat.le_refl _⟩, ⟨by (with_reducible repeat apply Kd.Q_alloc); exact Kd.Q_mono (Kd.Q_far (p := ⟨gb448, 1, none⟩) (Kd.Q_far (p := ⟨gb448, 0, none⟩) (Kd.Q_types HO_433001.out BK448.out (by decide)) (fun _ hk => hk.2) (.int .i64 t427)) (fun _ hk => hk.2) (.slice Ao42 y445.length co42)) (fun _ hk => hk.1)⟩, ⟨Kd.Q_of_R (by (with_reducible repeat apply Kd.R_alloc); exact Kd.R_mono (Kd.R_far (p := ⟨gb448, 1, none⟩) (Kd.R_far (p := ⟨gb448, 0, none⟩) (Kd.R_types HO447.out BK448.out (by decide)) (fun _ hk => hk.2) (.int .i64 t427)) (fun _ hk => hk.2) (.slice Ao42 y445.length co42)) (fun _ hk => hk.1))⟩, ⟨by (with_reducible repeat apply blk_alloc); refine blk_far ?_ NB432_448.out _; (with_reducible repeat apply blk_alloc); refine blk_far ?_ NB432_448.out _; (with_reducible repeat apply blk_alloc); exact BK432.out⟩, ⟨by (with_reducible repeat apply blk_alloc); refine blk_put (cs := #[.int .i64 t427, .slice none 0 0]) ?_ 1 _ rfl; (with_reducible repeat apply blk_alloc); refine blk_put (cs := #[.int .i64 0, .slice none 0 0]) ?_ 0 _ rfl; (with_reducible repeat apply blk_alloc); exact BK448.out⟩, ⟨by repeat first | exact HB.out | with_reducible refine below_setA ?_ ‹_› | apply below_alloc | apply pw_below_drewN⟩⟩
         ·rw [if_neg c47] at H
          have c47b0 : decide (t427 <= t431) = false := decide_eq_false c47
          clear c47
          (first | rw [c47b0] | (simp only [i64_w, i32_w]; rw [c47b0]) | skip)
          have H' := Aside0.mk H
          clear H
          have hnb53 := NB432_448.out
          have hnc53 := NB448_432.out
          have hcz54_0 : w41.cell? ⟨gb432, 0, none⟩ = some (.int .i64 t427) := (blk_cell BK432.out 0).trans rfl
          have hcz54_1 : w41.cell? ⟨gb432, 1, none⟩ = some (.slice Ao9 t428.length co9) := (blk_cell BK432.out 1).trans rfl
          have hfz54_0 := blk_frozen BK432.out 0
          have hfz54_1 := blk_frozen BK432.out 1
          go_wp2
          go_meet
          case rel => exact ⟨_, (decide (t431 >= (wrap64 ((wrap64 (2 * t427)) + (wrap64 ((t428.length : Int) / t427)))))), (by first | rfl | (simp; done) | (simp [*]; done)), H', ⟨by have := HJ4.out; first | omega | exact Nat.le_refl _⟩, ⟨by (with_reducible repeat apply Kd.Q_alloc); exact Kd.Q_mono (Kd.Q_far (p := ⟨gb448, 1, none⟩) (Kd.Q_far (p := ⟨gb448, 0, none⟩) (Kd.Q_types HO_433001.out BK448.out (by decide)) (fun _ hk => hk.2) (.int .i64 t427)) (fun _ hk => hk.2) (.slice Ao42 y445.length co42)) (fun _ hk => hk.1)⟩, ⟨Kd.Q_of_R (by (with_reducible repeat apply Kd.R_alloc); exact Kd.R_mono (Kd.R_far (p := ⟨gb448, 1, none⟩) (Kd.R_far (p := ⟨gb448, 0, none⟩) (Kd.R_types HO447.out BK448.out (by decide)) (fun _ hk => hk.2) (.int .i64 t427)) (fun _ hk => hk.2) (.slice Ao42 y445.length co42)) (fun _ hk => hk.1))⟩, ⟨by (with_reducible repeat apply blk_alloc); refine blk_far ?_ NB432_448.out _; (with_reducible repeat apply blk_alloc); refine blk_far ?_ NB432_448.out _; (with_reducible repeat apply blk_alloc); exact BK432.out⟩, ⟨by (with_reducible repeat apply blk_alloc); refine blk_put (cs := #[.int .i64 t427, .slice none 0 0]) ?_ 1 _ rfl; (with_reducible repeat apply blk_alloc); refine blk_put (cs := #[.int .i64 0, .slice none 0 0]) ?_ 0 _ rfl; (with_reducible repeat apply blk_alloc); exact BK448.out⟩, ⟨by repeat first | exact HB.out | with_reducible refine below_setA ?_ ‹_› | apply below_alloc | apply pw_below_drewN⟩⟩
        case rest =>
         clear HC35
         try clear c1
         try clear c2
         try clear c2b0
         try clear c2b1
         try clear p2
         try clear c3
         try clear c4
         try clear c5
         try clear p6
         try clear c13
         try clear c16
         try clear c17
         try clear c18
         try clear c19
         try clear c25
         try clear c32
         try clear c32b0
         try clear c32b1
         try clear c33
         try clear c33b0
         try clear c33b1
         try clear c34
         try clear c34b0
         try clear c34b1
         try clear c45
         try clear c47
         try clear c47b0
         try clear c48
         try clear c48b0
         try clear c49
         try clear c51
         try clear c53
         try clear hcz15_0
         try clear hcz15_1
         try clear hcz19_0
         try clear hcz19_1
         try clear hcz21_0
         try clear hcz21_1
         try clear hcz28_0
         try clear hcz28_1
         try clear hcz46_0
         try clear hcz46_1
         try clear hcz50_0
         try clear hcz50_1
         try clear hcz52_0
         try clear hcz52_1
         try clear hcz54_0
         try clear hcz54_1
         try clear hcz8_0
         try clear hcz8_1
         try clear hfz15_0
         try clear hfz15_1
         try clear hfz19_0
         try clear hfz19_1
         try clear hfz21_0
         try clear hfz21_1
         try clear hfz28_0
         try clear hfz28_1
         try clear hfz46_0
         try clear hfz46_1
         try clear hfz50_0
         try clear hfz50_1
         try clear hfz52_0
         try clear hfz52_1
         try clear hfz54_0
         try clear hfz54_1
         try clear hfz8_0
         try clear hfz8_1
         try clear p2
         obtain ⟨kq, x81_34, rfl, HA, HJ34, HO_433001, HO_449001, BK432, BK448, HB⟩ := hcut
         cases kq with
         | zero => exact absurd HA.out (by simp [laws_FnTrailStraight.j1])
         | succ kj34 =>
          have H := HA.out
          clear HA
          simp only [laws_FnTrailStraight.j1] at H
          have HC55 := Aside0.mk H
          clear H
          go_upto_if 81 with (fail)
          go_cut [8] (fun v8 wc => ∃ (kq : Nat) (x8_54 : Int), v8 = .int .i64 x8_54 ∧ Aside0 (laws_FnTrailStraight.j2 kq t431 (wrap64 ((t428.length : Int) / t427)) x8_54 t427 t428 t427 y445 = some r) ∧ Aside0 (kq <= kj34) ∧ Aside0 (Kd.Q k42 42 wc w.heap.size (fun k_ => some k_ ≠ ((.slice Ao42 y445.length co42) : Value).ownBlock) (.slice Ao9 t428.length co9) t428) ∧ Aside0 (Kd.Q k42 42 wc w.heap.size (fun k_ => some k_ ≠ ((.slice Ao9 t428.length co9) : Value).ownBlock) (.slice Ao42 y445.length co42) y445) ∧ Aside0 (wc.heap[gb432]? = some (.cells #[.int .i64 t427, (.slice Ao9 t428.length co9)] 25 (0, 0))) ∧ Aside0 (wc.heap[gb448]? = some (.cells #[.int .i64 t427, (.slice Ao42 y445.length co42)] 25 (0, 0))) ∧ Aside0 (Below w.heap.size w wc))
          case first =>
           have H := HC55.out
           clear HC55
           by_cases c56 : x81_34 = true
           ·subst c56
            have H1 : (laws_FnTrailStraight.j2 kj34 t431 (wrap64 ((t428.length : Int) / t427)) (wrap64 ((wrap64 ((wrap64 ((wrap64 (3 * t427)) + (wrap64 (2 * (wrap64 ((t428.length : Int) / t427)))))) - 1)) - t431)) t427 t428 t427 y445) = some r := by rw [if_pos rfl] at H; exact H
            clear H
            have H := H1
            clear H1
            have H' := Aside0.mk H
            clear H
            have hnb57 := NB432_448.out
            have hnc57 := NB448_432.out
            have hcz58_0 : wc.cell? ⟨gb432, 0, none⟩ = some (.int .i64 t427) := (blk_cell BK432.out 0).trans rfl
            have hcz58_1 : wc.cell? ⟨gb432, 1, none⟩ = some (.slice Ao9 t428.length co9) := (blk_cell BK432.out 1).trans rfl
            have hfz58_0 := blk_frozen BK432.out 0
            have hfz58_1 := blk_frozen BK432.out 1
            go_wp2
            go_meet
            case rel => exact ⟨_, (wrap64 ((wrap64 ((wrap64 ((wrap64 (3 * t427)) + (wrap64 (2 * (wrap64 ((t428.length : Int) / t427)))))) - 1)) - t431)), (by first | rfl | (simp; done) | (simp [*]; done)), H', ⟨by have := HJ4.out; have := HJ34.out; first | omega | exact Nat.le_refl _⟩, ⟨by (with_reducible repeat apply Kd.Q_alloc); exact HO_433001.out⟩, ⟨by (with_reducible repeat apply Kd.Q_alloc); exact HO_449001.out⟩, ⟨by (with_reducible repeat apply blk_alloc); exact BK432.out⟩, ⟨by (with_reducible repeat apply blk_alloc); exact BK448.out⟩, ⟨by repeat first | exact HB.out | with_reducible refine below_setA ?_ ‹_› | apply below_alloc | apply pw_below_drewN⟩⟩
           ·replace c56 := Bool.eq_false_iff.mpr c56
            subst c56
            have H1 : (laws_FnTrailStraight.j2 kj34 t431 (wrap64 ((t428.length : Int) / t427)) (wrap64 ((wrap64 ((wrap64 ((wrap64 (2 * t427)) + (wrap64 ((t428.length : Int) / t427)))) - 1)) - t431)) t427 t428 t427 y445) = some r := by rw [if_neg (show ¬ (false = true) by decide)] at H; exact H
            clear H
            have H := H1
            clear H1
            have H' := Aside0.mk H
            clear H
            go_wp2
            go_meet
            case rel => exact ⟨_, ((wrap64 ((wrap64 ((wrap64 ((wrap64 (2 * t427)) + (wrap64 ((t428.length : Int) / t427)))) - 1)) - t431))), (by first | rfl | (simp; done) | (simp [*]; done)), H', ⟨by have := HJ4.out; have := HJ34.out; first | omega | exact Nat.le_refl _⟩, ⟨by (with_reducible repeat apply Kd.Q_alloc); exact HO_433001.out⟩, ⟨by (with_reducible repeat apply Kd.Q_alloc); exact HO_449001.out⟩, ⟨by (with_reducible repeat apply blk_alloc); exact BK432.out⟩, ⟨by (with_reducible repeat apply blk_alloc); exact BK448.out⟩, ⟨by repeat first | exact HB.out | with_reducible refine below_setA ?_ ‹_› | apply below_alloc | apply pw_below_drewN⟩⟩
          case rest =>
           clear HC55
           try clear c1
           try clear c2
           try clear c2b0
           try clear c2b1
           try clear p2
           try clear c3
           try clear c4
           try clear c5
           try clear p6
           try clear c13
           try clear c16
           try clear c17
           try clear c18
           try clear c19
           try clear c25
           try clear c32
           try clear c32b0
           try clear c32b1
           try clear c33
           try clear c33b0
           try clear c33b1
           try clear c34
           try clear c34b0
           try clear c34b1
           try clear c45
           try clear c47
           try clear c47b0
           try clear c48
           try clear c48b0
           try clear c49
           try clear c51
           try clear c53
           try clear c56
           try clear c57
           try clear hcz15_0
           try clear hcz15_1
           try clear hcz19_0
           try clear hcz19_1
           try clear hcz21_0
           try clear hcz21_1
           try clear hcz28_0
           try clear hcz28_1
           try clear hcz46_0
           try clear hcz46_1
           try clear hcz50_0
           try clear hcz50_1
           try clear hcz52_0
           try clear hcz52_1
           try clear hcz54_0
           try clear hcz54_1
           try clear hcz58_0
           try clear hcz58_1
           try clear hcz8_0
           try clear hcz8_1
           try clear hfz15_0
           try clear hfz15_1
           try clear hfz19_0
           try clear hfz19_1
           try clear hfz21_0
           try clear hfz21_1
           try clear hfz28_0
           try clear hfz28_1
           try clear hfz46_0
           try clear hfz46_1
           try clear hfz50_0
           try clear hfz50_1
           try clear hfz52_0
           try clear hfz52_1
           try clear hfz54_0
           try clear hfz54_1
           try clear hfz58_0
           try clear hfz58_1
           try clear hfz8_0
           try clear hfz8_1
           try clear p2
           try clear p6
           obtain ⟨kq, x8_54, rfl, HA, HJ54, HO_433001, HO_449001, BK432, BK448, HB⟩ := hcut
           cases kq with
           | zero => exact absurd HA.out (by simp [laws_FnTrailStraight.j2])
           | succ kj54 =>
            have H := HA.out
            clear HA
            simp only [laws_FnTrailStraight.j2] at H
            replace H := Option.bind_eq_some_iff.mp H
            obtain ⟨⟨t449, t450, t451⟩, A590, H⟩ := H
            replace H : (if (Int.tmod t450 2) = 1 then ((impl_TrailEnds.f kj54 t427 y445 t431).bind fun t453 => ((laws_llEnds.f kj54 t453 (([(⟨0, x8_54, 64⟩ : S38)] : List (S38)))).bind fun t459 => (if t459 = true then ((impl_TrailVisits.f kj54 t427 y445 t431).bind fun t460 => (some ((t460.length : Int) == t427))) else (some false)))) else ((impl_TrailEnds.f kj54 t427 y445 t431).bind fun t463 => ((laws_llEnds.f kj54 t463 (([(⟨0, x8_54, 64⟩ : S38)] : List (S38)))).bind fun t469 => (if t469 = true then ((impl_TrailVisits.f kj54 t427 y445 t431).bind fun t470 => (some ((t470.length : Int) == (wrap64 ((t428.length : Int) / t427))))) else (some false))))) = some r := H
            have A59 := Aside0.mk A590
            clear A590
            by_cases c60 : (Int.tmod t450 2) = 1
            ·rw [if_pos c60] at H
             have c60b0 : ((Int.tmod t450 2) == 1) = true := beq_iff_eq.mpr c60
             have c60b1 : ((Int.tmod t450 2) != 1) = false := bne_eq_false_iff_eq.mpr c60
             clear c60
             replace H := Option.bind_eq_some_iff.mp H
             obtain ⟨t453, A610, H⟩ := H
             replace H : ((laws_llEnds.f kj54 t453 (([(⟨0, x8_54, 64⟩ : S38)] : List (S38)))).bind fun t459 => (if t459 = true then ((impl_TrailVisits.f kj54 t427 y445 t431).bind fun t460 => (some ((t460.length : Int) == t427))) else (some false))) = some r := H
             have A61 := Aside0.mk A610
             clear A610
             obtain ⟨y456, hy456⟩ : ∃ y_ : List (S38), y_ = (([(⟨0, x8_54, 64⟩ : S38)] : List (S38))) := ⟨_, rfl⟩
             replace H : ((laws_llEnds.f kj54 t453 y456).bind fun t459 => (if t459 = true then ((impl_TrailVisits.f kj54 t427 y445 t431).bind fun t460 => (some ((t460.length : Int) == t427))) else (some false))) = some r := by first | (rw [hy456]; with_reducible exact H) | (have H2_ := (Option.bind_some _ _).symm.trans H; rw [hy456]; with_reducible exact H2_) | (have H2_ := (Option.bind_some _ _).symm.trans H; with_reducible exact H2_) | with_reducible exact H | (rw [hy456]; exact H) | exact H
             have Ny456 := Aside0.mk hy456
             clear hy456
             replace H := Option.bind_eq_some_iff.mp H
             obtain ⟨t459, A620, H⟩ := H
             replace H : (if t459 = true then ((impl_TrailVisits.f kj54 t427 y445 t431).bind fun t460 => (some ((t460.length : Int) == t427))) else (some false)) = some r := H
             have A62 := Aside0.mk A620
             clear A620
             by_cases c63 : t459 = true
             ·subst c63
              have H1 : ((impl_TrailVisits.f kj54 t427 y445 t431).bind fun t460 => (some ((t460.length : Int) == t427))) = some r := by rw [if_pos rfl] at H; exact H
              clear H
              have H := H1
              clear H1
              replace H := Option.bind_eq_some_iff.mp H
              obtain ⟨t460, A640, H⟩ := H
              replace H : (some ((t460.length : Int) == t427)) = some r := H
              have A64 := Aside0.mk A640
              clear A640
              obtain rfl := Option.some.inj H
              have hnb65 := NB432_448.out
              have hnc65 := NB448_432.out
              have hcz66_0 : wc.cell? ⟨gb432, 0, none⟩ = some (.int .i64 t427) := (blk_cell BK432.out 0).trans rfl
              have hcz66_1 : wc.cell? ⟨gb432, 1, none⟩ = some (.slice Ao9 t428.length co9) := (blk_cell BK432.out 1).trans rfl
              have hfz66_0 := blk_frozen BK432.out 0
              have hfz66_1 := blk_frozen BK432.out 1
              go_wp2_with (first | ((with_reducible refine gate_callee (f := 20) rfl ?_); refine goesL_ (some 95) rfl rfl Try.func20 (by kernel_rfl) rfl #[.agg #[.int .i64 t427, .slice Ao9 t428.length co9], .int .i64 t431] rfl (by first | rfl | (simp only [List.map_toArray, List.map_cons, List.map_nil, List.length_drop, List.length_take]; try rfl)) ?_; (with_reducible refine (impl_SightRay.calls kj54 t427 _ _ t428 t431 t449 t450 t451 _ ?side1 ?side2 A59.out).mono ?_); (case side1 => repeat (first | exact (Kd.Q_reads' HO_433001.out).2.2 | (with_reducible refine Kd.C_alloc ?_ _) | (with_reducible refine Kd.C_drewN ?_ _) | (with_reducible refine Kd.C_drew ?_))); (case side2 => exact (Kd.Q_reads' HO_433001.out).2.1); rintro e w67 ⟨rfl, hb⟩; refine ⟨_, rfl, ?_⟩; have n0_ := Aside0.mk (Kd.Q_below (by (with_reducible repeat apply Kd.Q_alloc); exact HO_433001.out) hb); have n1_ := Aside0.mk (Kd.Q_below (by (with_reducible repeat apply Kd.Q_alloc); exact HO_449001.out) hb); have n2_ := Aside0.mk (blk_below (bK BK432.out) hb); have n3_ := Aside0.mk (blk_below (bK BK448.out) hb); have n4_ := Aside0.mk (below_step (by repeat first | exact HB.out | with_reducible refine below_setA ?_ ‹_› | apply below_alloc | apply pw_below_drewN) hb); clear HO_433001; clear HO_449001; clear BK432; clear BK448; clear HB; have HO_433001 := n0_; have HO_449001 := n1_; have BK432 := n2_; have BK448 := n3_; have HB := n4_; clear n0_ n1_ n2_ n3_ n4_; (try clear hb); (try clear hb2); (try clear hk); (try clear hi)) | ((with_reducible refine gate_dst (N := 10) rfl ?_); (try (refine gate_guard (by rfl) ?_; dsimp only)); refine box_event rfl (N := 10) rfl (cs := #[.int .i64 0, .int .i64 0]) (t := 44) ?hr ?_; (case hr => first | (go_simp; done) | (go_simp; rfl)); intro gb452 hg w68 hbox hb; have n0_ := Aside0.mk (Kd.Q_below (by (with_reducible repeat apply Kd.Q_alloc); exact HO_433001.out) hb); have n1_ := Aside0.mk (Kd.Q_below (by (with_reducible repeat apply Kd.Q_alloc); exact HO_449001.out) hb); have n2_ := Aside0.mk (blk_below (bK BK432.out) hb); have n3_ := Aside0.mk (blk_below (bK BK448.out) hb); have n4_ := Aside0.mk (below_step (by repeat first | exact HB.out | with_reducible refine below_setA ?_ ‹_› | apply below_alloc | apply pw_below_drewN) hb); have n5_ := Aside0.mk (hbox); have n6_ := Aside0.mk ((by rw [hg]; exact (below_size (by repeat first | exact HB.out | with_reducible refine below_setA ?_ ‹_› | apply below_alloc | apply pw_below_drewN)) : w.heap.size <= gb452)); have n7_ := n6_; have n8_ := Aside0.mk ((by rw [hg]; exact Nat.ne_of_lt (blk_lt (bK BK432.out)) : gb432 ≠ gb452)); have n9_ := Aside0.mk ((by rw [hg]; exact Nat.ne_of_gt (blk_lt (bK BK432.out)) : gb452 ≠ gb432)); have n10_ := Aside0.mk ((by rw [hg]; exact Nat.ne_of_lt (blk_lt (bK BK448.out)) : gb448 ≠ gb452)); have n11_ := Aside0.mk ((by rw [hg]; exact Nat.ne_of_gt (blk_lt (bK BK448.out)) : gb452 ≠ gb448)); clear HO_433001; clear HO_449001; clear BK432; clear BK448; clear HB; have HO_433001 := n0_; have HO_449001 := n1_; have BK432 := n2_; have BK448 := n3_; have HB := n4_; have BK452 := n5_; have GW452 := n6_; have GE452 := n7_; have NB432_452 := n8_; have NB452_432 := n9_; have NB448_452 := n10_; have NB452_448 := n11_; clear n0_ n1_ n2_ n3_ n4_ n5_ n6_ n7_ n8_ n9_ n10_ n11_; clear hb hbox hg; have hnb69 := NB452_432.out; have hnc69 := NB432_452.out; have hnb70 := NB452_448.out; have hnc70 := NB448_452.out; have hcz71_0 : w68.cell? ⟨gb452, 0, none⟩ = some (.int .i64 0) := (blk_cell BK452.out 0).trans rfl; have hcz71_1 : w68.cell? ⟨gb452, 1, none⟩ = some (.int .i64 0) := (blk_cell BK452.out 1).trans rfl; have hfz71_0 := blk_frozen BK452.out 0; have hfz71_1 := blk_frozen BK452.out 1; have hcz72_0 : w68.cell? ⟨gb432, 0, none⟩ = some (.int .i64 t427) := (blk_cell BK432.out 0).trans rfl; have hcz72_1 : w68.cell? ⟨gb432, 1, none⟩ = some (.slice Ao9 t428.length co9) := (blk_cell BK432.out 1).trans rfl; have hfz72_0 := blk_frozen BK432.out 0; have hfz72_1 := blk_frozen BK432.out 1; have hcz73_0 : w68.cell? ⟨gb448, 0, none⟩ = some (.int .i64 t427) := (blk_cell BK448.out 0).trans rfl; have hcz73_1 : w68.cell? ⟨gb448, 1, none⟩ = some (.slice Ao42 y445.length co42) := (blk_cell BK448.out 1).trans rfl; have hfz73_0 := blk_frozen BK448.out 0; have hfz73_1 := blk_frozen BK448.out 1) | ((with_reducible refine gate_callee (f := 16) rfl ?_); refine goesL_ (some 106) rfl rfl Try.func16 (by kernel_rfl) rfl #[.agg #[.int .i64 t427, .slice Ao42 y445.length co42], .int .i64 t431] rfl (by first | rfl | (simp only [List.map_toArray, List.map_cons, List.map_nil, List.length_drop, List.length_take]; try rfl)) ?_; (with_reducible refine (impl_TrailEnds.calls kj54 t427 _ _ y445 t431 t453 _ ?side1 ?side2 A61.out).mono ?_); (case side1 => refine (Kd.Q_reads' (e := 42) (base := w.heap.size) (ok := fun k_ => some k_ ≠ (.slice Ao9 t428.length co9 : Value).ownBlock) (n := y445.length) (c := co42) ?_).2.2; exact (by (with_reducible repeat apply Kd.Q_alloc); exact (Kd.Q_mono (Kd.Q_far (p := ⟨gb452, 1, none⟩) (Kd.Q_far (p := ⟨gb452, 0, none⟩) (Kd.Q_types HO_449001.out BK452.out (by decide)) (fun _ hk => hk.2) (.int .i64 t449)) (fun _ hk => hk.2) (.int .i64 t450)) (fun _ h_ => h_.1)))); (case side2 => exact (Kd.Q_reads' HO_449001.out).2.1); rintro e w74 ⟨v454, rfl, ho0, hb⟩; refine ⟨_, rfl, ?_⟩; have n0_ := Aside0.mk (Kd.Q_below (by (with_reducible repeat apply Kd.Q_alloc); exact (Kd.Q_mono (Kd.Q_far (p := ⟨gb452, 1, none⟩) (Kd.Q_far (p := ⟨gb452, 0, none⟩) (Kd.Q_types HO_433001.out BK452.out (by decide)) (fun _ hk => hk.2) (.int .i64 t449)) (fun _ hk => hk.2) (.int .i64 t450)) (fun _ h_ => h_.1))) hb); have n1_ := Aside0.mk (Kd.Q_below (by (with_reducible repeat apply Kd.Q_alloc); exact (Kd.Q_mono (Kd.Q_far (p := ⟨gb452, 1, none⟩) (Kd.Q_far (p := ⟨gb452, 0, none⟩) (Kd.Q_types HO_449001.out BK452.out (by decide)) (fun _ hk => hk.2) (.int .i64 t449)) (fun _ hk => hk.2) (.int .i64 t450)) (fun _ h_ => h_.1))) hb); have n2_ := Aside0.mk (Kd.R_lower ho0 (below_size (by repeat first | exact HB.out | with_reducible refine below_setA ?_ ‹_› | apply below_alloc | apply pw_below_drewN))); have n3_ := Aside0.mk (blk_below (g := gb432) (o := .cells #[.int .i64 t427, .slice Ao9 t428.length co9] 25 (0, 0)) (by (with_reducible repeat apply blk_alloc); refine blk_far ?_ NB432_452.out _; (with_reducible repeat apply blk_alloc); refine blk_far ?_ NB432_452.out _; (with_reducible repeat apply blk_alloc); exact BK432.out) hb); have n4_ := Aside0.mk (blk_below (g := gb448) (o := .cells #[.int .i64 t427, .slice Ao42 y445.length co42] 25 (0, 0)) (by (with_reducible repeat apply blk_alloc); refine blk_far ?_ NB448_452.out _; (with_reducible repeat apply blk_alloc); refine blk_far ?_ NB448_452.out _; (with_reducible repeat apply blk_alloc); exact BK448.out) hb); have n5_ := Aside0.mk (blk_below (g := gb452) (o := .cells #[.int .i64 t449, .int .i64 t450] 44 (0, 0)) (by (with_reducible repeat apply blk_alloc); refine blk_put (cs := #[.int .i64 t449, .int .i64 0]) ?_ 1 _ rfl; (with_reducible repeat apply blk_alloc); refine blk_put (cs := #[.int .i64 0, .int .i64 0]) ?_ 0 _ rfl; (with_reducible repeat apply blk_alloc); exact BK452.out) hb); have n6_ := Aside0.mk (below_step (by repeat first | exact HB.out | with_reducible refine below_setA ?_ ‹_› | apply below_alloc | apply pw_below_drewN) hb); clear HO_433001; clear HO_449001; clear BK432; clear BK448; clear BK452; clear HB; have HO_433001 := n0_; have HO_449001 := n1_; have HO455 := n2_; have BK432 := n3_; have BK448 := n4_; have BK452 := n5_; have HB := n6_; clear n0_ n1_ n2_ n3_ n4_ n5_ n6_; (try clear hb); (try clear hb2); (try clear hk); (try clear hi); (try clear ho0)) | ((with_reducible refine gate_dst (N := 109) rfl ?_); (try (refine gate_guard (by rfl) ?_; dsimp only)); refine Kd.R_lit k38 _ 38 ?hg (N := 109) ?hd (xs := ([(⟨0, x8_54, 64⟩ : S38)] : List (S38))) (inner := [.int .i64 0, .int .i64 x8_54, .int .i64 64]) (ok := fun _ => True) (okp := fun _ => True) ?hr ?hp (fun _ hk => hk) trivial (Below.refl _ _) (Nat.le_refl _) (by simp) ?_; (case hd => rfl); (case hg => rfl); (case hr => first | (go_simp; done) | (go_simp; rfl)); (case hp => exact (Reps.c3 (show Kd.M k38 _ _ _ (⟨0, x8_54, 64⟩ : S38) [.int .i64 0, .int .i64 x8_54, .int .i64 64] from (k38_mkM _ _ _ (⟨0, x8_54, 64⟩ : S38) )) (Reps.none _ _))); intro v457 w75 ho76 hb hg_ hnew_; clear hg_ hnew_; (first | rw [<- Ny456.out] at ho76 | (simp only [Int.reduceToNat] at ho76; rw [<- Ny456.out] at ho76)); have n0_ := Aside0.mk (Kd.Q_below (by (with_reducible repeat apply Kd.Q_alloc); exact HO_433001.out) hb); have n1_ := Aside0.mk (Kd.Q_below (by (with_reducible repeat apply Kd.Q_alloc); exact HO_449001.out) hb); have n2_ := Aside0.mk (Kd.R_elder' (kR HO455.out) (Kd.R_base ho76) hb); have n3_ := Aside0.mk (Kd.R_lower (Kd.R_new' ho76 (Kd.R_lt (kR HO455.out))) (below_size (by repeat first | exact HB.out | with_reducible refine below_setA ?_ ‹_› | apply below_alloc | apply pw_below_drewN))); have n4_ := Aside0.mk (blk_below (bK BK432.out) hb); have n5_ := Aside0.mk (blk_below (bK BK448.out) hb); have n6_ := Aside0.mk (blk_below (bK BK452.out) hb); have n7_ := Aside0.mk (below_step (by repeat first | exact HB.out | with_reducible refine below_setA ?_ ‹_› | apply below_alloc | apply pw_below_drewN) hb); clear HO_433001; clear HO_449001; clear HO455; clear BK432; clear BK448; clear BK452; clear HB; have HO_433001 := n0_; have HO_449001 := n1_; have HO455 := n2_; have HO458 := n3_; have BK432 := n4_; have BK448 := n5_; have BK452 := n6_; have HB := n7_; clear n0_ n1_ n2_ n3_ n4_ n5_ n6_ n7_; clear hb ho76; obtain ⟨Ao77, co77, eo77⟩ := Kd.R_slice HO455.out; subst eo77; obtain ⟨Ao78, co78, eo78⟩ := Kd.R_slice HO458.out; subst eo78) | ((with_reducible refine gate_callee (f := 18) rfl ?_); refine goesL_ (some 110) rfl rfl Try.func18 (by kernel_rfl) rfl #[.slice Ao77 t453.length co77, .slice Ao78 y456.length co78] rfl (by first | rfl | (simp only [List.map_toArray, List.map_cons, List.map_nil, List.length_drop, List.length_take]; try rfl)) ?_; (with_reducible refine (laws_llEnds.calls kj54 _ _ t453 _ _ y456 true _ ?side1 ?side2 ?side3 ?side4 A62.out).mono ?_); (case side1 => repeat (first | exact (Kd.R_reads' HO455.out).2.2 | (with_reducible refine Kd.C_alloc ?_ _) | (with_reducible refine Kd.C_drewN ?_ _) | (with_reducible refine Kd.C_drew ?_))); (case side2 => exact (Kd.R_reads' HO455.out).2.1); (case side3 => repeat (first | exact (Kd.R_reads' HO458.out).2.2 | (with_reducible refine Kd.C_alloc ?_ _) | (with_reducible refine Kd.C_drewN ?_ _) | (with_reducible refine Kd.C_drew ?_))); (case side4 => exact (Kd.R_reads' HO458.out).2.1); rintro e w' ⟨rfl, ⟨nd, rfl⟩⟩; refine ⟨_, rfl, ?_⟩; have hcz79_0 : w75.cell? ⟨gb448, 0, none⟩ = some (.int .i64 t427) := (blk_cell BK448.out 0).trans rfl; have hcz79_1 : w75.cell? ⟨gb448, 1, none⟩ = some (.slice Ao42 y445.length co42) := (blk_cell BK448.out 1).trans rfl; have hfz79_0 := blk_frozen BK448.out 0; have hfz79_1 := blk_frozen BK448.out 1) | (go_at_call 11; (with_reducible refine (impl_TrailVisits.calls kj54 t427 _ _ y445 t431 t460 _ ?side1 ?side2 A64.out).mono ?_); (case side1 => repeat (first | exact (Kd.Q_reads' HO_449001.out).2.2 | (with_reducible refine Kd.C_alloc ?_ _) | (with_reducible refine Kd.C_drewN ?_ _) | (with_reducible refine Kd.C_drew ?_))); (case side2 => exact (Kd.Q_reads' HO_449001.out).2.1); rintro e w80 ⟨v461, rfl, ho0, hb⟩; have n0_ := Aside0.mk (Kd.Q_below (by (with_reducible repeat apply Kd.Q_alloc); exact HO_433001.out) hb); have n1_ := Aside0.mk (Kd.Q_below (by (with_reducible repeat apply Kd.Q_alloc); exact HO_449001.out) hb); have n2_ := Aside0.mk (Kd.R_below (kR HO455.out) hb); have n3_ := Aside0.mk (Kd.R_below (kR HO458.out) hb); have n4_ := Aside0.mk (Kd.R_lower ho0 (below_size (by repeat first | exact HB.out | with_reducible refine below_setA ?_ ‹_› | apply below_alloc | apply pw_below_drewN))); have n5_ := Aside0.mk (blk_below (bK BK432.out) hb); have n6_ := Aside0.mk (blk_below (bK BK448.out) hb); have n7_ := Aside0.mk (blk_below (bK BK452.out) hb); have n8_ := Aside0.mk (below_step (by repeat first | exact HB.out | with_reducible refine below_setA ?_ ‹_› | apply below_alloc | apply pw_below_drewN) hb); clear HO_433001; clear HO_449001; clear HO455; clear HO458; clear BK432; clear BK448; clear BK452; clear HB; have HO_433001 := n0_; have HO_449001 := n1_; have HO455 := n2_; have HO458 := n3_; have HO462 := n4_; have BK432 := n5_; have BK448 := n6_; have BK452 := n7_; have HB := n8_; clear n0_ n1_ n2_ n3_ n4_ n5_ n6_ n7_ n8_; (try clear hb); (try clear hb2); (try clear hk); (try clear hi); (try clear ho0); obtain ⟨Ao81, co81, eo81⟩ := Kd.R_slice HO462.out; subst eo81))
              go_ret
              exact ⟨by first | rfl | (simp [errW_none, errW_some] <;> rfl) | (simp [*, errW_none, errW_some] <;> rfl) | (exfalso; simp_all; done), by repeat first | exact HB.out | with_reducible refine below_setA ?_ ‹_› | apply below_alloc | apply pw_below_drewN⟩
             ·replace c63 := Bool.eq_false_iff.mpr c63
              subst c63
              have H1 : (some false) = some r := by rw [if_neg (show ¬ (false = true) by decide)] at H; exact H
              clear H
              have H := H1
              clear H1
              obtain rfl := Option.some.inj H
              exact absurd HRT.out (by decide)
            ·rw [if_neg c60] at H
             have c60b0 : ((Int.tmod t450 2) == 1) = false := beq_eq_false_iff_ne.mpr c60
             have c60b1 : ((Int.tmod t450 2) != 1) = true := bne_iff_ne.mpr c60
             replace H := Option.bind_eq_some_iff.mp H
             obtain ⟨t463, A820, H⟩ := H
             replace H : ((laws_llEnds.f kj54 t463 (([(⟨0, x8_54, 64⟩ : S38)] : List (S38)))).bind fun t469 => (if t469 = true then ((impl_TrailVisits.f kj54 t427 y445 t431).bind fun t470 => (some ((t470.length : Int) == (wrap64 ((t428.length : Int) / t427))))) else (some false))) = some r := H
             have A82 := Aside0.mk A820
             clear A820
             obtain ⟨y466, hy466⟩ : ∃ y_ : List (S38), y_ = (([(⟨0, x8_54, 64⟩ : S38)] : List (S38))) := ⟨_, rfl⟩
             replace H : ((laws_llEnds.f kj54 t463 y466).bind fun t469 => (if t469 = true then ((impl_TrailVisits.f kj54 t427 y445 t431).bind fun t470 => (some ((t470.length : Int) == (wrap64 ((t428.length : Int) / t427))))) else (some false))) = some r := by first | (rw [hy466]; with_reducible exact H) | (have H2_ := (Option.bind_some _ _).symm.trans H; rw [hy466]; with_reducible exact H2_) | (have H2_ := (Option.bind_some _ _).symm.trans H; with_reducible exact H2_) | with_reducible exact H | (rw [hy466]; exact H) | exact H
             have Ny466 := Aside0.mk hy466
             clear hy466
             replace H := Option.bind_eq_some_iff.mp H
             obtain ⟨t469, A830, H⟩ := H
             replace H : (if t469 = true then ((impl_TrailVisits.f kj54 t427 y445 t431).bind fun t470 => (some ((t470.length : Int) == (wrap64 ((t428.length : Int) / t427))))) else (some false)) = some r := H
             have A83 := Aside0.mk A830
             clear A830
             by_cases c84 : t469 = true
             ·subst c84
              have H1 : ((impl_TrailVisits.f kj54 t427 y445 t431).bind fun t470 => (some ((t470.length : Int) == (wrap64 ((t428.length : Int) / t427))))) = some r := by rw [if_pos rfl] at H; exact H
              clear H
              have H := H1
              clear H1
              replace H := Option.bind_eq_some_iff.mp H
              obtain ⟨t470, A850, H⟩ := H
              replace H : (some ((t470.length : Int) == (wrap64 ((t428.length : Int) / t427)))) = some r := H
              have A85 := Aside0.mk A850
              clear A850
              obtain rfl := Option.some.inj H
              have hnb86 := NB432_448.out
              have hnc86 := NB448_432.out
              have hcz87_0 : wc.cell? ⟨gb432, 0, none⟩ = some (.int .i64 t427) := (blk_cell BK432.out 0).trans rfl
              have hcz87_1 : wc.cell? ⟨gb432, 1, none⟩ = some (.slice Ao9 t428.length co9) := (blk_cell BK432.out 1).trans rfl
              have hfz87_0 := blk_frozen BK432.out 0
              have hfz87_1 := blk_frozen BK432.out 1
              go_wp2_with (first | ((with_reducible refine gate_callee (f := 20) rfl ?_); refine goesL_ (some 95) rfl rfl Try.func20 (by kernel_rfl) rfl #[.agg #[.int .i64 t427, .slice Ao9 t428.length co9], .int .i64 t431] rfl (by first | rfl | (simp only [List.map_toArray, List.map_cons, List.map_nil, List.length_drop, List.length_take]; try rfl)) ?_; (with_reducible refine (impl_SightRay.calls kj54 t427 _ _ t428 t431 t449 t450 t451 _ ?side1 ?side2 A59.out).mono ?_); (case side1 => repeat (first | exact (Kd.Q_reads' HO_433001.out).2.2 | (with_reducible refine Kd.C_alloc ?_ _) | (with_reducible refine Kd.C_drewN ?_ _) | (with_reducible refine Kd.C_drew ?_))); (case side2 => exact (Kd.Q_reads' HO_433001.out).2.1); rintro e w88 ⟨rfl, hb⟩; refine ⟨_, rfl, ?_⟩; have n0_ := Aside0.mk (Kd.Q_below (by (with_reducible repeat apply Kd.Q_alloc); exact HO_433001.out) hb); have n1_ := Aside0.mk (Kd.Q_below (by (with_reducible repeat apply Kd.Q_alloc); exact HO_449001.out) hb); have n2_ := Aside0.mk (blk_below (bK BK432.out) hb); have n3_ := Aside0.mk (blk_below (bK BK448.out) hb); have n4_ := Aside0.mk (below_step (by repeat first | exact HB.out | with_reducible refine below_setA ?_ ‹_› | apply below_alloc | apply pw_below_drewN) hb); clear HO_433001; clear HO_449001; clear BK432; clear BK448; clear HB; have HO_433001 := n0_; have HO_449001 := n1_; have BK432 := n2_; have BK448 := n3_; have HB := n4_; clear n0_ n1_ n2_ n3_ n4_; (try clear hb); (try clear hb2); (try clear hk); (try clear hi)) | ((with_reducible refine gate_dst (N := 10) rfl ?_); (try (refine gate_guard (by rfl) ?_; dsimp only)); refine box_event rfl (N := 10) rfl (cs := #[.int .i64 0, .int .i64 0]) (t := 44) ?hr ?_; (case hr => first | (go_simp; done) | (go_simp; rfl)); intro gb452 hg w89 hbox hb; have n0_ := Aside0.mk (Kd.Q_below (by (with_reducible repeat apply Kd.Q_alloc); exact HO_433001.out) hb); have n1_ := Aside0.mk (Kd.Q_below (by (with_reducible repeat apply Kd.Q_alloc); exact HO_449001.out) hb); have n2_ := Aside0.mk (blk_below (bK BK432.out) hb); have n3_ := Aside0.mk (blk_below (bK BK448.out) hb); have n4_ := Aside0.mk (below_step (by repeat first | exact HB.out | with_reducible refine below_setA ?_ ‹_› | apply below_alloc | apply pw_below_drewN) hb); have n5_ := Aside0.mk (hbox); have n6_ := Aside0.mk ((by rw [hg]; exact (below_size (by repeat first | exact HB.out | with_reducible refine below_setA ?_ ‹_› | apply below_alloc | apply pw_below_drewN)) : w.heap.size <= gb452)); have n7_ := n6_; have n8_ := Aside0.mk ((by rw [hg]; exact Nat.ne_of_lt (blk_lt (bK BK432.out)) : gb432 ≠ gb452)); have n9_ := Aside0.mk ((by rw [hg]; exact Nat.ne_of_gt (blk_lt (bK BK432.out)) : gb452 ≠ gb432)); have n10_ := Aside0.mk ((by rw [hg]; exact Nat.ne_of_lt (blk_lt (bK BK448.out)) : gb448 ≠ gb452)); have n11_ := Aside0.mk ((by rw [hg]; exact Nat.ne_of_gt (blk_lt (bK BK448.out)) : gb452 ≠ gb448)); clear HO_433001; clear HO_449001; clear BK432; clear BK448; clear HB; have HO_433001 := n0_; have HO_449001 := n1_; have BK432 := n2_; have BK448 := n3_; have HB := n4_; have BK452 := n5_; have GW452 := n6_; have GE452 := n7_; have NB432_452 := n8_; have NB452_432 := n9_; have NB448_452 := n10_; have NB452_448 := n11_; clear n0_ n1_ n2_ n3_ n4_ n5_ n6_ n7_ n8_ n9_ n10_ n11_; clear hb hbox hg; have hnb90 := NB452_432.out; have hnc90 := NB432_452.out; have hnb91 := NB452_448.out; have hnc91 := NB448_452.out; have hcz92_0 : w89.cell? ⟨gb452, 0, none⟩ = some (.int .i64 0) := (blk_cell BK452.out 0).trans rfl; have hcz92_1 : w89.cell? ⟨gb452, 1, none⟩ = some (.int .i64 0) := (blk_cell BK452.out 1).trans rfl; have hfz92_0 := blk_frozen BK452.out 0; have hfz92_1 := blk_frozen BK452.out 1; have hcz93_0 : w89.cell? ⟨gb448, 0, none⟩ = some (.int .i64 t427) := (blk_cell BK448.out 0).trans rfl; have hcz93_1 : w89.cell? ⟨gb448, 1, none⟩ = some (.slice Ao42 y445.length co42) := (blk_cell BK448.out 1).trans rfl; have hfz93_0 := blk_frozen BK448.out 0; have hfz93_1 := blk_frozen BK448.out 1) | ((with_reducible refine gate_callee (f := 16) rfl ?_); refine goesL_ (some 106) rfl rfl Try.func16 (by kernel_rfl) rfl #[.agg #[.int .i64 t427, .slice Ao42 y445.length co42], .int .i64 t431] rfl (by first | rfl | (simp only [List.map_toArray, List.map_cons, List.map_nil, List.length_drop, List.length_take]; try rfl)) ?_; (with_reducible refine (impl_TrailEnds.calls kj54 t427 _ _ y445 t431 t463 _ ?side1 ?side2 A82.out).mono ?_); (case side1 => refine (Kd.Q_reads' (e := 42) (base := w.heap.size) (ok := fun k_ => some k_ ≠ (.slice Ao9 t428.length co9 : Value).ownBlock) (n := y445.length) (c := co42) ?_).2.2; exact (by (with_reducible repeat apply Kd.Q_alloc); exact (Kd.Q_mono (Kd.Q_far (p := ⟨gb452, 1, none⟩) (Kd.Q_far (p := ⟨gb452, 0, none⟩) (Kd.Q_types HO_449001.out BK452.out (by decide)) (fun _ hk => hk.2) (.int .i64 t449)) (fun _ hk => hk.2) (.int .i64 t450)) (fun _ h_ => h_.1)))); (case side2 => exact (Kd.Q_reads' HO_449001.out).2.1); rintro e w94 ⟨v464, rfl, ho0, hb⟩; refine ⟨_, rfl, ?_⟩; have n0_ := Aside0.mk (Kd.Q_below (by (with_reducible repeat apply Kd.Q_alloc); exact (Kd.Q_mono (Kd.Q_far (p := ⟨gb452, 1, none⟩) (Kd.Q_far (p := ⟨gb452, 0, none⟩) (Kd.Q_types HO_433001.out BK452.out (by decide)) (fun _ hk => hk.2) (.int .i64 t449)) (fun _ hk => hk.2) (.int .i64 t450)) (fun _ h_ => h_.1))) hb); have n1_ := Aside0.mk (Kd.Q_below (by (with_reducible repeat apply Kd.Q_alloc); exact (Kd.Q_mono (Kd.Q_far (p := ⟨gb452, 1, none⟩) (Kd.Q_far (p := ⟨gb452, 0, none⟩) (Kd.Q_types HO_449001.out BK452.out (by decide)) (fun _ hk => hk.2) (.int .i64 t449)) (fun _ hk => hk.2) (.int .i64 t450)) (fun _ h_ => h_.1))) hb); have n2_ := Aside0.mk (Kd.R_lower ho0 (below_size (by repeat first | exact HB.out | with_reducible refine below_setA ?_ ‹_› | apply below_alloc | apply pw_below_drewN))); have n3_ := Aside0.mk (blk_below (g := gb432) (o := .cells #[.int .i64 t427, .slice Ao9 t428.length co9] 25 (0, 0)) (by (with_reducible repeat apply blk_alloc); refine blk_far ?_ NB432_452.out _; (with_reducible repeat apply blk_alloc); refine blk_far ?_ NB432_452.out _; (with_reducible repeat apply blk_alloc); exact BK432.out) hb); have n4_ := Aside0.mk (blk_below (g := gb448) (o := .cells #[.int .i64 t427, .slice Ao42 y445.length co42] 25 (0, 0)) (by (with_reducible repeat apply blk_alloc); refine blk_far ?_ NB448_452.out _; (with_reducible repeat apply blk_alloc); refine blk_far ?_ NB448_452.out _; (with_reducible repeat apply blk_alloc); exact BK448.out) hb); have n5_ := Aside0.mk (blk_below (g := gb452) (o := .cells #[.int .i64 t449, .int .i64 t450] 44 (0, 0)) (by (with_reducible repeat apply blk_alloc); refine blk_put (cs := #[.int .i64 t449, .int .i64 0]) ?_ 1 _ rfl; (with_reducible repeat apply blk_alloc); refine blk_put (cs := #[.int .i64 0, .int .i64 0]) ?_ 0 _ rfl; (with_reducible repeat apply blk_alloc); exact BK452.out) hb); have n6_ := Aside0.mk (below_step (by repeat first | exact HB.out | with_reducible refine below_setA ?_ ‹_› | apply below_alloc | apply pw_below_drewN) hb); clear HO_433001; clear HO_449001; clear BK432; clear BK448; clear BK452; clear HB; have HO_433001 := n0_; have HO_449001 := n1_; have HO465 := n2_; have BK432 := n3_; have BK448 := n4_; have BK452 := n5_; have HB := n6_; clear n0_ n1_ n2_ n3_ n4_ n5_ n6_; (try clear hb); (try clear hb2); (try clear hk); (try clear hi); (try clear ho0)) | ((with_reducible refine gate_dst (N := 109) rfl ?_); (try (refine gate_guard (by rfl) ?_; dsimp only)); refine Kd.R_lit k38 _ 38 ?hg (N := 109) ?hd (xs := ([(⟨0, x8_54, 64⟩ : S38)] : List (S38))) (inner := [.int .i64 0, .int .i64 x8_54, .int .i64 64]) (ok := fun _ => True) (okp := fun _ => True) ?hr ?hp (fun _ hk => hk) trivial (Below.refl _ _) (Nat.le_refl _) (by simp) ?_; (case hd => rfl); (case hg => rfl); (case hr => first | (go_simp; done) | (go_simp; rfl)); (case hp => exact (Reps.c3 (show Kd.M k38 _ _ _ (⟨0, x8_54, 64⟩ : S38) [.int .i64 0, .int .i64 x8_54, .int .i64 64] from (k38_mkM _ _ _ (⟨0, x8_54, 64⟩ : S38) )) (Reps.none _ _))); intro v467 w95 ho96 hb hg_ hnew_; clear hg_ hnew_; (first | rw [<- Ny466.out] at ho96 | (simp only [Int.reduceToNat] at ho96; rw [<- Ny466.out] at ho96)); have n0_ := Aside0.mk (Kd.Q_below (by (with_reducible repeat apply Kd.Q_alloc); exact HO_433001.out) hb); have n1_ := Aside0.mk (Kd.Q_below (by (with_reducible repeat apply Kd.Q_alloc); exact HO_449001.out) hb); have n2_ := Aside0.mk (Kd.R_elder' (kR HO465.out) (Kd.R_base ho96) hb); have n3_ := Aside0.mk (Kd.R_lower (Kd.R_new' ho96 (Kd.R_lt (kR HO465.out))) (below_size (by repeat first | exact HB.out | with_reducible refine below_setA ?_ ‹_› | apply below_alloc | apply pw_below_drewN))); have n4_ := Aside0.mk (blk_below (bK BK432.out) hb); have n5_ := Aside0.mk (blk_below (bK BK448.out) hb); have n6_ := Aside0.mk (blk_below (bK BK452.out) hb); have n7_ := Aside0.mk (below_step (by repeat first | exact HB.out | with_reducible refine below_setA ?_ ‹_› | apply below_alloc | apply pw_below_drewN) hb); clear HO_433001; clear HO_449001; clear HO465; clear BK432; clear BK448; clear BK452; clear HB; have HO_433001 := n0_; have HO_449001 := n1_; have HO465 := n2_; have HO468 := n3_; have BK432 := n4_; have BK448 := n5_; have BK452 := n6_; have HB := n7_; clear n0_ n1_ n2_ n3_ n4_ n5_ n6_ n7_; clear hb ho96; obtain ⟨Ao97, co97, eo97⟩ := Kd.R_slice HO465.out; subst eo97; obtain ⟨Ao98, co98, eo98⟩ := Kd.R_slice HO468.out; subst eo98) | ((with_reducible refine gate_callee (f := 18) rfl ?_); refine goesL_ (some 110) rfl rfl Try.func18 (by kernel_rfl) rfl #[.slice Ao97 t463.length co97, .slice Ao98 y466.length co98] rfl (by first | rfl | (simp only [List.map_toArray, List.map_cons, List.map_nil, List.length_drop, List.length_take]; try rfl)) ?_; (with_reducible refine (laws_llEnds.calls kj54 _ _ t463 _ _ y466 true _ ?side1 ?side2 ?side3 ?side4 A83.out).mono ?_); (case side1 => repeat (first | exact (Kd.R_reads' HO465.out).2.2 | (with_reducible refine Kd.C_alloc ?_ _) | (with_reducible refine Kd.C_drewN ?_ _) | (with_reducible refine Kd.C_drew ?_))); (case side2 => exact (Kd.R_reads' HO465.out).2.1); (case side3 => repeat (first | exact (Kd.R_reads' HO468.out).2.2 | (with_reducible refine Kd.C_alloc ?_ _) | (with_reducible refine Kd.C_drewN ?_ _) | (with_reducible refine Kd.C_drew ?_))); (case side4 => exact (Kd.R_reads' HO468.out).2.1); rintro e w' ⟨rfl, ⟨nd, rfl⟩⟩; refine ⟨_, rfl, ?_⟩; have hcz99_0 : w95.cell? ⟨gb448, 0, none⟩ = some (.int .i64 t427) := (blk_cell BK448.out 0).trans rfl; have hcz99_1 : w95.cell? ⟨gb448, 1, none⟩ = some (.slice Ao42 y445.length co42) := (blk_cell BK448.out 1).trans rfl; have hfz99_0 := blk_frozen BK448.out 0; have hfz99_1 := blk_frozen BK448.out 1) | (go_at_call 11; (with_reducible refine (impl_TrailVisits.calls kj54 t427 _ _ y445 t431 t470 _ ?side1 ?side2 A85.out).mono ?_); (case side1 => repeat (first | exact (Kd.Q_reads' HO_449001.out).2.2 | (with_reducible refine Kd.C_alloc ?_ _) | (with_reducible refine Kd.C_drewN ?_ _) | (with_reducible refine Kd.C_drew ?_))); (case side2 => exact (Kd.Q_reads' HO_449001.out).2.1); rintro e w100 ⟨v471, rfl, ho0, hb⟩; have n0_ := Aside0.mk (Kd.Q_below (by (with_reducible repeat apply Kd.Q_alloc); exact HO_433001.out) hb); have n1_ := Aside0.mk (Kd.Q_below (by (with_reducible repeat apply Kd.Q_alloc); exact HO_449001.out) hb); have n2_ := Aside0.mk (Kd.R_below (kR HO465.out) hb); have n3_ := Aside0.mk (Kd.R_below (kR HO468.out) hb); have n4_ := Aside0.mk (Kd.R_lower ho0 (below_size (by repeat first | exact HB.out | with_reducible refine below_setA ?_ ‹_› | apply below_alloc | apply pw_below_drewN))); have n5_ := Aside0.mk (blk_below (bK BK432.out) hb); have n6_ := Aside0.mk (blk_below (bK BK448.out) hb); have n7_ := Aside0.mk (blk_below (bK BK452.out) hb); have n8_ := Aside0.mk (below_step (by repeat first | exact HB.out | with_reducible refine below_setA ?_ ‹_› | apply below_alloc | apply pw_below_drewN) hb); clear HO_433001; clear HO_449001; clear HO465; clear HO468; clear BK432; clear BK448; clear BK452; clear HB; have HO_433001 := n0_; have HO_449001 := n1_; have HO465 := n2_; have HO468 := n3_; have HO472 := n4_; have BK432 := n5_; have BK448 := n6_; have BK452 := n7_; have HB := n8_; clear n0_ n1_ n2_ n3_ n4_ n5_ n6_ n7_ n8_; (try clear hb); (try clear hb2); (try clear hk); (try clear hi); (try clear ho0); obtain ⟨Ao101, co101, eo101⟩ := Kd.R_slice HO472.out; subst eo101))
              go_ret
              exact ⟨by first | rfl | (simp [errW_none, errW_some] <;> rfl) | (simp [*, errW_none, errW_some] <;> rfl) | (exfalso; simp_all; done), by repeat first | exact HB.out | with_reducible refine below_setA ?_ ‹_› | apply below_alloc | apply pw_below_drewN⟩
             ·replace c84 := Bool.eq_false_iff.mpr c84
              subst c84
              have H1 : (some false) = some r := by rw [if_neg (show ¬ (false = true) by decide)] at H; exact H
              clear H
              have H := H1
              clear H1
              obtain rfl := Option.some.inj H
              exact absurd HRT.out (by decide)
      ·rw [if_neg c33] at H
       exact absurd H (by simp)
     ·rw [if_neg c32] at H
      exact absurd H (by simp)
/-- THE ONE PURE STATEMENT of laws_FnTrailStraight: yours. -/
def laws_FnTrailStraight.Pure : Prop := ∀ (l0 : List Int), l0.length <= maxLen -> l0.length * 1 <= 140737488351232 -> (∀ x ∈ l0, (Lit.int .u8 x).wf = true) -> ∃ k, laws_FnTrailStraight.f k l0 = some true
theorem laws_FnTrailStraight.walk (P : laws_FnTrailStraight.Pure) (a0 : Option Addr) (len0 cap0 : Nat) (z0 : List Int) (w : World) (w0 : (a0 = none ∧ len0 = 0 ∧ cap0 = 0 ∧ z0 = []) ∨ ∃ x, a0 = some x ∧ len0 <= cap0 ∧ cap0 <= maxLen ∧ z0.length = cap0 ∧ (∀ i, i < z0.length -> w.cell? (x.add i) = some (.int .u8 (z0.getD i 0))) ∧ ∀ n ∈ z0, (Lit.int .u8 n).wf = true) (y0 : len0 * 1 <= 140737488351232) :
  Calls Try.prog 5 #[.slice a0 len0 cap0] w fun e w' => e = .returned (.bool true) ∧ Below w.heap.size w w' := by
 obtain ⟨l0, rfl, hr0, hm0, hw0, hc0⟩ := ReadsInt.ofRowC w0
 obtain ⟨k, h⟩ := P l0 hm0 y0 hw0
 refine (laws_FnTrailStraight.calls k _ _ l0 true w (Kd.C_of_reads (d := (0 : Int)) (h1 := fun _ => rfl) hr0) hc0 h rfl).mono ?_
 rintro e w' ⟨rfl, hd⟩
 exact ⟨rfl, hd⟩
end Go.Proofs.Yteapnipnoadejaa.P
