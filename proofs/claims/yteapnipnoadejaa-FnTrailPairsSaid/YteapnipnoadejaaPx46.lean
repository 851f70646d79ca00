/- PROVED: contracts of functions; No condition. -/
import Derived.Test.YteapnipnoadejaaPx0
import Derived.Test.YteapnipnoadejaaPx13
import Derived.Test.YteapnipnoadejaaPx37
import Derived.Test.YteapnipnoadejaaPx40
import Derived.Test.YteapnipnoadejaaPx43
import Derived.Test.YteapnipnoadejaaT3Go
namespace Go.Proofs.Yteapnipnoadejaa.P
open Go.RowKit Go.Proofs.YteapnipnoadejaaW
set_option linter.unusedVariables false
set_option linter.unusedSimpArgs false
mutual
def laws_FnTrailPairs.j0 : Nat -> Int -> List (S38) -> Bool -> Int -> List (S42) -> Option (Bool)
 | 0, _, _, _, _, _ => none
 | k + 1, x4, x5, x31, x392000, x392001 => if x31 = true then ((spec_TrailEnds.f k x392000 x392001 x4).bind fun t400 => ((laws_llEnds.f k x5 t400).bind fun t403 => (some t403))) else ((some (([] : List (S42)) : List (S42))).bind fun y404 => (if y404.length + x392001.length < 8796093022208 then (laws_FnTrailPairs.l0 k x4 0 x392000 (y404 ++ x392001)) else (none)))
def laws_FnTrailPairs.l0 : Nat -> Int -> Int -> Int -> List (S42) -> Option (Bool)
 | 0, _, _, _, _ => none
 | k + 1, x4, x7, x411000, x411001 => if x7 < (x411001.length : Int) then (if 0 <= x7 then (if ((rd_T42 x411001 x7).f0) = 2 then (laws_FnTrailPairs.l0 k x4 (wrap64 (x7 + 1)) x411000 x411001) else (if ((rd_T42 x411001 x7).f0) = 3 then (laws_FnTrailPairs.l0 k x4 (wrap64 (x7 + 1)) x411000 x411001) else (laws_FnTrailPairs.l0 k x4 (wrap64 (x7 + 1)) x411000 (x411001.set (x7 : Int).toNat (⟨0, 0⟩ : S42))))) else (none)) else ((impl_TrailEnds.f k x411000 x411001 x4).bind fun t414 => (if (t414.length : Int) = 1 then (if 0 < (t414.length : Int) then (if ((rd_T38 t414 0).f0) = 0 then (laws_FnTrailPairs.j2 k x4 t414 (((rd_T38 t414 0).f1) == x4) x411000 x411001) else (laws_FnTrailPairs.j2 k x4 t414 true x411000 x411001)) else (none)) else (laws_FnTrailPairs.j2 k x4 t414 true x411000 x411001)))
def laws_FnTrailPairs.j2 : Nat -> Int -> List (S38) -> Bool -> Int -> List (S42) -> Option (Bool)
 | 0, _, _, _, _, _ => none
 | k + 1, x4, x8, x92, x411000, x411001 => if x92 = true then (some false) else (if 0 < (x8.length : Int) then ((impl_TrailEnds.f k x411000 x411001 ((rd_T38 x8 0).f1)).bind fun t420 => ((laws_llEnds.f k t420 (([(⟨0, x4, 64⟩ : S38)] : List (S38)))).bind fun t426 => (some t426))) else (none))
end
def laws_FnTrailPairs.f (k : Nat) (l0 : List Int) : Option (Bool) := if (l0.length : Int) > 1048576 then (some true) else ((spec_DrawTrailEnds.f k l0).bind fun bt386 => ((impl_TrailEnds.f k bt386.1 bt386.2.1 bt386.2.2).bind fun t392 => ((spec_TrailEnds.f k bt386.1 bt386.2.1 bt386.2.2).bind fun t395 => ((laws_llEnds.f k t392 t395).bind fun t398 => (if t398 = true then ((laws_llSight.f k bt386.1 bt386.2.1 bt386.2.2).bind fun t399 => (laws_FnTrailPairs.j0 k bt386.2.2 t392 (!t399) bt386.1 bt386.2.1)) else (laws_FnTrailPairs.j0 k bt386.2.2 t392 true bt386.1 bt386.2.1))))))
def laws_FnTrailPairs.T7 : Bool × List (List Nat × List Nat) := (true, [([], []), ([0], [0]), ([], []), ([], []), ([3], [3]), ([2, 4], [2, 4]), ([1, 5], [1, 5]), ([], []), ([7, 6, 5, 0, 1, 2, 3, 4, 5, 6, 7], [6, 7])])
def laws_FnTrailPairs.B7 : List Nat := [0, 1, 0, 0, 8, 28, 63, 0, 255]
theorem laws_FnTrailPairs.tab7 : rtab .any (opsOf Try.f4 7) = laws_FnTrailPairs.T7 := by kernel_rfl
theorem laws_FnTrailPairs.bits7 : waitsOk laws_FnTrailPairs.T7.2 laws_FnTrailPairs.B7 = true := by kernel_rfl
def laws_FnTrailPairs.T16 : Bool × List (List Nat × List Nat) := (true, [([], []), ([], []), ([1], [1]), ([2], [2]), ([3], [3]), ([0, 4], [0, 4]), ([], []), ([6], [6]), ([7], [7]), ([5, 8, 5], [5, 8]), ([9, 9, 0, 1, 2, 3, 4, 5, 6, 7, 8, 9], [9])])
def laws_FnTrailPairs.B16 : List Nat := [0, 0, 2, 6, 14, 31, 0, 64, 192, 511, 1023]
theorem laws_FnTrailPairs.tab16 : rtab .any (opsOf Try.f4 16) = laws_FnTrailPairs.T16 := by kernel_rfl
theorem laws_FnTrailPairs.bits16 : waitsOk laws_FnTrailPairs.T16.2 laws_FnTrailPairs.B16 = true := by kernel_rfl
set_option maxHeartbeats 8000000 in
set_option maxRecDepth 100000 in
theorem laws_FnTrailPairs.calls (k : Nat) (A0 : Option Addr) (c0 : Nat) (l0 : List Int) (r : Bool) (w : World) (hr0 : Kd.C (Kd.int .u8) w A0 l0.length l0) (hc0 : l0.length <= c0) (h : laws_FnTrailPairs.f k l0 = some r) (hrt : r = true) :
  Calls Try.prog 4 #[.slice A0 l0.length c0] w fun e w' => e = .returned (.bool r) ∧ Below w.heap.size w w' := by
 have HRT := Aside0.mk hrt
 clear hrt
 have hu25 := Try.underlying25
 have hu42 := Try.underlying42
 have hu38 := Try.underlying38
 have HR0 := Aside0.mk hr0
 have HC0 := Aside0.mk hc0
 clear hr0 hc0
 have HB := Aside0.mk (Below.refl w.heap.size w)
 have H : (if (l0.length : Int) > 1048576 then (some true) else ((spec_DrawTrailEnds.f k l0).bind fun bt386 => ((impl_TrailEnds.f k bt386.1 bt386.2.1 bt386.2.2).bind fun t392 => ((spec_TrailEnds.f k bt386.1 bt386.2.1 bt386.2.2).bind fun t395 => ((laws_llEnds.f k t392 t395).bind fun t398 => (if t398 = true then ((laws_llSight.f k bt386.1 bt386.2.1 bt386.2.2).bind fun t399 => (laws_FnTrailPairs.j0 k bt386.2.2 t392 (!t399) bt386.1 bt386.2.1)) else (laws_FnTrailPairs.j0 k bt386.2.2 t392 true bt386.1 bt386.2.1))))))) = some r := h
 clear h
 by_cases c2 : (l0.length : Int) > 1048576
 ·rw [if_pos c2] at H
  have c2b0 : decide (1048576 < (l0.length : Int)) = true := decide_eq_true c2
  have c2b1 : decide (1048576 < l0.length) = true := decide_eq_true (by omega)
  clear c2
  obtain rfl := Option.some.inj H
  go_enter Try.func4, Try.ntmps4
  go_wp2
  go_ret
  exact ⟨by first | rfl | (simp [errW_none, errW_some] <;> rfl) | (simp [*, errW_none, errW_some] <;> rfl) | (exfalso; simp_all; done), by repeat first | exact HB.out | apply below_alloc | apply pw_below_drewN⟩
 ·rw [if_neg c2] at H
  have c2b0 : decide (1048576 < (l0.length : Int)) = false := decide_eq_false c2
  have c2b1 : decide (1048576 < l0.length) = false := decide_eq_false (by omega)
  clear c2
  replace H := Option.bind_eq_some_iff.mp H
  obtain ⟨⟨t386, t387, t390⟩, A30, H⟩ := H
  replace H : ((impl_TrailEnds.f k t386 t387 t390).bind fun t392 => ((spec_TrailEnds.f k t386 t387 t390).bind fun t395 => ((laws_llEnds.f k t392 t395).bind fun t398 => (if t398 = true then ((laws_llSight.f k t386 t387 t390).bind fun t399 => (laws_FnTrailPairs.j0 k t390 t392 (!t399) t386 t387)) else (laws_FnTrailPairs.j0 k t390 t392 true t386 t387))))) = some r := H
  have A3 := Aside0.mk A30
  clear A30
  replace H := Option.bind_eq_some_iff.mp H
  obtain ⟨t392, A40, H⟩ := H
  replace H : ((spec_TrailEnds.f k t386 t387 t390).bind fun t395 => ((laws_llEnds.f k t392 t395).bind fun t398 => (if t398 = true then ((laws_llSight.f k t386 t387 t390).bind fun t399 => (laws_FnTrailPairs.j0 k t390 t392 (!t399) t386 t387)) else (laws_FnTrailPairs.j0 k t390 t392 true t386 t387)))) = some r := H
  have A4 := Aside0.mk A40
  clear A40
  have HC5 := Aside0.mk H
  clear H
  go_enter Try.func4, Try.ntmps4
  go_upto_region 5 with (first | ((with_reducible refine gate_callee (f := 17) rfl ?_); refine goesL_ (some 14) rfl rfl Try.func17 (by kernel_rfl) rfl #[.slice A0 l0.length c0] rfl (by first | rfl | (simp only [List.map_toArray, List.map_cons, List.map_nil, List.length_drop, List.length_take]; try rfl)) ?_; (with_reducible refine (spec_DrawTrailEnds.calls k _ _ l0 t386 t387 t390 _ ?side1 ?side2 A3.out).mono ?_); (case side1 => repeat (first | exact HR0.out | (with_reducible refine Kd.C_alloc ?_ _) | (with_reducible refine Kd.C_drewN ?_ _) | (with_reducible refine Kd.C_drew ?_))); (case side2 => exact HC0.out); rintro e w6 ⟨v388, rfl, ho0, hb⟩; refine ⟨_, rfl, ?_⟩; have n0_ := Aside0.mk (Kd.Q_lower ho0 (below_size (by repeat first | exact HB.out | apply below_alloc | apply pw_below_drewN))); have n1_ := Aside0.mk (below_step (by repeat first | exact HB.out | apply below_alloc | apply pw_below_drewN) hb); clear HB; have HO389 := n0_; have HB := n1_; clear n0_ n1_; (try clear hb); (try clear hb2); (try clear hk); (try clear hi); (try clear ho0)) | ((with_reducible refine gate_dst (N := 3) rfl ?_); refine box_event rfl (N := 3) rfl (cs := #[.int .i64 0, .slice none 0 0]) (t := 25) ?hr ?_; (case hr => first | (go_simp; done) | (go_simp; rfl)); intro gb391 hg w7 hbox hb; have n0_ := Aside0.mk (Kd.Q_below (by (with_reducible repeat apply Kd.Q_alloc); exact HO389.out) hb); have n1_ := Aside0.mk (below_step (by repeat first | exact HB.out | apply below_alloc | apply pw_below_drewN) hb); have n2_ := Aside0.mk (hbox); have n3_ := Aside0.mk ((by rw [hg]; exact (below_size (by repeat first | exact HB.out | apply below_alloc | apply pw_below_drewN)) : w.heap.size <= gb391)); have n4_ := n3_; clear HO389; clear HB; have HO389 := n0_; have HB := n1_; have BK391 := n2_; have GW391 := n3_; have GE391 := n4_; clear n0_ n1_ n2_ n3_ n4_; clear hb hbox hg; have hcz8_0 : w7.cell? ⟨gb391, 0, none⟩ = some (.int .i64 0) := (blk_cell BK391.out 0).trans rfl; have hcz8_1 : w7.cell? ⟨gb391, 1, none⟩ = some (.slice none 0 0) := (blk_cell BK391.out 1).trans rfl; have hfz8_0 := blk_frozen BK391.out 0; have hfz8_1 := blk_frozen BK391.out 1; obtain ⟨Ao9, co9, eo9, _⟩ := Kd.Q_slice HO389.out; subst eo9) | ((with_reducible refine gate_callee (f := 16) rfl ?_); refine goesL_ (some 19) rfl rfl Try.func16 (by kernel_rfl) rfl #[.agg #[.int .i64 t386, .slice Ao9 t387.length co9], .int .i64 t390] rfl (by first | rfl | (simp only [List.map_toArray, List.map_cons, List.map_nil, List.length_drop, List.length_take]; try rfl)) ?_; (with_reducible refine (impl_TrailEnds.calls k t386 _ _ t387 t390 t392 _ ?side1 ?side2 A4.out).mono ?_); (case side1 => refine (Kd.Q_reads' (e := 42) (base := w.heap.size) (ok := fun k_ => True) (n := t387.length) (c := co9) ?_).2.2; exact (by (with_reducible repeat apply Kd.Q_alloc); exact (Kd.Q_mono (Kd.Q_far (p := ⟨gb391, 1, none⟩) (Kd.Q_far (p := ⟨gb391, 0, none⟩) (Kd.Q_types HO389.out BK391.out (by decide)) (fun _ hk => hk.2) (.int .i64 t386)) (fun _ hk => hk.2) (.slice Ao9 t387.length co9)) (fun _ h_ => h_.1)))); (case side2 => exact (Kd.Q_reads' HO389.out).2.1); rintro e w10 ⟨v393, rfl, ho0, hb⟩; refine ⟨_, rfl, ?_⟩; have n0_ := Aside0.mk (Kd.Q_below (by (with_reducible repeat apply Kd.Q_alloc); exact (Kd.Q_mono (Kd.Q_far (p := ⟨gb391, 1, none⟩) (Kd.Q_far (p := ⟨gb391, 0, none⟩) (Kd.Q_types HO389.out BK391.out (by decide)) (fun _ hk => hk.2) (.int .i64 t386)) (fun _ hk => hk.2) (.slice Ao9 t387.length co9)) (fun _ h_ => h_.1))) hb); have n1_ := Aside0.mk (Kd.R_lower ho0 (below_size (by repeat first | exact HB.out | with_reducible refine below_setA ?_ ‹_› | apply below_alloc | apply pw_below_drewN))); have n2_ := Aside0.mk (blk_below (g := gb391) (o := .cells #[.int .i64 t386, .slice Ao9 t387.length co9] 25 (0, 0)) (by (with_reducible repeat apply blk_alloc); refine blk_put (cs := #[.int .i64 t386, .slice none 0 0]) ?_ 1 _ rfl; (with_reducible repeat apply blk_alloc); refine blk_put (cs := #[.int .i64 0, .slice none 0 0]) ?_ 0 _ rfl; (with_reducible repeat apply blk_alloc); exact BK391.out) hb); have n3_ := Aside0.mk (below_step (by repeat first | exact HB.out | with_reducible refine below_setA ?_ ‹_› | apply below_alloc | apply pw_below_drewN) hb); clear HO389; clear BK391; clear HB; have HO389 := n0_; have HO394 := n1_; have BK391 := n2_; have HB := n3_; clear n0_ n1_ n2_ n3_; (try clear hb); (try clear hb2); (try clear hk); (try clear hi); (try clear ho0)))
  (try simp only [Act.put, List.setIfInBounds_toArray, List.set_cons_zero, List.set_cons_succ])
  go_cut [31] (fun v31 wc => ∃ (kq : Nat) (x31_4 : Bool), v31 = .bool x31_4 ∧ Aside0 (laws_FnTrailPairs.j0 kq t390 t392 x31_4 t386 t387 = some r) ∧ Aside0 (kq <= k) ∧ Aside0 (Kd.R k38 38 wc w.heap.size (fun _ => True) v393 t392) ∧ Aside0 (Kd.Q k42 42 wc w.heap.size (fun _ => True) (.slice Ao9 t387.length co9) t387) ∧ Aside0 (wc.heap[gb391]? = some (.cells #[.int .i64 t386, (.slice Ao9 t387.length co9)] 25 (0, 0))) ∧ Aside0 (Below w.heap.size w wc))
  case first =>
   have H := HC5.out
   clear HC5
   replace H := Option.bind_eq_some_iff.mp H
   obtain ⟨t395, A110, H⟩ := H
   replace H : ((laws_llEnds.f k t392 t395).bind fun t398 => (if t398 = true then ((laws_llSight.f k t386 t387 t390).bind fun t399 => (laws_FnTrailPairs.j0 k t390 t392 (!t399) t386 t387)) else (laws_FnTrailPairs.j0 k t390 t392 true t386 t387))) = some r := H
   have A11 := Aside0.mk A110
   clear A110
   replace H := Option.bind_eq_some_iff.mp H
   obtain ⟨t398, A120, H⟩ := H
   replace H : (if t398 = true then ((laws_llSight.f k t386 t387 t390).bind fun t399 => (laws_FnTrailPairs.j0 k t390 t392 (!t399) t386 t387)) else (laws_FnTrailPairs.j0 k t390 t392 true t386 t387)) = some r := H
   have A12 := Aside0.mk A120
   clear A120
   by_cases c13 : t398 = true
   ·subst c13
    have H1 : ((laws_llSight.f k t386 t387 t390).bind fun t399 => (laws_FnTrailPairs.j0 k t390 t392 (!t399) t386 t387)) = some r := by rw [if_pos rfl] at H; exact H
    clear H
    have H := H1
    clear H1
    replace H := Option.bind_eq_some_iff.mp H
    obtain ⟨t399, A140, H⟩ := H
    replace H : (laws_FnTrailPairs.j0 k t390 t392 (!t399) t386 t387) = some r := H
    have A14 := Aside0.mk A140
    clear A140
    have H' := Aside0.mk H
    clear H
    have hcz15_0 : w10.cell? ⟨gb391, 0, none⟩ = some (.int .i64 t386) := (blk_cell BK391.out 0).trans rfl
    have hcz15_1 : w10.cell? ⟨gb391, 1, none⟩ = some (.slice Ao9 t387.length co9) := (blk_cell BK391.out 1).trans rfl
    have hfz15_0 := blk_frozen BK391.out 0
    have hfz15_1 := blk_frozen BK391.out 1
    go_wp2_with (first | ((with_reducible refine gate_callee (f := 19) rfl ?_); refine goesL_ (some 23) rfl rfl Try.func19 (by kernel_rfl) rfl #[.agg #[.int .i64 t386, .slice Ao9 t387.length co9], .int .i64 t390] rfl (by first | rfl | (simp only [List.map_toArray, List.map_cons, List.map_nil, List.length_drop, List.length_take]; try rfl)) ?_; (with_reducible refine (spec_TrailEnds.calls k t386 _ _ t387 t390 t395 _ ?side1 ?side2 A11.out).mono ?_); (case side1 => repeat (first | exact (Kd.Q_reads' HO389.out).2.2 | (with_reducible refine Kd.C_alloc ?_ _) | (with_reducible refine Kd.C_drewN ?_ _) | (with_reducible refine Kd.C_drew ?_))); (case side2 => exact (Kd.Q_reads' HO389.out).2.1); rintro e w16 ⟨v396, rfl, ho0, hb⟩; refine ⟨_, rfl, ?_⟩; have n0_ := Aside0.mk (Kd.Q_below (by (with_reducible repeat apply Kd.Q_alloc); exact HO389.out) hb); have n1_ := Aside0.mk (Kd.R_elder' (kR HO394.out) (Kd.R_base ho0) hb); have n2_ := Aside0.mk (Kd.R_lower (Kd.R_new' ho0 (Kd.R_lt (kR HO394.out))) (below_size (by repeat first | exact HB.out | with_reducible refine below_setA ?_ ‹_› | apply below_alloc | apply pw_below_drewN))); have n3_ := Aside0.mk (blk_below (bK BK391.out) hb); have n4_ := Aside0.mk (below_step (by repeat first | exact HB.out | with_reducible refine below_setA ?_ ‹_› | apply below_alloc | apply pw_below_drewN) hb); clear HO389; clear HO394; clear BK391; clear HB; have HO389 := n0_; have HO394 := n1_; have HO397 := n2_; have BK391 := n3_; have HB := n4_; clear n0_ n1_ n2_ n3_ n4_; (try clear hb); (try clear hb2); (try clear hk); (try clear hi); (try clear ho0); obtain ⟨Ao17, co17, eo17⟩ := Kd.R_slice HO394.out; subst eo17; obtain ⟨Ao18, co18, eo18⟩ := Kd.R_slice HO397.out; subst eo18) | ((with_reducible refine gate_callee (f := 18) rfl ?_); refine goesL_ (some 24) rfl rfl Try.func18 (by kernel_rfl) rfl #[.slice Ao17 t392.length co17, .slice Ao18 t395.length co18] rfl (by first | rfl | (simp only [List.map_toArray, List.map_cons, List.map_nil, List.length_drop, List.length_take]; try rfl)) ?_; (with_reducible refine (laws_llEnds.calls k _ _ t392 _ _ t395 true _ ?side1 ?side2 ?side3 ?side4 A12.out).mono ?_); (case side1 => repeat (first | exact (Kd.R_reads' HO394.out).2.2 | (with_reducible refine Kd.C_alloc ?_ _) | (with_reducible refine Kd.C_drewN ?_ _) | (with_reducible refine Kd.C_drew ?_))); (case side2 => exact (Kd.R_reads' HO394.out).2.1); (case side3 => repeat (first | exact (Kd.R_reads' HO397.out).2.2 | (with_reducible refine Kd.C_alloc ?_ _) | (with_reducible refine Kd.C_drewN ?_ _) | (with_reducible refine Kd.C_drew ?_))); (case side4 => exact (Kd.R_reads' HO397.out).2.1); rintro e w' ⟨rfl, ⟨nd, rfl⟩⟩; refine ⟨_, rfl, ?_⟩; have hcz19_0 : w16.cell? ⟨gb391, 0, none⟩ = some (.int .i64 t386) := (blk_cell BK391.out 0).trans rfl; have hcz19_1 : w16.cell? ⟨gb391, 1, none⟩ = some (.slice Ao9 t387.length co9) := (blk_cell BK391.out 1).trans rfl; have hfz19_0 := blk_frozen BK391.out 0; have hfz19_1 := blk_frozen BK391.out 1) | (go_at_call 14; (with_reducible refine (laws_llSight.calls k t386 _ _ t387 t390 t399 _ ?side1 ?side2 A14.out).mono ?_); (case side1 => repeat (first | exact (Kd.Q_reads' HO389.out).2.2 | (with_reducible refine Kd.C_alloc ?_ _) | (with_reducible refine Kd.C_drewN ?_ _) | (with_reducible refine Kd.C_drew ?_))); (case side2 => exact (Kd.Q_reads' HO389.out).2.1); rintro e w20 ⟨rfl, hb⟩; have n0_ := Aside0.mk (Kd.Q_below (by (with_reducible repeat apply Kd.Q_alloc); exact HO389.out) hb); have n1_ := Aside0.mk (Kd.R_below (kR HO394.out) hb); have n2_ := Aside0.mk (Kd.R_below (kR HO397.out) hb); have n3_ := Aside0.mk (blk_below (bK BK391.out) hb); have n4_ := Aside0.mk (below_step (by repeat first | exact HB.out | with_reducible refine below_setA ?_ ‹_› | apply below_alloc | apply pw_below_drewN) hb); clear HO389; clear HO394; clear HO397; clear BK391; clear HB; have HO389 := n0_; have HO394 := n1_; have HO397 := n2_; have BK391 := n3_; have HB := n4_; clear n0_ n1_ n2_ n3_ n4_; (try clear hb); (try clear hb2); (try clear hk); (try clear hi)))
    go_meet
    case rel => exact ⟨_, (!t399), (by first | rfl | (simp; done) | (simp [*]; done)), H', ⟨by first | omega | exact Nat.le_refl _⟩, ⟨by (with_reducible repeat apply Kd.R_alloc); exact Kd.R_mono HO394.out (fun _ hk => trivial)⟩, ⟨by (with_reducible repeat apply Kd.Q_alloc); exact HO389.out⟩, ⟨by (with_reducible repeat apply blk_alloc); exact BK391.out⟩, ⟨by repeat first | exact HB.out | with_reducible refine below_setA ?_ ‹_› | apply below_alloc | apply pw_below_drewN⟩⟩
   ·replace c13 := Bool.eq_false_iff.mpr c13
    subst c13
    have H1 : (laws_FnTrailPairs.j0 k t390 t392 true t386 t387) = some r := by rw [if_neg (show ¬ (false = true) by decide)] at H; exact H
    clear H
    have H := H1
    clear H1
    have H' := Aside0.mk H
    clear H
    have hcz21_0 : w10.cell? ⟨gb391, 0, none⟩ = some (.int .i64 t386) := (blk_cell BK391.out 0).trans rfl
    have hcz21_1 : w10.cell? ⟨gb391, 1, none⟩ = some (.slice Ao9 t387.length co9) := (blk_cell BK391.out 1).trans rfl
    have hfz21_0 := blk_frozen BK391.out 0
    have hfz21_1 := blk_frozen BK391.out 1
    go_wp2_with (first | ((with_reducible refine gate_callee (f := 19) rfl ?_); refine goesL_ (some 23) rfl rfl Try.func19 (by kernel_rfl) rfl #[.agg #[.int .i64 t386, .slice Ao9 t387.length co9], .int .i64 t390] rfl (by first | rfl | (simp only [List.map_toArray, List.map_cons, List.map_nil, List.length_drop, List.length_take]; try rfl)) ?_; (with_reducible refine (spec_TrailEnds.calls k t386 _ _ t387 t390 t395 _ ?side1 ?side2 A11.out).mono ?_); (case side1 => repeat (first | exact (Kd.Q_reads' HO389.out).2.2 | (with_reducible refine Kd.C_alloc ?_ _) | (with_reducible refine Kd.C_drewN ?_ _) | (with_reducible refine Kd.C_drew ?_))); (case side2 => exact (Kd.Q_reads' HO389.out).2.1); rintro e w22 ⟨v396, rfl, ho0, hb⟩; refine ⟨_, rfl, ?_⟩; have n0_ := Aside0.mk (Kd.Q_below (by (with_reducible repeat apply Kd.Q_alloc); exact HO389.out) hb); have n1_ := Aside0.mk (Kd.R_elder' (kR HO394.out) (Kd.R_base ho0) hb); have n2_ := Aside0.mk (Kd.R_lower (Kd.R_new' ho0 (Kd.R_lt (kR HO394.out))) (below_size (by repeat first | exact HB.out | with_reducible refine below_setA ?_ ‹_› | apply below_alloc | apply pw_below_drewN))); have n3_ := Aside0.mk (blk_below (bK BK391.out) hb); have n4_ := Aside0.mk (below_step (by repeat first | exact HB.out | with_reducible refine below_setA ?_ ‹_› | apply below_alloc | apply pw_below_drewN) hb); clear HO389; clear HO394; clear BK391; clear HB; have HO389 := n0_; have HO394 := n1_; have HO397 := n2_; have BK391 := n3_; have HB := n4_; clear n0_ n1_ n2_ n3_ n4_; (try clear hb); (try clear hb2); (try clear hk); (try clear hi); (try clear ho0); obtain ⟨Ao23, co23, eo23⟩ := Kd.R_slice HO394.out; subst eo23; obtain ⟨Ao24, co24, eo24⟩ := Kd.R_slice HO397.out; subst eo24) | ((with_reducible refine gate_callee (f := 18) rfl ?_); refine goesL_ (some 24) rfl rfl Try.func18 (by kernel_rfl) rfl #[.slice Ao23 t392.length co23, .slice Ao24 t395.length co24] rfl (by first | rfl | (simp only [List.map_toArray, List.map_cons, List.map_nil, List.length_drop, List.length_take]; try rfl)) ?_; (with_reducible refine (laws_llEnds.calls k _ _ t392 _ _ t395 false _ ?side1 ?side2 ?side3 ?side4 A12.out).mono ?_); (case side1 => repeat (first | exact (Kd.R_reads' HO394.out).2.2 | (with_reducible refine Kd.C_alloc ?_ _) | (with_reducible refine Kd.C_drewN ?_ _) | (with_reducible refine Kd.C_drew ?_))); (case side2 => exact (Kd.R_reads' HO394.out).2.1); (case side3 => repeat (first | exact (Kd.R_reads' HO397.out).2.2 | (with_reducible refine Kd.C_alloc ?_ _) | (with_reducible refine Kd.C_drewN ?_ _) | (with_reducible refine Kd.C_drew ?_))); (case side4 => exact (Kd.R_reads' HO397.out).2.1); rintro e w' ⟨rfl, ⟨nd, rfl⟩⟩; refine ⟨_, rfl, ?_⟩))
    go_meet
    case rel => exact ⟨_, (true), (by first | rfl | (simp; done) | (simp [*]; done)), H', ⟨by first | omega | exact Nat.le_refl _⟩, ⟨by (with_reducible repeat apply Kd.R_alloc); exact Kd.R_mono HO394.out (fun _ hk => trivial)⟩, ⟨by (with_reducible repeat apply Kd.Q_alloc); exact HO389.out⟩, ⟨by (with_reducible repeat apply blk_alloc); exact BK391.out⟩, ⟨by repeat first | exact HB.out | with_reducible refine below_setA ?_ ‹_› | apply below_alloc | apply pw_below_drewN⟩⟩
  case rest =>
   clear HC5
   try clear c1
   try clear c2
   try clear c2b0
   try clear c2b1
   try clear p2
   try clear c4
   try clear c13
   try clear c16
   try clear c17
   try clear c18
   try clear c19
   try clear hcz15_0
   try clear hcz15_1
   try clear hcz19_0
   try clear hcz19_1
   try clear hcz21_0
   try clear hcz21_1
   try clear hcz8_0
   try clear hcz8_1
   try clear hfz15_0
   try clear hfz15_1
   try clear hfz19_0
   try clear hfz19_1
   try clear hfz21_0
   try clear hfz21_1
   try clear hfz8_0
   try clear hfz8_1
   obtain ⟨kq, x31_4, rfl, HA, HJ4, HO_5, HO_392001, BK391, HB⟩ := hcut
   cases kq with
   | zero => exact absurd HA.out (by simp [laws_FnTrailPairs.j0])
   | succ kj4 =>
    have H := HA.out
    clear HA
    simp only [laws_FnTrailPairs.j0] at H
    by_cases c25 : x31_4 = true
    ·subst c25
     have H1 : ((spec_TrailEnds.f kj4 t386 t387 t390).bind fun t400 => ((laws_llEnds.f kj4 t392 t400).bind fun t403 => (some t403))) = some r := by rw [if_pos rfl] at H; exact H
     clear H
     have H := H1
     clear H1
     replace H := Option.bind_eq_some_iff.mp H
     obtain ⟨t400, A260, H⟩ := H
     replace H : ((laws_llEnds.f kj4 t392 t400).bind fun t403 => (some t403)) = some r := H
     have A26 := Aside0.mk A260
     clear A260
     replace H := Option.bind_eq_some_iff.mp H
     obtain ⟨t403, A270, H⟩ := H
     replace H : (some t403) = some r := H
     have A27 := Aside0.mk A270
     clear A270
     obtain rfl := Option.some.inj H
     have hcz28_0 : wc.cell? ⟨gb391, 0, none⟩ = some (.int .i64 t386) := (blk_cell BK391.out 0).trans rfl
     have hcz28_1 : wc.cell? ⟨gb391, 1, none⟩ = some (.slice Ao9 t387.length co9) := (blk_cell BK391.out 1).trans rfl
     have hfz28_0 := blk_frozen BK391.out 0
     have hfz28_1 := blk_frozen BK391.out 1
     go_wp2_with (first | ((with_reducible refine gate_callee (f := 19) rfl ?_); refine goesL_ (some 35) rfl rfl Try.func19 (by kernel_rfl) rfl #[.agg #[.int .i64 t386, .slice Ao9 t387.length co9], .int .i64 t390] rfl (by first | rfl | (simp only [List.map_toArray, List.map_cons, List.map_nil, List.length_drop, List.length_take]; try rfl)) ?_; (with_reducible refine (spec_TrailEnds.calls kj4 t386 _ _ t387 t390 t400 _ ?side1 ?side2 A26.out).mono ?_); (case side1 => repeat (first | exact (Kd.Q_reads' HO_392001.out).2.2 | (with_reducible refine Kd.C_alloc ?_ _) | (with_reducible refine Kd.C_drewN ?_ _) | (with_reducible refine Kd.C_drew ?_))); (case side2 => exact (Kd.Q_reads' HO_392001.out).2.1); rintro e w29 ⟨v401, rfl, ho0, hb⟩; refine ⟨_, rfl, ?_⟩; have n0_ := Aside0.mk (Kd.R_elder' (kR HO_5.out) (Kd.R_base ho0) hb); have n1_ := Aside0.mk (Kd.Q_below (by (with_reducible repeat apply Kd.Q_alloc); exact HO_392001.out) hb); have n2_ := Aside0.mk (Kd.R_lower (Kd.R_new' ho0 (Kd.R_lt (kR HO_5.out))) (below_size (by repeat first | exact HB.out | with_reducible refine below_setA ?_ ‹_› | apply below_alloc | apply pw_below_drewN))); have n3_ := Aside0.mk (blk_below (bK BK391.out) hb); have n4_ := Aside0.mk (below_step (by repeat first | exact HB.out | with_reducible refine below_setA ?_ ‹_› | apply below_alloc | apply pw_below_drewN) hb); clear HO_5; clear HO_392001; clear BK391; clear HB; have HO_5 := n0_; have HO_392001 := n1_; have HO402 := n2_; have BK391 := n3_; have HB := n4_; clear n0_ n1_ n2_ n3_ n4_; (try clear hb); (try clear hb2); (try clear hk); (try clear hi); (try clear ho0); obtain ⟨Ao30, co30, eo30⟩ := Kd.R_slice HO_5.out; subst eo30; obtain ⟨Ao31, co31, eo31⟩ := Kd.R_slice HO402.out; subst eo31) | ((with_reducible refine gate_callee (f := 18) rfl ?_); refine goesL_ (some 36) rfl rfl Try.func18 (by kernel_rfl) rfl #[.slice Ao30 t392.length co30, .slice Ao31 t400.length co31] rfl (by first | rfl | (simp only [List.map_toArray, List.map_cons, List.map_nil, List.length_drop, List.length_take]; try rfl)) ?_; (with_reducible refine (laws_llEnds.calls kj4 _ _ t392 _ _ t400 t403 _ ?side1 ?side2 ?side3 ?side4 A27.out).mono ?_); (case side1 => repeat (first | exact (Kd.R_reads' HO_5.out).2.2 | (with_reducible refine Kd.C_alloc ?_ _) | (with_reducible refine Kd.C_drewN ?_ _) | (with_reducible refine Kd.C_drew ?_))); (case side2 => exact (Kd.R_reads' HO_5.out).2.1); (case side3 => repeat (first | exact (Kd.R_reads' HO402.out).2.2 | (with_reducible refine Kd.C_alloc ?_ _) | (with_reducible refine Kd.C_drewN ?_ _) | (with_reducible refine Kd.C_drew ?_))); (case side4 => exact (Kd.R_reads' HO402.out).2.1); rintro e w' ⟨rfl, ⟨nd, rfl⟩⟩; refine ⟨_, rfl, ?_⟩))
     go_ret
     exact ⟨by first | rfl | (simp [errW_none, errW_some] <;> rfl) | (simp [*, errW_none, errW_some] <;> rfl) | (exfalso; simp_all; done), by repeat first | exact HB.out | with_reducible refine below_setA ?_ ‹_› | apply below_alloc | apply pw_below_drewN⟩
    ·replace c25 := Bool.eq_false_iff.mpr c25
     subst c25
     have H1 : ((some (([] : List (S42)) : List (S42))).bind fun y404 => (if y404.length + t387.length < 8796093022208 then (laws_FnTrailPairs.l0 kj4 t390 0 t386 (y404 ++ t387)) else (none))) = some r := by rw [if_neg (show ¬ (false = true) by decide)] at H; exact H
     clear H
     have H := H1
     clear H1
     obtain ⟨y404, hy404⟩ : ∃ y_ : List (S42), y_ = (([] : List (S42))) := ⟨_, rfl⟩
     replace H : (if y404.length + t387.length < 8796093022208 then (laws_FnTrailPairs.l0 kj4 t390 0 t386 (y404 ++ t387)) else (none)) = some r := by first | (rw [hy404]; with_reducible exact H) | (have H2_ := (Option.bind_some _ _).symm.trans H; rw [hy404]; with_reducible exact H2_) | (have H2_ := (Option.bind_some _ _).symm.trans H; with_reducible exact H2_) | with_reducible exact H | (rw [hy404]; exact H) | exact H
     have Ny404 := Aside0.mk hy404
     clear hy404
     by_cases c32 : y404.length + t387.length < 8796093022208
     ·rw [if_pos c32] at H
      have LMc32 := Aside0.mk c32
      clear c32
      obtain ⟨y407, hy407⟩ : ∃ y_ : List (S42), y_ = (y404 ++ t387) := ⟨_, rfl⟩
      replace H : (laws_FnTrailPairs.l0 kj4 t390 0 t386 y407) = some r := by first | (rw [hy407]; with_reducible exact H) | (have H2_ := (Option.bind_some _ _).symm.trans H; rw [hy407]; with_reducible exact H2_) | (have H2_ := (Option.bind_some _ _).symm.trans H; with_reducible exact H2_) | with_reducible exact H | (rw [hy407]; exact H) | exact H
      have Ny407 := Aside0.mk hy407
      clear hy407
      have H' := Aside0.mk H
      clear H
      try go_wp2
      have n0_ := Aside0.mk (Kd.R_drew HO_5.out)
      have n1_ := Aside0.mk (Kd.Q_drew HO_392001.out)
      have n2_ := Aside0.mk (blk_drew BK391.out)
      have n3_ := Aside0.mk (below_drew1 HB.out)
      clear HO_5
      clear HO_392001
      clear BK391
      clear HB
      have HO_5 := n0_
      have HO_392001 := n1_
      have BK391 := n2_
      have HB := n3_
      clear n0_ n1_ n2_ n3_
      refine start_ (n := 9) (S := fun w' => w'.cell? ⟨gb391, 0, none⟩ = some (.int .i64 t386) ∧ w'.cell? ⟨gb391, 1, none⟩ = some (.slice Ao9 t387.length co9)) (ds := []) #[false, false, false, false, false, false, false, false, false] (by kernel_rfl) rfl rfl ⟨(blk_cell BK391.out 0).trans rfl, (blk_cell BK391.out 1).trans rfl⟩ (fun hHeld => ?_); refine with_tabW laws_FnTrailPairs.tab7 laws_FnTrailPairs.bits7 (fun HT_ HW_ => ?_)
      generalize wc.drew = w33 at HO_5 HO_392001 BK391 HB hHeld ⊢
      refine pure_ (i := 0) (N := some 37) (v := ?_) (a' := ?_) #[true, false, false, false, false, false, false, false, false] rfl rfl (any_of HT_.out (by kernel_rfl)) (fun _ _ _ h => h) (Or.inl ⟨by rfl, ?_⟩) ?_ ?_
      rotate_left
      ·intro w'
       go_simp
       with_reducible rfl
      rotate_left
      ·simp only [Act.put, sA_, sZ_, sS_, i64_w, i32_w]
       rfl
      refine pure_ (i := 3) (N := some 40) (v := ?_) (a' := ?_) #[true, false, false, true, false, false, false, false, false] rfl rfl (any_of HT_.out (by kernel_rfl)) (fun _ _ _ h => h) (Or.inl ⟨by rfl, ?_⟩) ?_ ?_
      rotate_left
      ·intro w'
       go_simp
       with_reducible rfl
      rotate_left
      ·simp only [Act.put, sA_, sZ_, sS_, i64_w, i32_w]
       rfl
      refine take_ (i := 1) (N := some 38) (v := ?_) (a' := ?_) #[true, true, false, true, false, false, false, false, false] rfl rfl (take_ofW HT_.out HW_.out (by kernel_rfl)) (fun _ _ _ h => h) (Or.inl ⟨by rfl, ?_⟩) hHeld ?_ ?_
      rotate_left
      ·rintro w' ⟨s0, s1⟩
       go_simp
       with_reducible rfl
      rotate_left
      ·simp only [Act.put, sA_, sZ_, sS_, i64_w, i32_w]
       rfl
      refine take_ (i := 4) (N := some 41) (v := ?_) (a' := ?_) #[true, true, false, true, true, false, false, false, false] rfl rfl (take_ofW HT_.out HW_.out (by kernel_rfl)) (fun _ _ _ h => h) (Or.inl ⟨by rfl, ?_⟩) hHeld ?_ ?_
      rotate_left
      ·rintro w' ⟨s0, s1⟩
       go_simp
       with_reducible rfl
      rotate_left
      ·simp only [Act.put, sA_, sZ_, sS_, i64_w, i32_w]
       rfl
      refine join_ (σ := Value × Value × Nat) 1 #[true, true, true, true, true, true, true, true, false] (fun s_ => [(39, s_.1), (42, s_.2.1), (6, .pointer (some ⟨s_.2.2, 0, none⟩)), (43, .agg #[.int .i64 t386, s_.2.1])]) (fun s_ w' => (w'.cell? ⟨gb391, 0, none⟩ = some (.int .i64 t386) ∧ w'.cell? ⟨gb391, 1, none⟩ = some (.slice Ao9 t387.length co9)) ∧ (Kd.R k42 42 w' w.heap.size (fun k_ => some k_ ≠ (.slice Ao9 t387.length co9 : Value).ownBlock) s_.2.1 y407) ∧ (Kd.Q k42 42 w' w.heap.size (fun k_ => some k_ ≠ (s_.2.1 : Value).ownBlock) (.slice Ao9 t387.length co9) t387) ∧ (Kd.R k38 38 w' w.heap.size (fun _ => True) v393 t392) ∧ (w'.heap[gb391]? = some (.cells #[.int .i64 t386, .slice Ao9 t387.length co9] 25 (0, 0))) ∧ (w'.heap[s_.2.2]? = some (.cells #[.int .i64 0, .slice none 0 0] 25 (0, 0))) ∧ (w.heap.size <= s_.2.2) ∧ (w.heap.size <= s_.2.2) ∧ (gb391 ≠ s_.2.2) ∧ (s_.2.2 ≠ gb391) ∧ (Below w.heap.size w w')) ?_ ?_
      rotate_left
      ·intro hCont
       refine two_ (i := 2) (j := 7) (Ni := some 39) (Nj := some 6) #[true, true, true, true, true, false, false, false, false] #[true, true, false, true, true, false, false, true, false] rfl rfl rfl rfl (two_of HT_.out (by kernel_rfl)) (by decide) (by decide) (fun K hK => ?_) (fun K hK => ?_)
       ·skip
        refine Kd.R_lit_step k42 _ 42 ?hg (N := 39) ?hd (xs := ([] : List (S42))) (inner := []) (ok := fun _ => True) (okp := fun _ => True) ?hr ?hp (fun _ hk => hk) trivial (Below.refl _ _) (Nat.le_refl _) (by simp) ?_; (case hd => rfl); (case hg => rfl); (case hr => first | (go_simp; done) | (go_simp; rfl)); (case hp => exact (Reps.none _ _))
        intro v405 w34 ho35 hb hg_ hnew_
        clear hg_ hnew_
        (first | rw [<- Ny404.out] at ho35 | (simp only [Int.reduceToNat] at ho35; rw [<- Ny404.out] at ho35))
        have n0_ := Aside0.mk (Kd.R_below (kR HO_5.out) hb)
        have n1_ := Aside0.mk (Kd.Q_elder' (by (with_reducible repeat apply Kd.Q_alloc); exact HO_392001.out) (Kd.R_base ho35) hb)
        have n2_ := Aside0.mk (Kd.R_lower (Kd.R_new' ho35 (Kd.Q_lt (by (with_reducible repeat apply Kd.Q_alloc); exact HO_392001.out))) (below_size (by repeat first | exact HB.out | with_reducible refine below_setA ?_ ‹_› | apply below_alloc | apply pw_below_drewN)))
        have n3_ := Aside0.mk (blk_below (bK BK391.out) hb)
        have n4_ := Aside0.mk (below_step (by repeat first | exact HB.out | with_reducible refine below_setA ?_ ‹_› | apply below_alloc | apply pw_below_drewN) hb)
        clear HO_5
        clear HO_392001
        clear BK391
        clear HB
        have HO_5 := n0_
        have HO_392001 := n1_
        have HO406 := n2_
        have BK391 := n3_
        have HB := n4_
        clear n0_ n1_ n2_ n3_ n4_
        clear hb ho35
        refine hK.out _ _ ⟨(blk_cell BK391.out 0).trans rfl, (blk_cell BK391.out 1).trans rfl⟩ (fun hHeld => ?_)
        clear hK K
        refine norm_ (a' := ?_) ?_ ?_
        rotate_left
        ·show Act.put _ (some 39) _ = _
         simp only [Act.put, sA_, sZ_, sS_, i64_w, i32_w]
         rfl
        refine two_ (i := 5) (j := 7) (Ni := some 42) (Nj := some 6) #[true, true, true, true, true, true, false, false, false] #[true, true, true, true, true, false, false, true, false] rfl rfl rfl rfl (two_of HT_.out (by kernel_rfl)) (by decide) (by decide) (fun K hK => ?_) (fun K hK => ?_)
        ·skip
         refine Kd.R_append_rows_step k42 (w0 := w) w.heap.size (by rfl) (.tmp 39) (.tmp 41) 23 42 (.agg #[(.int .i64 0), (.int .i64 0)]) 16 rfl Try.underlying23 info42 rfl (by decide) (by omega) v405 y404 t387 _ _ _ (fun k_ => some k_ ≠ (.slice Ao9 t387.length co9 : Value).ownBlock) (fun _ => False) rfl rfl ?aO ?aR (fun _ _ h => h) (fun _ h => h.elim) ?aF ?aB ?aS ?aL ?_
         (case aR => repeat (first | exact (Kd.Q_reads' HO_392001.out).2.2 | (with_reducible refine Kd.C_alloc ?_ _) | (with_reducible refine Kd.C_drewN ?_ _) | (with_reducible refine Kd.C_drew ?_)))
         (case aB => exact (by repeat first | exact HB.out | with_reducible refine below_setA ?_ ‹_› | apply below_alloc | apply pw_below_drewN))
         (case aF => exact (fun k_ hk => Kd.fresh' (Kd.Q_lt (by (with_reducible repeat apply Kd.Q_alloc); exact HO_392001.out)) k_ hk))
         (case aO => exact (by (with_reducible repeat apply Kd.R_alloc); exact Kd.R_mono HO406.out (fun _ hk => hk.2)))
         (case aS => exact (below_size (by repeat first | exact HB.out | with_reducible refine below_setA ?_ ‹_› | apply below_alloc | apply pw_below_drewN)))
         (case aL => have := LMc32.out; omega)
         intro v408 w36 ho hb hg hat
         rw [<- Ny407.out] at ho
         have n0_ := Aside0.mk (Kd.R_over' (kR HO_5.out) (Kd.R_typed (kR HO406.out)) (by decide) hg)
         have n1_ := Aside0.mk (Kd.Q_after (ok := (fun _ => True)) (by (with_reducible repeat apply Kd.Q_alloc); exact HO_392001.out) hg hat)
         have n2_ := Aside0.mk (blk_grown (g := gb391) (o := .cells #[.int .i64 t386, .slice Ao9 t387.length co9] 25 (0, 0)) (bK BK391.out) hg (Kd.R_ne HO406.out BK391.out (by decide)))
         have n3_ := Aside0.mk (hb)
         have n4_ := Aside0.mk (ho)
         clear HO_5
         clear HO_392001
         clear BK391
         clear HB
         clear HO406
         have HO_5 := n0_
         have HO_392001 := n1_
         have BK391 := n2_
         have HB := n3_
         have HO409 := n4_
         clear n0_ n1_ n2_ n3_ n4_
         clear ho hb hg hat
         obtain ⟨Ao37, co37, eo37⟩ := Kd.R_slice HO409.out
         (first | subst eo37 | (injection eo37 with f1_ f2_ f3_; have f4_ := f1_.symm; have f5_ := f3_.symm; clear f1_ f2_ f3_; subst f4_; subst f5_))
         refine hK.out _ _ ⟨(blk_cell BK391.out 0).trans rfl, (blk_cell BK391.out 1).trans rfl⟩ (fun hHeld => ?_)
         clear hK K
         refine norm_ (a' := ?_) ?_ ?_
         rotate_left
         ·show Act.put _ (some 42) _ = _
          simp only [Act.put, sA_, sZ_, sS_, i64_w, i32_w]
          rfl
         refine pure_ (i := 6) (N := some 43) (v := ?_) (a' := ?_) #[true, true, true, true, true, true, true, false, false] rfl rfl (any_of HT_.out (by kernel_rfl)) (fun _ _ _ h => h) (Or.inl ⟨by rfl, ?_⟩) ?_ ?_
         rotate_left
         ·intro w'
          go_simp
          with_reducible rfl
         rotate_left
         ·simp only [Act.put, sA_, sZ_, sS_, i64_w, i32_w]
          rfl
         refine one_ (i := 7) (N := some 6) #[true, true, true, true, true, true, true, true, false] rfl rfl (one_of HT_.out (by kernel_rfl)) (by decide) (fun K hK => ?_)
         refine box_step ?hg (N := 6) ?hd (cs := #[.int .i64 0, .slice none 0 0]) (t := 25) ?hr ?_; (case hd => rfl); (case hg => rfl); (case hr => first | (go_simp; done) | (go_simp; rfl))
         intro gb410 hg w38 hbox hb
         have n0_ := Aside0.mk (Kd.R_below (kR HO_5.out) hb)
         have n1_ := Aside0.mk (Kd.Q_below (by (with_reducible repeat apply Kd.Q_alloc); exact HO_392001.out) hb)
         have n2_ := Aside0.mk (Kd.R_below (kR HO409.out) hb)
         have n3_ := Aside0.mk (blk_below (bK BK391.out) hb)
         have n4_ := Aside0.mk (below_step (by repeat first | exact HB.out | with_reducible refine below_setA ?_ ‹_› | apply below_alloc | apply pw_below_drewN) hb)
         have n5_ := Aside0.mk (hbox)
         have n6_ := Aside0.mk ((by rw [hg]; exact (below_size (by repeat first | exact HB.out | with_reducible refine below_setA ?_ ‹_› | apply below_alloc | apply pw_below_drewN)) : w.heap.size <= gb410))
         have n7_ := Aside0.mk ((by rw [hg]; exact (below_size (by repeat first | exact HB.out | with_reducible refine below_setA ?_ ‹_› | apply below_alloc | apply pw_below_drewN)) : w.heap.size <= gb410))
         have n8_ := Aside0.mk ((by rw [hg]; exact Nat.ne_of_lt (blk_lt (bK BK391.out)) : gb391 ≠ gb410))
         have n9_ := Aside0.mk ((by rw [hg]; exact Nat.ne_of_gt (blk_lt (bK BK391.out)) : gb410 ≠ gb391))
         clear HO_5
         clear HO_392001
         clear HO409
         clear BK391
         clear HB
         have HO_5 := n0_
         have HO_392001 := n1_
         have HO409 := n2_
         have BK391 := n3_
         have HB := n4_
         have BK410 := n5_
         have GW410 := n6_
         have GE410 := n7_
         have NB391_410 := n8_
         have NB410_391 := n9_
         clear n0_ n1_ n2_ n3_ n4_ n5_ n6_ n7_ n8_ n9_
         clear hb hbox hg
         refine hK.out _ _ ⟨(blk_cell BK391.out 0).trans rfl, (blk_cell BK391.out 1).trans rfl⟩ (fun hHeld => ?_)
         clear hK K
         refine norm_ (a' := ?_) ?_ ?_
         rotate_left
         ·show Act.put _ (some 6) _ = _
          simp only [Act.put, sA_, sZ_, sS_, i64_w, i32_w]
          rfl
         exact norm_ (by simp only [putAll, Act.put, List.setIfInBounds_toArray, List.set_cons_zero, List.set_cons_succ]) (hCont (v405, .slice Ao37 y407.length co37, gb410) _ ⟨hHeld, (kR HO409.out), (by (with_reducible repeat apply Kd.Q_alloc); exact Kd.Q_mono HO_392001.out (fun _ hk => hk.2)), (kR HO_5.out), (bK BK391.out), (bK BK410.out), GW410.out, GE410.out, NB391_410.out, NB410_391.out, (by repeat first | exact HB.out | with_reducible refine below_setA ?_ ‹_› | apply below_alloc | apply pw_below_drewN)⟩)
        ·skip
         refine box_step ?hg (N := 6) ?hd (cs := #[.int .i64 0, .slice none 0 0]) (t := 25) ?hr ?_; (case hd => rfl); (case hg => rfl); (case hr => first | (go_simp; done) | (go_simp; rfl))
         intro gb410 hg w36 hbox hb
         have n0_ := Aside0.mk (Kd.R_below (kR HO_5.out) hb)
         have n1_ := Aside0.mk (Kd.Q_below (by (with_reducible repeat apply Kd.Q_alloc); exact HO_392001.out) hb)
         have n2_ := Aside0.mk (Kd.R_below (kR HO406.out) hb)
         have n3_ := Aside0.mk (blk_below (bK BK391.out) hb)
         have n4_ := Aside0.mk (below_step (by repeat first | exact HB.out | with_reducible refine below_setA ?_ ‹_› | apply below_alloc | apply pw_below_drewN) hb)
         have n5_ := Aside0.mk (hbox)
         have n6_ := Aside0.mk ((by rw [hg]; exact (below_size (by repeat first | exact HB.out | with_reducible refine below_setA ?_ ‹_› | apply below_alloc | apply pw_below_drewN)) : w.heap.size <= gb410))
         have n7_ := Aside0.mk ((by rw [hg]; exact (below_size (by repeat first | exact HB.out | with_reducible refine below_setA ?_ ‹_› | apply below_alloc | apply pw_below_drewN)) : w.heap.size <= gb410))
         have n8_ := Aside0.mk ((by rw [hg]; exact Nat.ne_of_lt (blk_lt (bK BK391.out)) : gb391 ≠ gb410))
         have n9_ := Aside0.mk ((by rw [hg]; exact Nat.ne_of_gt (blk_lt (bK BK391.out)) : gb410 ≠ gb391))
         clear HO_5
         clear HO_392001
         clear HO406
         clear BK391
         clear HB
         have HO_5 := n0_
         have HO_392001 := n1_
         have HO406 := n2_
         have BK391 := n3_
         have HB := n4_
         have BK410 := n5_
         have GW410 := n6_
         have GE410 := n7_
         have NB391_410 := n8_
         have NB410_391 := n9_
         clear n0_ n1_ n2_ n3_ n4_ n5_ n6_ n7_ n8_ n9_
         clear hb hbox hg
         refine hK.out _ _ ⟨(blk_cell BK391.out 0).trans rfl, (blk_cell BK391.out 1).trans rfl⟩ (fun hHeld => ?_)
         clear hK K
         refine norm_ (a' := ?_) ?_ ?_
         rotate_left
         ·show Act.put _ (some 6) _ = _
          simp only [Act.put, sA_, sZ_, sS_, i64_w, i32_w]
          rfl
         refine one_ (i := 5) (N := some 42) #[true, true, true, true, true, true, false, true, false] rfl rfl (one_of HT_.out (by kernel_rfl)) (by decide) (fun K hK => ?_)
         refine Kd.R_append_rows_step k42 (w0 := w) w.heap.size (by rfl) (.tmp 39) (.tmp 41) 23 42 (.agg #[(.int .i64 0), (.int .i64 0)]) 16 rfl Try.underlying23 info42 rfl (by decide) (by omega) v405 y404 t387 _ _ _ (fun k_ => some k_ ≠ (.slice Ao9 t387.length co9 : Value).ownBlock) (fun _ => False) rfl rfl ?aO ?aR (fun _ _ h => h) (fun _ h => h.elim) ?aF ?aB ?aS ?aL ?_
         (case aR => repeat (first | exact (Kd.Q_reads' HO_392001.out).2.2 | (with_reducible refine Kd.C_alloc ?_ _) | (with_reducible refine Kd.C_drewN ?_ _) | (with_reducible refine Kd.C_drew ?_)))
         (case aB => exact (by repeat first | exact HB.out | with_reducible refine below_setA ?_ ‹_› | apply below_alloc | apply pw_below_drewN))
         (case aF => exact (fun k_ hk => Kd.fresh' (Kd.Q_lt (by (with_reducible repeat apply Kd.Q_alloc); exact HO_392001.out)) k_ hk))
         (case aO => exact (by (with_reducible repeat apply Kd.R_alloc); exact Kd.R_mono HO406.out (fun _ hk => hk.2)))
         (case aS => exact (below_size (by repeat first | exact HB.out | with_reducible refine below_setA ?_ ‹_› | apply below_alloc | apply pw_below_drewN)))
         (case aL => have := LMc32.out; omega)
         intro v408 w37 ho hb hg hat
         rw [<- Ny407.out] at ho
         have n0_ := Aside0.mk (Kd.R_over' (kR HO_5.out) (Kd.R_typed (kR HO406.out)) (by decide) hg)
         have n1_ := Aside0.mk (Kd.Q_after (ok := (fun _ => True)) (by (with_reducible repeat apply Kd.Q_alloc); exact HO_392001.out) hg hat)
         have n2_ := Aside0.mk (blk_grown (g := gb391) (o := .cells #[.int .i64 t386, .slice Ao9 t387.length co9] 25 (0, 0)) (bK BK391.out) hg (Kd.R_ne HO406.out BK391.out (by decide)))
         have n3_ := Aside0.mk (blk_grown (g := gb410) (o := .cells #[.int .i64 0, .slice none 0 0] 25 (0, 0)) (bK BK410.out) hg (Kd.R_ne HO406.out BK410.out (by decide)))
         have n4_ := Aside0.mk (hb)
         have n5_ := Aside0.mk (ho)
         clear HO_5
         clear HO_392001
         clear BK391
         clear BK410
         clear HB
         clear HO406
         have HO_5 := n0_
         have HO_392001 := n1_
         have BK391 := n2_
         have BK410 := n3_
         have HB := n4_
         have HO409 := n5_
         clear n0_ n1_ n2_ n3_ n4_ n5_
         clear ho hb hg hat
         obtain ⟨Ao38, co38, eo38⟩ := Kd.R_slice HO409.out
         (first | subst eo38 | (injection eo38 with f1_ f2_ f3_; have f4_ := f1_.symm; have f5_ := f3_.symm; clear f1_ f2_ f3_; subst f4_; subst f5_))
         refine hK.out _ _ ⟨(blk_cell BK391.out 0).trans rfl, (blk_cell BK391.out 1).trans rfl⟩ (fun hHeld => ?_)
         clear hK K
         refine norm_ (a' := ?_) ?_ ?_
         rotate_left
         ·show Act.put _ (some 42) _ = _
          simp only [Act.put, sA_, sZ_, sS_, i64_w, i32_w]
          rfl
         refine pure_ (i := 6) (N := some 43) (v := ?_) (a' := ?_) #[true, true, true, true, true, true, true, true, false] rfl rfl (any_of HT_.out (by kernel_rfl)) (fun _ _ _ h => h) (Or.inl ⟨by rfl, ?_⟩) ?_ ?_
         rotate_left
         ·intro w'
          go_simp
          with_reducible rfl
         rotate_left
         ·simp only [Act.put, sA_, sZ_, sS_, i64_w, i32_w]
          rfl
         exact norm_ (by simp only [putAll, Act.put, List.setIfInBounds_toArray, List.set_cons_zero, List.set_cons_succ]) (hCont (v405, .slice Ao38 y407.length co38, gb410) _ ⟨hHeld, (kR HO409.out), (by (with_reducible repeat apply Kd.Q_alloc); exact Kd.Q_mono HO_392001.out (fun _ hk => hk.2)), (kR HO_5.out), (bK BK391.out), (bK BK410.out), GW410.out, GE410.out, NB391_410.out, NB410_391.out, (by repeat first | exact HB.out | with_reducible refine below_setA ?_ ‹_› | apply below_alloc | apply pw_below_drewN)⟩)
       ·skip
        refine box_step ?hg (N := 6) ?hd (cs := #[.int .i64 0, .slice none 0 0]) (t := 25) ?hr ?_; (case hd => rfl); (case hg => rfl); (case hr => first | (go_simp; done) | (go_simp; rfl))
        intro gb410 hg w34 hbox hb
        have n0_ := Aside0.mk (Kd.R_below (kR HO_5.out) hb)
        have n1_ := Aside0.mk (Kd.Q_below (by (with_reducible repeat apply Kd.Q_alloc); exact HO_392001.out) hb)
        have n2_ := Aside0.mk (blk_below (bK BK391.out) hb)
        have n3_ := Aside0.mk (below_step (by repeat first | exact HB.out | with_reducible refine below_setA ?_ ‹_› | apply below_alloc | apply pw_below_drewN) hb)
        have n4_ := Aside0.mk (hbox)
        have n5_ := Aside0.mk ((by rw [hg]; exact (below_size (by repeat first | exact HB.out | with_reducible refine below_setA ?_ ‹_› | apply below_alloc | apply pw_below_drewN)) : w.heap.size <= gb410))
        have n6_ := Aside0.mk ((by rw [hg]; exact (below_size (by repeat first | exact HB.out | with_reducible refine below_setA ?_ ‹_› | apply below_alloc | apply pw_below_drewN)) : w.heap.size <= gb410))
        have n7_ := Aside0.mk ((by rw [hg]; exact Nat.ne_of_lt (blk_lt (bK BK391.out)) : gb391 ≠ gb410))
        have n8_ := Aside0.mk ((by rw [hg]; exact Nat.ne_of_gt (blk_lt (bK BK391.out)) : gb410 ≠ gb391))
        clear HO_5
        clear HO_392001
        clear BK391
        clear HB
        have HO_5 := n0_
        have HO_392001 := n1_
        have BK391 := n2_
        have HB := n3_
        have BK410 := n4_
        have GW410 := n5_
        have GE410 := n6_
        have NB391_410 := n7_
        have NB410_391 := n8_
        clear n0_ n1_ n2_ n3_ n4_ n5_ n6_ n7_ n8_
        clear hb hbox hg
        refine hK.out _ _ ⟨(blk_cell BK391.out 0).trans rfl, (blk_cell BK391.out 1).trans rfl⟩ (fun hHeld => ?_)
        clear hK K
        refine norm_ (a' := ?_) ?_ ?_
        rotate_left
        ·show Act.put _ (some 6) _ = _
         simp only [Act.put, sA_, sZ_, sS_, i64_w, i32_w]
         rfl
        refine one_ (i := 2) (N := some 39) #[true, true, true, true, true, false, false, true, false] rfl rfl (one_of HT_.out (by kernel_rfl)) (by decide) (fun K hK => ?_)
        refine Kd.R_lit_step k42 _ 42 ?hg (N := 39) ?hd (xs := ([] : List (S42))) (inner := []) (ok := fun _ => True) (okp := fun _ => True) ?hr ?hp (fun _ hk => hk) trivial (Below.refl _ _) (Nat.le_refl _) (by simp) ?_; (case hd => rfl); (case hg => rfl); (case hr => first | (go_simp; done) | (go_simp; rfl)); (case hp => exact (Reps.none _ _))
        intro v405 w35 ho36 hb hg_ hnew_
        clear hg_ hnew_
        (first | rw [<- Ny404.out] at ho36 | (simp only [Int.reduceToNat] at ho36; rw [<- Ny404.out] at ho36))
        have n0_ := Aside0.mk (Kd.R_below (kR HO_5.out) hb)
        have n1_ := Aside0.mk (Kd.Q_elder' (by (with_reducible repeat apply Kd.Q_alloc); exact HO_392001.out) (Kd.R_base ho36) hb)
        have n2_ := Aside0.mk (Kd.R_lower (Kd.R_new' ho36 (Kd.Q_lt (by (with_reducible repeat apply Kd.Q_alloc); exact HO_392001.out))) (below_size (by repeat first | exact HB.out | with_reducible refine below_setA ?_ ‹_› | apply below_alloc | apply pw_below_drewN)))
        have n3_ := Aside0.mk (blk_below (bK BK391.out) hb)
        have n4_ := Aside0.mk (blk_below (bK BK410.out) hb)
        have n5_ := Aside0.mk (below_step (by repeat first | exact HB.out | with_reducible refine below_setA ?_ ‹_› | apply below_alloc | apply pw_below_drewN) hb)
        clear HO_5
        clear HO_392001
        clear BK391
        clear BK410
        clear HB
        have HO_5 := n0_
        have HO_392001 := n1_
        have HO406 := n2_
        have BK391 := n3_
        have BK410 := n4_
        have HB := n5_
        clear n0_ n1_ n2_ n3_ n4_ n5_
        clear hb ho36
        refine hK.out _ _ ⟨(blk_cell BK391.out 0).trans rfl, (blk_cell BK391.out 1).trans rfl⟩ (fun hHeld => ?_)
        clear hK K
        refine norm_ (a' := ?_) ?_ ?_
        rotate_left
        ·show Act.put _ (some 39) _ = _
         simp only [Act.put, sA_, sZ_, sS_, i64_w, i32_w]
         rfl
        refine one_ (i := 5) (N := some 42) #[true, true, true, true, true, true, false, true, false] rfl rfl (one_of HT_.out (by kernel_rfl)) (by decide) (fun K hK => ?_)
        refine Kd.R_append_rows_step k42 (w0 := w) w.heap.size (by rfl) (.tmp 39) (.tmp 41) 23 42 (.agg #[(.int .i64 0), (.int .i64 0)]) 16 rfl Try.underlying23 info42 rfl (by decide) (by omega) v405 y404 t387 _ _ _ (fun k_ => some k_ ≠ (.slice Ao9 t387.length co9 : Value).ownBlock) (fun _ => False) rfl rfl ?aO ?aR (fun _ _ h => h) (fun _ h => h.elim) ?aF ?aB ?aS ?aL ?_
        (case aR => repeat (first | exact (Kd.Q_reads' HO_392001.out).2.2 | (with_reducible refine Kd.C_alloc ?_ _) | (with_reducible refine Kd.C_drewN ?_ _) | (with_reducible refine Kd.C_drew ?_)))
        (case aB => exact (by repeat first | exact HB.out | with_reducible refine below_setA ?_ ‹_› | apply below_alloc | apply pw_below_drewN))
        (case aF => exact (fun k_ hk => Kd.fresh' (Kd.Q_lt (by (with_reducible repeat apply Kd.Q_alloc); exact HO_392001.out)) k_ hk))
        (case aO => exact (by (with_reducible repeat apply Kd.R_alloc); exact Kd.R_mono HO406.out (fun _ hk => hk.2)))
        (case aS => exact (below_size (by repeat first | exact HB.out | with_reducible refine below_setA ?_ ‹_› | apply below_alloc | apply pw_below_drewN)))
        (case aL => have := LMc32.out; omega)
        intro v408 w37 ho hb hg hat
        rw [<- Ny407.out] at ho
        have n0_ := Aside0.mk (Kd.R_over' (kR HO_5.out) (Kd.R_typed (kR HO406.out)) (by decide) hg)
        have n1_ := Aside0.mk (Kd.Q_after (ok := (fun _ => True)) (by (with_reducible repeat apply Kd.Q_alloc); exact HO_392001.out) hg hat)
        have n2_ := Aside0.mk (blk_grown (g := gb391) (o := .cells #[.int .i64 t386, .slice Ao9 t387.length co9] 25 (0, 0)) (bK BK391.out) hg (Kd.R_ne HO406.out BK391.out (by decide)))
        have n3_ := Aside0.mk (blk_grown (g := gb410) (o := .cells #[.int .i64 0, .slice none 0 0] 25 (0, 0)) (bK BK410.out) hg (Kd.R_ne HO406.out BK410.out (by decide)))
        have n4_ := Aside0.mk (hb)
        have n5_ := Aside0.mk (ho)
        clear HO_5
        clear HO_392001
        clear BK391
        clear BK410
        clear HB
        clear HO406
        have HO_5 := n0_
        have HO_392001 := n1_
        have BK391 := n2_
        have BK410 := n3_
        have HB := n4_
        have HO409 := n5_
        clear n0_ n1_ n2_ n3_ n4_ n5_
        clear ho hb hg hat
        obtain ⟨Ao38, co38, eo38⟩ := Kd.R_slice HO409.out
        (first | subst eo38 | (injection eo38 with f1_ f2_ f3_; have f4_ := f1_.symm; have f5_ := f3_.symm; clear f1_ f2_ f3_; subst f4_; subst f5_))
        refine hK.out _ _ ⟨(blk_cell BK391.out 0).trans rfl, (blk_cell BK391.out 1).trans rfl⟩ (fun hHeld => ?_)
        clear hK K
        refine norm_ (a' := ?_) ?_ ?_
        rotate_left
        ·show Act.put _ (some 42) _ = _
         simp only [Act.put, sA_, sZ_, sS_, i64_w, i32_w]
         rfl
        refine pure_ (i := 6) (N := some 43) (v := ?_) (a' := ?_) #[true, true, true, true, true, true, true, true, false] rfl rfl (any_of HT_.out (by kernel_rfl)) (fun _ _ _ h => h) (Or.inl ⟨by rfl, ?_⟩) ?_ ?_
        rotate_left
        ·intro w'
         go_simp
         with_reducible rfl
        rotate_left
        ·simp only [Act.put, sA_, sZ_, sS_, i64_w, i32_w]
         rfl
        exact norm_ (by simp only [putAll, Act.put, List.setIfInBounds_toArray, List.set_cons_zero, List.set_cons_succ]) (hCont (v405, .slice Ao38 y407.length co38, gb410) _ ⟨hHeld, (kR HO409.out), (by (with_reducible repeat apply Kd.Q_alloc); exact Kd.Q_mono HO_392001.out (fun _ hk => hk.2)), (kR HO_5.out), (bK BK391.out), (bK BK410.out), GW410.out, GE410.out, NB391_410.out, NB410_391.out, (by repeat first | exact HB.out | with_reducible refine below_setA ?_ ‹_› | apply below_alloc | apply pw_below_drewN)⟩)
      rintro ⟨v405, v408, gb410⟩ w39 ⟨hS_, h0_, h1_, h2_, h3_, h4_, h5_, h6_, h7_, h8_, h9_⟩
      have n0_ : Aside0 (Kd.R k42 42 w39 w.heap.size (fun k_ => some k_ ≠ (.slice Ao9 t387.length co9 : Value).ownBlock) v408 y407) := ⟨h0_⟩
      have n1_ : Aside0 (Kd.Q k42 42 w39 w.heap.size (fun k_ => some k_ ≠ (v408 : Value).ownBlock) (.slice Ao9 t387.length co9) t387) := ⟨h1_⟩
      have n2_ : Aside0 (Kd.R k38 38 w39 w.heap.size (fun _ => True) v393 t392) := ⟨h2_⟩
      have n3_ : Aside0 (w39.heap[gb391]? = some (.cells #[.int .i64 t386, .slice Ao9 t387.length co9] 25 (0, 0))) := ⟨h3_⟩
      have n4_ : Aside0 (w39.heap[gb410]? = some (.cells #[.int .i64 0, .slice none 0 0] 25 (0, 0))) := ⟨h4_⟩
      have n5_ : Aside0 (w.heap.size <= gb410) := ⟨h5_⟩
      have n6_ : Aside0 (w.heap.size <= gb410) := ⟨h6_⟩
      have n7_ : Aside0 (gb391 ≠ gb410) := ⟨h7_⟩
      have n8_ : Aside0 (gb410 ≠ gb391) := ⟨h8_⟩
      have n9_ : Aside0 (Below w.heap.size w w39) := ⟨h9_⟩
      clear HO_5
      clear HO_392001
      clear BK391
      clear HB
      clear h0_ h1_ h2_ h3_ h4_ h5_ h6_ h7_ h8_ h9_
      have HO409 := n0_
      have HO_392001 := n1_
      have HO_5 := n2_
      have BK391 := n3_
      have BK410 := n4_
      have GW410 := n5_
      have GE410 := n6_
      have NB391_410 := n7_
      have NB410_391 := n8_
      have HB := n9_
      clear n0_ n1_ n2_ n3_ n4_ n5_ n6_ n7_ n8_ n9_
      have hHeld : w39.cell? ⟨gb391, 0, none⟩ = some (.int .i64 t386) ∧ w39.cell? ⟨gb391, 1, none⟩ = some (.slice Ao9 t387.length co9) := hS_
      obtain ⟨Ao40, co40, eo40⟩ := Kd.R_slice HO409.out
      (first | subst eo40 | (injection eo40 with f1_ f2_ f3_; have f4_ := f1_.symm; have f5_ := f3_.symm; clear f1_ f2_ f3_; subst f4_; subst f5_))
      refine norm_ (a' := ?_) ?_ ?_
      rotate_left
      ·simp only [putAll, Act.put, List.setIfInBounds_toArray, List.set_cons_zero, List.set_cons_succ]
       rfl
      refine one_ (i := 8) (N := none) #[true, true, true, true, true, true, true, true, true] rfl rfl (one_of HT_.out (by kernel_rfl)) (by decide) (fun K hK => ?_)
      have hs41 : w39.cell? ⟨gb410, 0, none⟩ = some (.int .i64 0) := (blk_cell BK410.out 0).trans rfl
      have hfs41 := blk_frozen BK410.out 0
      have hns41_0 := NB391_410.out
      have hms41_0 := NB410_391.out
      have hs42 : w39.cell? ⟨gb410, 1, none⟩ = some (.slice none 0 0) := (blk_cell BK410.out 1).trans rfl
      have hfs42 := blk_frozen BK410.out 1
      have hns42_0 := NB391_410.out
      have hms42_0 := NB410_391.out
      refine skip_ (w1 := ?_) (by rfl) rfl ?_ ?_
      rotate_left
      ·go_simp
       rfl
      refine hK.out _ _ ⟨((cell_far (p := ⟨gb410, _, none⟩) NB391_410.out _).trans (((cell_far (p := ⟨gb410, _, none⟩) NB391_410.out _).trans (hHeld.1)))), ((cell_far (p := ⟨gb410, _, none⟩) NB391_410.out _).trans (((cell_far (p := ⟨gb410, _, none⟩) NB391_410.out _).trans (hHeld.2))))⟩ (fun hHeld => ?_)
      clear hK K
      refine done_ (done_of HT_.out (by kernel_rfl)) ?_
      try go_wp2
      go_loopg [7] kj4 (fun kq v7 w' => ∃ (x7_2 : Int) (x392001_2 : List (S42)) (x411001_2 : List (S42)) (u392001 : Value) (u411001 : Value), v7 = .int .i64 x7_2 ∧ Aside0 (laws_FnTrailPairs.l0 kq t390 x7_2 t386 x411001_2 = some r) ∧ Aside0 (kq <= kj4) ∧ Aside0 (Kd.Q k42 42 w' w.heap.size (fun k_ => some k_ ≠ (u411001 : Value).ownBlock) u392001 x392001_2) ∧ Aside0 (Kd.Q k42 42 w' w.heap.size (fun k_ => some k_ ≠ (u392001 : Value).ownBlock) u411001 x411001_2) ∧ Aside0 (w'.heap[gb391]? = some (.cells #[.int .i64 t386, u392001] 25 (0, 0))) ∧ Aside0 (w'.heap[gb410]? = some (.cells #[.int .i64 t386, u411001] 25 (0, 0))) ∧ Aside0 (Below w.heap.size w w'))
      case atStart => exact ⟨(0), (t387), (y407), (.slice Ao9 t387.length co9), (.slice Ao40 y407.length co40), (by first | rfl | (simp; done) | (simp [*]; done)), H', ⟨Nat.le_refl _⟩, ⟨by (with_reducible repeat apply Kd.Q_alloc); exact Kd.Q_mono (Kd.Q_far (p := ⟨gb410, 1, none⟩) (Kd.Q_far (p := ⟨gb410, 0, none⟩) (Kd.Q_types HO_392001.out BK410.out (by decide)) (fun _ hk => hk.2) (.int .i64 t386)) (fun _ hk => hk.2) (.slice Ao40 y407.length co40)) (fun _ hk => hk.1)⟩, ⟨Kd.Q_of_R (by (with_reducible repeat apply Kd.R_alloc); exact Kd.R_mono (Kd.R_far (p := ⟨gb410, 1, none⟩) (Kd.R_far (p := ⟨gb410, 0, none⟩) (Kd.R_types HO409.out BK410.out (by decide)) (fun _ hk => hk.2) (.int .i64 t386)) (fun _ hk => hk.2) (.slice Ao40 y407.length co40)) (fun _ hk => hk.1))⟩, ⟨by (with_reducible repeat apply blk_alloc); refine blk_far ?_ NB391_410.out _; (with_reducible repeat apply blk_alloc); refine blk_far ?_ NB391_410.out _; (with_reducible repeat apply blk_alloc); exact BK391.out⟩, ⟨by (with_reducible repeat apply blk_alloc); refine blk_put (cs := #[.int .i64 t386, .slice none 0 0]) ?_ 1 _ rfl; (with_reducible repeat apply blk_alloc); refine blk_put (cs := #[.int .i64 0, .slice none 0 0]) ?_ 0 _ rfl; (with_reducible repeat apply blk_alloc); exact BK410.out⟩, ⟨by repeat first | exact HB.out | with_reducible refine below_setA ?_ ‹_› | apply below_alloc | apply pw_below_drewN⟩⟩
      case round =>
       clear H'
       try clear c1
       try clear c2
       try clear c2b0
       try clear c2b1
       try clear p2
       try clear c3
       try clear c4
       try clear c13
       try clear c16
       try clear c17
       try clear c18
       try clear c19
       try clear c25
       try clear c32
       try clear hcz15_0
       try clear hcz15_1
       try clear hcz19_0
       try clear hcz19_1
       try clear hcz21_0
       try clear hcz21_1
       try clear hcz28_0
       try clear hcz28_1
       try clear hcz8_0
       try clear hcz8_1
       try clear hfz15_0
       try clear hfz15_1
       try clear hfz19_0
       try clear hfz19_1
       try clear hfz21_0
       try clear hfz21_1
       try clear hfz28_0
       try clear hfz28_1
       try clear hfz8_0
       try clear hfz8_1
       try clear p2
       obtain ⟨x7_2, x392001_2, x411001_2, u392001, u411001, rfl, HA, HK2, HO_392001, HO_411001, BK391, BK410, HB⟩ := hrel
       cases gk with
       | zero => exact absurd HA.out (by simp [laws_FnTrailPairs.l0])
       | succ k2 =>
        have H := HA.out
        clear HA
        simp only [laws_FnTrailPairs.l0] at H
        by_cases c43 : x7_2 < (x411001_2.length : Int)
        ·rw [if_pos c43] at H
         have c43b0 : decide (x7_2 < (x411001_2.length : Int)) = true := decide_eq_true c43
         clear c43
         by_cases c44 : 0 <= x7_2
         ·rw [if_pos c44] at H
          have c44b0 : decide (0 <= x7_2) = true := decide_eq_true c44
          clear c44
          by_cases c45 : ((rd_T42 x411001_2 x7_2).f0) = 2
          ·rw [if_pos c45] at H
           have c45b0 : (((rd_T42 x411001_2 x7_2).f0) == 2) = true := beq_iff_eq.mpr c45
           have c45b1 : (((rd_T42 x411001_2 x7_2).f0) != 2) = false := bne_eq_false_iff_eq.mpr c45
           clear c45
           have H' := Aside0.mk H
           clear H
           have hnb46 := NB410_391.out
           have hnc46 := NB391_410.out
           have hcz47_0 : wr.cell? ⟨gb410, 0, none⟩ = some (.int .i64 t386) := (blk_cell BK410.out 0).trans rfl
           have hcz47_1 : wr.cell? ⟨gb410, 1, none⟩ = some (u411001) := (blk_cell BK410.out 1).trans rfl
           have hfz47_0 := blk_frozen BK410.out 0
           have hfz47_1 := blk_frozen BK410.out 1
           obtain ⟨Ao48, co48, eo48, _⟩ := Kd.Q_slice HO_411001.out
           subst eo48
           have p411 : 0 <= (x7_2 : Int) := of_decide_eq_true (by first | (with_reducible assumption) | assumption)
           have q411 : x7_2 < (x411001_2.length : Int) := of_decide_eq_true (by first | (with_reducible assumption) | assumption)
           obtain ⟨ad411, e411, hx411_0, hx411_1⟩ := at_T42 (Kd.Q_reads' HO_411001.out).2.2 x7_2 p411 q411
           cases e411
           replace p411 := eq_true p411
           replace q411 := eq_true q411
           go_wp2
           go_roundg k2
           case measure => have := HJ4.out; have := HK2.out; omega
           case rel => exact ⟨(wrap64 (x7_2 + 1)), (x392001_2), (x411001_2), (u392001), (.slice (some ad411) x411001_2.length co48), (by first | rfl | (simp; done) | (simp [*]; done)), H', ⟨by have := HJ4.out; have := HK2.out; omega⟩, ⟨by (with_reducible repeat apply Kd.Q_alloc); exact HO_392001.out⟩, ⟨by (with_reducible repeat apply Kd.Q_alloc); exact HO_411001.out⟩, ⟨by (with_reducible repeat apply blk_alloc); exact BK391.out⟩, ⟨by (with_reducible repeat apply blk_alloc); exact BK410.out⟩, ⟨by repeat first | exact HB.out | with_reducible refine below_setA ?_ ‹_› | apply below_alloc | apply pw_below_drewN⟩⟩
          ·rw [if_neg c45] at H
           have c45b0 : (((rd_T42 x411001_2 x7_2).f0) == 2) = false := beq_eq_false_iff_ne.mpr c45
           have c45b1 : (((rd_T42 x411001_2 x7_2).f0) != 2) = true := bne_iff_ne.mpr c45
           by_cases c49 : ((rd_T42 x411001_2 x7_2).f0) = 3
           ·rw [if_pos c49] at H
            have c49b0 : (((rd_T42 x411001_2 x7_2).f0) == 3) = true := beq_iff_eq.mpr c49
            have c49b1 : (((rd_T42 x411001_2 x7_2).f0) != 3) = false := bne_eq_false_iff_eq.mpr c49
            clear c49
            have H' := Aside0.mk H
            clear H
            have hnb50 := NB410_391.out
            have hnc50 := NB391_410.out
            have hcz51_0 : wr.cell? ⟨gb410, 0, none⟩ = some (.int .i64 t386) := (blk_cell BK410.out 0).trans rfl
            have hcz51_1 : wr.cell? ⟨gb410, 1, none⟩ = some (u411001) := (blk_cell BK410.out 1).trans rfl
            have hfz51_0 := blk_frozen BK410.out 0
            have hfz51_1 := blk_frozen BK410.out 1
            obtain ⟨Ao52, co52, eo52, _⟩ := Kd.Q_slice HO_411001.out
            subst eo52
            have p411 : 0 <= (x7_2 : Int) := of_decide_eq_true (by first | (with_reducible assumption) | assumption)
            have q411 : x7_2 < (x411001_2.length : Int) := of_decide_eq_true (by first | (with_reducible assumption) | assumption)
            obtain ⟨ad411, e411, hx411_0, hx411_1⟩ := at_T42 (Kd.Q_reads' HO_411001.out).2.2 x7_2 p411 q411
            cases e411
            replace p411 := eq_true p411
            replace q411 := eq_true q411
            have p412 : 0 <= (x7_2 : Int) := of_decide_eq_true (by first | (with_reducible assumption) | assumption)
            have q412 : x7_2 < (x411001_2.length : Int) := of_decide_eq_true (by first | (with_reducible assumption) | assumption)
            obtain ⟨ad412, e412, hx412_0, hx412_1⟩ := at_T42 (Kd.Q_reads' HO_411001.out).2.2 x7_2 p412 q412
            obtain rfl : ad411 = ad412 := (by injection e412)
            replace p412 := eq_true p412
            replace q412 := eq_true q412
            go_wp2
            go_roundg k2
            case measure => have := HJ4.out; have := HK2.out; omega
            case rel => exact ⟨(wrap64 (x7_2 + 1)), (x392001_2), (x411001_2), (u392001), (.slice (some ad411) x411001_2.length co52), (by first | rfl | (simp; done) | (simp [*]; done)), H', ⟨by have := HJ4.out; have := HK2.out; omega⟩, ⟨by (with_reducible repeat apply Kd.Q_alloc); exact HO_392001.out⟩, ⟨by (with_reducible repeat apply Kd.Q_alloc); exact HO_411001.out⟩, ⟨by (with_reducible repeat apply blk_alloc); exact BK391.out⟩, ⟨by (with_reducible repeat apply blk_alloc); exact BK410.out⟩, ⟨by repeat first | exact HB.out | with_reducible refine below_setA ?_ ‹_› | apply below_alloc | apply pw_below_drewN⟩⟩
           ·rw [if_neg c49] at H
            have c49b0 : (((rd_T42 x411001_2 x7_2).f0) == 3) = false := beq_eq_false_iff_ne.mpr c49
            have c49b1 : (((rd_T42 x411001_2 x7_2).f0) != 3) = true := bne_iff_ne.mpr c49
            obtain ⟨y413, hy413⟩ : ∃ y_ : List (S42), y_ = (x411001_2.set (x7_2 : Int).toNat (⟨0, 0⟩ : S42)) := ⟨_, rfl⟩
            replace H : (laws_FnTrailPairs.l0 k2 t390 (wrap64 (x7_2 + 1)) t386 y413) = some r := by first | (rw [hy413]; with_reducible exact H) | (have H2_ := (Option.bind_some _ _).symm.trans H; rw [hy413]; with_reducible exact H2_) | (have H2_ := (Option.bind_some _ _).symm.trans H; with_reducible exact H2_) | with_reducible exact H | (rw [hy413]; exact H) | exact H
            have Ny413 := Aside0.mk hy413
            clear hy413
            have H' := Aside0.mk H
            clear H
            have hnb54 := NB410_391.out
            have hnc54 := NB391_410.out
            have hcz55_0 : wr.cell? ⟨gb410, 0, none⟩ = some (.int .i64 t386) := (blk_cell BK410.out 0).trans rfl
            have hcz55_1 : wr.cell? ⟨gb410, 1, none⟩ = some (u411001) := (blk_cell BK410.out 1).trans rfl
            have hfz55_0 := blk_frozen BK410.out 0
            have hfz55_1 := blk_frozen BK410.out 1
            obtain ⟨Ao56, co56, eo56, _⟩ := Kd.Q_slice HO_411001.out
            subst eo56
            have p411 : 0 <= (x7_2 : Int) := of_decide_eq_true (by first | (with_reducible assumption) | assumption)
            have q411 : x7_2 < (x411001_2.length : Int) := of_decide_eq_true (by first | (with_reducible assumption) | assumption)
            obtain ⟨ad411, e411, hx411_0, hx411_1⟩ := at_T42 (Kd.Q_reads' HO_411001.out).2.2 x7_2 p411 q411
            cases e411
            replace p411 := eq_true p411
            replace q411 := eq_true q411
            have p412 : 0 <= (x7_2 : Int) := of_decide_eq_true (by first | (with_reducible assumption) | assumption)
            have q412 : x7_2 < (x411001_2.length : Int) := of_decide_eq_true (by first | (with_reducible assumption) | assumption)
            obtain ⟨ad412, e412, hx412_0, hx412_1⟩ := at_T42 (Kd.Q_reads' HO_411001.out).2.2 x7_2 p412 q412
            obtain rfl : ad411 = ad412 := (by injection e412)
            replace p412 := eq_true p412
            replace q412 := eq_true q412
            have p53 : 0 <= (x7_2 : Int) := of_decide_eq_true (by first | (with_reducible assumption) | assumption)
            have q53 : (x7_2 : Int) < ((x411001_2.length : Int) : Int) := of_decide_eq_true (by first | (with_reducible assumption) | assumption)
            obtain ⟨go53, oo53, co53, eo53, gb53, gl53, cl53, HG53⟩ := Kd.Q_form HO_411001.out (by omega)
            (first | cases eo53 | (injection eo53 with ea_ en_ ec_; (first | subst ea_ | (injection ea_ with ea_; subst ea_)); subst ec_; clear en_))
            have GB53 := Aside0.mk gb53
            have GG53 := Aside0.mk HG53
            clear gb53 gl53 HG53
            (first | simp only [add_at] at hx411_0 | skip)
            (first | simp only [add_at] at hx411_1 | skip)
            (first | simp only [add_at] at hx412_0 | skip)
            (first | simp only [add_at] at hx412_1 | skip)
            obtain ⟨ce53, hcl53, hM53, hcc53, hfr53⟩ := Kd.Q_elem HO_411001.out z42 (x7_2 : Int) p53 q53
            obtain rfl := k42_openM hM53
            have hx53_0 : wr.cell? ⟨go53, oo53 + (x7_2 : Int).toNat * 2, none⟩ = some (.int .i64 ((rd_T42 x411001_2 x7_2).f0)) := hcc53 0 _ rfl
            have hx53_1 : wr.cell? ⟨go53, oo53 + (x7_2 : Int).toNat * 2 + 1, none⟩ = some (.int .i64 ((rd_T42 x411001_2 x7_2).f1)) := hcc53 1 _ rfl
            have hf53_0 : wr.frozen? ⟨go53, oo53 + (x7_2 : Int).toNat * 2, none⟩ = false := hfr53 0
            have hf53_1 : wr.frozen? ⟨go53, oo53 + (x7_2 : Int).toNat * 2 + 1, none⟩ = false := hfr53 1
            clear hcl53 hcc53 hfr53 hM53
            replace p53 := eq_true p53
            replace q53 := eq_true q53
            have HX57 := Aside0.mk (show Kd.Q k42 42 wr w.heap.size (fun k_ => some k_ ≠ (u392001 : Value).ownBlock) (.slice (some ⟨go53, oo53, none⟩) x411001_2.length co56) x411001_2 from (by (with_reducible repeat apply Kd.Q_alloc); exact HO_411001.out))
            obtain ⟨ce57, hcl57, hM57, hcc57, hfr57⟩ := Kd.Q_elem HX57.out z42 (x7_2 : Int) (of_decide_eq_true (by first | (with_reducible assumption) | assumption)) (by have h_ : (x7_2 : Int) < ((x411001_2.length : Int) : Int) := of_decide_eq_true (by first | (with_reducible assumption) | assumption); first | exact h_ | (have e_ := (Kd.Q_reads' HO_411001.out).1; omega) | simpa using h_)
            obtain rfl := k42_openM hM57
            have HP57 := Kd.Q_seg HX57.out (x7_2 : Int) (of_decide_eq_true (by first | (with_reducible assumption) | assumption)) (by have h_ : (x7_2 : Int) < ((x411001_2.length : Int) : Int) := of_decide_eq_true (by first | (with_reducible assumption) | assumption); first | exact h_ | (have e_ := (Kd.Q_reads' HO_411001.out).1; omega) | simpa using h_) (seg := [.int .i64 0, .int .i64 0]) (j := 0) hcl57 hcc57 (show 2 <= 2 from by decide) (x' := (⟨0, 0⟩ : S42)) (k42_mkM _ _ _ (⟨0, 0⟩ : S42) ) (fun _ hk => hk)
            have hx57_0 := hcc57 0 _ rfl
            (try simp only [show (k42).sz = 2 from rfl, Nat.mul_one, Nat.add_zero] at hx57_0)
            have hf57_0 := hfr57 0
            (try simp only [show (k42).sz = 2 from rfl, Nat.mul_one, Nat.add_zero] at hf57_0)
            have hx57_1 := hcc57 1 _ rfl
            (try simp only [show (k42).sz = 2 from rfl, Nat.mul_one, Nat.add_zero] at hx57_1)
            have hf57_1 := hfr57 1
            (try simp only [show (k42).sz = 2 from rfl, Nat.mul_one, Nat.add_zero] at hf57_1)
            clear hcl57 hcc57 hfr57 hM57
            go_wp2_with (first | ((with_reducible refine gate_store (t := 42) (p := 71) rfl ?_); refine store_event (t := 42) (p := 71) (v := ?vo_w58) (w1 := ((wr.setCell ⟨go53, oo53 + (x7_2 : Int).toNat * 2, none⟩ (.int .i64 0)).setCell ⟨go53, oo53 + (x7_2 : Int).toNat * 2 + 1, none⟩ (.int .i64 0))) ?hg ?ho ?hn ?hr ?_; (case ho => rfl); (case hg => rfl); (case hn => rfl); (case hr => first | (go_simp; done) | (go_simp; rfl)); intro w58 hw; have hg : wr.grownBy w58 (some go53) := (by rw [hw]; exact HP57.2); have hp_ : Kd.Q k42 42 w58 w.heap.size (fun k_ => some k_ ≠ (u392001 : Value).ownBlock) (.slice (some ⟨go53, oo53, none⟩) x411001_2.length co56) y413 := (by rw [hw, Ny413.out]; exact HP57.1); clear HP57; have n0_ := Aside0.mk (Kd.Q_after (v := (.slice (some ⟨go53, oo53, none⟩) x411001_2.length co56)) (v1 := (.slice (some ⟨go53, oo53, none⟩) x411001_2.length co56)) (ok := (fun _ => True)) (by (with_reducible repeat apply Kd.Q_alloc); exact Kd.Q_mono HO_392001.out (fun _ hk => ⟨trivial, hk⟩)) hg (.inl rfl)); have n1_ := Aside0.mk (hp_); have n2_ := Aside0.mk (blk_grown (g := gb391) (o := .cells #[.int .i64 t386, u392001] 25 (0, 0)) (bK BK391.out) hg (Kd.Q_ne HO_411001.out BK391.out (by decide))); have n3_ := Aside0.mk (blk_grown (g := gb410) (o := .cells #[.int .i64 t386, .slice (some ⟨go53, oo53, none⟩) x411001_2.length co56] 25 (0, 0)) (bK BK410.out) hg (Kd.Q_ne HO_411001.out BK410.out (by decide))); have n4_ := Aside0.mk ((by rw [hw]; exact below_set (below_set (HB.out) GB53.out) GB53.out : Below w.heap.size w w58)); clear HO_392001; clear HO_411001; clear BK391; clear BK410; clear HB; have HO_392001 := n0_; have HO_411001 := n1_; have BK391 := n2_; have BK410 := n3_; have HB := n4_; clear n0_ n1_ n2_ n3_ n4_; clear hg hw hp_))
            go_roundg k2
            case measure => have := HJ4.out; have := HK2.out; omega
            case rel => exact ⟨(wrap64 (x7_2 + 1)), (x392001_2), (y413), (u392001), (.slice (some ⟨go53, oo53, none⟩) x411001_2.length co56), (by first | rfl | (simp; done) | (simp [*]; done)), H', ⟨by have := HJ4.out; have := HK2.out; omega⟩, ⟨by (with_reducible repeat apply Kd.Q_alloc); exact Kd.Q_mono HO_392001.out (fun _ hk => hk.2)⟩, ⟨by (with_reducible repeat apply Kd.Q_alloc); exact HO_411001.out⟩, ⟨by (with_reducible repeat apply blk_alloc); exact BK391.out⟩, ⟨by (with_reducible repeat apply blk_alloc); exact BK410.out⟩, ⟨by repeat first | exact HB.out | with_reducible refine below_setA ?_ ‹_› | apply below_alloc | apply pw_below_drewN⟩⟩
         ·rw [if_neg c44] at H
          exact absurd H (by simp)
        ·rw [if_neg c43] at H
         have c43b0 : decide (x7_2 < (x411001_2.length : Int)) = false := decide_eq_false c43
         clear c43
         replace H := Option.bind_eq_some_iff.mp H
         obtain ⟨t414, A590, H⟩ := H
         replace H : (if (t414.length : Int) = 1 then (if 0 < (t414.length : Int) then (if ((rd_T38 t414 0).f0) = 0 then (laws_FnTrailPairs.j2 k2 t390 t414 (((rd_T38 t414 0).f1) == t390) t386 x411001_2) else (laws_FnTrailPairs.j2 k2 t390 t414 true t386 x411001_2)) else (none)) else (laws_FnTrailPairs.j2 k2 t390 t414 true t386 x411001_2)) = some r := H
         have A59 := Aside0.mk A590
         clear A590
         have HC60 := Aside0.mk H
         clear H
         have hnb61 := NB410_391.out
         have hnc61 := NB391_410.out
         have hcz62_0 : wr.cell? ⟨gb410, 0, none⟩ = some (.int .i64 t386) := (blk_cell BK410.out 0).trans rfl
         have hcz62_1 : wr.cell? ⟨gb410, 1, none⟩ = some (u411001) := (blk_cell BK410.out 1).trans rfl
         have hfz62_0 := blk_frozen BK410.out 0
         have hfz62_1 := blk_frozen BK410.out 1
         obtain ⟨Ao63, co63, eo63, _⟩ := Kd.Q_slice HO_411001.out
         subst eo63
         go_upto_region 14 with (first | ((with_reducible refine gate_callee (f := 16) rfl ?_); refine goesL_ (some 74) rfl rfl Try.func16 (by kernel_rfl) rfl #[.agg #[.int .i64 t386, .slice Ao63 x411001_2.length co63], .int .i64 t390] rfl (by first | rfl | (simp only [List.map_toArray, List.map_cons, List.map_nil, List.length_drop, List.length_take]; try rfl)) ?_; (with_reducible refine (impl_TrailEnds.calls k2 t386 _ _ x411001_2 t390 t414 _ ?side1 ?side2 A59.out).mono ?_); (case side1 => repeat (first | exact (Kd.Q_reads' HO_411001.out).2.2 | (with_reducible refine Kd.C_alloc ?_ _) | (with_reducible refine Kd.C_drewN ?_ _) | (with_reducible refine Kd.C_drew ?_))); (case side2 => exact (Kd.Q_reads' HO_411001.out).2.1); rintro e w64 ⟨v415, rfl, ho0, hb⟩; refine ⟨_, rfl, ?_⟩; have n0_ := Aside0.mk (Kd.Q_below (by (with_reducible repeat apply Kd.Q_alloc); exact HO_392001.out) hb); have n1_ := Aside0.mk (Kd.Q_below (by (with_reducible repeat apply Kd.Q_alloc); exact HO_411001.out) hb); have n2_ := Aside0.mk (Kd.R_lower ho0 (below_size (by repeat first | exact HB.out | with_reducible refine below_setA ?_ ‹_› | apply below_alloc | apply pw_below_drewN))); have n3_ := Aside0.mk (blk_below (bK BK391.out) hb); have n4_ := Aside0.mk (blk_below (bK BK410.out) hb); have n5_ := Aside0.mk (below_step (by repeat first | exact HB.out | with_reducible refine below_setA ?_ ‹_› | apply below_alloc | apply pw_below_drewN) hb); clear HO_392001; clear HO_411001; clear BK391; clear BK410; clear HB; have HO_392001 := n0_; have HO_411001 := n1_; have HO416 := n2_; have BK391 := n3_; have BK410 := n4_; have HB := n5_; clear n0_ n1_ n2_ n3_ n4_ n5_; (try clear hb); (try clear hb2); (try clear hk); (try clear hi); (try clear ho0)))
         (try simp only [Act.put, List.setIfInBounds_toArray, List.set_cons_zero, List.set_cons_succ])
         go_cut [92] (fun v92 wc => ∃ (kq : Nat) (x92_59 : Bool), v92 = .bool x92_59 ∧ Aside0 (laws_FnTrailPairs.j2 kq t390 t414 x92_59 t386 x411001_2 = some r) ∧ Aside0 (kq <= k2) ∧ Aside0 (Kd.R k38 38 wc w.heap.size (fun _ => True) v415 t414) ∧ Aside0 (Kd.Q k42 42 wc w.heap.size (fun k_ => some k_ ≠ ((.slice Ao63 x411001_2.length co63) : Value).ownBlock) u392001 x392001_2) ∧ Aside0 (Kd.Q k42 42 wc w.heap.size (fun k_ => some k_ ≠ (u392001 : Value).ownBlock) (.slice Ao63 x411001_2.length co63) x411001_2) ∧ Aside0 (wc.heap[gb391]? = some (.cells #[.int .i64 t386, u392001] 25 (0, 0))) ∧ Aside0 (wc.heap[gb410]? = some (.cells #[.int .i64 t386, (.slice Ao63 x411001_2.length co63)] 25 (0, 0))) ∧ Aside0 (Below w.heap.size w wc))
         case first =>
          have H := HC60.out
          clear HC60
          by_cases c65 : (t414.length : Int) = 1
          ·rw [if_pos c65] at H
           have c65b0 : ((t414.length : Int) == 1) = true := beq_iff_eq.mpr c65
           have c65b1 : ((t414.length : Int) != 1) = false := bne_eq_false_iff_eq.mpr c65
           clear c65
           (first | rw [c65b0] | (simp only [i64_w, i32_w]; rw [c65b0]) | skip)
           by_cases c66 : 0 < (t414.length : Int)
           ·rw [if_pos c66] at H
            have c66b0 : decide (0 < (t414.length : Int)) = true := decide_eq_true c66
            have c66b1 : decide (0 < t414.length) = true := decide_eq_true (by omega)
            clear c66
            by_cases c67 : ((rd_T38 t414 0).f0) = 0
            ·rw [if_pos c67] at H
             have c67b0 : (((rd_T38 t414 0).f0) == 0) = true := beq_iff_eq.mpr c67
             have c67b1 : (((rd_T38 t414 0).f0) != 0) = false := bne_eq_false_iff_eq.mpr c67
             clear c67
             have H' := Aside0.mk H
             clear H
             obtain ⟨Ao68, co68, eo68⟩ := Kd.R_slice HO416.out
             subst eo68
             have p417 : 0 <= (0 : Int) := (by omega)
             have q417 : 0 < (t414.length : Int) := of_decide_eq_true (by first | (with_reducible assumption) | assumption)
             obtain ⟨ad417, e417, hx417_0, hx417_1, hx417_2⟩ := at_T38 (Kd.R_reads' HO416.out).2.2 0 p417 q417
             cases e417
             have qi417 : (0 < t414.length) = True := eq_true (by omega)
             (try rw [show ((0 : Int)).toNat = 0 from rfl] at hx417_0)
             (try rw [show 0 * 3 = 0 from rfl] at hx417_0)
             (try rw [Addr.add_zero'] at hx417_0)
             (try rw [show ((0 : Int)).toNat = 0 from rfl] at hx417_1)
             (try rw [show 0 * 3 = 0 from rfl] at hx417_1)
             (try rw [Addr.add_zero'] at hx417_1)
             (try rw [show ((0 : Int)).toNat = 0 from rfl] at hx417_2)
             (try rw [show 0 * 3 = 0 from rfl] at hx417_2)
             (try rw [Addr.add_zero'] at hx417_2)
             replace p417 := eq_true p417
             replace q417 := eq_true q417
             have p418 : 0 <= (0 : Int) := (by omega)
             have q418 : 0 < (t414.length : Int) := of_decide_eq_true (by first | (with_reducible assumption) | assumption)
             obtain ⟨ad418, e418, hx418_0, hx418_1, hx418_2⟩ := at_T38 (Kd.R_reads' HO416.out).2.2 0 p418 q418
             obtain rfl : ad417 = ad418 := (by injection e418)
             have qi418 : (0 < t414.length) = True := eq_true (by omega)
             (try rw [show ((0 : Int)).toNat = 0 from rfl] at hx418_0)
             (try rw [show 0 * 3 = 0 from rfl] at hx418_0)
             (try rw [Addr.add_zero'] at hx418_0)
             (try rw [show ((0 : Int)).toNat = 0 from rfl] at hx418_1)
             (try rw [show 0 * 3 = 0 from rfl] at hx418_1)
             (try rw [Addr.add_zero'] at hx418_1)
             (try rw [show ((0 : Int)).toNat = 0 from rfl] at hx418_2)
             (try rw [show 0 * 3 = 0 from rfl] at hx418_2)
             (try rw [Addr.add_zero'] at hx418_2)
             replace p418 := eq_true p418
             replace q418 := eq_true q418
             go_wp2
             go_meet
             case rel => exact ⟨_, ((((rd_T38 t414 0).f1) == t390)), (by first | rfl | (simp; done) | (simp [*]; done)), H', ⟨by have := HJ4.out; have := HK2.out; first | omega | exact Nat.le_refl _⟩, ⟨by (with_reducible repeat apply Kd.R_alloc); exact HO416.out⟩, ⟨by (with_reducible repeat apply Kd.Q_alloc); exact HO_392001.out⟩, ⟨by (with_reducible repeat apply Kd.Q_alloc); exact HO_411001.out⟩, ⟨by (with_reducible repeat apply blk_alloc); exact BK391.out⟩, ⟨by (with_reducible repeat apply blk_alloc); exact BK410.out⟩, ⟨by repeat first | exact HB.out | with_reducible refine below_setA ?_ ‹_› | apply below_alloc | apply pw_below_drewN⟩⟩
            ·rw [if_neg c67] at H
             have c67b0 : (((rd_T38 t414 0).f0) == 0) = false := beq_eq_false_iff_ne.mpr c67
             have c67b1 : (((rd_T38 t414 0).f0) != 0) = true := bne_iff_ne.mpr c67
             cases k2 with
             | zero => exact absurd H (by simp [laws_FnTrailPairs.j2])
             | succ k_ =>
              have hf_ := Option.some.inj (show (some false : Option Bool) = some r from H)
              rw [HRT.out] at hf_
              exact absurd hf_ (by decide)
           ·rw [if_neg c66] at H
            exact absurd H (by simp)
          ·rw [if_neg c65] at H
           have c65b0 : ((t414.length : Int) == 1) = false := beq_eq_false_iff_ne.mpr c65
           have c65b1 : ((t414.length : Int) != 1) = true := bne_iff_ne.mpr c65
           (first | rw [c65b0] | (simp only [i64_w, i32_w]; rw [c65b0]) | skip)
           cases k2 with
           | zero => exact absurd H (by simp [laws_FnTrailPairs.j2])
           | succ k_ =>
            have hf_ := Option.some.inj (show (some false : Option Bool) = some r from H)
            rw [HRT.out] at hf_
            exact absurd hf_ (by decide)
         case rest =>
          clear HC60
          try clear c1
          try clear c2
          try clear c2b0
          try clear c2b1
          try clear p2
          try clear c3
          try clear c4
          try clear p4
          try clear q4
          try clear hx4
          try clear qi4
          try clear c5
          try clear p5
          try clear q5
          try clear hx5
          try clear hf5
          try clear c6
          try clear p6
          try clear c13
          try clear c16
          try clear c17
          try clear c18
          try clear c19
          try clear c25
          try clear c32
          try clear p41
          try clear q41
          try clear hx41
          try clear qi41
          try clear c43
          try clear c43b0
          try clear c44
          try clear c44b0
          try clear c45
          try clear c45b0
          try clear c45b1
          try clear c46
          try clear c49
          try clear c49b0
          try clear c49b1
          try clear c50
          try clear c53
          try clear p53
          try clear q53
          try clear hx53
          try clear hf53
          try clear c54
          try clear c57
          try clear hx57
          try clear hf57
          try clear c61
          try clear p64
          try clear c65
          try clear c65b0
          try clear c65b1
          try clear c66
          try clear c66b0
          try clear c66b1
          try clear c67
          try clear c67b0
          try clear c67b1
          try clear hcz15_0
          try clear hcz15_1
          try clear hcz19_0
          try clear hcz19_1
          try clear hcz21_0
          try clear hcz21_1
          try clear hcz28_0
          try clear hcz28_1
          try clear hcz47_0
          try clear hcz47_1
          try clear hcz51_0
          try clear hcz51_1
          try clear hcz55_0
          try clear hcz55_1
          try clear hcz62_0
          try clear hcz62_1
          try clear hcz8_0
          try clear hcz8_1
          try clear hfz15_0
          try clear hfz15_1
          try clear hfz19_0
          try clear hfz19_1
          try clear hfz21_0
          try clear hfz21_1
          try clear hfz28_0
          try clear hfz28_1
          try clear hfz47_0
          try clear hfz47_1
          try clear hfz51_0
          try clear hfz51_1
          try clear hfz55_0
          try clear hfz55_1
          try clear hfz62_0
          try clear hfz62_1
          try clear hfz8_0
          try clear hfz8_1
          try clear hx411_0
          try clear hx411_1
          try clear hx412_0
          try clear hx412_1
          try clear hx417_0
          try clear hx417_1
          try clear hx417_2
          try clear hx418_0
          try clear hx418_1
          try clear hx418_2
          try clear hx53_0
          try clear hx53_1
          try clear hx57_0
          try clear hx57_1
          try clear p2
          try clear p411
          try clear p412
          try clear p417
          try clear p418
          try clear p53
          try clear q411
          try clear q412
          try clear q417
          try clear q418
          try clear q53
          obtain ⟨kq, x92_59, rfl, HA, HJ59, HO_8, HO_392001, HO_411001, BK391, BK410, HB⟩ := hcut
          cases kq with
          | zero => exact absurd HA.out (by simp [laws_FnTrailPairs.j2])
          | succ kj59 =>
           have H := HA.out
           clear HA
           simp only [laws_FnTrailPairs.j2] at H
           by_cases c69 : x92_59 = true
           ·subst c69
            have H1 : (some false) = some r := by rw [if_pos rfl] at H; exact H
            clear H
            have H := H1
            clear H1
            obtain rfl := Option.some.inj H
            exact absurd HRT.out (by decide)
           ·replace c69 := Bool.eq_false_iff.mpr c69
            subst c69
            have H1 : (if 0 < (t414.length : Int) then ((impl_TrailEnds.f kj59 t386 x411001_2 ((rd_T38 t414 0).f1)).bind fun t420 => ((laws_llEnds.f kj59 t420 (([(⟨0, t390, 64⟩ : S38)] : List (S38)))).bind fun t426 => (some t426))) else (none)) = some r := by rw [if_neg (show ¬ (false = true) by decide)] at H; exact H
            clear H
            have H := H1
            clear H1
            by_cases c70 : 0 < (t414.length : Int)
            ·rw [if_pos c70] at H
             have c70b0 : decide (0 < (t414.length : Int)) = true := decide_eq_true c70
             have c70b1 : decide (0 < t414.length) = true := decide_eq_true (by omega)
             clear c70
             replace H := Option.bind_eq_some_iff.mp H
             obtain ⟨t420, A710, H⟩ := H
             replace H : ((laws_llEnds.f kj59 t420 (([(⟨0, t390, 64⟩ : S38)] : List (S38)))).bind fun t426 => (some t426)) = some r := H
             have A71 := Aside0.mk A710
             clear A710
             obtain ⟨y423, hy423⟩ : ∃ y_ : List (S38), y_ = (([(⟨0, t390, 64⟩ : S38)] : List (S38))) := ⟨_, rfl⟩
             replace H : ((laws_llEnds.f kj59 t420 y423).bind fun t426 => (some t426)) = some r := by first | (rw [hy423]; with_reducible exact H) | (have H2_ := (Option.bind_some _ _).symm.trans H; rw [hy423]; with_reducible exact H2_) | (have H2_ := (Option.bind_some _ _).symm.trans H; with_reducible exact H2_) | with_reducible exact H | (rw [hy423]; exact H) | exact H
             have Ny423 := Aside0.mk hy423
             clear hy423
             replace H := Option.bind_eq_some_iff.mp H
             obtain ⟨t426, A720, H⟩ := H
             replace H : (some t426) = some r := H
             have A72 := Aside0.mk A720
             clear A720
             obtain rfl := Option.some.inj H
             try go_wp2
             have n0_ := Aside0.mk (Kd.R_drew HO_8.out)
             have n1_ := Aside0.mk (Kd.Q_drew HO_392001.out)
             have n2_ := Aside0.mk (Kd.Q_drew HO_411001.out)
             have n3_ := Aside0.mk (blk_drew BK391.out)
             have n4_ := Aside0.mk (blk_drew BK410.out)
             have n5_ := Aside0.mk (below_drew1 HB.out)
             clear HO_8
             clear HO_392001
             clear HO_411001
             clear BK391
             clear BK410
             clear HB
             have HO_8 := n0_
             have HO_392001 := n1_
             have HO_411001 := n2_
             have BK391 := n3_
             have BK410 := n4_
             have HB := n5_
             clear n0_ n1_ n2_ n3_ n4_ n5_
             obtain ⟨Ao74, co74, eo74⟩ := Kd.R_slice HO_8.out
             (first | subst eo74 | (injection eo74 with f1_ f2_ f3_; have f4_ := f1_.symm; have f5_ := f3_.symm; clear f1_ f2_ f3_; subst f4_; subst f5_))
             have p419 : 0 <= (0 : Int) := (by omega)
             have q419 : 0 < (t414.length : Int) := of_decide_eq_true (by first | (with_reducible assumption) | assumption)
             obtain ⟨ad419, e419, hx419_0, hx419_1, hx419_2⟩ := at_T38 (Kd.R_reads' HO_8.out).2.2 0 p419 q419
             cases e419
             have qi419 : (0 < t414.length) = True := eq_true (by omega)
             (try rw [show ((0 : Int)).toNat = 0 from rfl] at hx419_0)
             (try rw [show 0 * 3 = 0 from rfl] at hx419_0)
             (try rw [Addr.add_zero'] at hx419_0)
             (try rw [show ((0 : Int)).toNat = 0 from rfl] at hx419_1)
             (try rw [show 0 * 3 = 0 from rfl] at hx419_1)
             (try rw [Addr.add_zero'] at hx419_1)
             (try rw [show ((0 : Int)).toNat = 0 from rfl] at hx419_2)
             (try rw [show 0 * 3 = 0 from rfl] at hx419_2)
             (try rw [Addr.add_zero'] at hx419_2)
             replace p419 := eq_true p419
             replace q419 := eq_true q419
             refine start_ (n := 11) (S := fun w' => w'.cell? ⟨gb410, 0, none⟩ = some (.int .i64 t386) ∧ w'.cell? ⟨gb410, 1, none⟩ = some (.slice Ao63 x411001_2.length co63) ∧ w'.cell? ad419 = some (.int .i64 ((rd_T38 t414 0).f0)) ∧ w'.cell? ⟨ad419.block, ad419.off + 1, none⟩ = some (.int .i64 ((rd_T38 t414 0).f1)) ∧ w'.cell? ⟨ad419.block, ad419.off + 2, none⟩ = some (.int .i64 ((rd_T38 t414 0).f2))) (ds := []) #[false, false, false, false, false, false, false, false, false, false, false] (by kernel_rfl) rfl rfl ⟨(blk_cell BK410.out 0).trans rfl, (blk_cell BK410.out 1).trans rfl, hx419_0, hx419_1, hx419_2⟩ (fun hHeld => ?_); refine with_tabW laws_FnTrailPairs.tab16 laws_FnTrailPairs.bits16 (fun HT_ HW_ => ?_)
             generalize wc.drew = w73 at HO_8 HO_392001 HO_411001 BK391 BK410 HB hx419_0 hx419_1 hx419_2 hHeld ⊢
             refine pure_ (i := 1) (N := some 94) (v := ?_) (a' := ?_) #[false, true, false, false, false, false, false, false, false, false, false] rfl rfl (any_of HT_.out (by kernel_rfl)) (fun _ _ _ h => h) (Or.inl ⟨by rfl, ?_⟩) ?_ ?_
             rotate_left
             ·intro w'
              go_simp
              with_reducible rfl
             rotate_left
             ·simp only [Act.put, sA_, sZ_, sS_, i64_w, i32_w]
              rfl
             refine pure_ (i := 2) (N := some 95) (v := ?_) (a' := ?_) #[false, true, true, false, false, false, false, false, false, false, false] rfl rfl (any_of HT_.out (by kernel_rfl)) (fun _ _ _ h => h) (Or.inl ⟨by rfl, ?_⟩) ?_ ?_
             rotate_left
             ·intro w'
              go_simp
              with_reducible rfl
             rotate_left
             ·simp only [Act.put, sA_, sZ_, sS_, i64_w, i32_w]
              rfl
             refine pure_ (i := 3) (N := some 96) (v := ?_) (a' := ?_) #[false, true, true, true, false, false, false, false, false, false, false] rfl rfl (any_of HT_.out (by kernel_rfl)) (fun _ _ _ h => h) (Or.inl ⟨by rfl, ?_⟩) ?_ ?_
             rotate_left
             ·intro w'
              go_simp
              with_reducible rfl
             rotate_left
             ·simp only [Act.put, sA_, sZ_, sS_, i64_w, i32_w]
              rfl
             refine pure_ (i := 6) (N := some 99) (v := ?_) (a' := ?_) #[false, true, true, true, false, false, true, false, false, false, false] rfl rfl (any_of HT_.out (by kernel_rfl)) (fun _ _ _ h => h) (Or.inl ⟨by rfl, ?_⟩) ?_ ?_
             rotate_left
             ·intro w'
              go_simp
              with_reducible rfl
             rotate_left
             ·simp only [Act.put, sA_, sZ_, sS_, i64_w, i32_w]
              rfl
             refine pure_ (i := 7) (N := some 100) (v := ?_) (a' := ?_) #[false, true, true, true, false, false, true, true, false, false, false] rfl rfl (any_of HT_.out (by kernel_rfl)) (fun _ _ _ h => h) (Or.inl ⟨by rfl, ?_⟩) ?_ ?_
             rotate_left
             ·intro w'
              go_simp
              with_reducible rfl
             rotate_left
             ·simp only [Act.put, sA_, sZ_, sS_, i64_w, i32_w]
              rfl
             refine take_ (i := 0) (N := some 93) (v := ?_) (a' := ?_) #[true, true, true, true, false, false, true, true, false, false, false] rfl rfl (take_ofW HT_.out HW_.out (by kernel_rfl)) (fun _ _ _ h => h) (Or.inl ⟨by rfl, ?_⟩) hHeld ?_ ?_
             rotate_left
             ·rintro w' ⟨s0, s1, s2, s3, s4⟩
              go_simp
              with_reducible rfl
             rotate_left
             ·simp only [Act.put, sA_, sZ_, sS_, i64_w, i32_w]
              rfl
             refine take_ (i := 4) (N := some 97) (v := ?_) (a' := ?_) #[true, true, true, true, true, false, true, true, false, false, false] rfl rfl (take_ofW HT_.out HW_.out (by kernel_rfl)) (fun _ _ _ h => h) (Or.inl ⟨by rfl, ?_⟩) hHeld ?_ ?_
             rotate_left
             ·rintro w' ⟨s0, s1, s2, s3, s4⟩
              go_simp
              with_reducible rfl
             rotate_left
             ·simp only [Act.put, sA_, sZ_, sS_, i64_w, i32_w]
              rfl
             refine join_ (σ := Value × Value) 2 #[true, true, true, true, true, true, true, true, true, false, false] (fun s_ => [(98, s_.1), (101, s_.2)]) (fun s_ w' => (w'.cell? ⟨gb410, 0, none⟩ = some (.int .i64 t386) ∧ w'.cell? ⟨gb410, 1, none⟩ = some (.slice Ao63 x411001_2.length co63) ∧ w'.cell? ad419 = some (.int .i64 ((rd_T38 t414 0).f0)) ∧ w'.cell? ⟨ad419.block, ad419.off + 1, none⟩ = some (.int .i64 ((rd_T38 t414 0).f1)) ∧ w'.cell? ⟨ad419.block, ad419.off + 2, none⟩ = some (.int .i64 ((rd_T38 t414 0).f2))) ∧ (Kd.R k38 38 w' w.heap.size (fun k_ => some k_ ≠ (s_.2 : Value).ownBlock ∧ some k_ ≠ (.slice (some ad419) t414.length co74 : Value).ownBlock) s_.1 t420) ∧ (Kd.R k38 38 w' w.heap.size (fun k_ => some k_ ≠ (s_.1 : Value).ownBlock ∧ some k_ ≠ (.slice (some ad419) t414.length co74 : Value).ownBlock) s_.2 y423) ∧ (Kd.Q k42 42 w' w.heap.size (fun k_ => some k_ ≠ (.slice Ao63 x411001_2.length co63 : Value).ownBlock) u392001 x392001_2) ∧ (Kd.Q k42 42 w' w.heap.size (fun k_ => some k_ ≠ (u392001 : Value).ownBlock) (.slice Ao63 x411001_2.length co63) x411001_2) ∧ (Kd.R k38 38 w' w.heap.size (fun k_ => some k_ ≠ (s_.1 : Value).ownBlock ∧ some k_ ≠ (s_.2 : Value).ownBlock) (.slice (some ad419) t414.length co74) t414) ∧ (w'.heap[gb391]? = some (.cells #[.int .i64 t386, u392001] 25 (0, 0))) ∧ (w'.heap[gb410]? = some (.cells #[.int .i64 t386, .slice Ao63 x411001_2.length co63] 25 (0, 0))) ∧ (Below w.heap.size w w')) ?_ ?_
             rotate_left
             ·intro hCont
              refine two_ (i := 5) (j := 8) (Ni := some 98) (Nj := some 101) #[true, true, true, true, true, true, true, true, false, false, false] #[true, true, true, true, true, false, true, true, true, false, false] rfl rfl rfl rfl (two_of HT_.out (by kernel_rfl)) (by decide) (by decide) (fun K hK => ?_) (fun K hK => ?_)
              ·skip
               refine goes_ Try.func16 (by kernel_rfl) rfl #[.agg #[.int .i64 t386, .slice Ao63 x411001_2.length co63], .int .i64 ((rd_T38 t414 0).f1)] (by rfl) rfl rfl (by first | rfl | (simp only [List.map_toArray, List.map_cons, List.map_nil, List.length_drop, List.length_take]; try rfl)) ?_
               with_reducible refine (impl_TrailEnds.calls kj59 t386 _ _ x411001_2 ((rd_T38 t414 0).f1) t420 _ ?side1 ?side2 A71.out).mono ?_
               (case side1 => repeat (first | exact (Kd.Q_reads' HO_411001.out).2.2 | (with_reducible refine Kd.C_alloc ?_ _) | (with_reducible refine Kd.C_drewN ?_ _) | (with_reducible refine Kd.C_drew ?_)))
               (case side2 => exact (Kd.Q_reads' HO_411001.out).2.1)
               rintro e w75 ⟨v421, rfl, ho0, hb⟩
               have HS2_ := (hb.cell (World.block_lt_of_cell? _ _ (hHeld.2.2.1))).trans (hHeld.2.2.1)
               have HS3_ := (hb.cell (World.block_lt_of_cell? _ _ (hHeld.2.2.2.1))).trans (hHeld.2.2.2.1)
               have HS4_ := (hb.cell (World.block_lt_of_cell? _ _ (hHeld.2.2.2.2))).trans (hHeld.2.2.2.2)
               refine ⟨_, rfl, ?_⟩
               have n0_ := Aside0.mk (Kd.R_elder' (kR HO_8.out) (Kd.R_base ho0) hb)
               have n1_ := Aside0.mk (Kd.Q_below (by (with_reducible repeat apply Kd.Q_alloc); exact HO_392001.out) hb)
               have n2_ := Aside0.mk (Kd.Q_below (by (with_reducible repeat apply Kd.Q_alloc); exact HO_411001.out) hb)
               have n3_ := Aside0.mk (Kd.R_lower (Kd.R_new' ho0 (Kd.R_lt (kR HO_8.out))) (below_size (by repeat first | exact HB.out | with_reducible refine below_setA ?_ ‹_› | apply below_alloc | apply pw_below_drewN)))
               have n4_ := Aside0.mk (blk_below (bK BK391.out) hb)
               have n5_ := Aside0.mk (blk_below (bK BK410.out) hb)
               have n6_ := Aside0.mk (below_step (by repeat first | exact HB.out | with_reducible refine below_setA ?_ ‹_› | apply below_alloc | apply pw_below_drewN) hb)
               clear HO_8
               clear HO_392001
               clear HO_411001
               clear BK391
               clear BK410
               clear HB
               have HO_8 := n0_
               have HO_392001 := n1_
               have HO_411001 := n2_
               have HO422 := n3_
               have BK391 := n4_
               have BK410 := n5_
               have HB := n6_
               clear n0_ n1_ n2_ n3_ n4_ n5_ n6_
               (try clear hb)
               (try clear hb2)
               (try clear hk)
               (try clear hi)
               (try clear ho0)
               refine hK.out _ _ ⟨(blk_cell BK410.out 0).trans rfl, (blk_cell BK410.out 1).trans rfl, HS2_, HS3_, HS4_⟩ (fun hHeld => ?_)
               clear hK K
               refine norm_ (a' := ?_) ?_ ?_
               rotate_left
               ·show Act.put _ (some 98) _ = _
                simp only [Act.put, sA_, sZ_, sS_, i64_w, i32_w]
                rfl
               refine one_ (i := 8) (N := some 101) #[true, true, true, true, true, true, true, true, true, false, false] rfl rfl (one_of HT_.out (by kernel_rfl)) (by decide) (fun K hK => ?_)
               refine Kd.R_lit_step k38 _ 38 ?hg (N := 101) ?hd (xs := ([(⟨0, t390, 64⟩ : S38)] : List (S38))) (inner := [.int .i64 0, .int .i64 t390, .int .i64 64]) (ok := fun _ => True) (okp := fun _ => True) ?hr ?hp (fun _ hk => hk) trivial (Below.refl _ _) (Nat.le_refl _) (by simp) ?_; (case hd => rfl); (case hg => rfl); (case hr => first | (go_simp; done) | (go_simp; rfl)); (case hp => exact (Reps.c3 (show Kd.M k38 _ _ _ (⟨0, t390, 64⟩ : S38) [.int .i64 0, .int .i64 t390, .int .i64 64] from (k38_mkM _ _ _ (⟨0, t390, 64⟩ : S38) )) (Reps.none _ _)))
               intro v424 w76 ho77 hb hg_ hnew_
               have HS2_ := (hb.cell (World.block_lt_of_cell? _ _ (hHeld.2.2.1))).trans (hHeld.2.2.1)
               have HS3_ := (hb.cell (World.block_lt_of_cell? _ _ (hHeld.2.2.2.1))).trans (hHeld.2.2.2.1)
               have HS4_ := (hb.cell (World.block_lt_of_cell? _ _ (hHeld.2.2.2.2))).trans (hHeld.2.2.2.2)
               clear hg_ hnew_
               (first | rw [<- Ny423.out] at ho77 | (simp only [Int.reduceToNat] at ho77; rw [<- Ny423.out] at ho77))
               have n0_ := Aside0.mk (Kd.R_elder' (kR HO_8.out) (Kd.R_base ho77) hb)
               have n1_ := Aside0.mk (Kd.Q_below (by (with_reducible repeat apply Kd.Q_alloc); exact HO_392001.out) hb)
               have n2_ := Aside0.mk (Kd.Q_below (by (with_reducible repeat apply Kd.Q_alloc); exact HO_411001.out) hb)
               have n3_ := Aside0.mk (Kd.R_elder' (kR HO422.out) (Kd.R_base ho77) hb)
               have n4_ := Aside0.mk (Kd.R_lower (Kd.R_new' (Kd.R_new' ho77 (Kd.R_lt (kR HO_8.out))) (Kd.R_lt (kR HO422.out))) (below_size (by repeat first | exact HB.out | with_reducible refine below_setA ?_ ‹_› | apply below_alloc | apply pw_below_drewN)))
               have n5_ := Aside0.mk (blk_below (bK BK391.out) hb)
               have n6_ := Aside0.mk (blk_below (bK BK410.out) hb)
               have n7_ := Aside0.mk (below_step (by repeat first | exact HB.out | with_reducible refine below_setA ?_ ‹_› | apply below_alloc | apply pw_below_drewN) hb)
               clear HO_8
               clear HO_392001
               clear HO_411001
               clear HO422
               clear BK391
               clear BK410
               clear HB
               have HO_8 := n0_
               have HO_392001 := n1_
               have HO_411001 := n2_
               have HO422 := n3_
               have HO425 := n4_
               have BK391 := n5_
               have BK410 := n6_
               have HB := n7_
               clear n0_ n1_ n2_ n3_ n4_ n5_ n6_ n7_
               clear hb ho77
               refine hK.out _ _ ⟨(blk_cell BK410.out 0).trans rfl, (blk_cell BK410.out 1).trans rfl, HS2_, HS3_, HS4_⟩ (fun hHeld => ?_)
               clear hK K
               refine norm_ (a' := ?_) ?_ ?_
               rotate_left
               ·show Act.put _ (some 101) _ = _
                simp only [Act.put, sA_, sZ_, sS_, i64_w, i32_w]
                rfl
               exact norm_ (by simp only [putAll, Act.put, List.setIfInBounds_toArray, List.set_cons_zero, List.set_cons_succ]) (hCont (v421, v424) _ ⟨hHeld, (by (with_reducible repeat apply Kd.R_alloc); exact Kd.R_mono HO422.out (fun _ hk => ⟨hk.2, hk.1.2⟩)), (by (with_reducible repeat apply Kd.R_alloc); exact Kd.R_mono HO425.out (fun _ hk => ⟨hk.2, hk.1.2⟩)), (by (with_reducible repeat apply Kd.Q_alloc); exact HO_392001.out), (by (with_reducible repeat apply Kd.Q_alloc); exact HO_411001.out), (by (with_reducible repeat apply Kd.R_alloc); exact Kd.R_mono HO_8.out (fun _ hk => ⟨hk.1.2, hk.2⟩)), (bK BK391.out), (bK BK410.out), (by repeat first | exact HB.out | with_reducible refine below_setA ?_ ‹_› | apply below_alloc | apply pw_below_drewN)⟩)
              ·skip
               refine Kd.R_lit_step k38 _ 38 ?hg (N := 101) ?hd (xs := ([(⟨0, t390, 64⟩ : S38)] : List (S38))) (inner := [.int .i64 0, .int .i64 t390, .int .i64 64]) (ok := fun _ => True) (okp := fun _ => True) ?hr ?hp (fun _ hk => hk) trivial (Below.refl _ _) (Nat.le_refl _) (by simp) ?_; (case hd => rfl); (case hg => rfl); (case hr => first | (go_simp; done) | (go_simp; rfl)); (case hp => exact (Reps.c3 (show Kd.M k38 _ _ _ (⟨0, t390, 64⟩ : S38) [.int .i64 0, .int .i64 t390, .int .i64 64] from (k38_mkM _ _ _ (⟨0, t390, 64⟩ : S38) )) (Reps.none _ _)))
               intro v424 w75 ho76 hb hg_ hnew_
               have HS2_ := (hb.cell (World.block_lt_of_cell? _ _ (hHeld.2.2.1))).trans (hHeld.2.2.1)
               have HS3_ := (hb.cell (World.block_lt_of_cell? _ _ (hHeld.2.2.2.1))).trans (hHeld.2.2.2.1)
               have HS4_ := (hb.cell (World.block_lt_of_cell? _ _ (hHeld.2.2.2.2))).trans (hHeld.2.2.2.2)
               clear hg_ hnew_
               (first | rw [<- Ny423.out] at ho76 | (simp only [Int.reduceToNat] at ho76; rw [<- Ny423.out] at ho76))
               have n0_ := Aside0.mk (Kd.R_elder' (kR HO_8.out) (Kd.R_base ho76) hb)
               have n1_ := Aside0.mk (Kd.Q_below (by (with_reducible repeat apply Kd.Q_alloc); exact HO_392001.out) hb)
               have n2_ := Aside0.mk (Kd.Q_below (by (with_reducible repeat apply Kd.Q_alloc); exact HO_411001.out) hb)
               have n3_ := Aside0.mk (Kd.R_lower (Kd.R_new' ho76 (Kd.R_lt (kR HO_8.out))) (below_size (by repeat first | exact HB.out | with_reducible refine below_setA ?_ ‹_› | apply below_alloc | apply pw_below_drewN)))
               have n4_ := Aside0.mk (blk_below (bK BK391.out) hb)
               have n5_ := Aside0.mk (blk_below (bK BK410.out) hb)
               have n6_ := Aside0.mk (below_step (by repeat first | exact HB.out | with_reducible refine below_setA ?_ ‹_› | apply below_alloc | apply pw_below_drewN) hb)
               clear HO_8
               clear HO_392001
               clear HO_411001
               clear BK391
               clear BK410
               clear HB
               have HO_8 := n0_
               have HO_392001 := n1_
               have HO_411001 := n2_
               have HO425 := n3_
               have BK391 := n4_
               have BK410 := n5_
               have HB := n6_
               clear n0_ n1_ n2_ n3_ n4_ n5_ n6_
               clear hb ho76
               refine hK.out _ _ ⟨(blk_cell BK410.out 0).trans rfl, (blk_cell BK410.out 1).trans rfl, HS2_, HS3_, HS4_⟩ (fun hHeld => ?_)
               clear hK K
               refine norm_ (a' := ?_) ?_ ?_
               rotate_left
               ·show Act.put _ (some 101) _ = _
                simp only [Act.put, sA_, sZ_, sS_, i64_w, i32_w]
                rfl
               refine one_ (i := 5) (N := some 98) #[true, true, true, true, true, true, true, true, true, false, false] rfl rfl (one_of HT_.out (by kernel_rfl)) (by decide) (fun K hK => ?_)
               refine goes_ Try.func16 (by kernel_rfl) rfl #[.agg #[.int .i64 t386, .slice Ao63 x411001_2.length co63], .int .i64 ((rd_T38 t414 0).f1)] (by rfl) rfl rfl (by first | rfl | (simp only [List.map_toArray, List.map_cons, List.map_nil, List.length_drop, List.length_take]; try rfl)) ?_
               with_reducible refine (impl_TrailEnds.calls kj59 t386 _ _ x411001_2 ((rd_T38 t414 0).f1) t420 _ ?side1 ?side2 A71.out).mono ?_
               (case side1 => repeat (first | exact (Kd.Q_reads' HO_411001.out).2.2 | (with_reducible refine Kd.C_alloc ?_ _) | (with_reducible refine Kd.C_drewN ?_ _) | (with_reducible refine Kd.C_drew ?_)))
               (case side2 => exact (Kd.Q_reads' HO_411001.out).2.1)
               rintro e w77 ⟨v421, rfl, ho0, hb⟩
               have HS2_ := (hb.cell (World.block_lt_of_cell? _ _ (hHeld.2.2.1))).trans (hHeld.2.2.1)
               have HS3_ := (hb.cell (World.block_lt_of_cell? _ _ (hHeld.2.2.2.1))).trans (hHeld.2.2.2.1)
               have HS4_ := (hb.cell (World.block_lt_of_cell? _ _ (hHeld.2.2.2.2))).trans (hHeld.2.2.2.2)
               refine ⟨_, rfl, ?_⟩
               have n0_ := Aside0.mk (Kd.R_elder' (kR HO_8.out) (Kd.R_base ho0) hb)
               have n1_ := Aside0.mk (Kd.Q_below (by (with_reducible repeat apply Kd.Q_alloc); exact HO_392001.out) hb)
               have n2_ := Aside0.mk (Kd.Q_below (by (with_reducible repeat apply Kd.Q_alloc); exact HO_411001.out) hb)
               have n3_ := Aside0.mk (Kd.R_elder' (kR HO425.out) (Kd.R_base ho0) hb)
               have n4_ := Aside0.mk (Kd.R_lower (Kd.R_new' (Kd.R_new' ho0 (Kd.R_lt (kR HO_8.out))) (Kd.R_lt (kR HO425.out))) (below_size (by repeat first | exact HB.out | with_reducible refine below_setA ?_ ‹_› | apply below_alloc | apply pw_below_drewN)))
               have n5_ := Aside0.mk (blk_below (bK BK391.out) hb)
               have n6_ := Aside0.mk (blk_below (bK BK410.out) hb)
               have n7_ := Aside0.mk (below_step (by repeat first | exact HB.out | with_reducible refine below_setA ?_ ‹_› | apply below_alloc | apply pw_below_drewN) hb)
               clear HO_8
               clear HO_392001
               clear HO_411001
               clear HO425
               clear BK391
               clear BK410
               clear HB
               have HO_8 := n0_
               have HO_392001 := n1_
               have HO_411001 := n2_
               have HO425 := n3_
               have HO422 := n4_
               have BK391 := n5_
               have BK410 := n6_
               have HB := n7_
               clear n0_ n1_ n2_ n3_ n4_ n5_ n6_ n7_
               (try clear hb)
               (try clear hb2)
               (try clear hk)
               (try clear hi)
               (try clear ho0)
               refine hK.out _ _ ⟨(blk_cell BK410.out 0).trans rfl, (blk_cell BK410.out 1).trans rfl, HS2_, HS3_, HS4_⟩ (fun hHeld => ?_)
               clear hK K
               refine norm_ (a' := ?_) ?_ ?_
               rotate_left
               ·show Act.put _ (some 98) _ = _
                simp only [Act.put, sA_, sZ_, sS_, i64_w, i32_w]
                rfl
               exact norm_ (by simp only [putAll, Act.put, List.setIfInBounds_toArray, List.set_cons_zero, List.set_cons_succ]) (hCont (v421, v424) _ ⟨hHeld, (by (with_reducible repeat apply Kd.R_alloc); exact Kd.R_mono HO422.out (fun _ hk => ⟨hk.2, hk.1.2⟩)), (by (with_reducible repeat apply Kd.R_alloc); exact Kd.R_mono HO425.out (fun _ hk => ⟨hk.2, hk.1.2⟩)), (by (with_reducible repeat apply Kd.Q_alloc); exact HO_392001.out), (by (with_reducible repeat apply Kd.Q_alloc); exact HO_411001.out), (by (with_reducible repeat apply Kd.R_alloc); exact Kd.R_mono HO_8.out (fun _ hk => ⟨hk.2, hk.1.2⟩)), (bK BK391.out), (bK BK410.out), (by repeat first | exact HB.out | with_reducible refine below_setA ?_ ‹_› | apply below_alloc | apply pw_below_drewN)⟩)
             rintro ⟨v421, v424⟩ w78 ⟨hS_, h0_, h1_, h2_, h3_, h4_, h5_, h6_, h7_⟩
             have n0_ : Aside0 (Kd.R k38 38 w78 w.heap.size (fun k_ => some k_ ≠ (v424 : Value).ownBlock ∧ some k_ ≠ (.slice (some ad419) t414.length co74 : Value).ownBlock) v421 t420) := ⟨h0_⟩
             have n1_ : Aside0 (Kd.R k38 38 w78 w.heap.size (fun k_ => some k_ ≠ (v421 : Value).ownBlock ∧ some k_ ≠ (.slice (some ad419) t414.length co74 : Value).ownBlock) v424 y423) := ⟨h1_⟩
             have n2_ : Aside0 (Kd.Q k42 42 w78 w.heap.size (fun k_ => some k_ ≠ (.slice Ao63 x411001_2.length co63 : Value).ownBlock) u392001 x392001_2) := ⟨h2_⟩
             have n3_ : Aside0 (Kd.Q k42 42 w78 w.heap.size (fun k_ => some k_ ≠ (u392001 : Value).ownBlock) (.slice Ao63 x411001_2.length co63) x411001_2) := ⟨h3_⟩
             have n4_ : Aside0 (Kd.R k38 38 w78 w.heap.size (fun k_ => some k_ ≠ (v421 : Value).ownBlock ∧ some k_ ≠ (v424 : Value).ownBlock) (.slice (some ad419) t414.length co74) t414) := ⟨h4_⟩
             have n5_ : Aside0 (w78.heap[gb391]? = some (.cells #[.int .i64 t386, u392001] 25 (0, 0))) := ⟨h5_⟩
             have n6_ : Aside0 (w78.heap[gb410]? = some (.cells #[.int .i64 t386, .slice Ao63 x411001_2.length co63] 25 (0, 0))) := ⟨h6_⟩
             have n7_ : Aside0 (Below w.heap.size w w78) := ⟨h7_⟩
             clear HO_8
             clear HO_392001
             clear HO_411001
             clear BK391
             clear BK410
             clear HB
             clear h0_ h1_ h2_ h3_ h4_ h5_ h6_ h7_
             have HO422 := n0_
             have HO425 := n1_
             have HO_392001 := n2_
             have HO_411001 := n3_
             have HO_8 := n4_
             have BK391 := n5_
             have BK410 := n6_
             have HB := n7_
             clear n0_ n1_ n2_ n3_ n4_ n5_ n6_ n7_
             have hHeld : w78.cell? ⟨gb410, 0, none⟩ = some (.int .i64 t386) ∧ w78.cell? ⟨gb410, 1, none⟩ = some (.slice Ao63 x411001_2.length co63) ∧ w78.cell? ad419 = some (.int .i64 ((rd_T38 t414 0).f0)) ∧ w78.cell? ⟨ad419.block, ad419.off + 1, none⟩ = some (.int .i64 ((rd_T38 t414 0).f1)) ∧ w78.cell? ⟨ad419.block, ad419.off + 2, none⟩ = some (.int .i64 ((rd_T38 t414 0).f2)) := hS_
             obtain ⟨Ao79, co79, eo79⟩ := Kd.R_slice HO422.out
             (first | subst eo79 | (injection eo79 with f1_ f2_ f3_; have f4_ := f1_.symm; have f5_ := f3_.symm; clear f1_ f2_ f3_; subst f4_; subst f5_))
             obtain ⟨Ao80, co80, eo80⟩ := Kd.R_slice HO425.out
             (first | subst eo80 | (injection eo80 with f1_ f2_ f3_; have f4_ := f1_.symm; have f5_ := f3_.symm; clear f1_ f2_ f3_; subst f4_; subst f5_))
             refine norm_ (a' := ?_) ?_ ?_
             rotate_left
             ·simp only [putAll, Act.put, List.setIfInBounds_toArray, List.set_cons_zero, List.set_cons_succ]
              rfl
             refine one_ (i := 9) (N := some 102) #[true, true, true, true, true, true, true, true, true, true, false] rfl rfl (one_of HT_.out (by kernel_rfl)) (by decide) (fun K hK => ?_)
             refine goes_ Try.func18 (by kernel_rfl) rfl #[.slice Ao79 t420.length co79, .slice Ao80 y423.length co80] (by rfl) rfl rfl (by first | rfl | (simp only [List.map_toArray, List.map_cons, List.map_nil, List.length_drop, List.length_take]; try rfl)) ?_
             with_reducible refine (laws_llEnds.calls kj59 _ _ t420 _ _ y423 t426 _ ?side1 ?side2 ?side3 ?side4 A72.out).mono ?_
             (case side1 => repeat (first | exact (Kd.R_reads' HO422.out).2.2 | (with_reducible refine Kd.C_alloc ?_ _) | (with_reducible refine Kd.C_drewN ?_ _) | (with_reducible refine Kd.C_drew ?_)))
             (case side2 => exact (Kd.R_reads' HO422.out).2.1)
             (case side3 => repeat (first | exact (Kd.R_reads' HO425.out).2.2 | (with_reducible refine Kd.C_alloc ?_ _) | (with_reducible refine Kd.C_drewN ?_ _) | (with_reducible refine Kd.C_drew ?_)))
             (case side4 => exact (Kd.R_reads' HO425.out).2.1)
             rintro e w' ⟨rfl, ⟨nd, rfl⟩⟩
             refine ⟨_, rfl, ?_⟩
             refine hK.out _ _ ⟨(blk_cell BK410.out 0).trans rfl, (blk_cell BK410.out 1).trans rfl, hHeld.2.2.1, hHeld.2.2.2.1, hHeld.2.2.2.2⟩ (fun hHeld => ?_)
             clear hK K
             refine norm_ (a' := ?_) ?_ ?_
             rotate_left
             ·show Act.put _ (some 102) _ = _
              simp only [Act.put, sA_, sZ_, sS_, i64_w, i32_w]
              rfl
             refine pure_ (i := 10) (N := some 2) (v := ?_) (a' := ?_) #[true, true, true, true, true, true, true, true, true, true, true] rfl rfl (any_of HT_.out (by kernel_rfl)) (fun _ _ _ h => h) (Or.inl ⟨by rfl, ?_⟩) ?_ ?_
             rotate_left
             ·intro w'
              go_simp
              with_reducible rfl
             rotate_left
             ·simp only [Act.put, sA_, sZ_, sS_, i64_w, i32_w]
              rfl
             refine done_ (done_of HT_.out (by kernel_rfl)) ?_
             try go_wp2
             go_ret
             exact ⟨by first | rfl | (simp [errW_none, errW_some] <;> rfl) | (simp [*, errW_none, errW_some] <;> rfl) | (exfalso; simp_all; done), by repeat first | exact HB.out | with_reducible refine below_setA ?_ ‹_› | apply below_alloc | apply pw_below_drewN⟩
            ·rw [if_neg c70] at H
             exact absurd H (by simp)
     ·rw [if_neg c32] at H
      exact absurd H (by simp)
/-- THE ONE PURE STATEMENT of laws_FnTrailPairs: yours. -/
def laws_FnTrailPairs.Pure : Prop := ∀ (l0 : List Int), l0.length <= maxLen -> l0.length * 1 <= 140737488351232 -> (∀ x ∈ l0, (Lit.int .u8 x).wf = true) -> ∃ k, laws_FnTrailPairs.f k l0 = some true
theorem laws_FnTrailPairs.walk (P : laws_FnTrailPairs.Pure) (a0 : Option Addr) (len0 cap0 : Nat) (z0 : List Int) (w : World) (w0 : (a0 = none ∧ len0 = 0 ∧ cap0 = 0 ∧ z0 = []) ∨ ∃ x, a0 = some x ∧ len0 <= cap0 ∧ cap0 <= maxLen ∧ z0.length = cap0 ∧ (∀ i, i < z0.length -> w.cell? (x.add i) = some (.int .u8 (z0.getD i 0))) ∧ ∀ n ∈ z0, (Lit.int .u8 n).wf = true) (y0 : len0 * 1 <= 140737488351232) :
  Calls Try.prog 4 #[.slice a0 len0 cap0] w fun e w' => e = .returned (.bool true) ∧ Below w.heap.size w w' := by
 obtain ⟨l0, rfl, hr0, hm0, hw0, hc0⟩ := ReadsInt.ofRowC w0
 obtain ⟨k, h⟩ := P l0 hm0 y0 hw0
 refine (laws_FnTrailPairs.calls k _ _ l0 true w (Kd.C_of_reads (d := (0 : Int)) (h1 := fun _ => rfl) hr0) hc0 h rfl).mono ?_
 rintro e w' ⟨rfl, hd⟩
 exact ⟨rfl, hd⟩
end Go.Proofs.Yteapnipnoadejaa.P
