/- PROVED: contracts of functions; No condition. -/
import Derived.Test.YteapnipnoadejaaPx0
import Derived.Test.YteapnipnoadejaaPx13
import Derived.Test.YteapnipnoadejaaPx36
import Derived.Test.YteapnipnoadejaaPx37
import Derived.Test.YteapnipnoadejaaPx39
import Derived.Test.YteapnipnoadejaaPx40
import Derived.Test.YteapnipnoadejaaPx43
import Derived.Test.YteapnipnoadejaaT3Go
namespace Go.Proofs.Yteapnipnoadejaa.P
open Go.RowKit Go.Proofs.YteapnipnoadejaaW
set_option linter.unusedVariables false
set_option linter.unusedSimpArgs false
mutual
def laws_FnTrailLamp.j0 : Nat -> Int -> List (S38) -> Bool -> Int -> List (S42) -> Option (Bool)
 | 0, _, _, _, _, _ => none
 | k + 1, x4, x5, x32, x568000, x568001 => if x32 = true then ((spec_TrailEnds.f k x568000 x568001 x4).bind fun t576 => ((laws_llEnds.f k x5 t576).bind fun t579 => (some t579))) else ((some (([] : List (S42)) : List (S42))).bind fun y580 => (if y580.length + x568001.length < 8796093022208 then (laws_FnTrailLamp.l0 k x4 x5 0 x568000 x568001 x568000 (y580 ++ x568001)) else (none)))
def laws_FnTrailLamp.l0 : Nat -> Int -> List (S38) -> Int -> Int -> List (S42) -> Int -> List (S42) -> Option (Bool)
 | 0, _, _, _, _, _, _, _ => none
 | k + 1, x4, x5, x7, x568000, x568001, x587000, x587001 => if x7 < (x587001.length : Int) then (if 0 <= x7 then (if ((rd_T42 x587001 x7).f0) = 7 then (laws_FnTrailLamp.l0 k x4 x5 (wrap64 (x7 + 1)) x568000 x568001 x587000 (x587001.set (x7 : Int).toNat (⟨1, 0⟩ : S42))) else (laws_FnTrailLamp.l0 k x4 x5 (wrap64 (x7 + 1)) x568000 x568001 x587000 x587001)) else (none)) else ((some (([] : List (S38)) : List (S38))).bind fun y589 => (if y589.length + x5.length < 5864062014805 then (laws_FnTrailLamp.l1 k x4 (y589 ++ x5) 0 x568000 x568001 x587000 x587001) else (none)))
def laws_FnTrailLamp.l1 : Nat -> Int -> List (S38) -> Int -> Int -> List (S42) -> Int -> List (S42) -> Option (Bool)
 | 0, _, _, _, _, _, _, _ => none
 | k + 1, x4, x8, x9, x568000, x568001, x587000, x587001 => if x9 < (x8.length : Int) then (if 0 <= x9 then (if ((rd_T38 x8 x9).f0) = 2 then (laws_FnTrailLamp.l1 k x4 (x8.set (x9 : Int).toNat (⟨1, (rd_T38 x8 x9).f1, (rd_T38 x8 x9).f2⟩ : S38)) (wrap64 (x9 + 1)) x568000 x568001 x587000 x587001) else (laws_FnTrailLamp.l1 k x4 x8 (wrap64 (x9 + 1)) x568000 x568001 x587000 x587001)) else (none)) else ((impl_TrailEnds.f k x587000 x587001 x4).bind fun t597 => ((laws_llEnds.f k t597 x8).bind fun t600 => (if t600 = true then ((impl_TrailVisits.f k x587000 x587001 x4).bind fun t601 => ((impl_TrailVisits.f k x568000 x568001 x4).bind fun t604 => ((laws_llVisits.f k t601 t604).bind fun t607 => (some t607)))) else (some false))))
end
def laws_FnTrailLamp.f (k : Nat) (l0 : List Int) : Option (Bool) := if (l0.length : Int) > 1048576 then (some true) else ((spec_DrawTrailEnds.f k l0).bind fun bt562 => ((impl_TrailEnds.f k bt562.1 bt562.2.1 bt562.2.2).bind fun t568 => ((spec_TrailEnds.f k bt562.1 bt562.2.1 bt562.2.2).bind fun t571 => ((laws_llEnds.f k t568 t571).bind fun t574 => (if t574 = true then ((laws_llSight.f k bt562.1 bt562.2.1 bt562.2.2).bind fun t575 => (laws_FnTrailLamp.j0 k bt562.2.2 t568 (!t575) bt562.1 bt562.2.1)) else (laws_FnTrailLamp.j0 k bt562.2.2 t568 true bt562.1 bt562.2.1))))))
def laws_FnTrailLamp.T7 : Bool × List (List Nat × List Nat) := (true, [([], []), ([0], [0]), ([], []), ([], []), ([3], [3]), ([2, 4], [2, 4]), ([1, 5], [1, 5]), ([], []), ([7, 6, 5, 0, 1, 2, 3, 4, 5, 6, 7], [6, 7])])
def laws_FnTrailLamp.B7 : List Nat := [0, 1, 0, 0, 8, 28, 63, 0, 255]
theorem laws_FnTrailLamp.tab7 : rtab .any (opsOf Try.f8 7) = laws_FnTrailLamp.T7 := by kernel_rfl
theorem laws_FnTrailLamp.bits7 : waitsOk laws_FnTrailLamp.T7.2 laws_FnTrailLamp.B7 = true := by kernel_rfl
def laws_FnTrailLamp.T19 : Bool × List (List Nat × List Nat) := (true, [([], []), ([], []), ([0, 1], [0, 1]), ([], []), ([2, 3, 2], [2, 3]), ([4, 4], [4]), ([5], [5]), ([5], [5]), ([6, 7, 5, 5], [5, 6, 7]), ([5], [5]), ([5], [5]), ([9, 10, 8, 5], [5, 9, 10]), ([8, 11, 11, 5], [5, 8, 11]), ([5, 12], [5, 12]), ([13, 12, 0, 1, 2, 3, 4, 5, 6, 7, 8, 9, 10, 11, 12, 13], [13])])
def laws_FnTrailLamp.B19 : List Nat := [0, 0, 3, 0, 15, 31, 63, 63, 255, 63, 63, 2047, 4095, 8191, 16383]
theorem laws_FnTrailLamp.tab19 : rtab .any (opsOf Try.f8 19) = laws_FnTrailLamp.T19 := by kernel_rfl
theorem laws_FnTrailLamp.bits19 : waitsOk laws_FnTrailLamp.T19.2 laws_FnTrailLamp.B19 = true := by kernel_rfl
set_option maxHeartbeats 8000000 in
set_option maxRecDepth 100000 in
theorem laws_FnTrailLamp.calls (k : Nat) (A0 : Option Addr) (c0 : Nat) (l0 : List Int) (r : Bool) (w : World) (hr0 : Kd.C (Kd.int .u8) w A0 l0.length l0) (hc0 : l0.length <= c0) (h : laws_FnTrailLamp.f k l0 = some r) (hrt : r = true) :
  Calls Try.prog 8 #[.slice A0 l0.length c0] w fun e w' => e = .returned (.bool r) ∧ Below w.heap.size w w' := by
 have HRT := Aside0.mk hrt
 clear hrt
 have hu25 := Try.underlying25
 have hu42 := Try.underlying42
 have HR0 := Aside0.mk hr0
 have HC0 := Aside0.mk hc0
 clear hr0 hc0
 have HB := Aside0.mk (Below.refl w.heap.size w)
 have H : (if (l0.length : Int) > 1048576 then (some true) else ((spec_DrawTrailEnds.f k l0).bind fun bt562 => ((impl_TrailEnds.f k bt562.1 bt562.2.1 bt562.2.2).bind fun t568 => ((spec_TrailEnds.f k bt562.1 bt562.2.1 bt562.2.2).bind fun t571 => ((laws_llEnds.f k t568 t571).bind fun t574 => (if t574 = true then ((laws_llSight.f k bt562.1 bt562.2.1 bt562.2.2).bind fun t575 => (laws_FnTrailLamp.j0 k bt562.2.2 t568 (!t575) bt562.1 bt562.2.1)) else (laws_FnTrailLamp.j0 k bt562.2.2 t568 true bt562.1 bt562.2.1))))))) = some r := h
 clear h
 by_cases c2 : (l0.length : Int) > 1048576
 ·rw [if_pos c2] at H
  have c2b0 : decide (1048576 < (l0.length : Int)) = true := decide_eq_true c2
  have c2b1 : decide (1048576 < l0.length) = true := decide_eq_true (by omega)
  clear c2
  obtain rfl := Option.some.inj H
  go_enter Try.func8, Try.ntmps8
  go_wp2
  go_ret
  exact ⟨by first | rfl | (simp [errW_none, errW_some] <;> rfl) | (simp [*, errW_none, errW_some] <;> rfl) | (exfalso; simp_all; done), by repeat first | exact HB.out | apply below_alloc | apply pw_below_drewN⟩
 ·rw [if_neg c2] at H
  have c2b0 : decide (1048576 < (l0.length : Int)) = false := decide_eq_false c2
  have c2b1 : decide (1048576 < l0.length) = false := decide_eq_false (by omega)
  clear c2
  replace H := Option.bind_eq_some_iff.mp H
  obtain ⟨⟨t562, t563, t566⟩, A30, H⟩ := H
  replace H : ((impl_TrailEnds.f k t562 t563 t566).bind fun t568 => ((spec_TrailEnds.f k t562 t563 t566).bind fun t571 => ((laws_llEnds.f k t568 t571).bind fun t574 => (if t574 = true then ((laws_llSight.f k t562 t563 t566).bind fun t575 => (laws_FnTrailLamp.j0 k t566 t568 (!t575) t562 t563)) else (laws_FnTrailLamp.j0 k t566 t568 true t562 t563))))) = some r := H
  have A3 := Aside0.mk A30
  clear A30
  replace H := Option.bind_eq_some_iff.mp H
  obtain ⟨t568, A40, H⟩ := H
  replace H : ((spec_TrailEnds.f k t562 t563 t566).bind fun t571 => ((laws_llEnds.f k t568 t571).bind fun t574 => (if t574 = true then ((laws_llSight.f k t562 t563 t566).bind fun t575 => (laws_FnTrailLamp.j0 k t566 t568 (!t575) t562 t563)) else (laws_FnTrailLamp.j0 k t566 t568 true t562 t563)))) = some r := H
  have A4 := Aside0.mk A40
  clear A40
  have HC5 := Aside0.mk H
  clear H
  go_enter Try.func8, Try.ntmps8
  go_upto_region 5 with (first | ((with_reducible refine gate_callee (f := 17) rfl ?_); refine goesL_ (some 15) rfl rfl Try.func17 (by kernel_rfl) rfl #[.slice A0 l0.length c0] rfl (by first | rfl | (simp only [List.map_toArray, List.map_cons, List.map_nil, List.length_drop, List.length_take]; try rfl)) ?_; (with_reducible refine (spec_DrawTrailEnds.calls k _ _ l0 t562 t563 t566 _ ?side1 ?side2 A3.out).mono ?_); (case side1 => repeat (first | exact HR0.out | (with_reducible refine Kd.C_alloc ?_ _) | (with_reducible refine Kd.C_drewN ?_ _) | (with_reducible refine Kd.C_drew ?_))); (case side2 => exact HC0.out); rintro e w6 ⟨v564, rfl, ho0, hb⟩; refine ⟨_, rfl, ?_⟩; have n0_ := Aside0.mk (Kd.Q_lower ho0 (below_size (by repeat first | exact HB.out | apply below_alloc | apply pw_below_drewN))); have n1_ := Aside0.mk (below_step (by repeat first | exact HB.out | apply below_alloc | apply pw_below_drewN) hb); clear HB; have HO565 := n0_; have HB := n1_; clear n0_ n1_; (try clear hb); (try clear hb2); (try clear hk); (try clear hi); (try clear ho0)) | ((with_reducible refine gate_dst (N := 3) rfl ?_); refine box_event rfl (N := 3) rfl (cs := #[.int .i64 0, .slice none 0 0]) (t := 25) ?hr ?_; (case hr => first | (go_simp; done) | (go_simp; rfl)); intro gb567 hg w7 hbox hb; have n0_ := Aside0.mk (Kd.Q_below (by (with_reducible repeat apply Kd.Q_alloc); exact HO565.out) hb); have n1_ := Aside0.mk (below_step (by repeat first | exact HB.out | apply below_alloc | apply pw_below_drewN) hb); have n2_ := Aside0.mk (hbox); have n3_ := Aside0.mk ((by rw [hg]; exact (below_size (by repeat first | exact HB.out | apply below_alloc | apply pw_below_drewN)) : w.heap.size <= gb567)); have n4_ := n3_; clear HO565; clear HB; have HO565 := n0_; have HB := n1_; have BK567 := n2_; have GW567 := n3_; have GE567 := n4_; clear n0_ n1_ n2_ n3_ n4_; clear hb hbox hg; have hcz8_0 : w7.cell? ⟨gb567, 0, none⟩ = some (.int .i64 0) := (blk_cell BK567.out 0).trans rfl; have hcz8_1 : w7.cell? ⟨gb567, 1, none⟩ = some (.slice none 0 0) := (blk_cell BK567.out 1).trans rfl; have hfz8_0 := blk_frozen BK567.out 0; have hfz8_1 := blk_frozen BK567.out 1; obtain ⟨Ao9, co9, eo9, _⟩ := Kd.Q_slice HO565.out; subst eo9) | ((with_reducible refine gate_callee (f := 16) rfl ?_); refine goesL_ (some 20) rfl rfl Try.func16 (by kernel_rfl) rfl #[.agg #[.int .i64 t562, .slice Ao9 t563.length co9], .int .i64 t566] rfl (by first | rfl | (simp only [List.map_toArray, List.map_cons, List.map_nil, List.length_drop, List.length_take]; try rfl)) ?_; (with_reducible refine (impl_TrailEnds.calls k t562 _ _ t563 t566 t568 _ ?side1 ?side2 A4.out).mono ?_); (case side1 => refine (Kd.Q_reads' (e := 42) (base := w.heap.size) (ok := fun k_ => True) (n := t563.length) (c := co9) ?_).2.2; exact (by (with_reducible repeat apply Kd.Q_alloc); exact (Kd.Q_mono (Kd.Q_far (p := ⟨gb567, 1, none⟩) (Kd.Q_far (p := ⟨gb567, 0, none⟩) (Kd.Q_types HO565.out BK567.out (by decide)) (fun _ hk => hk.2) (.int .i64 t562)) (fun _ hk => hk.2) (.slice Ao9 t563.length co9)) (fun _ h_ => h_.1)))); (case side2 => exact (Kd.Q_reads' HO565.out).2.1); rintro e w10 ⟨v569, rfl, ho0, hb⟩; refine ⟨_, rfl, ?_⟩; have n0_ := Aside0.mk (Kd.Q_below (by (with_reducible repeat apply Kd.Q_alloc); exact (Kd.Q_mono (Kd.Q_far (p := ⟨gb567, 1, none⟩) (Kd.Q_far (p := ⟨gb567, 0, none⟩) (Kd.Q_types HO565.out BK567.out (by decide)) (fun _ hk => hk.2) (.int .i64 t562)) (fun _ hk => hk.2) (.slice Ao9 t563.length co9)) (fun _ h_ => h_.1))) hb); have n1_ := Aside0.mk (Kd.R_lower ho0 (below_size (by repeat first | exact HB.out | with_reducible refine below_setA ?_ ‹_› | apply below_alloc | apply pw_below_drewN))); have n2_ := Aside0.mk (blk_below (g := gb567) (o := .cells #[.int .i64 t562, .slice Ao9 t563.length co9] 25 (0, 0)) (by (with_reducible repeat apply blk_alloc); refine blk_put (cs := #[.int .i64 t562, .slice none 0 0]) ?_ 1 _ rfl; (with_reducible repeat apply blk_alloc); refine blk_put (cs := #[.int .i64 0, .slice none 0 0]) ?_ 0 _ rfl; (with_reducible repeat apply blk_alloc); exact BK567.out) hb); have n3_ := Aside0.mk (below_step (by repeat first | exact HB.out | with_reducible refine below_setA ?_ ‹_› | apply below_alloc | apply pw_below_drewN) hb); clear HO565; clear BK567; clear HB; have HO565 := n0_; have HO570 := n1_; have BK567 := n2_; have HB := n3_; clear n0_ n1_ n2_ n3_; (try clear hb); (try clear hb2); (try clear hk); (try clear hi); (try clear ho0)))
  (try simp only [Act.put, List.setIfInBounds_toArray, List.set_cons_zero, List.set_cons_succ])
  go_cut [32] (fun v32 wc => ∃ (kq : Nat) (x32_4 : Bool), v32 = .bool x32_4 ∧ Aside0 (laws_FnTrailLamp.j0 kq t566 t568 x32_4 t562 t563 = some r) ∧ Aside0 (kq <= k) ∧ Aside0 (Kd.R k38 38 wc w.heap.size (fun _ => True) v569 t568) ∧ Aside0 (Kd.Q k42 42 wc w.heap.size (fun _ => True) (.slice Ao9 t563.length co9) t563) ∧ Aside0 (wc.heap[gb567]? = some (.cells #[.int .i64 t562, (.slice Ao9 t563.length co9)] 25 (0, 0))) ∧ Aside0 (Below w.heap.size w wc))
  case first =>
   have H := HC5.out
   clear HC5
   replace H := Option.bind_eq_some_iff.mp H
   obtain ⟨t571, A110, H⟩ := H
   replace H : ((laws_llEnds.f k t568 t571).bind fun t574 => (if t574 = true then ((laws_llSight.f k t562 t563 t566).bind fun t575 => (laws_FnTrailLamp.j0 k t566 t568 (!t575) t562 t563)) else (laws_FnTrailLamp.j0 k t566 t568 true t562 t563))) = some r := H
   have A11 := Aside0.mk A110
   clear A110
   replace H := Option.bind_eq_some_iff.mp H
   obtain ⟨t574, A120, H⟩ := H
   replace H : (if t574 = true then ((laws_llSight.f k t562 t563 t566).bind fun t575 => (laws_FnTrailLamp.j0 k t566 t568 (!t575) t562 t563)) else (laws_FnTrailLamp.j0 k t566 t568 true t562 t563)) = some r := H
   have A12 := Aside0.mk A120
   clear A120
   by_cases c13 : t574 = true
   ·subst c13
    have H1 : ((laws_llSight.f k t562 t563 t566).bind fun t575 => (laws_FnTrailLamp.j0 k t566 t568 (!t575) t562 t563)) = some r := by rw [if_pos rfl] at H; exact H
    clear H
    have H := H1
    clear H1
    replace H := Option.bind_eq_some_iff.mp H
    obtain ⟨t575, A140, H⟩ := H
    replace H : (laws_FnTrailLamp.j0 k t566 t568 (!t575) t562 t563) = some r := H
    have A14 := Aside0.mk A140
    clear A140
    have H' := Aside0.mk H
    clear H
    have hcz15_0 : w10.cell? ⟨gb567, 0, none⟩ = some (.int .i64 t562) := (blk_cell BK567.out 0).trans rfl
    have hcz15_1 : w10.cell? ⟨gb567, 1, none⟩ = some (.slice Ao9 t563.length co9) := (blk_cell BK567.out 1).trans rfl
    have hfz15_0 := blk_frozen BK567.out 0
    have hfz15_1 := blk_frozen BK567.out 1
    go_wp2_with (first | ((with_reducible refine gate_callee (f := 19) rfl ?_); refine goesL_ (some 24) rfl rfl Try.func19 (by kernel_rfl) rfl #[.agg #[.int .i64 t562, .slice Ao9 t563.length co9], .int .i64 t566] rfl (by first | rfl | (simp only [List.map_toArray, List.map_cons, List.map_nil, List.length_drop, List.length_take]; try rfl)) ?_; (with_reducible refine (spec_TrailEnds.calls k t562 _ _ t563 t566 t571 _ ?side1 ?side2 A11.out).mono ?_); (case side1 => repeat (first | exact (Kd.Q_reads' HO565.out).2.2 | (with_reducible refine Kd.C_alloc ?_ _) | (with_reducible refine Kd.C_drewN ?_ _) | (with_reducible refine Kd.C_drew ?_))); (case side2 => exact (Kd.Q_reads' HO565.out).2.1); rintro e w16 ⟨v572, rfl, ho0, hb⟩; refine ⟨_, rfl, ?_⟩; have n0_ := Aside0.mk (Kd.Q_below (by (with_reducible repeat apply Kd.Q_alloc); exact HO565.out) hb); have n1_ := Aside0.mk (Kd.R_elder' (kR HO570.out) (Kd.R_base ho0) hb); have n2_ := Aside0.mk (Kd.R_lower (Kd.R_new' ho0 (Kd.R_lt (kR HO570.out))) (below_size (by repeat first | exact HB.out | with_reducible refine below_setA ?_ ‹_› | apply below_alloc | apply pw_below_drewN))); have n3_ := Aside0.mk (blk_below (bK BK567.out) hb); have n4_ := Aside0.mk (below_step (by repeat first | exact HB.out | with_reducible refine below_setA ?_ ‹_› | apply below_alloc | apply pw_below_drewN) hb); clear HO565; clear HO570; clear BK567; clear HB; have HO565 := n0_; have HO570 := n1_; have HO573 := n2_; have BK567 := n3_; have HB := n4_; clear n0_ n1_ n2_ n3_ n4_; (try clear hb); (try clear hb2); (try clear hk); (try clear hi); (try clear ho0); obtain ⟨Ao17, co17, eo17⟩ := Kd.R_slice HO570.out; subst eo17; obtain ⟨Ao18, co18, eo18⟩ := Kd.R_slice HO573.out; subst eo18) | ((with_reducible refine gate_callee (f := 18) rfl ?_); refine goesL_ (some 25) rfl rfl Try.func18 (by kernel_rfl) rfl #[.slice Ao17 t568.length co17, .slice Ao18 t571.length co18] rfl (by first | rfl | (simp only [List.map_toArray, List.map_cons, List.map_nil, List.length_drop, List.length_take]; try rfl)) ?_; (with_reducible refine (laws_llEnds.calls k _ _ t568 _ _ t571 true _ ?side1 ?side2 ?side3 ?side4 A12.out).mono ?_); (case side1 => repeat (first | exact (Kd.R_reads' HO570.out).2.2 | (with_reducible refine Kd.C_alloc ?_ _) | (with_reducible refine Kd.C_drewN ?_ _) | (with_reducible refine Kd.C_drew ?_))); (case side2 => exact (Kd.R_reads' HO570.out).2.1); (case side3 => repeat (first | exact (Kd.R_reads' HO573.out).2.2 | (with_reducible refine Kd.C_alloc ?_ _) | (with_reducible refine Kd.C_drewN ?_ _) | (with_reducible refine Kd.C_drew ?_))); (case side4 => exact (Kd.R_reads' HO573.out).2.1); rintro e w' ⟨rfl, ⟨nd, rfl⟩⟩; refine ⟨_, rfl, ?_⟩; have hcz19_0 : w16.cell? ⟨gb567, 0, none⟩ = some (.int .i64 t562) := (blk_cell BK567.out 0).trans rfl; have hcz19_1 : w16.cell? ⟨gb567, 1, none⟩ = some (.slice Ao9 t563.length co9) := (blk_cell BK567.out 1).trans rfl; have hfz19_0 := blk_frozen BK567.out 0; have hfz19_1 := blk_frozen BK567.out 1) | (go_at_call 14; (with_reducible refine (laws_llSight.calls k t562 _ _ t563 t566 t575 _ ?side1 ?side2 A14.out).mono ?_); (case side1 => repeat (first | exact (Kd.Q_reads' HO565.out).2.2 | (with_reducible refine Kd.C_alloc ?_ _) | (with_reducible refine Kd.C_drewN ?_ _) | (with_reducible refine Kd.C_drew ?_))); (case side2 => exact (Kd.Q_reads' HO565.out).2.1); rintro e w20 ⟨rfl, hb⟩; have n0_ := Aside0.mk (Kd.Q_below (by (with_reducible repeat apply Kd.Q_alloc); exact HO565.out) hb); have n1_ := Aside0.mk (Kd.R_below (kR HO570.out) hb); have n2_ := Aside0.mk (Kd.R_below (kR HO573.out) hb); have n3_ := Aside0.mk (blk_below (bK BK567.out) hb); have n4_ := Aside0.mk (below_step (by repeat first | exact HB.out | with_reducible refine below_setA ?_ ‹_› | apply below_alloc | apply pw_below_drewN) hb); clear HO565; clear HO570; clear HO573; clear BK567; clear HB; have HO565 := n0_; have HO570 := n1_; have HO573 := n2_; have BK567 := n3_; have HB := n4_; clear n0_ n1_ n2_ n3_ n4_; (try clear hb); (try clear hb2); (try clear hk); (try clear hi)))
    go_meet
    case rel => exact ⟨_, (!t575), (by first | rfl | (simp; done) | (simp [*]; done)), H', ⟨by first | omega | exact Nat.le_refl _⟩, ⟨by (with_reducible repeat apply Kd.R_alloc); exact Kd.R_mono HO570.out (fun _ hk => trivial)⟩, ⟨by (with_reducible repeat apply Kd.Q_alloc); exact HO565.out⟩, ⟨by (with_reducible repeat apply blk_alloc); exact BK567.out⟩, ⟨by repeat first | exact HB.out | with_reducible refine below_setA ?_ ‹_› | apply below_alloc | apply pw_below_drewN⟩⟩
   ·replace c13 := Bool.eq_false_iff.mpr c13
    subst c13
    have H1 : (laws_FnTrailLamp.j0 k t566 t568 true t562 t563) = some r := by rw [if_neg (show ¬ (false = true) by decide)] at H; exact H
    clear H
    have H := H1
    clear H1
    have H' := Aside0.mk H
    clear H
    have hcz21_0 : w10.cell? ⟨gb567, 0, none⟩ = some (.int .i64 t562) := (blk_cell BK567.out 0).trans rfl
    have hcz21_1 : w10.cell? ⟨gb567, 1, none⟩ = some (.slice Ao9 t563.length co9) := (blk_cell BK567.out 1).trans rfl
    have hfz21_0 := blk_frozen BK567.out 0
    have hfz21_1 := blk_frozen BK567.out 1
    go_wp2_with (first | ((with_reducible refine gate_callee (f := 19) rfl ?_); refine goesL_ (some 24) rfl rfl Try.func19 (by kernel_rfl) rfl #[.agg #[.int .i64 t562, .slice Ao9 t563.length co9], .int .i64 t566] rfl (by first | rfl | (simp only [List.map_toArray, List.map_cons, List.map_nil, List.length_drop, List.length_take]; try rfl)) ?_; (with_reducible refine (spec_TrailEnds.calls k t562 _ _ t563 t566 t571 _ ?side1 ?side2 A11.out).mono ?_); (case side1 => repeat (first | exact (Kd.Q_reads' HO565.out).2.2 | (with_reducible refine Kd.C_alloc ?_ _) | (with_reducible refine Kd.C_drewN ?_ _) | (with_reducible refine Kd.C_drew ?_))); (case side2 => exact (Kd.Q_reads' HO565.out).2.1); rintro e w22 ⟨v572, rfl, ho0, hb⟩; refine ⟨_, rfl, ?_⟩; have n0_ := Aside0.mk (Kd.Q_below (by (with_reducible repeat apply Kd.Q_alloc); exact HO565.out) hb); have n1_ := Aside0.mk (Kd.R_elder' (kR HO570.out) (Kd.R_base ho0) hb); have n2_ := Aside0.mk (Kd.R_lower (Kd.R_new' ho0 (Kd.R_lt (kR HO570.out))) (below_size (by repeat first | exact HB.out | with_reducible refine below_setA ?_ ‹_› | apply below_alloc | apply pw_below_drewN))); have n3_ := Aside0.mk (blk_below (bK BK567.out) hb); have n4_ := Aside0.mk (below_step (by repeat first | exact HB.out | with_reducible refine below_setA ?_ ‹_› | apply below_alloc | apply pw_below_drewN) hb); clear HO565; clear HO570; clear BK567; clear HB; have HO565 := n0_; have HO570 := n1_; have HO573 := n2_; have BK567 := n3_; have HB := n4_; clear n0_ n1_ n2_ n3_ n4_; (try clear hb); (try clear hb2); (try clear hk); (try clear hi); (try clear ho0); obtain ⟨Ao23, co23, eo23⟩ := Kd.R_slice HO570.out; subst eo23; obtain ⟨Ao24, co24, eo24⟩ := Kd.R_slice HO573.out; subst eo24) | ((with_reducible refine gate_callee (f := 18) rfl ?_); refine goesL_ (some 25) rfl rfl Try.func18 (by kernel_rfl) rfl #[.slice Ao23 t568.length co23, .slice Ao24 t571.length co24] rfl (by first | rfl | (simp only [List.map_toArray, List.map_cons, List.map_nil, List.length_drop, List.length_take]; try rfl)) ?_; (with_reducible refine (laws_llEnds.calls k _ _ t568 _ _ t571 false _ ?side1 ?side2 ?side3 ?side4 A12.out).mono ?_); (case side1 => repeat (first | exact (Kd.R_reads' HO570.out).2.2 | (with_reducible refine Kd.C_alloc ?_ _) | (with_reducible refine Kd.C_drewN ?_ _) | (with_reducible refine Kd.C_drew ?_))); (case side2 => exact (Kd.R_reads' HO570.out).2.1); (case side3 => repeat (first | exact (Kd.R_reads' HO573.out).2.2 | (with_reducible refine Kd.C_alloc ?_ _) | (with_reducible refine Kd.C_drewN ?_ _) | (with_reducible refine Kd.C_drew ?_))); (case side4 => exact (Kd.R_reads' HO573.out).2.1); rintro e w' ⟨rfl, ⟨nd, rfl⟩⟩; refine ⟨_, rfl, ?_⟩))
    go_meet
    case rel => exact ⟨_, (true), (by first | rfl | (simp; done) | (simp [*]; done)), H', ⟨by first | omega | exact Nat.le_refl _⟩, ⟨by (with_reducible repeat apply Kd.R_alloc); exact Kd.R_mono HO570.out (fun _ hk => trivial)⟩, ⟨by (with_reducible repeat apply Kd.Q_alloc); exact HO565.out⟩, ⟨by (with_reducible repeat apply blk_alloc); exact BK567.out⟩, ⟨by repeat first | exact HB.out | with_reducible refine below_setA ?_ ‹_› | apply below_alloc | apply pw_below_drewN⟩⟩
  case rest =>
   clear HC5
   try clear c1
   try clear c2
   try clear c2b0
   try clear c2b1
   try clear p2
   try clear c8
   try clear c13
   try clear c16
   try clear c17
   try clear c18
   try clear c19
   try clear hcz15_0
   try clear hcz15_1
   try clear hcz19_0
   try clear hcz19_1
   try clear hcz21_0
   try clear hcz21_1
   try clear hcz8_0
   try clear hcz8_1
   try clear hfz15_0
   try clear hfz15_1
   try clear hfz19_0
   try clear hfz19_1
   try clear hfz21_0
   try clear hfz21_1
   try clear hfz8_0
   try clear hfz8_1
   obtain ⟨kq, x32_4, rfl, HA, HJ4, HO_5, HO_568001, BK567, HB⟩ := hcut
   cases kq with
   | zero => exact absurd HA.out (by simp [laws_FnTrailLamp.j0])
   | succ kj4 =>
    have H := HA.out
    clear HA
    simp only [laws_FnTrailLamp.j0] at H
    by_cases c25 : x32_4 = true
    ·subst c25
     have H1 : ((spec_TrailEnds.f kj4 t562 t563 t566).bind fun t576 => ((laws_llEnds.f kj4 t568 t576).bind fun t579 => (some t579))) = some r := by rw [if_pos rfl] at H; exact H
     clear H
     have H := H1
     clear H1
     replace H := Option.bind_eq_some_iff.mp H
     obtain ⟨t576, A260, H⟩ := H
     replace H : ((laws_llEnds.f kj4 t568 t576).bind fun t579 => (some t579)) = some r := H
     have A26 := Aside0.mk A260
     clear A260
     replace H := Option.bind_eq_some_iff.mp H
     obtain ⟨t579, A270, H⟩ := H
     replace H : (some t579) = some r := H
     have A27 := Aside0.mk A270
     clear A270
     obtain rfl := Option.some.inj H
     have hcz28_0 : wc.cell? ⟨gb567, 0, none⟩ = some (.int .i64 t562) := (blk_cell BK567.out 0).trans rfl
     have hcz28_1 : wc.cell? ⟨gb567, 1, none⟩ = some (.slice Ao9 t563.length co9) := (blk_cell BK567.out 1).trans rfl
     have hfz28_0 := blk_frozen BK567.out 0
     have hfz28_1 := blk_frozen BK567.out 1
     go_wp2_with (first | ((with_reducible refine gate_callee (f := 19) rfl ?_); refine goesL_ (some 36) rfl rfl Try.func19 (by kernel_rfl) rfl #[.agg #[.int .i64 t562, .slice Ao9 t563.length co9], .int .i64 t566] rfl (by first | rfl | (simp only [List.map_toArray, List.map_cons, List.map_nil, List.length_drop, List.length_take]; try rfl)) ?_; (with_reducible refine (spec_TrailEnds.calls kj4 t562 _ _ t563 t566 t576 _ ?side1 ?side2 A26.out).mono ?_); (case side1 => repeat (first | exact (Kd.Q_reads' HO_568001.out).2.2 | (with_reducible refine Kd.C_alloc ?_ _) | (with_reducible refine Kd.C_drewN ?_ _) | (with_reducible refine Kd.C_drew ?_))); (case side2 => exact (Kd.Q_reads' HO_568001.out).2.1); rintro e w29 ⟨v577, rfl, ho0, hb⟩; refine ⟨_, rfl, ?_⟩; have n0_ := Aside0.mk (Kd.R_elder' (kR HO_5.out) (Kd.R_base ho0) hb); have n1_ := Aside0.mk (Kd.Q_below (by (with_reducible repeat apply Kd.Q_alloc); exact HO_568001.out) hb); have n2_ := Aside0.mk (Kd.R_lower (Kd.R_new' ho0 (Kd.R_lt (kR HO_5.out))) (below_size (by repeat first | exact HB.out | with_reducible refine below_setA ?_ ‹_› | apply below_alloc | apply pw_below_drewN))); have n3_ := Aside0.mk (blk_below (bK BK567.out) hb); have n4_ := Aside0.mk (below_step (by repeat first | exact HB.out | with_reducible refine below_setA ?_ ‹_› | apply below_alloc | apply pw_below_drewN) hb); clear HO_5; clear HO_568001; clear BK567; clear HB; have HO_5 := n0_; have HO_568001 := n1_; have HO578 := n2_; have BK567 := n3_; have HB := n4_; clear n0_ n1_ n2_ n3_ n4_; (try clear hb); (try clear hb2); (try clear hk); (try clear hi); (try clear ho0); obtain ⟨Ao30, co30, eo30⟩ := Kd.R_slice HO_5.out; subst eo30; obtain ⟨Ao31, co31, eo31⟩ := Kd.R_slice HO578.out; subst eo31) | ((with_reducible refine gate_callee (f := 18) rfl ?_); refine goesL_ (some 37) rfl rfl Try.func18 (by kernel_rfl) rfl #[.slice Ao30 t568.length co30, .slice Ao31 t576.length co31] rfl (by first | rfl | (simp only [List.map_toArray, List.map_cons, List.map_nil, List.length_drop, List.length_take]; try rfl)) ?_; (with_reducible refine (laws_llEnds.calls kj4 _ _ t568 _ _ t576 t579 _ ?side1 ?side2 ?side3 ?side4 A27.out).mono ?_); (case side1 => repeat (first | exact (Kd.R_reads' HO_5.out).2.2 | (with_reducible refine Kd.C_alloc ?_ _) | (with_reducible refine Kd.C_drewN ?_ _) | (with_reducible refine Kd.C_drew ?_))); (case side2 => exact (Kd.R_reads' HO_5.out).2.1); (case side3 => repeat (first | exact (Kd.R_reads' HO578.out).2.2 | (with_reducible refine Kd.C_alloc ?_ _) | (with_reducible refine Kd.C_drewN ?_ _) | (with_reducible refine Kd.C_drew ?_))); (case side4 => exact (Kd.R_reads' HO578.out).2.1); rintro e w' ⟨rfl, ⟨nd, rfl⟩⟩; refine ⟨_, rfl, ?_⟩))
     go_ret
     exact ⟨by first | rfl | (simp [errW_none, errW_some] <;> rfl) | (simp [*, errW_none, errW_some] <;> rfl) | (exfalso; simp_all; done), by repeat first | exact HB.out | with_reducible refine below_setA ?_ ‹_› | apply below_alloc | apply pw_below_drewN⟩
    ·replace c25 := Bool.eq_false_iff.mpr c25
     subst c25
     have H1 : ((some (([] : List (S42)) : List (S42))).bind fun y580 => (if y580.length + t563.length < 8796093022208 then (laws_FnTrailLamp.l0 kj4 t566 t568 0 t562 t563 t562 (y580 ++ t563)) else (none))) = some r := by rw [if_neg (show ¬ (false = true) by decide)] at H; exact H
     clear H
     have H := H1
     clear H1
     obtain ⟨y580, hy580⟩ : ∃ y_ : List (S42), y_ = (([] : List (S42))) := ⟨_, rfl⟩
     replace H : (if y580.length + t563.length < 8796093022208 then (laws_FnTrailLamp.l0 kj4 t566 t568 0 t562 t563 t562 (y580 ++ t563)) else (none)) = some r := by first | (rw [hy580]; with_reducible exact H) | (have H2_ := (Option.bind_some _ _).symm.trans H; rw [hy580]; with_reducible exact H2_) | (have H2_ := (Option.bind_some _ _).symm.trans H; with_reducible exact H2_) | with_reducible exact H | (rw [hy580]; exact H) | exact H
     have Ny580 := Aside0.mk hy580
     clear hy580
     by_cases c32 : y580.length + t563.length < 8796093022208
     ·rw [if_pos c32] at H
      have LMc32 := Aside0.mk c32
      clear c32
      obtain ⟨y583, hy583⟩ : ∃ y_ : List (S42), y_ = (y580 ++ t563) := ⟨_, rfl⟩
      replace H : (laws_FnTrailLamp.l0 kj4 t566 t568 0 t562 t563 t562 y583) = some r := by first | (rw [hy583]; with_reducible exact H) | (have H2_ := (Option.bind_some _ _).symm.trans H; rw [hy583]; with_reducible exact H2_) | (have H2_ := (Option.bind_some _ _).symm.trans H; with_reducible exact H2_) | with_reducible exact H | (rw [hy583]; exact H) | exact H
      have Ny583 := Aside0.mk hy583
      clear hy583
      have H' := Aside0.mk H
      clear H
      try go_wp2
      have n0_ := Aside0.mk (Kd.R_drew HO_5.out)
      have n1_ := Aside0.mk (Kd.Q_drew HO_568001.out)
      have n2_ := Aside0.mk (blk_drew BK567.out)
      have n3_ := Aside0.mk (below_drew1 HB.out)
      clear HO_5
      clear HO_568001
      clear BK567
      clear HB
      have HO_5 := n0_
      have HO_568001 := n1_
      have BK567 := n2_
      have HB := n3_
      clear n0_ n1_ n2_ n3_
      refine start_ (n := 9) (S := fun w' => w'.cell? ⟨gb567, 0, none⟩ = some (.int .i64 t562) ∧ w'.cell? ⟨gb567, 1, none⟩ = some (.slice Ao9 t563.length co9)) (ds := []) #[false, false, false, false, false, false, false, false, false] (by kernel_rfl) rfl rfl ⟨(blk_cell BK567.out 0).trans rfl, (blk_cell BK567.out 1).trans rfl⟩ (fun hHeld => ?_); refine with_tabW laws_FnTrailLamp.tab7 laws_FnTrailLamp.bits7 (fun HT_ HW_ => ?_)
      generalize wc.drew = w33 at HO_5 HO_568001 BK567 HB hHeld ⊢
      refine pure_ (i := 0) (N := some 38) (v := ?_) (a' := ?_) #[true, false, false, false, false, false, false, false, false] rfl rfl (any_of HT_.out (by kernel_rfl)) (fun _ _ _ h => h) (Or.inl ⟨by rfl, ?_⟩) ?_ ?_
      rotate_left
      ·intro w'
       go_simp
       with_reducible rfl
      rotate_left
      ·simp only [Act.put, sA_, sZ_, sS_, i64_w, i32_w]
       rfl
      refine pure_ (i := 3) (N := some 41) (v := ?_) (a' := ?_) #[true, false, false, true, false, false, false, false, false] rfl rfl (any_of HT_.out (by kernel_rfl)) (fun _ _ _ h => h) (Or.inl ⟨by rfl, ?_⟩) ?_ ?_
      rotate_left
      ·intro w'
       go_simp
       with_reducible rfl
      rotate_left
      ·simp only [Act.put, sA_, sZ_, sS_, i64_w, i32_w]
       rfl
      refine take_ (i := 1) (N := some 39) (v := ?_) (a' := ?_) #[true, true, false, true, false, false, false, false, false] rfl rfl (take_ofW HT_.out HW_.out (by kernel_rfl)) (fun _ _ _ h => h) (Or.inl ⟨by rfl, ?_⟩) hHeld ?_ ?_
      rotate_left
      ·rintro w' ⟨s0, s1⟩
       go_simp
       with_reducible rfl
      rotate_left
      ·simp only [Act.put, sA_, sZ_, sS_, i64_w, i32_w]
       rfl
      refine take_ (i := 4) (N := some 42) (v := ?_) (a' := ?_) #[true, true, false, true, true, false, false, false, false] rfl rfl (take_ofW HT_.out HW_.out (by kernel_rfl)) (fun _ _ _ h => h) (Or.inl ⟨by rfl, ?_⟩) hHeld ?_ ?_
      rotate_left
      ·rintro w' ⟨s0, s1⟩
       go_simp
       with_reducible rfl
      rotate_left
      ·simp only [Act.put, sA_, sZ_, sS_, i64_w, i32_w]
       rfl
      refine join_ (σ := Value × Value × Nat) 1 #[true, true, true, true, true, true, true, true, false] (fun s_ => [(40, s_.1), (43, s_.2.1), (6, .pointer (some ⟨s_.2.2, 0, none⟩)), (44, .agg #[.int .i64 t562, s_.2.1])]) (fun s_ w' => (w'.cell? ⟨gb567, 0, none⟩ = some (.int .i64 t562) ∧ w'.cell? ⟨gb567, 1, none⟩ = some (.slice Ao9 t563.length co9)) ∧ (Kd.R k42 42 w' w.heap.size (fun k_ => some k_ ≠ (.slice Ao9 t563.length co9 : Value).ownBlock) s_.2.1 y583) ∧ (Kd.R k38 38 w' w.heap.size (fun _ => True) v569 t568) ∧ (Kd.Q k42 42 w' w.heap.size (fun k_ => some k_ ≠ (s_.2.1 : Value).ownBlock) (.slice Ao9 t563.length co9) t563) ∧ (w'.heap[gb567]? = some (.cells #[.int .i64 t562, .slice Ao9 t563.length co9] 25 (0, 0))) ∧ (w'.heap[s_.2.2]? = some (.cells #[.int .i64 0, .slice none 0 0] 25 (0, 0))) ∧ (w.heap.size <= s_.2.2) ∧ (w.heap.size <= s_.2.2) ∧ (gb567 ≠ s_.2.2) ∧ (s_.2.2 ≠ gb567) ∧ (Below w.heap.size w w')) ?_ ?_
      rotate_left
      ·intro hCont
       refine two_ (i := 2) (j := 7) (Ni := some 40) (Nj := some 6) #[true, true, true, true, true, false, false, false, false] #[true, true, false, true, true, false, false, true, false] rfl rfl rfl rfl (two_of HT_.out (by kernel_rfl)) (by decide) (by decide) (fun K hK => ?_) (fun K hK => ?_)
       ·skip
        refine Kd.R_lit_step k42 _ 42 ?hg (N := 40) ?hd (xs := ([] : List (S42))) (inner := []) (ok := fun _ => True) (okp := fun _ => True) ?hr ?hp (fun _ hk => hk) trivial (Below.refl _ _) (Nat.le_refl _) (by simp) ?_; (case hd => rfl); (case hg => rfl); (case hr => first | (go_simp; done) | (go_simp; rfl)); (case hp => exact (Reps.none _ _))
        intro v581 w34 ho35 hb hg_ hnew_
        clear hg_ hnew_
        (first | rw [<- Ny580.out] at ho35 | (simp only [Int.reduceToNat] at ho35; rw [<- Ny580.out] at ho35))
        have n0_ := Aside0.mk (Kd.R_below (kR HO_5.out) hb)
        have n1_ := Aside0.mk (Kd.Q_elder' (by (with_reducible repeat apply Kd.Q_alloc); exact HO_568001.out) (Kd.R_base ho35) hb)
        have n2_ := Aside0.mk (Kd.R_lower (Kd.R_new' ho35 (Kd.Q_lt (by (with_reducible repeat apply Kd.Q_alloc); exact HO_568001.out))) (below_size (by repeat first | exact HB.out | with_reducible refine below_setA ?_ ‹_› | apply below_alloc | apply pw_below_drewN)))
        have n3_ := Aside0.mk (blk_below (bK BK567.out) hb)
        have n4_ := Aside0.mk (below_step (by repeat first | exact HB.out | with_reducible refine below_setA ?_ ‹_› | apply below_alloc | apply pw_below_drewN) hb)
        clear HO_5
        clear HO_568001
        clear BK567
        clear HB
        have HO_5 := n0_
        have HO_568001 := n1_
        have HO582 := n2_
        have BK567 := n3_
        have HB := n4_
        clear n0_ n1_ n2_ n3_ n4_
        clear hb ho35
        refine hK.out _ _ ⟨(blk_cell BK567.out 0).trans rfl, (blk_cell BK567.out 1).trans rfl⟩ (fun hHeld => ?_)
        clear hK K
        refine norm_ (a' := ?_) ?_ ?_
        rotate_left
        ·show Act.put _ (some 40) _ = _
         simp only [Act.put, sA_, sZ_, sS_, i64_w, i32_w]
         rfl
        refine two_ (i := 5) (j := 7) (Ni := some 43) (Nj := some 6) #[true, true, true, true, true, true, false, false, false] #[true, true, true, true, true, false, false, true, false] rfl rfl rfl rfl (two_of HT_.out (by kernel_rfl)) (by decide) (by decide) (fun K hK => ?_) (fun K hK => ?_)
        ·skip
         refine Kd.R_append_rows_step k42 (w0 := w) w.heap.size (by rfl) (.tmp 40) (.tmp 42) 23 42 (.agg #[(.int .i64 0), (.int .i64 0)]) 16 rfl Try.underlying23 info42 rfl (by decide) (by omega) v581 y580 t563 _ _ _ (fun k_ => some k_ ≠ (.slice Ao9 t563.length co9 : Value).ownBlock) (fun _ => False) rfl rfl ?aO ?aR (fun _ _ h => h) (fun _ h => h.elim) ?aF ?aB ?aS ?aL ?_
         (case aR => repeat (first | exact (Kd.Q_reads' HO_568001.out).2.2 | (with_reducible refine Kd.C_alloc ?_ _) | (with_reducible refine Kd.C_drewN ?_ _) | (with_reducible refine Kd.C_drew ?_)))
         (case aB => exact (by repeat first | exact HB.out | with_reducible refine below_setA ?_ ‹_› | apply below_alloc | apply pw_below_drewN))
         (case aF => exact (fun k_ hk => Kd.fresh' (Kd.Q_lt (by (with_reducible repeat apply Kd.Q_alloc); exact HO_568001.out)) k_ hk))
         (case aO => exact (by (with_reducible repeat apply Kd.R_alloc); exact Kd.R_mono HO582.out (fun _ hk => hk.2)))
         (case aS => exact (below_size (by repeat first | exact HB.out | with_reducible refine below_setA ?_ ‹_› | apply below_alloc | apply pw_below_drewN)))
         (case aL => have := LMc32.out; omega)
         intro v584 w36 ho hb hg hat
         rw [<- Ny583.out] at ho
         have n0_ := Aside0.mk (Kd.R_over' (kR HO_5.out) (Kd.R_typed (kR HO582.out)) (by decide) hg)
         have n1_ := Aside0.mk (Kd.Q_after (ok := (fun _ => True)) (by (with_reducible repeat apply Kd.Q_alloc); exact HO_568001.out) hg hat)
         have n2_ := Aside0.mk (blk_grown (g := gb567) (o := .cells #[.int .i64 t562, .slice Ao9 t563.length co9] 25 (0, 0)) (bK BK567.out) hg (Kd.R_ne HO582.out BK567.out (by decide)))
         have n3_ := Aside0.mk (hb)
         have n4_ := Aside0.mk (ho)
         clear HO_5
         clear HO_568001
         clear BK567
         clear HB
         clear HO582
         have HO_5 := n0_
         have HO_568001 := n1_
         have BK567 := n2_
         have HB := n3_
         have HO585 := n4_
         clear n0_ n1_ n2_ n3_ n4_
         clear ho hb hg hat
         obtain ⟨Ao37, co37, eo37⟩ := Kd.R_slice HO585.out
         (first | subst eo37 | (injection eo37 with f1_ f2_ f3_; have f4_ := f1_.symm; have f5_ := f3_.symm; clear f1_ f2_ f3_; subst f4_; subst f5_))
         refine hK.out _ _ ⟨(blk_cell BK567.out 0).trans rfl, (blk_cell BK567.out 1).trans rfl⟩ (fun hHeld => ?_)
         clear hK K
         refine norm_ (a' := ?_) ?_ ?_
         rotate_left
         ·show Act.put _ (some 43) _ = _
          simp only [Act.put, sA_, sZ_, sS_, i64_w, i32_w]
          rfl
         refine pure_ (i := 6) (N := some 44) (v := ?_) (a' := ?_) #[true, true, true, true, true, true, true, false, false] rfl rfl (any_of HT_.out (by kernel_rfl)) (fun _ _ _ h => h) (Or.inl ⟨by rfl, ?_⟩) ?_ ?_
         rotate_left
         ·intro w'
          go_simp
          with_reducible rfl
         rotate_left
         ·simp only [Act.put, sA_, sZ_, sS_, i64_w, i32_w]
          rfl
         refine one_ (i := 7) (N := some 6) #[true, true, true, true, true, true, true, true, false] rfl rfl (one_of HT_.out (by kernel_rfl)) (by decide) (fun K hK => ?_)
         refine box_step ?hg (N := 6) ?hd (cs := #[.int .i64 0, .slice none 0 0]) (t := 25) ?hr ?_; (case hd => rfl); (case hg => rfl); (case hr => first | (go_simp; done) | (go_simp; rfl))
         intro gb586 hg w38 hbox hb
         have n0_ := Aside0.mk (Kd.R_below (kR HO_5.out) hb)
         have n1_ := Aside0.mk (Kd.Q_below (by (with_reducible repeat apply Kd.Q_alloc); exact HO_568001.out) hb)
         have n2_ := Aside0.mk (Kd.R_below (kR HO585.out) hb)
         have n3_ := Aside0.mk (blk_below (bK BK567.out) hb)
         have n4_ := Aside0.mk (below_step (by repeat first | exact HB.out | with_reducible refine below_setA ?_ ‹_› | apply below_alloc | apply pw_below_drewN) hb)
         have n5_ := Aside0.mk (hbox)
         have n6_ := Aside0.mk ((by rw [hg]; exact (below_size (by repeat first | exact HB.out | with_reducible refine below_setA ?_ ‹_› | apply below_alloc | apply pw_below_drewN)) : w.heap.size <= gb586))
         have n7_ := Aside0.mk ((by rw [hg]; exact (below_size (by repeat first | exact HB.out | with_reducible refine below_setA ?_ ‹_› | apply below_alloc | apply pw_below_drewN)) : w.heap.size <= gb586))
         have n8_ := Aside0.mk ((by rw [hg]; exact Nat.ne_of_lt (blk_lt (bK BK567.out)) : gb567 ≠ gb586))
         have n9_ := Aside0.mk ((by rw [hg]; exact Nat.ne_of_gt (blk_lt (bK BK567.out)) : gb586 ≠ gb567))
         clear HO_5
         clear HO_568001
         clear HO585
         clear BK567
         clear HB
         have HO_5 := n0_
         have HO_568001 := n1_
         have HO585 := n2_
         have BK567 := n3_
         have HB := n4_
         have BK586 := n5_
         have GW586 := n6_
         have GE586 := n7_
         have NB567_586 := n8_
         have NB586_567 := n9_
         clear n0_ n1_ n2_ n3_ n4_ n5_ n6_ n7_ n8_ n9_
         clear hb hbox hg
         refine hK.out _ _ ⟨(blk_cell BK567.out 0).trans rfl, (blk_cell BK567.out 1).trans rfl⟩ (fun hHeld => ?_)
         clear hK K
         refine norm_ (a' := ?_) ?_ ?_
         rotate_left
         ·show Act.put _ (some 6) _ = _
          simp only [Act.put, sA_, sZ_, sS_, i64_w, i32_w]
          rfl
         exact norm_ (by simp only [putAll, Act.put, List.setIfInBounds_toArray, List.set_cons_zero, List.set_cons_succ]) (hCont (v581, .slice Ao37 y583.length co37, gb586) _ ⟨hHeld, (kR HO585.out), (kR HO_5.out), (by (with_reducible repeat apply Kd.Q_alloc); exact Kd.Q_mono HO_568001.out (fun _ hk => hk.2)), (bK BK567.out), (bK BK586.out), GW586.out, GE586.out, NB567_586.out, NB586_567.out, (by repeat first | exact HB.out | with_reducible refine below_setA ?_ ‹_› | apply below_alloc | apply pw_below_drewN)⟩)
        ·skip
         refine box_step ?hg (N := 6) ?hd (cs := #[.int .i64 0, .slice none 0 0]) (t := 25) ?hr ?_; (case hd => rfl); (case hg => rfl); (case hr => first | (go_simp; done) | (go_simp; rfl))
         intro gb586 hg w36 hbox hb
         have n0_ := Aside0.mk (Kd.R_below (kR HO_5.out) hb)
         have n1_ := Aside0.mk (Kd.Q_below (by (with_reducible repeat apply Kd.Q_alloc); exact HO_568001.out) hb)
         have n2_ := Aside0.mk (Kd.R_below (kR HO582.out) hb)
         have n3_ := Aside0.mk (blk_below (bK BK567.out) hb)
         have n4_ := Aside0.mk (below_step (by repeat first | exact HB.out | with_reducible refine below_setA ?_ ‹_› | apply below_alloc | apply pw_below_drewN) hb)
         have n5_ := Aside0.mk (hbox)
         have n6_ := Aside0.mk ((by rw [hg]; exact (below_size (by repeat first | exact HB.out | with_reducible refine below_setA ?_ ‹_› | apply below_alloc | apply pw_below_drewN)) : w.heap.size <= gb586))
         have n7_ := Aside0.mk ((by rw [hg]; exact (below_size (by repeat first | exact HB.out | with_reducible refine below_setA ?_ ‹_› | apply below_alloc | apply pw_below_drewN)) : w.heap.size <= gb586))
         have n8_ := Aside0.mk ((by rw [hg]; exact Nat.ne_of_lt (blk_lt (bK BK567.out)) : gb567 ≠ gb586))
         have n9_ := Aside0.mk ((by rw [hg]; exact Nat.ne_of_gt (blk_lt (bK BK567.out)) : gb586 ≠ gb567))
         clear HO_5
         clear HO_568001
         clear HO582
         clear BK567
         clear HB
         have HO_5 := n0_
         have HO_568001 := n1_
         have HO582 := n2_
         have BK567 := n3_
         have HB := n4_
         have BK586 := n5_
         have GW586 := n6_
         have GE586 := n7_
         have NB567_586 := n8_
         have NB586_567 := n9_
         clear n0_ n1_ n2_ n3_ n4_ n5_ n6_ n7_ n8_ n9_
         clear hb hbox hg
         refine hK.out _ _ ⟨(blk_cell BK567.out 0).trans rfl, (blk_cell BK567.out 1).trans rfl⟩ (fun hHeld => ?_)
         clear hK K
         refine norm_ (a' := ?_) ?_ ?_
         rotate_left
         ·show Act.put _ (some 6) _ = _
          simp only [Act.put, sA_, sZ_, sS_, i64_w, i32_w]
          rfl
         refine one_ (i := 5) (N := some 43) #[true, true, true, true, true, true, false, true, false] rfl rfl (one_of HT_.out (by kernel_rfl)) (by decide) (fun K hK => ?_)
         refine Kd.R_append_rows_step k42 (w0 := w) w.heap.size (by rfl) (.tmp 40) (.tmp 42) 23 42 (.agg #[(.int .i64 0), (.int .i64 0)]) 16 rfl Try.underlying23 info42 rfl (by decide) (by omega) v581 y580 t563 _ _ _ (fun k_ => some k_ ≠ (.slice Ao9 t563.length co9 : Value).ownBlock) (fun _ => False) rfl rfl ?aO ?aR (fun _ _ h => h) (fun _ h => h.elim) ?aF ?aB ?aS ?aL ?_
         (case aR => repeat (first | exact (Kd.Q_reads' HO_568001.out).2.2 | (with_reducible refine Kd.C_alloc ?_ _) | (with_reducible refine Kd.C_drewN ?_ _) | (with_reducible refine Kd.C_drew ?_)))
         (case aB => exact (by repeat first | exact HB.out | with_reducible refine below_setA ?_ ‹_› | apply below_alloc | apply pw_below_drewN))
         (case aF => exact (fun k_ hk => Kd.fresh' (Kd.Q_lt (by (with_reducible repeat apply Kd.Q_alloc); exact HO_568001.out)) k_ hk))
         (case aO => exact (by (with_reducible repeat apply Kd.R_alloc); exact Kd.R_mono HO582.out (fun _ hk => hk.2)))
         (case aS => exact (below_size (by repeat first | exact HB.out | with_reducible refine below_setA ?_ ‹_› | apply below_alloc | apply pw_below_drewN)))
         (case aL => have := LMc32.out; omega)
         intro v584 w37 ho hb hg hat
         rw [<- Ny583.out] at ho
         have n0_ := Aside0.mk (Kd.R_over' (kR HO_5.out) (Kd.R_typed (kR HO582.out)) (by decide) hg)
         have n1_ := Aside0.mk (Kd.Q_after (ok := (fun _ => True)) (by (with_reducible repeat apply Kd.Q_alloc); exact HO_568001.out) hg hat)
         have n2_ := Aside0.mk (blk_grown (g := gb567) (o := .cells #[.int .i64 t562, .slice Ao9 t563.length co9] 25 (0, 0)) (bK BK567.out) hg (Kd.R_ne HO582.out BK567.out (by decide)))
         have n3_ := Aside0.mk (blk_grown (g := gb586) (o := .cells #[.int .i64 0, .slice none 0 0] 25 (0, 0)) (bK BK586.out) hg (Kd.R_ne HO582.out BK586.out (by decide)))
         have n4_ := Aside0.mk (hb)
         have n5_ := Aside0.mk (ho)
         clear HO_5
         clear HO_568001
         clear BK567
         clear BK586
         clear HB
         clear HO582
         have HO_5 := n0_
         have HO_568001 := n1_
         have BK567 := n2_
         have BK586 := n3_
         have HB := n4_
         have HO585 := n5_
         clear n0_ n1_ n2_ n3_ n4_ n5_
         clear ho hb hg hat
         obtain ⟨Ao38, co38, eo38⟩ := Kd.R_slice HO585.out
         (first | subst eo38 | (injection eo38 with f1_ f2_ f3_; have f4_ := f1_.symm; have f5_ := f3_.symm; clear f1_ f2_ f3_; subst f4_; subst f5_))
         refine hK.out _ _ ⟨(blk_cell BK567.out 0).trans rfl, (blk_cell BK567.out 1).trans rfl⟩ (fun hHeld => ?_)
         clear hK K
         refine norm_ (a' := ?_) ?_ ?_
         rotate_left
         ·show Act.put _ (some 43) _ = _
          simp only [Act.put, sA_, sZ_, sS_, i64_w, i32_w]
          rfl
         refine pure_ (i := 6) (N := some 44) (v := ?_) (a' := ?_) #[true, true, true, true, true, true, true, true, false] rfl rfl (any_of HT_.out (by kernel_rfl)) (fun _ _ _ h => h) (Or.inl ⟨by rfl, ?_⟩) ?_ ?_
         rotate_left
         ·intro w'
          go_simp
          with_reducible rfl
         rotate_left
         ·simp only [Act.put, sA_, sZ_, sS_, i64_w, i32_w]
          rfl
         exact norm_ (by simp only [putAll, Act.put, List.setIfInBounds_toArray, List.set_cons_zero, List.set_cons_succ]) (hCont (v581, .slice Ao38 y583.length co38, gb586) _ ⟨hHeld, (kR HO585.out), (kR HO_5.out), (by (with_reducible repeat apply Kd.Q_alloc); exact Kd.Q_mono HO_568001.out (fun _ hk => hk.2)), (bK BK567.out), (bK BK586.out), GW586.out, GE586.out, NB567_586.out, NB586_567.out, (by repeat first | exact HB.out | with_reducible refine below_setA ?_ ‹_› | apply below_alloc | apply pw_below_drewN)⟩)
       ·skip
        refine box_step ?hg (N := 6) ?hd (cs := #[.int .i64 0, .slice none 0 0]) (t := 25) ?hr ?_; (case hd => rfl); (case hg => rfl); (case hr => first | (go_simp; done) | (go_simp; rfl))
        intro gb586 hg w34 hbox hb
        have n0_ := Aside0.mk (Kd.R_below (kR HO_5.out) hb)
        have n1_ := Aside0.mk (Kd.Q_below (by (with_reducible repeat apply Kd.Q_alloc); exact HO_568001.out) hb)
        have n2_ := Aside0.mk (blk_below (bK BK567.out) hb)
        have n3_ := Aside0.mk (below_step (by repeat first | exact HB.out | with_reducible refine below_setA ?_ ‹_› | apply below_alloc | apply pw_below_drewN) hb)
        have n4_ := Aside0.mk (hbox)
        have n5_ := Aside0.mk ((by rw [hg]; exact (below_size (by repeat first | exact HB.out | with_reducible refine below_setA ?_ ‹_› | apply below_alloc | apply pw_below_drewN)) : w.heap.size <= gb586))
        have n6_ := Aside0.mk ((by rw [hg]; exact (below_size (by repeat first | exact HB.out | with_reducible refine below_setA ?_ ‹_› | apply below_alloc | apply pw_below_drewN)) : w.heap.size <= gb586))
        have n7_ := Aside0.mk ((by rw [hg]; exact Nat.ne_of_lt (blk_lt (bK BK567.out)) : gb567 ≠ gb586))
        have n8_ := Aside0.mk ((by rw [hg]; exact Nat.ne_of_gt (blk_lt (bK BK567.out)) : gb586 ≠ gb567))
        clear HO_5
        clear HO_568001
        clear BK567
        clear HB
        have HO_5 := n0_
        have HO_568001 := n1_
        have BK567 := n2_
        have HB := n3_
        have BK586 := n4_
        have GW586 := n5_
        have GE586 := n6_
        have NB567_586 := n7_
        have NB586_567 := n8_
        clear n0_ n1_ n2_ n3_ n4_ n5_ n6_ n7_ n8_
        clear hb hbox hg
        refine hK.out _ _ ⟨(blk_cell BK567.out 0).trans rfl, (blk_cell BK567.out 1).trans rfl⟩ (fun hHeld => ?_)
        clear hK K
        refine norm_ (a' := ?_) ?_ ?_
        rotate_left
        ·show Act.put _ (some 6) _ = _
         simp only [Act.put, sA_, sZ_, sS_, i64_w, i32_w]
         rfl
        refine one_ (i := 2) (N := some 40) #[true, true, true, true, true, false, false, true, false] rfl rfl (one_of HT_.out (by kernel_rfl)) (by decide) (fun K hK => ?_)
        refine Kd.R_lit_step k42 _ 42 ?hg (N := 40) ?hd (xs := ([] : List (S42))) (inner := []) (ok := fun _ => True) (okp := fun _ => True) ?hr ?hp (fun _ hk => hk) trivial (Below.refl _ _) (Nat.le_refl _) (by simp) ?_; (case hd => rfl); (case hg => rfl); (case hr => first | (go_simp; done) | (go_simp; rfl)); (case hp => exact (Reps.none _ _))
        intro v581 w35 ho36 hb hg_ hnew_
        clear hg_ hnew_
        (first | rw [<- Ny580.out] at ho36 | (simp only [Int.reduceToNat] at ho36; rw [<- Ny580.out] at ho36))
        have n0_ := Aside0.mk (Kd.R_below (kR HO_5.out) hb)
        have n1_ := Aside0.mk (Kd.Q_elder' (by (with_reducible repeat apply Kd.Q_alloc); exact HO_568001.out) (Kd.R_base ho36) hb)
        have n2_ := Aside0.mk (Kd.R_lower (Kd.R_new' ho36 (Kd.Q_lt (by (with_reducible repeat apply Kd.Q_alloc); exact HO_568001.out))) (below_size (by repeat first | exact HB.out | with_reducible refine below_setA ?_ ‹_› | apply below_alloc | apply pw_below_drewN)))
        have n3_ := Aside0.mk (blk_below (bK BK567.out) hb)
        have n4_ := Aside0.mk (blk_below (bK BK586.out) hb)
        have n5_ := Aside0.mk (below_step (by repeat first | exact HB.out | with_reducible refine below_setA ?_ ‹_› | apply below_alloc | apply pw_below_drewN) hb)
        clear HO_5
        clear HO_568001
        clear BK567
        clear BK586
        clear HB
        have HO_5 := n0_
        have HO_568001 := n1_
        have HO582 := n2_
        have BK567 := n3_
        have BK586 := n4_
        have HB := n5_
        clear n0_ n1_ n2_ n3_ n4_ n5_
        clear hb ho36
        refine hK.out _ _ ⟨(blk_cell BK567.out 0).trans rfl, (blk_cell BK567.out 1).trans rfl⟩ (fun hHeld => ?_)
        clear hK K
        refine norm_ (a' := ?_) ?_ ?_
        rotate_left
        ·show Act.put _ (some 40) _ = _
         simp only [Act.put, sA_, sZ_, sS_, i64_w, i32_w]
         rfl
        refine one_ (i := 5) (N := some 43) #[true, true, true, true, true, true, false, true, false] rfl rfl (one_of HT_.out (by kernel_rfl)) (by decide) (fun K hK => ?_)
        refine Kd.R_append_rows_step k42 (w0 := w) w.heap.size (by rfl) (.tmp 40) (.tmp 42) 23 42 (.agg #[(.int .i64 0), (.int .i64 0)]) 16 rfl Try.underlying23 info42 rfl (by decide) (by omega) v581 y580 t563 _ _ _ (fun k_ => some k_ ≠ (.slice Ao9 t563.length co9 : Value).ownBlock) (fun _ => False) rfl rfl ?aO ?aR (fun _ _ h => h) (fun _ h => h.elim) ?aF ?aB ?aS ?aL ?_
        (case aR => repeat (first | exact (Kd.Q_reads' HO_568001.out).2.2 | (with_reducible refine Kd.C_alloc ?_ _) | (with_reducible refine Kd.C_drewN ?_ _) | (with_reducible refine Kd.C_drew ?_)))
        (case aB => exact (by repeat first | exact HB.out | with_reducible refine below_setA ?_ ‹_› | apply below_alloc | apply pw_below_drewN))
        (case aF => exact (fun k_ hk => Kd.fresh' (Kd.Q_lt (by (with_reducible repeat apply Kd.Q_alloc); exact HO_568001.out)) k_ hk))
        (case aO => exact (by (with_reducible repeat apply Kd.R_alloc); exact Kd.R_mono HO582.out (fun _ hk => hk.2)))
        (case aS => exact (below_size (by repeat first | exact HB.out | with_reducible refine below_setA ?_ ‹_› | apply below_alloc | apply pw_below_drewN)))
        (case aL => have := LMc32.out; omega)
        intro v584 w37 ho hb hg hat
        rw [<- Ny583.out] at ho
        have n0_ := Aside0.mk (Kd.R_over' (kR HO_5.out) (Kd.R_typed (kR HO582.out)) (by decide) hg)
        have n1_ := Aside0.mk (Kd.Q_after (ok := (fun _ => True)) (by (with_reducible repeat apply Kd.Q_alloc); exact HO_568001.out) hg hat)
        have n2_ := Aside0.mk (blk_grown (g := gb567) (o := .cells #[.int .i64 t562, .slice Ao9 t563.length co9] 25 (0, 0)) (bK BK567.out) hg (Kd.R_ne HO582.out BK567.out (by decide)))
        have n3_ := Aside0.mk (blk_grown (g := gb586) (o := .cells #[.int .i64 0, .slice none 0 0] 25 (0, 0)) (bK BK586.out) hg (Kd.R_ne HO582.out BK586.out (by decide)))
        have n4_ := Aside0.mk (hb)
        have n5_ := Aside0.mk (ho)
        clear HO_5
        clear HO_568001
        clear BK567
        clear BK586
        clear HB
        clear HO582
        have HO_5 := n0_
        have HO_568001 := n1_
        have BK567 := n2_
        have BK586 := n3_
        have HB := n4_
        have HO585 := n5_
        clear n0_ n1_ n2_ n3_ n4_ n5_
        clear ho hb hg hat
        obtain ⟨Ao38, co38, eo38⟩ := Kd.R_slice HO585.out
        (first | subst eo38 | (injection eo38 with f1_ f2_ f3_; have f4_ := f1_.symm; have f5_ := f3_.symm; clear f1_ f2_ f3_; subst f4_; subst f5_))
        refine hK.out _ _ ⟨(blk_cell BK567.out 0).trans rfl, (blk_cell BK567.out 1).trans rfl⟩ (fun hHeld => ?_)
        clear hK K
        refine norm_ (a' := ?_) ?_ ?_
        rotate_left
        ·show Act.put _ (some 43) _ = _
         simp only [Act.put, sA_, sZ_, sS_, i64_w, i32_w]
         rfl
        refine pure_ (i := 6) (N := some 44) (v := ?_) (a' := ?_) #[true, true, true, true, true, true, true, true, false] rfl rfl (any_of HT_.out (by kernel_rfl)) (fun _ _ _ h => h) (Or.inl ⟨by rfl, ?_⟩) ?_ ?_
        rotate_left
        ·intro w'
         go_simp
         with_reducible rfl
        rotate_left
        ·simp only [Act.put, sA_, sZ_, sS_, i64_w, i32_w]
         rfl
        exact norm_ (by simp only [putAll, Act.put, List.setIfInBounds_toArray, List.set_cons_zero, List.set_cons_succ]) (hCont (v581, .slice Ao38 y583.length co38, gb586) _ ⟨hHeld, (kR HO585.out), (kR HO_5.out), (by (with_reducible repeat apply Kd.Q_alloc); exact Kd.Q_mono HO_568001.out (fun _ hk => hk.2)), (bK BK567.out), (bK BK586.out), GW586.out, GE586.out, NB567_586.out, NB586_567.out, (by repeat first | exact HB.out | with_reducible refine below_setA ?_ ‹_› | apply below_alloc | apply pw_below_drewN)⟩)
      rintro ⟨v581, v584, gb586⟩ w39 ⟨hS_, h0_, h1_, h2_, h3_, h4_, h5_, h6_, h7_, h8_, h9_⟩
      have n0_ : Aside0 (Kd.R k42 42 w39 w.heap.size (fun k_ => some k_ ≠ (.slice Ao9 t563.length co9 : Value).ownBlock) v584 y583) := ⟨h0_⟩
      have n1_ : Aside0 (Kd.R k38 38 w39 w.heap.size (fun _ => True) v569 t568) := ⟨h1_⟩
      have n2_ : Aside0 (Kd.Q k42 42 w39 w.heap.size (fun k_ => some k_ ≠ (v584 : Value).ownBlock) (.slice Ao9 t563.length co9) t563) := ⟨h2_⟩
      have n3_ : Aside0 (w39.heap[gb567]? = some (.cells #[.int .i64 t562, .slice Ao9 t563.length co9] 25 (0, 0))) := ⟨h3_⟩
      have n4_ : Aside0 (w39.heap[gb586]? = some (.cells #[.int .i64 0, .slice none 0 0] 25 (0, 0))) := ⟨h4_⟩
      have n5_ : Aside0 (w.heap.size <= gb586) := ⟨h5_⟩
      have n6_ : Aside0 (w.heap.size <= gb586) := ⟨h6_⟩
      have n7_ : Aside0 (gb567 ≠ gb586) := ⟨h7_⟩
      have n8_ : Aside0 (gb586 ≠ gb567) := ⟨h8_⟩
      have n9_ : Aside0 (Below w.heap.size w w39) := ⟨h9_⟩
      clear HO_5
      clear HO_568001
      clear BK567
      clear HB
      clear h0_ h1_ h2_ h3_ h4_ h5_ h6_ h7_ h8_ h9_
      have HO585 := n0_
      have HO_5 := n1_
      have HO_568001 := n2_
      have BK567 := n3_
      have BK586 := n4_
      have GW586 := n5_
      have GE586 := n6_
      have NB567_586 := n7_
      have NB586_567 := n8_
      have HB := n9_
      clear n0_ n1_ n2_ n3_ n4_ n5_ n6_ n7_ n8_ n9_
      have hHeld : w39.cell? ⟨gb567, 0, none⟩ = some (.int .i64 t562) ∧ w39.cell? ⟨gb567, 1, none⟩ = some (.slice Ao9 t563.length co9) := hS_
      obtain ⟨Ao40, co40, eo40⟩ := Kd.R_slice HO585.out
      (first | subst eo40 | (injection eo40 with f1_ f2_ f3_; have f4_ := f1_.symm; have f5_ := f3_.symm; clear f1_ f2_ f3_; subst f4_; subst f5_))
      refine norm_ (a' := ?_) ?_ ?_
      rotate_left
      ·simp only [putAll, Act.put, List.setIfInBounds_toArray, List.set_cons_zero, List.set_cons_succ]
       rfl
      refine one_ (i := 8) (N := none) #[true, true, true, true, true, true, true, true, true] rfl rfl (one_of HT_.out (by kernel_rfl)) (by decide) (fun K hK => ?_)
      have hs41 : w39.cell? ⟨gb586, 0, none⟩ = some (.int .i64 0) := (blk_cell BK586.out 0).trans rfl
      have hfs41 := blk_frozen BK586.out 0
      have hns41_0 := NB567_586.out
      have hms41_0 := NB586_567.out
      have hs42 : w39.cell? ⟨gb586, 1, none⟩ = some (.slice none 0 0) := (blk_cell BK586.out 1).trans rfl
      have hfs42 := blk_frozen BK586.out 1
      have hns42_0 := NB567_586.out
      have hms42_0 := NB586_567.out
      refine skip_ (w1 := ?_) (by rfl) rfl ?_ ?_
      rotate_left
      ·go_simp
       rfl
      refine hK.out _ _ ⟨((cell_far (p := ⟨gb586, _, none⟩) NB567_586.out _).trans (((cell_far (p := ⟨gb586, _, none⟩) NB567_586.out _).trans (hHeld.1)))), ((cell_far (p := ⟨gb586, _, none⟩) NB567_586.out _).trans (((cell_far (p := ⟨gb586, _, none⟩) NB567_586.out _).trans (hHeld.2))))⟩ (fun hHeld => ?_)
      clear hK K
      refine done_ (done_of HT_.out (by kernel_rfl)) ?_
      try go_wp2
      go_loopg [7] kj4 (fun kq v7 w' => ∃ (x7_2 : Int) (x568001_2 : List (S42)) (x587001_2 : List (S42)) (u568001 : Value) (u587001 : Value), v7 = .int .i64 x7_2 ∧ Aside0 (laws_FnTrailLamp.l0 kq t566 t568 x7_2 t562 x568001_2 t562 x587001_2 = some r) ∧ Aside0 (kq <= kj4) ∧ Aside0 (Kd.R k38 38 w' w.heap.size (fun _ => True) v569 t568) ∧ Aside0 (Kd.Q k42 42 w' w.heap.size (fun k_ => some k_ ≠ (u587001 : Value).ownBlock) u568001 x568001_2) ∧ Aside0 (Kd.Q k42 42 w' w.heap.size (fun k_ => some k_ ≠ (u568001 : Value).ownBlock) u587001 x587001_2) ∧ Aside0 (w'.heap[gb567]? = some (.cells #[.int .i64 t562, u568001] 25 (0, 0))) ∧ Aside0 (w'.heap[gb586]? = some (.cells #[.int .i64 t562, u587001] 25 (0, 0))) ∧ Aside0 (Below w.heap.size w w'))
      case atStart => exact ⟨(0), (t563), (y583), (.slice Ao9 t563.length co9), (.slice Ao40 y583.length co40), (by first | rfl | (simp; done) | (simp [*]; done)), H', ⟨Nat.le_refl _⟩, ⟨by (with_reducible repeat apply Kd.R_alloc); exact Kd.R_mono (Kd.R_far (p := ⟨gb586, 1, none⟩) (Kd.R_far (p := ⟨gb586, 0, none⟩) (Kd.R_types HO_5.out BK586.out (by decide)) (fun _ hk => hk.2) (.int .i64 t562)) (fun _ hk => hk.2) (.slice Ao40 y583.length co40)) (fun _ hk => trivial)⟩, ⟨by (with_reducible repeat apply Kd.Q_alloc); exact Kd.Q_mono (Kd.Q_far (p := ⟨gb586, 1, none⟩) (Kd.Q_far (p := ⟨gb586, 0, none⟩) (Kd.Q_types HO_568001.out BK586.out (by decide)) (fun _ hk => hk.2) (.int .i64 t562)) (fun _ hk => hk.2) (.slice Ao40 y583.length co40)) (fun _ hk => hk.1)⟩, ⟨Kd.Q_of_R (by (with_reducible repeat apply Kd.R_alloc); exact Kd.R_mono (Kd.R_far (p := ⟨gb586, 1, none⟩) (Kd.R_far (p := ⟨gb586, 0, none⟩) (Kd.R_types HO585.out BK586.out (by decide)) (fun _ hk => hk.2) (.int .i64 t562)) (fun _ hk => hk.2) (.slice Ao40 y583.length co40)) (fun _ hk => hk.1))⟩, ⟨by (with_reducible repeat apply blk_alloc); refine blk_far ?_ NB567_586.out _; (with_reducible repeat apply blk_alloc); refine blk_far ?_ NB567_586.out _; (with_reducible repeat apply blk_alloc); exact BK567.out⟩, ⟨by (with_reducible repeat apply blk_alloc); refine blk_put (cs := #[.int .i64 t562, .slice none 0 0]) ?_ 1 _ rfl; (with_reducible repeat apply blk_alloc); refine blk_put (cs := #[.int .i64 0, .slice none 0 0]) ?_ 0 _ rfl; (with_reducible repeat apply blk_alloc); exact BK586.out⟩, ⟨by repeat first | exact HB.out | with_reducible refine below_setA ?_ ‹_› | apply below_alloc | apply pw_below_drewN⟩⟩
      case round =>
       clear H'
       try clear c1
       try clear c2
       try clear c2b0
       try clear c2b1
       try clear p2
       try clear c3
       try clear c8
       try clear c13
       try clear c16
       try clear c17
       try clear c18
       try clear c19
       try clear c25
       try clear c32
       try clear hcz15_0
       try clear hcz15_1
       try clear hcz19_0
       try clear hcz19_1
       try clear hcz21_0
       try clear hcz21_1
       try clear hcz28_0
       try clear hcz28_1
       try clear hcz8_0
       try clear hcz8_1
       try clear hfz15_0
       try clear hfz15_1
       try clear hfz19_0
       try clear hfz19_1
       try clear hfz21_0
       try clear hfz21_1
       try clear hfz28_0
       try clear hfz28_1
       try clear hfz8_0
       try clear hfz8_1
       try clear p2
       obtain ⟨x7_2, x568001_2, x587001_2, u568001, u587001, rfl, HA, HK2, HO_5, HO_568001, HO_587001, BK567, BK586, HB⟩ := hrel
       cases gk with
       | zero => exact absurd HA.out (by simp [laws_FnTrailLamp.l0])
       | succ k2 =>
        have H := HA.out
        clear HA
        simp only [laws_FnTrailLamp.l0] at H
        by_cases c43 : x7_2 < (x587001_2.length : Int)
        ·rw [if_pos c43] at H
         have c43b0 : decide (x7_2 < (x587001_2.length : Int)) = true := decide_eq_true c43
         clear c43
         by_cases c44 : 0 <= x7_2
         ·rw [if_pos c44] at H
          have c44b0 : decide (0 <= x7_2) = true := decide_eq_true c44
          clear c44
          by_cases c45 : ((rd_T42 x587001_2 x7_2).f0) = 7
          ·rw [if_pos c45] at H
           have c45b0 : (((rd_T42 x587001_2 x7_2).f0) == 7) = true := beq_iff_eq.mpr c45
           have c45b1 : (((rd_T42 x587001_2 x7_2).f0) != 7) = false := bne_eq_false_iff_eq.mpr c45
           clear c45
           obtain ⟨y588, hy588⟩ : ∃ y_ : List (S42), y_ = (x587001_2.set (x7_2 : Int).toNat (⟨1, 0⟩ : S42)) := ⟨_, rfl⟩
           replace H : (laws_FnTrailLamp.l0 k2 t566 t568 (wrap64 (x7_2 + 1)) t562 x568001_2 t562 y588) = some r := by first | (rw [hy588]; with_reducible exact H) | (have H2_ := (Option.bind_some _ _).symm.trans H; rw [hy588]; with_reducible exact H2_) | (have H2_ := (Option.bind_some _ _).symm.trans H; with_reducible exact H2_) | with_reducible exact H | (rw [hy588]; exact H) | exact H
           have Ny588 := Aside0.mk hy588
           clear hy588
           have H' := Aside0.mk H
           clear H
           have hnb47 := NB586_567.out
           have hnc47 := NB567_586.out
           have hcz48_0 : wr.cell? ⟨gb586, 0, none⟩ = some (.int .i64 t562) := (blk_cell BK586.out 0).trans rfl
           have hcz48_1 : wr.cell? ⟨gb586, 1, none⟩ = some (u587001) := (blk_cell BK586.out 1).trans rfl
           have hfz48_0 := blk_frozen BK586.out 0
           have hfz48_1 := blk_frozen BK586.out 1
           obtain ⟨Ao49, co49, eo49, _⟩ := Kd.Q_slice HO_587001.out
           subst eo49
           have p587 : 0 <= (x7_2 : Int) := of_decide_eq_true (by first | (with_reducible assumption) | assumption)
           have q587 : x7_2 < (x587001_2.length : Int) := of_decide_eq_true (by first | (with_reducible assumption) | assumption)
           obtain ⟨ad587, e587, hx587_0, hx587_1⟩ := at_T42 (Kd.Q_reads' HO_587001.out).2.2 x7_2 p587 q587
           cases e587
           replace p587 := eq_true p587
           replace q587 := eq_true q587
           have p46 : 0 <= (x7_2 : Int) := of_decide_eq_true (by first | (with_reducible assumption) | assumption)
           have q46 : (x7_2 : Int) < ((x587001_2.length : Int) : Int) := of_decide_eq_true (by first | (with_reducible assumption) | assumption)
           obtain ⟨go46, oo46, co46, eo46, gb46, gl46, cl46, HG46⟩ := Kd.Q_form HO_587001.out (by omega)
           (first | cases eo46 | (injection eo46 with ea_ en_ ec_; (first | subst ea_ | (injection ea_ with ea_; subst ea_)); subst ec_; clear en_))
           have GB46 := Aside0.mk gb46
           have GG46 := Aside0.mk HG46
           clear gb46 gl46 HG46
           (first | simp only [add_at] at hx587_0 | skip)
           (first | simp only [add_at] at hx587_1 | skip)
           obtain ⟨ce46, hcl46, hM46, hcc46, hfr46⟩ := Kd.Q_elem HO_587001.out z42 (x7_2 : Int) p46 q46
           obtain rfl := k42_openM hM46
           have hx46_0 : wr.cell? ⟨go46, oo46 + (x7_2 : Int).toNat * 2, none⟩ = some (.int .i64 ((rd_T42 x587001_2 x7_2).f0)) := hcc46 0 _ rfl
           have hx46_1 : wr.cell? ⟨go46, oo46 + (x7_2 : Int).toNat * 2 + 1, none⟩ = some (.int .i64 ((rd_T42 x587001_2 x7_2).f1)) := hcc46 1 _ rfl
           have hf46_0 : wr.frozen? ⟨go46, oo46 + (x7_2 : Int).toNat * 2, none⟩ = false := hfr46 0
           have hf46_1 : wr.frozen? ⟨go46, oo46 + (x7_2 : Int).toNat * 2 + 1, none⟩ = false := hfr46 1
           clear hcl46 hcc46 hfr46 hM46
           replace p46 := eq_true p46
           replace q46 := eq_true q46
           have HX50 := Aside0.mk (show Kd.Q k42 42 wr w.heap.size (fun k_ => some k_ ≠ (u568001 : Value).ownBlock) (.slice (some ⟨go46, oo46, none⟩) x587001_2.length co49) x587001_2 from (by (with_reducible repeat apply Kd.Q_alloc); exact HO_587001.out))
           obtain ⟨ce50, hcl50, hM50, hcc50, hfr50⟩ := Kd.Q_elem HX50.out z42 (x7_2 : Int) (of_decide_eq_true (by first | (with_reducible assumption) | assumption)) (by have h_ : (x7_2 : Int) < ((x587001_2.length : Int) : Int) := of_decide_eq_true (by first | (with_reducible assumption) | assumption); first | exact h_ | (have e_ := (Kd.Q_reads' HO_587001.out).1; omega) | simpa using h_)
           obtain rfl := k42_openM hM50
           have HP50 := Kd.Q_seg HX50.out (x7_2 : Int) (of_decide_eq_true (by first | (with_reducible assumption) | assumption)) (by have h_ : (x7_2 : Int) < ((x587001_2.length : Int) : Int) := of_decide_eq_true (by first | (with_reducible assumption) | assumption); first | exact h_ | (have e_ := (Kd.Q_reads' HO_587001.out).1; omega) | simpa using h_) (seg := [.int .i64 1, .int .i64 0]) (j := 0) hcl50 hcc50 (show 2 <= 2 from by decide) (x' := (⟨1, 0⟩ : S42)) (k42_mkM _ _ _ (⟨1, 0⟩ : S42) ) (fun _ hk => hk)
           have hx50_0 := hcc50 0 _ rfl
           (try simp only [show (k42).sz = 2 from rfl, Nat.mul_one, Nat.add_zero] at hx50_0)
           have hf50_0 := hfr50 0
           (try simp only [show (k42).sz = 2 from rfl, Nat.mul_one, Nat.add_zero] at hf50_0)
           have hx50_1 := hcc50 1 _ rfl
           (try simp only [show (k42).sz = 2 from rfl, Nat.mul_one, Nat.add_zero] at hx50_1)
           have hf50_1 := hfr50 1
           (try simp only [show (k42).sz = 2 from rfl, Nat.mul_one, Nat.add_zero] at hf50_1)
           clear hcl50 hcc50 hfr50 hM50
           go_wp2_with (first | ((with_reducible refine gate_store (t := 42) (p := 63) rfl ?_); refine store_event (t := 42) (p := 63) (v := ?vo_w51) (w1 := ((wr.setCell ⟨go46, oo46 + (x7_2 : Int).toNat * 2, none⟩ (.int .i64 1)).setCell ⟨go46, oo46 + (x7_2 : Int).toNat * 2 + 1, none⟩ (.int .i64 0))) ?hg ?ho ?hn ?hr ?_; (case ho => rfl); (case hg => rfl); (case hn => rfl); (case hr => first | (go_simp; done) | (go_simp; rfl)); intro w51 hw; have hg : wr.grownBy w51 (some go46) := (by rw [hw]; exact HP50.2); have hp_ : Kd.Q k42 42 w51 w.heap.size (fun k_ => some k_ ≠ (u568001 : Value).ownBlock) (.slice (some ⟨go46, oo46, none⟩) x587001_2.length co49) y588 := (by rw [hw, Ny588.out]; exact HP50.1); clear HP50; have n0_ := Aside0.mk (Kd.R_over' (v := (.slice (some ⟨go46, oo46, none⟩) x587001_2.length co49)) (kR HO_5.out) (Kd.Q_typed HO_587001.out) (by decide) hg); have n1_ := Aside0.mk (Kd.Q_after (v := (.slice (some ⟨go46, oo46, none⟩) x587001_2.length co49)) (v1 := (.slice (some ⟨go46, oo46, none⟩) x587001_2.length co49)) (ok := (fun _ => True)) (by (with_reducible repeat apply Kd.Q_alloc); exact Kd.Q_mono HO_568001.out (fun _ hk => ⟨trivial, hk⟩)) hg (.inl rfl)); have n2_ := Aside0.mk (hp_); have n3_ := Aside0.mk (blk_grown (g := gb567) (o := .cells #[.int .i64 t562, u568001] 25 (0, 0)) (bK BK567.out) hg (Kd.Q_ne HO_587001.out BK567.out (by decide))); have n4_ := Aside0.mk (blk_grown (g := gb586) (o := .cells #[.int .i64 t562, .slice (some ⟨go46, oo46, none⟩) x587001_2.length co49] 25 (0, 0)) (bK BK586.out) hg (Kd.Q_ne HO_587001.out BK586.out (by decide))); have n5_ := Aside0.mk ((by rw [hw]; exact below_set (below_set (HB.out) GB46.out) GB46.out : Below w.heap.size w w51)); clear HO_5; clear HO_568001; clear HO_587001; clear BK567; clear BK586; clear HB; have HO_5 := n0_; have HO_568001 := n1_; have HO_587001 := n2_; have BK567 := n3_; have BK586 := n4_; have HB := n5_; clear n0_ n1_ n2_ n3_ n4_ n5_; clear hg hw hp_))
           go_roundg k2
           case measure => have := HJ4.out; have := HK2.out; omega
           case rel => exact ⟨(wrap64 (x7_2 + 1)), (x568001_2), (y588), (u568001), (.slice (some ⟨go46, oo46, none⟩) x587001_2.length co49), (by first | rfl | (simp; done) | (simp [*]; done)), H', ⟨by have := HJ4.out; have := HK2.out; omega⟩, ⟨by (with_reducible repeat apply Kd.R_alloc); exact HO_5.out⟩, ⟨by (with_reducible repeat apply Kd.Q_alloc); exact Kd.Q_mono HO_568001.out (fun _ hk => hk.2)⟩, ⟨by (with_reducible repeat apply Kd.Q_alloc); exact HO_587001.out⟩, ⟨by (with_reducible repeat apply blk_alloc); exact BK567.out⟩, ⟨by (with_reducible repeat apply blk_alloc); exact BK586.out⟩, ⟨by repeat first | exact HB.out | with_reducible refine below_setA ?_ ‹_› | apply below_alloc | apply pw_below_drewN⟩⟩
          ·rw [if_neg c45] at H
           have c45b0 : (((rd_T42 x587001_2 x7_2).f0) == 7) = false := beq_eq_false_iff_ne.mpr c45
           have c45b1 : (((rd_T42 x587001_2 x7_2).f0) != 7) = true := bne_iff_ne.mpr c45
           have H' := Aside0.mk H
           clear H
           have hnb52 := NB586_567.out
           have hnc52 := NB567_586.out
           have hcz53_0 : wr.cell? ⟨gb586, 0, none⟩ = some (.int .i64 t562) := (blk_cell BK586.out 0).trans rfl
           have hcz53_1 : wr.cell? ⟨gb586, 1, none⟩ = some (u587001) := (blk_cell BK586.out 1).trans rfl
           have hfz53_0 := blk_frozen BK586.out 0
           have hfz53_1 := blk_frozen BK586.out 1
           obtain ⟨Ao54, co54, eo54, _⟩ := Kd.Q_slice HO_587001.out
           subst eo54
           have p587 : 0 <= (x7_2 : Int) := of_decide_eq_true (by first | (with_reducible assumption) | assumption)
           have q587 : x7_2 < (x587001_2.length : Int) := of_decide_eq_true (by first | (with_reducible assumption) | assumption)
           obtain ⟨ad587, e587, hx587_0, hx587_1⟩ := at_T42 (Kd.Q_reads' HO_587001.out).2.2 x7_2 p587 q587
           cases e587
           replace p587 := eq_true p587
           replace q587 := eq_true q587
           go_wp2
           go_roundg k2
           case measure => have := HJ4.out; have := HK2.out; omega
           case rel => exact ⟨(wrap64 (x7_2 + 1)), (x568001_2), (x587001_2), (u568001), (.slice (some ad587) x587001_2.length co54), (by first | rfl | (simp; done) | (simp [*]; done)), H', ⟨by have := HJ4.out; have := HK2.out; omega⟩, ⟨by (with_reducible repeat apply Kd.R_alloc); exact HO_5.out⟩, ⟨by (with_reducible repeat apply Kd.Q_alloc); exact HO_568001.out⟩, ⟨by (with_reducible repeat apply Kd.Q_alloc); exact HO_587001.out⟩, ⟨by (with_reducible repeat apply blk_alloc); exact BK567.out⟩, ⟨by (with_reducible repeat apply blk_alloc); exact BK586.out⟩, ⟨by repeat first | exact HB.out | with_reducible refine below_setA ?_ ‹_› | apply below_alloc | apply pw_below_drewN⟩⟩
         ·rw [if_neg c44] at H
          exact absurd H (by simp)
        ·rw [if_neg c43] at H
         have c43b0 : decide (x7_2 < (x587001_2.length : Int)) = false := decide_eq_false c43
         clear c43
         obtain ⟨y589, hy589⟩ : ∃ y_ : List (S38), y_ = (([] : List (S38))) := ⟨_, rfl⟩
         replace H : (if y589.length + t568.length < 5864062014805 then (laws_FnTrailLamp.l1 k2 t566 (y589 ++ t568) 0 t562 x568001_2 t562 x587001_2) else (none)) = some r := by first | (rw [hy589]; with_reducible exact H) | (have H2_ := (Option.bind_some _ _).symm.trans H; rw [hy589]; with_reducible exact H2_) | (have H2_ := (Option.bind_some _ _).symm.trans H; with_reducible exact H2_) | with_reducible exact H | (rw [hy589]; exact H) | exact H
         have Ny589 := Aside0.mk hy589
         clear hy589
         by_cases c55 : y589.length + t568.length < 5864062014805
         ·rw [if_pos c55] at H
          have LMc55 := Aside0.mk c55
          clear c55
          obtain ⟨y592, hy592⟩ : ∃ y_ : List (S38), y_ = (y589 ++ t568) := ⟨_, rfl⟩
          replace H : (laws_FnTrailLamp.l1 k2 t566 y592 0 t562 x568001_2 t562 x587001_2) = some r := by first | (rw [hy592]; with_reducible exact H) | (have H2_ := (Option.bind_some _ _).symm.trans H; rw [hy592]; with_reducible exact H2_) | (have H2_ := (Option.bind_some _ _).symm.trans H; with_reducible exact H2_) | with_reducible exact H | (rw [hy592]; exact H) | exact H
          have Ny592 := Aside0.mk hy592
          clear hy592
          have H' := Aside0.mk H
          clear H
          have hnb56 := NB586_567.out
          have hnc56 := NB567_586.out
          have hcz57_0 : wr.cell? ⟨gb586, 0, none⟩ = some (.int .i64 t562) := (blk_cell BK586.out 0).trans rfl
          have hcz57_1 : wr.cell? ⟨gb586, 1, none⟩ = some (u587001) := (blk_cell BK586.out 1).trans rfl
          have hfz57_0 := blk_frozen BK586.out 0
          have hfz57_1 := blk_frozen BK586.out 1
          obtain ⟨Ao58, co58, eo58, _⟩ := Kd.Q_slice HO_587001.out
          subst eo58
          go_wp2_with (first | ((with_reducible refine gate_dst (N := 64) rfl ?_); refine Kd.R_lit k38 _ 38 ?hg (N := 64) ?hd (xs := ([] : List (S38))) (inner := []) (ok := fun _ => True) (okp := fun _ => True) ?hr ?hp (fun _ hk => hk) trivial (Below.refl _ _) (Nat.le_refl _) (by simp) ?_; (case hd => rfl); (case hg => rfl); (case hr => first | (go_simp; done) | (go_simp; rfl)); (case hp => exact (Reps.none _ _)); intro v590 w59 ho60 hb hg_ hnew_; clear hg_ hnew_; (first | rw [<- Ny589.out] at ho60 | (simp only [Int.reduceToNat] at ho60; rw [<- Ny589.out] at ho60)); have n0_ := Aside0.mk (Kd.R_elder' (kR HO_5.out) (Kd.R_base ho60) hb); have n1_ := Aside0.mk (Kd.Q_below (by (with_reducible repeat apply Kd.Q_alloc); exact HO_568001.out) hb); have n2_ := Aside0.mk (Kd.Q_below (by (with_reducible repeat apply Kd.Q_alloc); exact HO_587001.out) hb); have n3_ := Aside0.mk (Kd.R_lower (Kd.R_new' ho60 (Kd.R_lt (kR HO_5.out))) (below_size (by repeat first | exact HB.out | with_reducible refine below_setA ?_ ‹_› | apply below_alloc | apply pw_below_drewN))); have n4_ := Aside0.mk (blk_below (bK BK567.out) hb); have n5_ := Aside0.mk (blk_below (bK BK586.out) hb); have n6_ := Aside0.mk (below_step (by repeat first | exact HB.out | with_reducible refine below_setA ?_ ‹_› | apply below_alloc | apply pw_below_drewN) hb); clear HO_5; clear HO_568001; clear HO_587001; clear BK567; clear BK586; clear HB; have HO_5 := n0_; have HO_568001 := n1_; have HO_587001 := n2_; have HO591 := n3_; have BK567 := n4_; have BK586 := n5_; have HB := n6_; clear n0_ n1_ n2_ n3_ n4_ n5_ n6_; clear hb ho60; obtain ⟨Ao62, co62, eo62⟩ := Kd.R_slice HO_5.out; subst eo62) | ((with_reducible refine gate_builtin (b := .append) (xs := #[.tmp 64, .tmp 65]) rfl ?_); at_builtin; refine Kd.R_append_rows k38 (w0 := w) w.heap.size rfl (.tmp 64) (.tmp 65) 35 38 (.agg #[(.int .i64 0), (.int .i64 0), (.int .i64 0)]) 24 rfl Try.underlying35 info38 rfl (by decide) (by omega) v590 y589 t568 _ _ _ (fun k_ => some k_ ≠ (.slice Ao62 t568.length co62 : Value).ownBlock) (fun _ => False) rfl rfl ?aO ?aR (fun _ _ h => h) (fun _ h => h.elim) ?aF ?aB ?aS ?aL ?_; (case aR => repeat (first | exact (Kd.R_reads' HO_5.out).2.2 | (with_reducible refine Kd.C_alloc ?_ _) | (with_reducible refine Kd.C_drewN ?_ _) | (with_reducible refine Kd.C_drew ?_))); (case aB => exact (by repeat first | exact HB.out | with_reducible refine below_setA ?_ ‹_› | apply below_alloc | apply pw_below_drewN)); (case aF => exact (fun k_ hk => Kd.fresh' (Kd.R_lt (kR HO_5.out)) k_ hk)); (case aO => exact (by (with_reducible repeat apply Kd.R_alloc); exact Kd.R_mono HO591.out (fun _ hk => hk.2))); (case aS => exact (below_size (by repeat first | exact HB.out | with_reducible refine below_setA ?_ ‹_› | apply below_alloc | apply pw_below_drewN))); (case aL => have := LMc55.out; omega); intro v593 w61 ho hb hg hat; rw [<- Ny592.out] at ho; have n0_ := Aside0.mk (Kd.R_after (ok := (fun _ => True)) (kR HO_5.out) hg hat); have n1_ := Aside0.mk (Kd.Q_over' (by (with_reducible repeat apply Kd.Q_alloc); exact HO_568001.out) (Kd.R_typed (kR HO591.out)) (by decide) hg); have n2_ := Aside0.mk (Kd.Q_over' (by (with_reducible repeat apply Kd.Q_alloc); exact HO_587001.out) (Kd.R_typed (kR HO591.out)) (by decide) hg); have n3_ := Aside0.mk (blk_grown (g := gb567) (o := .cells #[.int .i64 t562, u568001] 25 (0, 0)) (bK BK567.out) hg (Kd.R_ne HO591.out BK567.out (by decide))); have n4_ := Aside0.mk (blk_grown (g := gb586) (o := .cells #[.int .i64 t562, .slice Ao58 x587001_2.length co58] 25 (0, 0)) (bK BK586.out) hg (Kd.R_ne HO591.out BK586.out (by decide))); have n5_ := Aside0.mk (hb); have n6_ := Aside0.mk (ho); clear HO_5; clear HO_568001; clear HO_587001; clear BK567; clear BK586; clear HB; clear HO591; have HO_5 := n0_; have HO_568001 := n1_; have HO_587001 := n2_; have BK567 := n3_; have BK586 := n4_; have HB := n5_; have HO594 := n6_; clear n0_ n1_ n2_ n3_ n4_ n5_ n6_; clear ho hb hg hat))
          go_loopg [9] k2 (fun kq v9 w' => ∃ (x8_3 : List (S38)) (x9_3 : Int), v9 = .int .i64 x9_3 ∧ Aside0 (laws_FnTrailLamp.l1 kq t566 x8_3 x9_3 t562 x568001_2 t562 x587001_2 = some r) ∧ Aside0 (kq <= k2) ∧ Aside0 (Kd.R k38 38 w' w.heap.size (fun _ => True) v593 x8_3) ∧ Aside0 (Kd.Q k42 42 w' w.heap.size (fun k_ => some k_ ≠ ((.slice Ao58 x587001_2.length co58) : Value).ownBlock) u568001 x568001_2) ∧ Aside0 (Kd.Q k42 42 w' w.heap.size (fun k_ => some k_ ≠ (u568001 : Value).ownBlock) (.slice Ao58 x587001_2.length co58) x587001_2) ∧ Aside0 (w'.heap[gb567]? = some (.cells #[.int .i64 t562, u568001] 25 (0, 0))) ∧ Aside0 (w'.heap[gb586]? = some (.cells #[.int .i64 t562, (.slice Ao58 x587001_2.length co58)] 25 (0, 0))) ∧ Aside0 (Below w.heap.size w w'))
          case atStart => exact ⟨(y592), (0), (by first | rfl | (simp; done) | (simp [*]; done)), H', ⟨Nat.le_refl _⟩, ⟨by (with_reducible repeat apply Kd.R_alloc); exact Kd.R_mono HO594.out (fun _ hk => trivial)⟩, ⟨by (with_reducible repeat apply Kd.Q_alloc); exact HO_568001.out⟩, ⟨by (with_reducible repeat apply Kd.Q_alloc); exact HO_587001.out⟩, ⟨by (with_reducible repeat apply blk_alloc); exact BK567.out⟩, ⟨by (with_reducible repeat apply blk_alloc); exact BK586.out⟩, ⟨by repeat first | exact HB.out | with_reducible refine below_setA ?_ ‹_› | apply below_alloc | apply pw_below_drewN⟩⟩
          case round =>
           clear H'
           try clear c1
           try clear c2
           try clear c2b0
           try clear c2b1
           try clear p2
           try clear c3
           try clear c4
           try clear p4
           try clear q4
           try clear hx4
           try clear hf4
           try clear c5
           try clear p5
           try clear q5
           try clear hx5
           try clear hf5
           try clear p6
           try clear c8
           try clear c13
           try clear c16
           try clear c17
           try clear c18
           try clear c19
           try clear c25
           try clear c32
           try clear c43
           try clear c43b0
           try clear c44
           try clear c44b0
           try clear c45
           try clear c45b0
           try clear c45b1
           try clear c46
           try clear p46
           try clear q46
           try clear hx46
           try clear hf46
           try clear c47
           try clear c50
           try clear hx50
           try clear hf50
           try clear c52
           try clear c55
           try clear c56
           try clear p58
           try clear q58
           try clear hx58
           try clear hcz15_0
           try clear hcz15_1
           try clear hcz19_0
           try clear hcz19_1
           try clear hcz21_0
           try clear hcz21_1
           try clear hcz28_0
           try clear hcz28_1
           try clear hcz48_0
           try clear hcz48_1
           try clear hcz53_0
           try clear hcz53_1
           try clear hcz57_0
           try clear hcz57_1
           try clear hcz8_0
           try clear hcz8_1
           try clear hfz15_0
           try clear hfz15_1
           try clear hfz19_0
           try clear hfz19_1
           try clear hfz21_0
           try clear hfz21_1
           try clear hfz28_0
           try clear hfz28_1
           try clear hfz48_0
           try clear hfz48_1
           try clear hfz53_0
           try clear hfz53_1
           try clear hfz57_0
           try clear hfz57_1
           try clear hfz8_0
           try clear hfz8_1
           try clear hx46_0
           try clear hx46_1
           try clear hx50_0
           try clear hx50_1
           try clear hx587_0
           try clear hx587_1
           try clear p2
           try clear p46
           try clear p587
           try clear q46
           try clear q587
           obtain ⟨x8_3, x9_3, rfl, HA, HK3, HO_8, HO_568001, HO_587001, BK567, BK586, HB⟩ := hrel
           cases gk with
           | zero => exact absurd HA.out (by simp [laws_FnTrailLamp.l1])
           | succ k3 =>
            have H := HA.out
            clear HA
            simp only [laws_FnTrailLamp.l1] at H
            by_cases c63 : x9_3 < (x8_3.length : Int)
            ·rw [if_pos c63] at H
             have c63b0 : decide (x9_3 < (x8_3.length : Int)) = true := decide_eq_true c63
             clear c63
             by_cases c64 : 0 <= x9_3
             ·rw [if_pos c64] at H
              have c64b0 : decide (0 <= x9_3) = true := decide_eq_true c64
              clear c64
              by_cases c65 : ((rd_T38 x8_3 x9_3).f0) = 2
              ·rw [if_pos c65] at H
               have c65b0 : (((rd_T38 x8_3 x9_3).f0) == 2) = true := beq_iff_eq.mpr c65
               have c65b1 : (((rd_T38 x8_3 x9_3).f0) != 2) = false := bne_eq_false_iff_eq.mpr c65
               clear c65
               obtain ⟨y596, hy596⟩ : ∃ y_ : List (S38), y_ = (x8_3.set (x9_3 : Int).toNat (⟨1, (rd_T38 x8_3 x9_3).f1, (rd_T38 x8_3 x9_3).f2⟩ : S38)) := ⟨_, rfl⟩
               replace H : (laws_FnTrailLamp.l1 k3 t566 y596 (wrap64 (x9_3 + 1)) t562 x568001_2 t562 x587001_2) = some r := by first | (rw [hy596]; with_reducible exact H) | (have H2_ := (Option.bind_some _ _).symm.trans H; rw [hy596]; with_reducible exact H2_) | (have H2_ := (Option.bind_some _ _).symm.trans H; with_reducible exact H2_) | with_reducible exact H | (rw [hy596]; exact H) | exact H
               have Ny596 := Aside0.mk hy596
               clear hy596
               have H' := Aside0.mk H
               clear H
               obtain ⟨Ao67, co67, eo67⟩ := Kd.R_slice HO_8.out
               subst eo67
               have p595 : 0 <= (x9_3 : Int) := of_decide_eq_true (by first | (with_reducible assumption) | assumption)
               have q595 : x9_3 < (x8_3.length : Int) := of_decide_eq_true (by first | (with_reducible assumption) | assumption)
               obtain ⟨ad595, e595, hx595_0, hx595_1, hx595_2⟩ := at_T38 (Kd.R_reads' HO_8.out).2.2 x9_3 p595 q595
               cases e595
               replace p595 := eq_true p595
               replace q595 := eq_true q595
               have p66 : 0 <= (x9_3 : Int) := of_decide_eq_true (by first | (with_reducible assumption) | assumption)
               have q66 : (x9_3 : Int) < ((x8_3.length : Int) : Int) := of_decide_eq_true (by first | (with_reducible assumption) | assumption)
               obtain ⟨go66, co66, eo66, gb66, gl66, cl66, HG66⟩ := Kd.R_form HO_8.out (by omega)
               (first | cases eo66 | (injection eo66 with ea_ en_ ec_; (first | subst ea_ | (injection ea_ with ea_; subst ea_)); subst ec_; clear en_))
               have GB66 := Aside0.mk gb66
               have GG66 := Aside0.mk HG66
               clear gb66 gl66 HG66
               (first | simp only [add_plain] at hx595_0 | skip)
               (first | simp only [add_plain] at hx595_1 | skip)
               (first | simp only [add_plain] at hx595_2 | skip)
               obtain ⟨ce66, hcl66, hM66, hcc66, hfr66⟩ := Kd.R_elem HO_8.out z38 (x9_3 : Int) p66 q66
               obtain rfl := k38_openM hM66
               have hx66_0 : wr.cell? ⟨go66, (x9_3 : Int).toNat * 3, none⟩ = some (.int .i64 ((rd_T38 x8_3 x9_3).f0)) := hcc66 0 _ rfl
               have hx66_1 : wr.cell? ⟨go66, (x9_3 : Int).toNat * 3 + 1, none⟩ = some (.int .i64 ((rd_T38 x8_3 x9_3).f1)) := hcc66 1 _ rfl
               have hx66_2 : wr.cell? ⟨go66, (x9_3 : Int).toNat * 3 + 2, none⟩ = some (.int .i64 ((rd_T38 x8_3 x9_3).f2)) := hcc66 2 _ rfl
               have hf66_0 : wr.frozen? ⟨go66, (x9_3 : Int).toNat * 3, none⟩ = false := hfr66 0
               have hf66_1 : wr.frozen? ⟨go66, (x9_3 : Int).toNat * 3 + 1, none⟩ = false := hfr66 1
               have hf66_2 : wr.frozen? ⟨go66, (x9_3 : Int).toNat * 3 + 2, none⟩ = false := hfr66 2
               clear hcl66 hcc66 hfr66 hM66
               replace p66 := eq_true p66
               replace q66 := eq_true q66
               have HX68 := Aside0.mk (show Kd.R k38 38 wr w.heap.size (fun _ => True) (.slice (some ⟨go66, 0, none⟩) x8_3.length co67) x8_3 from (kR HO_8.out))
               obtain ⟨ce68, hcl68, hM68, hcc68, hfr68⟩ := Kd.R_elem HX68.out z38 (x9_3 : Int) (of_decide_eq_true (by first | (with_reducible assumption) | assumption)) (by have h_ : (x9_3 : Int) < ((x8_3.length : Int) : Int) := of_decide_eq_true (by first | (with_reducible assumption) | assumption); first | exact h_ | (have e_ := (Kd.R_reads' HO_8.out).1; omega) | simpa using h_)
               obtain rfl := k38_openM hM68
               have HP68 := Kd.R_seg HX68.out (x9_3 : Int) (of_decide_eq_true (by first | (with_reducible assumption) | assumption)) (by have h_ : (x9_3 : Int) < ((x8_3.length : Int) : Int) := of_decide_eq_true (by first | (with_reducible assumption) | assumption); first | exact h_ | (have e_ := (Kd.R_reads' HO_8.out).1; omega) | simpa using h_) (seg := [.int .i64 1]) (j := 0) hcl68 hcc68 (show 1 <= 3 from by decide) (x' := (⟨1, (rd_T38 x8_3 x9_3).f1, (rd_T38 x8_3 x9_3).f2⟩ : S38)) (k38_mkM _ _ _ (⟨1, (rd_T38 x8_3 x9_3).f1, (rd_T38 x8_3 x9_3).f2⟩ : S38) ) (fun _ hk => hk)
               have hx68_0 := hcc68 0 _ rfl
               (try simp only [show (k38).sz = 3 from rfl, Nat.mul_one, Nat.add_zero] at hx68_0)
               have hf68_0 := hfr68 0
               (try simp only [show (k38).sz = 3 from rfl, Nat.mul_one, Nat.add_zero] at hf68_0)
               clear hcl68 hcc68 hfr68 hM68
               go_wp2_with (first | ((with_reducible refine gate_store (t := 3) (p := 82) rfl ?_); refine store_event (t := 3) (p := 82) (v := ?vo_w69) (w1 := (wr.setCell ⟨go66, (x9_3 : Int).toNat * 3, none⟩ (.int .i64 1))) ?hg ?ho ?hn ?hr ?_; (case ho => rfl); (case hg => rfl); (case hn => rfl); (case hr => first | (go_simp; done) | (go_simp; rfl)); intro w69 hw; have hg : wr.grownBy w69 (some go66) := (by rw [hw]; exact HP68.2); have hp_ : Kd.R k38 38 w69 w.heap.size (fun _ => True) (.slice (some ⟨go66, 0, none⟩) x8_3.length co67) y596 := (by rw [hw, Ny596.out]; exact HP68.1); clear HP68; have n0_ := Aside0.mk (hp_); have n1_ := Aside0.mk (Kd.Q_over' (v := (.slice (some ⟨go66, 0, none⟩) x8_3.length co67)) (by (with_reducible repeat apply Kd.Q_alloc); exact HO_568001.out) (Kd.R_typed HO_8.out) (by decide) hg); have n2_ := Aside0.mk (Kd.Q_over' (v := (.slice (some ⟨go66, 0, none⟩) x8_3.length co67)) (by (with_reducible repeat apply Kd.Q_alloc); exact HO_587001.out) (Kd.R_typed HO_8.out) (by decide) hg); have n3_ := Aside0.mk (blk_grown (g := gb567) (o := .cells #[.int .i64 t562, u568001] 25 (0, 0)) (bK BK567.out) hg (Kd.R_ne HO_8.out BK567.out (by decide))); have n4_ := Aside0.mk (blk_grown (g := gb586) (o := .cells #[.int .i64 t562, .slice Ao58 x587001_2.length co58] 25 (0, 0)) (bK BK586.out) hg (Kd.R_ne HO_8.out BK586.out (by decide))); have n5_ := Aside0.mk ((by rw [hw]; exact below_set (HB.out) GB66.out : Below w.heap.size w w69)); clear HO_8; clear HO_568001; clear HO_587001; clear BK567; clear BK586; clear HB; have HO_8 := n0_; have HO_568001 := n1_; have HO_587001 := n2_; have BK567 := n3_; have BK586 := n4_; have HB := n5_; clear n0_ n1_ n2_ n3_ n4_ n5_; clear hg hw hp_))
               go_roundg k3
               case measure => have := HJ4.out; have := HK2.out; have := HK3.out; omega
               case rel => exact ⟨(y596), (wrap64 (x9_3 + 1)), (by first | rfl | (simp; done) | (simp [*]; done)), H', ⟨by have := HJ4.out; have := HK2.out; have := HK3.out; omega⟩, ⟨by (with_reducible repeat apply Kd.R_alloc); exact HO_8.out⟩, ⟨by (with_reducible repeat apply Kd.Q_alloc); exact HO_568001.out⟩, ⟨by (with_reducible repeat apply Kd.Q_alloc); exact HO_587001.out⟩, ⟨by (with_reducible repeat apply blk_alloc); exact BK567.out⟩, ⟨by (with_reducible repeat apply blk_alloc); exact BK586.out⟩, ⟨by repeat first | exact HB.out | with_reducible refine below_setA ?_ ‹_› | apply below_alloc | apply pw_below_drewN⟩⟩
              ·rw [if_neg c65] at H
               have c65b0 : (((rd_T38 x8_3 x9_3).f0) == 2) = false := beq_eq_false_iff_ne.mpr c65
               have c65b1 : (((rd_T38 x8_3 x9_3).f0) != 2) = true := bne_iff_ne.mpr c65
               have H' := Aside0.mk H
               clear H
               obtain ⟨Ao70, co70, eo70⟩ := Kd.R_slice HO_8.out
               subst eo70
               have p595 : 0 <= (x9_3 : Int) := of_decide_eq_true (by first | (with_reducible assumption) | assumption)
               have q595 : x9_3 < (x8_3.length : Int) := of_decide_eq_true (by first | (with_reducible assumption) | assumption)
               obtain ⟨ad595, e595, hx595_0, hx595_1, hx595_2⟩ := at_T38 (Kd.R_reads' HO_8.out).2.2 x9_3 p595 q595
               cases e595
               replace p595 := eq_true p595
               replace q595 := eq_true q595
               go_wp2
               go_roundg k3
               case measure => have := HJ4.out; have := HK2.out; have := HK3.out; omega
               case rel => exact ⟨(x8_3), (wrap64 (x9_3 + 1)), (by first | rfl | (simp; done) | (simp [*]; done)), H', ⟨by have := HJ4.out; have := HK2.out; have := HK3.out; omega⟩, ⟨by (with_reducible repeat apply Kd.R_alloc); exact HO_8.out⟩, ⟨by (with_reducible repeat apply Kd.Q_alloc); exact HO_568001.out⟩, ⟨by (with_reducible repeat apply Kd.Q_alloc); exact HO_587001.out⟩, ⟨by (with_reducible repeat apply blk_alloc); exact BK567.out⟩, ⟨by (with_reducible repeat apply blk_alloc); exact BK586.out⟩, ⟨by repeat first | exact HB.out | with_reducible refine below_setA ?_ ‹_› | apply below_alloc | apply pw_below_drewN⟩⟩
             ·rw [if_neg c64] at H
              exact absurd H (by simp)
            ·rw [if_neg c63] at H
             have c63b0 : decide (x9_3 < (x8_3.length : Int)) = false := decide_eq_false c63
             clear c63
             replace H := Option.bind_eq_some_iff.mp H
             obtain ⟨t597, A710, H⟩ := H
             replace H : ((laws_llEnds.f k3 t597 x8_3).bind fun t600 => (if t600 = true then ((impl_TrailVisits.f k3 t562 x587001_2 t566).bind fun t601 => ((impl_TrailVisits.f k3 t562 x568001_2 t566).bind fun t604 => ((laws_llVisits.f k3 t601 t604).bind fun t607 => (some t607)))) else (some false))) = some r := H
             have A71 := Aside0.mk A710
             clear A710
             replace H := Option.bind_eq_some_iff.mp H
             obtain ⟨t600, A720, H⟩ := H
             replace H : (if t600 = true then ((impl_TrailVisits.f k3 t562 x587001_2 t566).bind fun t601 => ((impl_TrailVisits.f k3 t562 x568001_2 t566).bind fun t604 => ((laws_llVisits.f k3 t601 t604).bind fun t607 => (some t607)))) else (some false)) = some r := H
             have A72 := Aside0.mk A720
             clear A720
             by_cases c73 : t600 = true
             ·subst c73
              have H1 : ((impl_TrailVisits.f k3 t562 x587001_2 t566).bind fun t601 => ((impl_TrailVisits.f k3 t562 x568001_2 t566).bind fun t604 => ((laws_llVisits.f k3 t601 t604).bind fun t607 => (some t607)))) = some r := by rw [if_pos rfl] at H; exact H
              clear H
              have H := H1
              clear H1
              replace H := Option.bind_eq_some_iff.mp H
              obtain ⟨t601, A740, H⟩ := H
              replace H : ((impl_TrailVisits.f k3 t562 x568001_2 t566).bind fun t604 => ((laws_llVisits.f k3 t601 t604).bind fun t607 => (some t607))) = some r := H
              have A74 := Aside0.mk A740
              clear A740
              replace H := Option.bind_eq_some_iff.mp H
              obtain ⟨t604, A750, H⟩ := H
              replace H : ((laws_llVisits.f k3 t601 t604).bind fun t607 => (some t607)) = some r := H
              have A75 := Aside0.mk A750
              clear A750
              replace H := Option.bind_eq_some_iff.mp H
              obtain ⟨t607, A760, H⟩ := H
              replace H : (some t607) = some r := H
              have A76 := Aside0.mk A760
              clear A760
              obtain rfl := Option.some.inj H
              obtain ⟨Ao77, co77, eo77⟩ := Kd.R_slice HO_8.out
              subst eo77
              try go_wp2
              have n0_ := Aside0.mk (Kd.R_drew HO_8.out)
              have n1_ := Aside0.mk (Kd.Q_drew HO_568001.out)
              have n2_ := Aside0.mk (Kd.Q_drew HO_587001.out)
              have n3_ := Aside0.mk (blk_drew BK567.out)
              have n4_ := Aside0.mk (blk_drew BK586.out)
              have n5_ := Aside0.mk (below_drew1 HB.out)
              clear HO_8
              clear HO_568001
              clear HO_587001
              clear BK567
              clear BK586
              clear HB
              have HO_8 := n0_
              have HO_568001 := n1_
              have HO_587001 := n2_
              have BK567 := n3_
              have BK586 := n4_
              have HB := n5_
              clear n0_ n1_ n2_ n3_ n4_ n5_
              refine start_ (n := 15) (S := fun w' => w'.cell? ⟨gb586, 0, none⟩ = some (.int .i64 t562) ∧ w'.cell? ⟨gb586, 1, none⟩ = some (.slice Ao58 x587001_2.length co58) ∧ w'.cell? ⟨gb567, 0, none⟩ = some (.int .i64 t562) ∧ w'.cell? ⟨gb567, 1, none⟩ = some (u568001)) (ds := []) #[false, false, false, false, false, false, false, false, false, false, false, false, false, false, false] (by kernel_rfl) rfl rfl ⟨(blk_cell BK586.out 0).trans rfl, (blk_cell BK586.out 1).trans rfl, (blk_cell BK567.out 0).trans rfl, (blk_cell BK567.out 1).trans rfl⟩ (fun hHeld => ?_); refine with_tabW laws_FnTrailLamp.tab19 laws_FnTrailLamp.bits19 (fun HT_ HW_ => ?_)
              generalize wr.drew = w78 at HO_8 HO_568001 HO_587001 BK567 BK586 HB hHeld ⊢
              refine pure_ (i := 1) (N := some 84) (v := ?_) (a' := ?_) #[false, true, false, false, false, false, false, false, false, false, false, false, false, false, false] rfl rfl (any_of HT_.out (by kernel_rfl)) (fun _ _ _ h => h) (Or.inl ⟨by rfl, ?_⟩) ?_ ?_
              rotate_left
              ·intro w'
               go_simp
               with_reducible rfl
              rotate_left
              ·simp only [Act.put, sA_, sZ_, sS_, i64_w, i32_w]
               rfl
              refine pure_ (i := 3) (N := some 86) (v := ?_) (a' := ?_) #[false, true, false, true, false, false, false, false, false, false, false, false, false, false, false] rfl rfl (any_of HT_.out (by kernel_rfl)) (fun _ _ _ h => h) (Or.inl ⟨by rfl, ?_⟩) ?_ ?_
              rotate_left
              ·intro w'
               go_simp
               with_reducible rfl
              rotate_left
              ·simp only [Act.put, sA_, sZ_, sS_, i64_w, i32_w]
               rfl
              refine take_ (i := 0) (N := some 83) (v := ?_) (a' := ?_) #[true, true, false, true, false, false, false, false, false, false, false, false, false, false, false] rfl rfl (take_ofW HT_.out HW_.out (by kernel_rfl)) (fun _ _ _ h => h) (Or.inl ⟨by rfl, ?_⟩) hHeld ?_ ?_
              rotate_left
              ·rintro w' ⟨s0, s1, s2, s3⟩
               go_simp
               with_reducible rfl
              rotate_left
              ·simp only [Act.put, sA_, sZ_, sS_, i64_w, i32_w]
               rfl
              refine one_ (i := 2) (N := some 85) #[true, true, true, true, false, false, false, false, false, false, false, false, false, false, false] rfl rfl (one_of HT_.out (by kernel_rfl)) (by decide) (fun K hK => ?_)
              refine goes_ Try.func16 (by kernel_rfl) rfl #[.agg #[.int .i64 t562, .slice Ao58 x587001_2.length co58], .int .i64 t566] (by rfl) rfl rfl (by first | rfl | (simp only [List.map_toArray, List.map_cons, List.map_nil, List.length_drop, List.length_take]; try rfl)) ?_
              with_reducible refine (impl_TrailEnds.calls k3 t562 _ _ x587001_2 t566 t597 _ ?side1 ?side2 A71.out).mono ?_
              (case side1 => repeat (first | exact (Kd.Q_reads' HO_587001.out).2.2 | (with_reducible refine Kd.C_alloc ?_ _) | (with_reducible refine Kd.C_drewN ?_ _) | (with_reducible refine Kd.C_drew ?_)))
              (case side2 => exact (Kd.Q_reads' HO_587001.out).2.1)
              rintro e w79 ⟨v598, rfl, ho0, hb⟩
              refine ⟨_, rfl, ?_⟩
              have n0_ := Aside0.mk (Kd.R_elder' (kR HO_8.out) (Kd.R_base ho0) hb)
              have n1_ := Aside0.mk (Kd.Q_below (by (with_reducible repeat apply Kd.Q_alloc); exact HO_568001.out) hb)
              have n2_ := Aside0.mk (Kd.Q_below (by (with_reducible repeat apply Kd.Q_alloc); exact HO_587001.out) hb)
              have n3_ := Aside0.mk (Kd.R_lower (Kd.R_new' ho0 (Kd.R_lt (kR HO_8.out))) (below_size (by repeat first | exact HB.out | with_reducible refine below_setA ?_ ‹_› | apply below_alloc | apply pw_below_drewN)))
              have n4_ := Aside0.mk (blk_below (bK BK567.out) hb)
              have n5_ := Aside0.mk (blk_below (bK BK586.out) hb)
              have n6_ := Aside0.mk (below_step (by repeat first | exact HB.out | with_reducible refine below_setA ?_ ‹_› | apply below_alloc | apply pw_below_drewN) hb)
              clear HO_8
              clear HO_568001
              clear HO_587001
              clear BK567
              clear BK586
              clear HB
              have HO_8 := n0_
              have HO_568001 := n1_
              have HO_587001 := n2_
              have HO599 := n3_
              have BK567 := n4_
              have BK586 := n5_
              have HB := n6_
              clear n0_ n1_ n2_ n3_ n4_ n5_ n6_
              (try clear hb)
              (try clear hb2)
              (try clear hk)
              (try clear hi)
              (try clear ho0)
              obtain ⟨Ao80, co80, eo80⟩ := Kd.R_slice HO599.out
              (first | subst eo80 | (injection eo80 with f1_ f2_ f3_; have f4_ := f1_.symm; have f5_ := f3_.symm; clear f1_ f2_ f3_; subst f4_; subst f5_))
              refine hK.out _ _ ⟨(blk_cell BK586.out 0).trans rfl, (blk_cell BK586.out 1).trans rfl, (blk_cell BK567.out 0).trans rfl, (blk_cell BK567.out 1).trans rfl⟩ (fun hHeld => ?_)
              clear hK K
              refine norm_ (a' := ?_) ?_ ?_
              rotate_left
              ·show Act.put _ (some 85) _ = _
               simp only [Act.put, sA_, sZ_, sS_, i64_w, i32_w]
               rfl
              refine one_ (i := 4) (N := some 87) #[true, true, true, true, true, false, false, false, false, false, false, false, false, false, false] rfl rfl (one_of HT_.out (by kernel_rfl)) (by decide) (fun K hK => ?_)
              refine goes_ Try.func18 (by kernel_rfl) rfl #[.slice Ao80 t597.length co80, .slice Ao77 x8_3.length co77] (by rfl) rfl rfl (by first | rfl | (simp only [List.map_toArray, List.map_cons, List.map_nil, List.length_drop, List.length_take]; try rfl)) ?_
              with_reducible refine (laws_llEnds.calls k3 _ _ t597 _ _ x8_3 true _ ?side1 ?side2 ?side3 ?side4 A72.out).mono ?_
              (case side1 => repeat (first | exact (Kd.R_reads' HO599.out).2.2 | (with_reducible refine Kd.C_alloc ?_ _) | (with_reducible refine Kd.C_drewN ?_ _) | (with_reducible refine Kd.C_drew ?_)))
              (case side2 => exact (Kd.R_reads' HO599.out).2.1)
              (case side3 => repeat (first | exact (Kd.R_reads' HO_8.out).2.2 | (with_reducible refine Kd.C_alloc ?_ _) | (with_reducible refine Kd.C_drewN ?_ _) | (with_reducible refine Kd.C_drew ?_)))
              (case side4 => exact (Kd.R_reads' HO_8.out).2.1)
              rintro e w' ⟨rfl, ⟨nd, rfl⟩⟩
              refine ⟨_, rfl, ?_⟩
              refine hK.out _ _ ⟨(blk_cell BK586.out 0).trans rfl, (blk_cell BK586.out 1).trans rfl, (blk_cell BK567.out 0).trans rfl, (blk_cell BK567.out 1).trans rfl⟩ (fun hHeld => ?_)
              clear hK K
              refine norm_ (a' := ?_) ?_ ?_
              rotate_left
              ·show Act.put _ (some 87) _ = _
               simp only [Act.put, sA_, sZ_, sS_, i64_w, i32_w]
               rfl
              refine pure_ (i := 5) (N := some 88) (v := ?_) (a' := ?_) #[true, true, true, true, true, true, false, false, false, false, false, false, false, false, false] rfl rfl (any_of HT_.out (by kernel_rfl)) (fun _ _ _ h => h) (Or.inl ⟨by rfl, ?_⟩) ?_ ?_
              rotate_left
              ·intro w'
               go_simp
               with_reducible rfl
              rotate_left
              ·simp only [Act.put, sA_, sZ_, sS_, i64_w, i32_w]
               rfl
              refine pure_ (i := 7) (N := some 90) (v := ?_) (a' := ?_) #[true, true, true, true, true, true, false, true, false, false, false, false, false, false, false] rfl rfl (any_of HT_.out (by kernel_rfl)) (fun _ _ _ h => h) (Or.inl ⟨by rfl, ?_⟩) ?_ ?_
              rotate_left
              ·intro w'
               go_simp
               with_reducible rfl
              rotate_left
              ·simp only [Act.put, sA_, sZ_, sS_, i64_w, i32_w]
               rfl
              refine pure_ (i := 10) (N := some 93) (v := ?_) (a' := ?_) #[true, true, true, true, true, true, false, true, false, false, true, false, false, false, false] rfl rfl (any_of HT_.out (by kernel_rfl)) (fun _ _ _ h => h) (Or.inl ⟨by rfl, ?_⟩) ?_ ?_
              rotate_left
              ·intro w'
               go_simp
               with_reducible rfl
              rotate_left
              ·simp only [Act.put, sA_, sZ_, sS_, i64_w, i32_w]
               rfl
              refine take_ (i := 6) (N := some 89) (v := ?_) (a' := ?_) #[true, true, true, true, true, true, true, true, false, false, true, false, false, false, false] rfl rfl (take_ofW HT_.out HW_.out (by kernel_rfl)) (fun _ _ _ h => h) (Or.inl ⟨by rfl, ?_⟩) hHeld ?_ ?_
              rotate_left
              ·rintro w' ⟨s0, s1, s2, s3⟩
               go_simp
               with_reducible rfl
              rotate_left
              ·simp only [Act.put, sA_, sZ_, sS_, i64_w, i32_w]
               rfl
              refine take_ (i := 9) (N := some 92) (v := ?_) (a' := ?_) #[true, true, true, true, true, true, true, true, false, true, true, false, false, false, false] rfl rfl (take_ofW HT_.out HW_.out (by kernel_rfl)) (fun _ _ _ h => h) (Or.inl ⟨by rfl, ?_⟩) hHeld ?_ ?_
              rotate_left
              ·rintro w' ⟨s0, s1, s2, s3⟩
               go_simp
               with_reducible rfl
              rotate_left
              ·simp only [Act.put, sA_, sZ_, sS_, i64_w, i32_w]
               rfl
              refine one_ (i := 8) (N := some 91) #[true, true, true, true, true, true, true, true, true, true, true, false, false, false, false] rfl rfl (one_of HT_.out (by kernel_rfl)) (by decide) (fun K hK => ?_)
              refine goes_ Try.func11 (by kernel_rfl) rfl #[.agg #[.int .i64 t562, .slice Ao58 x587001_2.length co58], .int .i64 t566] (by rfl) rfl rfl (by first | rfl | (simp only [List.map_toArray, List.map_cons, List.map_nil, List.length_drop, List.length_take]; try rfl)) ?_
              with_reducible refine (impl_TrailVisits.calls k3 t562 _ _ x587001_2 t566 t601 _ ?side1 ?side2 A74.out).mono ?_
              (case side1 => repeat (first | exact (Kd.Q_reads' HO_587001.out).2.2 | (with_reducible refine Kd.C_alloc ?_ _) | (with_reducible refine Kd.C_drewN ?_ _) | (with_reducible refine Kd.C_drew ?_)))
              (case side2 => exact (Kd.Q_reads' HO_587001.out).2.1)
              rintro e w81 ⟨v602, rfl, ho0, hb⟩
              refine ⟨_, rfl, ?_⟩
              have n0_ := Aside0.mk (Kd.R_below (kR HO_8.out) hb)
              have n1_ := Aside0.mk (Kd.Q_below (by (with_reducible repeat apply Kd.Q_alloc); exact HO_568001.out) hb)
              have n2_ := Aside0.mk (Kd.Q_below (by (with_reducible repeat apply Kd.Q_alloc); exact HO_587001.out) hb)
              have n3_ := Aside0.mk (Kd.R_below (kR HO599.out) hb)
              have n4_ := Aside0.mk (Kd.R_lower ho0 (below_size (by repeat first | exact HB.out | with_reducible refine below_setA ?_ ‹_› | apply below_alloc | apply pw_below_drewN)))
              have n5_ := Aside0.mk (blk_below (bK BK567.out) hb)
              have n6_ := Aside0.mk (blk_below (bK BK586.out) hb)
              have n7_ := Aside0.mk (below_step (by repeat first | exact HB.out | with_reducible refine below_setA ?_ ‹_› | apply below_alloc | apply pw_below_drewN) hb)
              clear HO_8
              clear HO_568001
              clear HO_587001
              clear HO599
              clear BK567
              clear BK586
              clear HB
              have HO_8 := n0_
              have HO_568001 := n1_
              have HO_587001 := n2_
              have HO599 := n3_
              have HO603 := n4_
              have BK567 := n5_
              have BK586 := n6_
              have HB := n7_
              clear n0_ n1_ n2_ n3_ n4_ n5_ n6_ n7_
              (try clear hb)
              (try clear hb2)
              (try clear hk)
              (try clear hi)
              (try clear ho0)
              obtain ⟨Ao82, co82, eo82, _⟩ := Kd.Q_slice HO_568001.out
              (first | subst eo82 | (injection eo82 with f1_ f2_ f3_; have f4_ := f1_.symm; have f5_ := f3_.symm; clear f1_ f2_ f3_; subst f4_; subst f5_))
              refine hK.out _ _ ⟨(blk_cell BK586.out 0).trans rfl, (blk_cell BK586.out 1).trans rfl, (blk_cell BK567.out 0).trans rfl, (blk_cell BK567.out 1).trans rfl⟩ (fun hHeld => ?_)
              clear hK K
              refine norm_ (a' := ?_) ?_ ?_
              rotate_left
              ·show Act.put _ (some 91) _ = _
               simp only [Act.put, sA_, sZ_, sS_, i64_w, i32_w]
               rfl
              refine one_ (i := 11) (N := some 94) #[true, true, true, true, true, true, true, true, true, true, true, true, false, false, false] rfl rfl (one_of HT_.out (by kernel_rfl)) (by decide) (fun K hK => ?_)
              refine goes_ Try.func11 (by kernel_rfl) rfl #[.agg #[.int .i64 t562, .slice Ao82 x568001_2.length co82], .int .i64 t566] (by rfl) rfl rfl (by first | rfl | (simp only [List.map_toArray, List.map_cons, List.map_nil, List.length_drop, List.length_take]; try rfl)) ?_
              with_reducible refine (impl_TrailVisits.calls k3 t562 _ _ x568001_2 t566 t604 _ ?side1 ?side2 A75.out).mono ?_
              (case side1 => repeat (first | exact (Kd.Q_reads' HO_568001.out).2.2 | (with_reducible refine Kd.C_alloc ?_ _) | (with_reducible refine Kd.C_drewN ?_ _) | (with_reducible refine Kd.C_drew ?_)))
              (case side2 => exact (Kd.Q_reads' HO_568001.out).2.1)
              rintro e w83 ⟨v605, rfl, ho0, hb⟩
              refine ⟨_, rfl, ?_⟩
              have n0_ := Aside0.mk (Kd.R_below (kR HO_8.out) hb)
              have n1_ := Aside0.mk (Kd.Q_below (by (with_reducible repeat apply Kd.Q_alloc); exact HO_568001.out) hb)
              have n2_ := Aside0.mk (Kd.Q_below (by (with_reducible repeat apply Kd.Q_alloc); exact HO_587001.out) hb)
              have n3_ := Aside0.mk (Kd.R_below (kR HO599.out) hb)
              have n4_ := Aside0.mk (Kd.R_elder' (kR HO603.out) (Kd.R_base ho0) hb)
              have n5_ := Aside0.mk (Kd.R_lower (Kd.R_new' ho0 (Kd.R_lt (kR HO603.out))) (below_size (by repeat first | exact HB.out | with_reducible refine below_setA ?_ ‹_› | apply below_alloc | apply pw_below_drewN)))
              have n6_ := Aside0.mk (blk_below (bK BK567.out) hb)
              have n7_ := Aside0.mk (blk_below (bK BK586.out) hb)
              have n8_ := Aside0.mk (below_step (by repeat first | exact HB.out | with_reducible refine below_setA ?_ ‹_› | apply below_alloc | apply pw_below_drewN) hb)
              clear HO_8
              clear HO_568001
              clear HO_587001
              clear HO599
              clear HO603
              clear BK567
              clear BK586
              clear HB
              have HO_8 := n0_
              have HO_568001 := n1_
              have HO_587001 := n2_
              have HO599 := n3_
              have HO603 := n4_
              have HO606 := n5_
              have BK567 := n6_
              have BK586 := n7_
              have HB := n8_
              clear n0_ n1_ n2_ n3_ n4_ n5_ n6_ n7_ n8_
              (try clear hb)
              (try clear hb2)
              (try clear hk)
              (try clear hi)
              (try clear ho0)
              obtain ⟨Ao84, co84, eo84⟩ := Kd.R_slice HO603.out
              (first | subst eo84 | (injection eo84 with f1_ f2_ f3_; have f4_ := f1_.symm; have f5_ := f3_.symm; clear f1_ f2_ f3_; subst f4_; subst f5_))
              obtain ⟨Ao85, co85, eo85⟩ := Kd.R_slice HO606.out
              (first | subst eo85 | (injection eo85 with f1_ f2_ f3_; have f4_ := f1_.symm; have f5_ := f3_.symm; clear f1_ f2_ f3_; subst f4_; subst f5_))
              refine hK.out _ _ ⟨(blk_cell BK586.out 0).trans rfl, (blk_cell BK586.out 1).trans rfl, (blk_cell BK567.out 0).trans rfl, (blk_cell BK567.out 1).trans rfl⟩ (fun hHeld => ?_)
              clear hK K
              refine norm_ (a' := ?_) ?_ ?_
              rotate_left
              ·show Act.put _ (some 94) _ = _
               simp only [Act.put, sA_, sZ_, sS_, i64_w, i32_w]
               rfl
              refine one_ (i := 12) (N := some 95) #[true, true, true, true, true, true, true, true, true, true, true, true, true, false, false] rfl rfl (one_of HT_.out (by kernel_rfl)) (by decide) (fun K hK => ?_)
              refine goes_ Try.func12 (by kernel_rfl) rfl #[.slice Ao84 t601.length co84, .slice Ao85 t604.length co85] (by rfl) rfl rfl (by first | rfl | (simp only [List.map_toArray, List.map_cons, List.map_nil, List.length_drop, List.length_take]; try rfl)) ?_
              with_reducible refine (laws_llVisits.calls k3 _ _ t601 _ _ t604 t607 _ ?side1 ?side2 ?side3 ?side4 A76.out).mono ?_
              (case side1 => repeat (first | exact (Kd.R_reads' HO603.out).2.2 | (with_reducible refine Kd.C_alloc ?_ _) | (with_reducible refine Kd.C_drewN ?_ _) | (with_reducible refine Kd.C_drew ?_)))
              (case side2 => exact (Kd.R_reads' HO603.out).2.1)
              (case side3 => repeat (first | exact (Kd.R_reads' HO606.out).2.2 | (with_reducible refine Kd.C_alloc ?_ _) | (with_reducible refine Kd.C_drewN ?_ _) | (with_reducible refine Kd.C_drew ?_)))
              (case side4 => exact (Kd.R_reads' HO606.out).2.1)
              rintro e w' ⟨rfl, ⟨nd, rfl⟩⟩
              refine ⟨_, rfl, ?_⟩
              refine hK.out _ _ ⟨(blk_cell BK586.out 0).trans rfl, (blk_cell BK586.out 1).trans rfl, (blk_cell BK567.out 0).trans rfl, (blk_cell BK567.out 1).trans rfl⟩ (fun hHeld => ?_)
              clear hK K
              refine norm_ (a' := ?_) ?_ ?_
              rotate_left
              ·show Act.put _ (some 95) _ = _
               simp only [Act.put, sA_, sZ_, sS_, i64_w, i32_w]
               rfl
              refine pure_ (i := 13) (N := some 96) (v := ?_) (a' := ?_) #[true, true, true, true, true, true, true, true, true, true, true, true, true, true, false] rfl rfl (any_of HT_.out (by kernel_rfl)) (fun _ _ _ h => h) (Or.inl ⟨by rfl, ?_⟩) ?_ ?_
              rotate_left
              ·intro w'
               go_simp
               with_reducible rfl
              rotate_left
              ·simp only [Act.put, sA_, sZ_, sS_, i64_w, i32_w]
               rfl
              refine pure_ (i := 14) (N := some 2) (v := ?_) (a' := ?_) #[true, true, true, true, true, true, true, true, true, true, true, true, true, true, true] rfl rfl (any_of HT_.out (by kernel_rfl)) (fun _ _ _ h => h) (Or.inl ⟨by rfl, ?_⟩) ?_ ?_
              rotate_left
              ·intro w'
               go_simp
               with_reducible rfl
              rotate_left
              ·simp only [Act.put, sA_, sZ_, sS_, i64_w, i32_w]
               rfl
              refine done_ (done_of HT_.out (by kernel_rfl)) ?_
              try go_wp2
              go_ret
              exact ⟨by first | rfl | (simp [errW_none, errW_some] <;> rfl) | (simp [*, errW_none, errW_some] <;> rfl) | (exfalso; simp_all; done), by repeat first | exact HB.out | with_reducible refine below_setA ?_ ‹_› | apply below_alloc | apply pw_below_drewN⟩
             ·replace c73 := Bool.eq_false_iff.mpr c73
              subst c73
              have H1 : (some false) = some r := by rw [if_neg (show ¬ (false = true) by decide)] at H; exact H
              clear H
              have H := H1
              clear H1
              obtain rfl := Option.some.inj H
              exact absurd HRT.out (by decide)
         ·rw [if_neg c55] at H
          exact absurd H (by simp)
     ·rw [if_neg c32] at H
      exact absurd H (by simp)
/-- THE ONE PURE STATEMENT of laws_FnTrailLamp: yours. -/
def laws_FnTrailLamp.Pure : Prop := ∀ (l0 : List Int), l0.length <= maxLen -> l0.length * 1 <= 140737488351232 -> (∀ x ∈ l0, (Lit.int .u8 x).wf = true) -> ∃ k, laws_FnTrailLamp.f k l0 = some true
theorem laws_FnTrailLamp.walk (P : laws_FnTrailLamp.Pure) (a0 : Option Addr) (len0 cap0 : Nat) (z0 : List Int) (w : World) (w0 : (a0 = none ∧ len0 = 0 ∧ cap0 = 0 ∧ z0 = []) ∨ ∃ x, a0 = some x ∧ len0 <= cap0 ∧ cap0 <= maxLen ∧ z0.length = cap0 ∧ (∀ i, i < z0.length -> w.cell? (x.add i) = some (.int .u8 (z0.getD i 0))) ∧ ∀ n ∈ z0, (Lit.int .u8 n).wf = true) (y0 : len0 * 1 <= 140737488351232) :
  Calls Try.prog 8 #[.slice a0 len0 cap0] w fun e w' => e = .returned (.bool true) ∧ Below w.heap.size w w' := by
 obtain ⟨l0, rfl, hr0, hm0, hw0, hc0⟩ := ReadsInt.ofRowC w0
 obtain ⟨k, h⟩ := P l0 hm0 y0 hw0
 refine (laws_FnTrailLamp.calls k _ _ l0 true w (Kd.C_of_reads (d := (0 : Int)) (h1 := fun _ => rfl) hr0) hc0 h rfl).mono ?_
 rintro e w' ⟨rfl, hd⟩
 exact ⟨rfl, hd⟩
end Go.Proofs.Yteapnipnoadejaa.P
