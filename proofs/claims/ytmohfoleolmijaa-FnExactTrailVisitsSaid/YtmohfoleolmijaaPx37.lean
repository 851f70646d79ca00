/- PROVED: contracts of functions of the program, the reference and the statements; written by this session's driver (pk.py) through its own changed copy of the kit's print. No condition. -/
import Derived.Test.YtmohfoleolmijaaPx0
import Derived.Test.YtmohfoleolmijaaPx3
import Derived.Test.YtmohfoleolmijaaPx7
import Derived.Test.YtmohfoleolmijaaPx10
import Derived.Test.YtmohfoleolmijaaPx11
import Derived.Test.YtmohfoleolmijaaPx34
import Derived.Test.YtmohfoleolmijaaT3Go
namespace Go.Proofs.Ytmohfoleolmijaa.P
open Go.RowKit Go.Proofs.YtmohfoleolmijaaW.PrintWords Go.Proofs.YtmohfoleolmijaaW.PrintLast Go.Proofs.YtmohfoleolmijaaW.PrintMore
attribute [local go_sem] max2_int min2_int max_two min_two max_three min_three max_four min_four   -- for this text's walks alone
set_option linter.unusedVariables false
set_option linter.unusedSimpArgs false

/-! ### laws_FnExactTrailVisits: function 4 -/
def laws_FnExactTrailVisits.j0 : Nat → Int → List (S55) → List (S55) → Bool → Int → List (S86) → Option (Bool)
 | 0, _, _, _, _, _, _ => none
 | k + 1, x1, x6, x8, x46, x341000, x341001 => if x46 = true then (some false) else ((laws_markVisitS.f k x8 1).bind fun bt366 => ((laws_heldVisitS.f k bt366.2 1).bind fun t368 => (if t368 < 0 then (some false) else (if t368 = bt366.1 then ((laws_toGrid.f k x341000 x341001).bind fun bt369 => ((impl_TrailVisits.f k bt369.1 bt369.2 x1).bind fun t373 => ((laws_eqVisitS.f k t373 x6).bind fun t376 => (if t376 = true then ((laws_heldVisitS.f k bt366.2 1).bind fun t377 => (if t377 < 0 then (some false) else (if t377 = bt366.1 then (some true) else (some false)))) else (some false))))) else (some false)))))
def laws_FnExactTrailVisits.f (k : Nat) (a0_0 : Int) (l0_1 : List (S86)) (a1 : Int) : Option (Bool) := (laws_szGrid.f a0_0 l0_1 1048576).bind fun t341 => (if t341 < 0 then (some true) else ((laws_toGrid.f k a0_0 l0_1).bind fun bt342 => ((spec_TrailVisits.f k bt342.1 bt342.2 a1).bind fun t346 => ((laws_toGrid.f k a0_0 l0_1).bind fun bt349 => ((impl_TrailVisits.f k bt349.1 bt349.2 a1).bind fun t354 => ((laws_eqVisitS.f k t354 t346).bind fun t357 => (if t357 = true then ((laws_toGrid.f k a0_0 l0_1).bind fun bt358 => ((laws_eqGrid.f k bt349.1 bt349.2 bt358.1 bt358.2).bind fun t362 => (if t362 = true then ((laws_markGrid.f k bt349.1 bt349.2 1).bind fun bt363 => (if bt363.1 < 0 then (laws_FnExactTrailVisits.j0 k a1 t346 t354 true a0_0 l0_1) else ((laws_eqVisitS.f k t354 t346).bind fun t365 => (laws_FnExactTrailVisits.j0 k a1 t346 t354 (!t365) a0_0 l0_1)))) else (some false)))) else (some false))))))))
theorem laws_FnExactTrailVisits.mono_l : ∀ k, (∀ y0 y1 y2 y3 y4 y5, LeO (laws_FnExactTrailVisits.j0 k y0 y1 y2 y3 y4 y5) (laws_FnExactTrailVisits.j0 (k + 1) y0 y1 y2 y3 y4 y5))
 | 0 => fun _ _ _ _ _ _ r h => by simp [laws_FnExactTrailVisits.j0] at h
 | k + 1 => by
  have ih0 := laws_FnExactTrailVisits.mono_l k
  ·intro y0 y1 y2 y3 y4 y5
   unfold laws_FnExactTrailVisits.j0
   repeat' first
   | (with_reducible exact ih0 _ _ _ _ _ _)
   | (with_reducible exact impl_TrailVisits.mono _ _ _ _)
   | (with_reducible exact laws_eqGrid.mono _ _ _ _ _)
   | (with_reducible exact laws_eqVisitS.mono _ _ _)
   | (with_reducible exact laws_heldVisitS.mono _ _ _)
   | (with_reducible exact laws_markGrid.mono _ _ _ _)
   | (with_reducible exact laws_markVisitS.mono _ _ _)
   | (with_reducible exact laws_toGrid.mono _ _ _)
   | (with_reducible exact spec_TrailVisits.mono _ _ _ _)
   | (with_reducible exact LeO.refl _)
   | (with_reducible exact LeO.none _)
   | (with_reducible refine LeO.ite ?_ ?_)
   | (with_reducible refine LeO.bind ?_ (fun _ => ?_))
   | exact ih0 _ _ _ _ _ _
   | exact impl_TrailVisits.mono _ _ _ _
   | exact laws_eqGrid.mono _ _ _ _ _
   | exact laws_eqVisitS.mono _ _ _
   | exact laws_heldVisitS.mono _ _ _
   | exact laws_markGrid.mono _ _ _ _
   | exact laws_markVisitS.mono _ _ _
   | exact laws_toGrid.mono _ _ _
   | exact spec_TrailVisits.mono _ _ _ _
   | exact LeO.none _
   | refine LeO.ite ?_ ?_
   | refine LeO.bind ?_ (fun _ => ?_)
theorem laws_FnExactTrailVisits.mono : ∀ a0 a1 a2 k, LeO (laws_FnExactTrailVisits.f k a0 a1 a2) (laws_FnExactTrailVisits.f (k + 1) a0 a1 a2) := by
 intro a0 a1 a2 k
 have ih0 := laws_FnExactTrailVisits.mono_l k
 unfold laws_FnExactTrailVisits.f
 repeat' first
   | (with_reducible exact ih0 _ _ _ _ _ _)
   | (with_reducible exact impl_TrailVisits.mono _ _ _ _)
   | (with_reducible exact laws_eqGrid.mono _ _ _ _ _)
   | (with_reducible exact laws_eqVisitS.mono _ _ _)
   | (with_reducible exact laws_heldVisitS.mono _ _ _)
   | (with_reducible exact laws_markGrid.mono _ _ _ _)
   | (with_reducible exact laws_markVisitS.mono _ _ _)
   | (with_reducible exact laws_toGrid.mono _ _ _)
   | (with_reducible exact spec_TrailVisits.mono _ _ _ _)
   | (with_reducible exact LeO.refl _)
   | (with_reducible exact LeO.none _)
   | (with_reducible refine LeO.ite ?_ ?_)
   | (with_reducible refine LeO.bind ?_ (fun _ => ?_))
   | exact ih0 _ _ _ _ _ _
   | exact impl_TrailVisits.mono _ _ _ _
   | exact laws_eqGrid.mono _ _ _ _ _
   | exact laws_eqVisitS.mono _ _ _
   | exact laws_heldVisitS.mono _ _ _
   | exact laws_markGrid.mono _ _ _ _
   | exact laws_markVisitS.mono _ _ _
   | exact laws_toGrid.mono _ _ _
   | exact spec_TrailVisits.mono _ _ _ _
   | exact LeO.none _
   | refine LeO.ite ?_ ?_
   | refine LeO.bind ?_ (fun _ => ?_)
set_option maxHeartbeats 8000000 in
set_option maxRecDepth 100000 in
theorem laws_FnExactTrailVisits.calls (k : Nat) (a0_0 : Int) (A0_1 : Option Addr) (c0_1 : Nat) (l0_1 : List (S86)) (a1 : Int) (r : Bool) (w : World) (hr0_1 : Kd.C k86 w A0_1 l0_1.length l0_1) (hc0_1 : l0_1.length ≤ c0_1) (h : laws_FnExactTrailVisits.f k a0_0 l0_1 a1 = some r) (hrt : r = true) :
  Calls Try.prog 4 #[.agg #[.int .i64 a0_0, .slice A0_1 l0_1.length c0_1], .int .i64 a1] w fun e w' => e = .returned (.bool r) ∧ Below w.heap.size w w' := by
 have HRT := Aside0.mk hrt
 clear hrt
 have hu24 := Try.underlying24
 have hu30 := Try.underlying30
 have HR0_1 := Aside0.mk hr0_1
 have HC0_1 := Aside0.mk hc0_1
 clear hr0_1 hc0_1
 have HB := Aside0.mk (Below.refl w.heap.size w)
 have H : ((laws_szGrid.f a0_0 l0_1 1048576).bind fun t341 => (if t341 < 0 then (some true) else ((laws_toGrid.f k a0_0 l0_1).bind fun bt342 => ((spec_TrailVisits.f k bt342.1 bt342.2 a1).bind fun t346 => ((laws_toGrid.f k a0_0 l0_1).bind fun bt349 => ((impl_TrailVisits.f k bt349.1 bt349.2 a1).bind fun t354 => ((laws_eqVisitS.f k t354 t346).bind fun t357 => (if t357 = true then ((laws_toGrid.f k a0_0 l0_1).bind fun bt358 => ((laws_eqGrid.f k bt349.1 bt349.2 bt358.1 bt358.2).bind fun t362 => (if t362 = true then ((laws_markGrid.f k bt349.1 bt349.2 1).bind fun bt363 => (if bt363.1 < 0 then (laws_FnExactTrailVisits.j0 k a1 t346 t354 true a0_0 l0_1) else ((laws_eqVisitS.f k t354 t346).bind fun t365 => (laws_FnExactTrailVisits.j0 k a1 t346 t354 (!t365) a0_0 l0_1)))) else (some false)))) else (some false))))))))) = some r := h
 clear h
 replace H := Option.bind_eq_some_iff.mp H
 obtain ⟨t341, A30, H⟩ := H
 replace H : (if t341 < 0 then (some true) else ((laws_toGrid.f k a0_0 l0_1).bind fun bt342 => ((spec_TrailVisits.f k bt342.1 bt342.2 a1).bind fun t346 => ((laws_toGrid.f k a0_0 l0_1).bind fun bt349 => ((impl_TrailVisits.f k bt349.1 bt349.2 a1).bind fun t354 => ((laws_eqVisitS.f k t354 t346).bind fun t357 => (if t357 = true then ((laws_toGrid.f k a0_0 l0_1).bind fun bt358 => ((laws_eqGrid.f k bt349.1 bt349.2 bt358.1 bt358.2).bind fun t362 => (if t362 = true then ((laws_markGrid.f k bt349.1 bt349.2 1).bind fun bt363 => (if bt363.1 < 0 then (laws_FnExactTrailVisits.j0 k a1 t346 t354 true a0_0 l0_1) else ((laws_eqVisitS.f k t354 t346).bind fun t365 => (laws_FnExactTrailVisits.j0 k a1 t346 t354 (!t365) a0_0 l0_1)))) else (some false)))) else (some false)))))))) = some r := H
 have A3 := Aside0.mk A30
 clear A30
 by_cases c4 : t341 < 0
 ·rw [if_pos c4] at H
  have c4b0 : decide (t341 < 0) = true := decide_eq_true c4
  clear c4
  obtain rfl := Option.some.inj H
  go_enter Try.func4, Try.ntmps4
  go_wp2_with (first | ((with_reducible refine gate_dst (N := 2) rfl ?_); refine box_event ?hg (N := 2) ?hd (cs := #[.int .i64 a0_0, .slice A0_1 l0_1.length c0_1]) (t := 24) ?hr ?_; (case hd => rfl); (case hg => rfl); (case hr => first | (go_simp; done) | (go_simp; rfl)); intro gb340 hg w5 hbox hb; have n0_ := Aside0.mk (below_step (by repeat (first | (with_reducible first | exact HB.out | apply below_alloc | apply pw_below_drewN | apply below_drew1) | exact HB.out)) hb); have n1_ := Aside0.mk (hbox); have n2_ := Aside0.mk ((by rw [hg]; exact (below_size (by repeat (first | (with_reducible first | exact HB.out | apply below_alloc | apply pw_below_drewN | apply below_drew1) | exact HB.out))) : w.heap.size ≤ gb340)); have n3_ := Aside0.mk ((by rw [hg]; exact (below_size (by repeat (first | (with_reducible first | exact HB.out | apply below_alloc | apply pw_below_drewN | apply below_drew1) | exact HB.out))) : w.heap.size ≤ gb340)); clear HB; have HB := n0_; have BK340 := n1_; have GW340 := n2_; have GE340 := n3_; clear n0_ n1_ n2_ n3_; clear hb hbox hg; have hcz6_0 : w5.cell? ⟨gb340, 0, none⟩ = some (.int .i64 a0_0) := (blk_cell BK340.out 0).trans rfl; have hcz6_1 : w5.cell? ⟨gb340, 1, none⟩ = some (.slice A0_1 l0_1.length c0_1) := (blk_cell BK340.out 1).trans rfl; have hfz6_0 := blk_frozen BK340.out 0; have hfz6_1 := blk_frozen BK340.out 1) | ((with_reducible refine gate_callee (f := 10) rfl ?_); refine goesL_ (some 15) rfl rfl Try.func10 (by kernel_rfl) rfl #[.agg #[.int .i64 a0_0, .slice A0_1 l0_1.length c0_1], .int .i64 1048576] rfl (by (try simp only [List.map_toArray, List.map_cons, List.map_nil]); first | done | rfl | (simp only [List.length_drop, List.length_take]; rfl)) ?_; (with_reducible refine (laws_szGrid.calls a0_0 _ _ l0_1 1048576 t341 _ ?side1 ?side2 A3.out).mono ?_); (case side1 => repeat (first | exact (Kd.C_below HR0_1.out HB.out) | (with_reducible refine Kd.C_alloc ?_ _) | (with_reducible refine Kd.C_drewN ?_ _) | (with_reducible refine Kd.C_drew ?_))); (case side2 => exact HC0_1.out); rintro e w7 ⟨rfl, hb⟩; refine ⟨_, rfl, ?_⟩; have n0_ := Aside0.mk (blk_below (bK BK340.out) hb); have n1_ := Aside0.mk (below_step (by repeat (first | (with_reducible first | exact HB.out | apply below_alloc | apply pw_below_drewN | apply below_drew1 | refine below_set ?_ GE340.out) | exact HB.out)) hb); clear BK340; clear HB; have BK340 := n0_; have HB := n1_; clear n0_ n1_; (try clear hb); (try clear hb2); (try clear hk); (try clear hi)))
  go_ret
  exact ⟨by first | rfl | (simp [errW_none, errW_some] <;> rfl) | (simp [*, errW_none, errW_some] <;> rfl) | (exfalso; simp_all; done), by repeat (first | (with_reducible first | exact HB.out | apply below_alloc | apply pw_below_drewN | apply below_drew1 | refine below_set ?_ GE340.out) | exact HB.out)⟩
 ·rw [if_neg c4] at H
  have c4b0 : decide (t341 < 0) = false := decide_eq_false c4
  clear c4
  replace H := Option.bind_eq_some_iff.mp H
  obtain ⟨⟨t342, t343⟩, A80, H⟩ := H
  replace H : ((spec_TrailVisits.f k t342 t343 a1).bind fun t346 => ((laws_toGrid.f k a0_0 l0_1).bind fun bt349 => ((impl_TrailVisits.f k bt349.1 bt349.2 a1).bind fun t354 => ((laws_eqVisitS.f k t354 t346).bind fun t357 => (if t357 = true then ((laws_toGrid.f k a0_0 l0_1).bind fun bt358 => ((laws_eqGrid.f k bt349.1 bt349.2 bt358.1 bt358.2).bind fun t362 => (if t362 = true then ((laws_markGrid.f k bt349.1 bt349.2 1).bind fun bt363 => (if bt363.1 < 0 then (laws_FnExactTrailVisits.j0 k a1 t346 t354 true a0_0 l0_1) else ((laws_eqVisitS.f k t354 t346).bind fun t365 => (laws_FnExactTrailVisits.j0 k a1 t346 t354 (!t365) a0_0 l0_1)))) else (some false)))) else (some false)))))) = some r := H
  have A8 := Aside0.mk A80
  clear A80
  replace H := Option.bind_eq_some_iff.mp H
  obtain ⟨t346, A90, H⟩ := H
  replace H : ((laws_toGrid.f k a0_0 l0_1).bind fun bt349 => ((impl_TrailVisits.f k bt349.1 bt349.2 a1).bind fun t354 => ((laws_eqVisitS.f k t354 t346).bind fun t357 => (if t357 = true then ((laws_toGrid.f k a0_0 l0_1).bind fun bt358 => ((laws_eqGrid.f k bt349.1 bt349.2 bt358.1 bt358.2).bind fun t362 => (if t362 = true then ((laws_markGrid.f k bt349.1 bt349.2 1).bind fun bt363 => (if bt363.1 < 0 then (laws_FnExactTrailVisits.j0 k a1 t346 t354 true a0_0 l0_1) else ((laws_eqVisitS.f k t354 t346).bind fun t365 => (laws_FnExactTrailVisits.j0 k a1 t346 t354 (!t365) a0_0 l0_1)))) else (some false)))) else (some false))))) = some r := H
  have A9 := Aside0.mk A90
  clear A90
  replace H := Option.bind_eq_some_iff.mp H
  obtain ⟨⟨t349, t350⟩, A100, H⟩ := H
  replace H : ((impl_TrailVisits.f k t349 t350 a1).bind fun t354 => ((laws_eqVisitS.f k t354 t346).bind fun t357 => (if t357 = true then ((laws_toGrid.f k a0_0 l0_1).bind fun bt358 => ((laws_eqGrid.f k t349 t350 bt358.1 bt358.2).bind fun t362 => (if t362 = true then ((laws_markGrid.f k t349 t350 1).bind fun bt363 => (if bt363.1 < 0 then (laws_FnExactTrailVisits.j0 k a1 t346 t354 true a0_0 l0_1) else ((laws_eqVisitS.f k t354 t346).bind fun t365 => (laws_FnExactTrailVisits.j0 k a1 t346 t354 (!t365) a0_0 l0_1)))) else (some false)))) else (some false)))) = some r := H
  have A10 := Aside0.mk A100
  clear A100
  replace H := Option.bind_eq_some_iff.mp H
  obtain ⟨t354, A110, H⟩ := H
  replace H : ((laws_eqVisitS.f k t354 t346).bind fun t357 => (if t357 = true then ((laws_toGrid.f k a0_0 l0_1).bind fun bt358 => ((laws_eqGrid.f k t349 t350 bt358.1 bt358.2).bind fun t362 => (if t362 = true then ((laws_markGrid.f k t349 t350 1).bind fun bt363 => (if bt363.1 < 0 then (laws_FnExactTrailVisits.j0 k a1 t346 t354 true a0_0 l0_1) else ((laws_eqVisitS.f k t354 t346).bind fun t365 => (laws_FnExactTrailVisits.j0 k a1 t346 t354 (!t365) a0_0 l0_1)))) else (some false)))) else (some false))) = some r := H
  have A11 := Aside0.mk A110
  clear A110
  replace H := Option.bind_eq_some_iff.mp H
  obtain ⟨t357, A120, H⟩ := H
  replace H : (if t357 = true then ((laws_toGrid.f k a0_0 l0_1).bind fun bt358 => ((laws_eqGrid.f k t349 t350 bt358.1 bt358.2).bind fun t362 => (if t362 = true then ((laws_markGrid.f k t349 t350 1).bind fun bt363 => (if bt363.1 < 0 then (laws_FnExactTrailVisits.j0 k a1 t346 t354 true a0_0 l0_1) else ((laws_eqVisitS.f k t354 t346).bind fun t365 => (laws_FnExactTrailVisits.j0 k a1 t346 t354 (!t365) a0_0 l0_1)))) else (some false)))) else (some false)) = some r := H
  have A12 := Aside0.mk A120
  clear A120
  by_cases c13 : t357 = true
  ·subst c13
   have H1 : ((laws_toGrid.f k a0_0 l0_1).bind fun bt358 => ((laws_eqGrid.f k t349 t350 bt358.1 bt358.2).bind fun t362 => (if t362 = true then ((laws_markGrid.f k t349 t350 1).bind fun bt363 => (if bt363.1 < 0 then (laws_FnExactTrailVisits.j0 k a1 t346 t354 true a0_0 l0_1) else ((laws_eqVisitS.f k t354 t346).bind fun t365 => (laws_FnExactTrailVisits.j0 k a1 t346 t354 (!t365) a0_0 l0_1)))) else (some false)))) = some r := by rw [if_pos rfl] at H; exact H
   clear H
   have H := H1
   clear H1
   replace H := Option.bind_eq_some_iff.mp H
   obtain ⟨⟨t358, t359⟩, A140, H⟩ := H
   replace H : ((laws_eqGrid.f k t349 t350 t358 t359).bind fun t362 => (if t362 = true then ((laws_markGrid.f k t349 t350 1).bind fun bt363 => (if bt363.1 < 0 then (laws_FnExactTrailVisits.j0 k a1 t346 t354 true a0_0 l0_1) else ((laws_eqVisitS.f k t354 t346).bind fun t365 => (laws_FnExactTrailVisits.j0 k a1 t346 t354 (!t365) a0_0 l0_1)))) else (some false))) = some r := H
   have A14 := Aside0.mk A140
   clear A140
   replace H := Option.bind_eq_some_iff.mp H
   obtain ⟨t362, A150, H⟩ := H
   replace H : (if t362 = true then ((laws_markGrid.f k t349 t350 1).bind fun bt363 => (if bt363.1 < 0 then (laws_FnExactTrailVisits.j0 k a1 t346 t354 true a0_0 l0_1) else ((laws_eqVisitS.f k t354 t346).bind fun t365 => (laws_FnExactTrailVisits.j0 k a1 t346 t354 (!t365) a0_0 l0_1)))) else (some false)) = some r := H
   have A15 := Aside0.mk A150
   clear A150
   by_cases c16 : t362 = true
   ·subst c16
    have H1 : ((laws_markGrid.f k t349 t350 1).bind fun bt363 => (if bt363.1 < 0 then (laws_FnExactTrailVisits.j0 k a1 t346 t354 true a0_0 l0_1) else ((laws_eqVisitS.f k t354 t346).bind fun t365 => (laws_FnExactTrailVisits.j0 k a1 t346 t354 (!t365) a0_0 l0_1)))) = some r := by rw [if_pos rfl] at H; exact H
    clear H
    have H := H1
    clear H1
    replace H := Option.bind_eq_some_iff.mp H
    obtain ⟨⟨t363, t364⟩, A170, H⟩ := H
    replace H : (if t363 < 0 then (laws_FnExactTrailVisits.j0 k a1 t346 t354 true a0_0 l0_1) else ((laws_eqVisitS.f k t354 t346).bind fun t365 => (laws_FnExactTrailVisits.j0 k a1 t346 t354 (!t365) a0_0 l0_1))) = some r := H
    have A17 := Aside0.mk A170
    clear A170
    have HC18 := Aside0.mk H
    clear H
    go_enter Try.func4, Try.ntmps4
    try go_wp2_with (first | ((with_reducible refine gate_dst (N := 2) rfl ?_); refine box_event ?hg (N := 2) ?hd (cs := #[.int .i64 a0_0, .slice A0_1 l0_1.length c0_1]) (t := 24) ?hr ?_; (case hd => rfl); (case hg => rfl); (case hr => first | (go_simp; done) | (go_simp; rfl)); intro gb340 hg w19 hbox hb; have n0_ := Aside0.mk (below_step (by repeat (first | (with_reducible first | exact HB.out | apply below_alloc | apply pw_below_drewN | apply below_drew1) | exact HB.out)) hb); have n1_ := Aside0.mk (hbox); have n2_ := Aside0.mk ((by rw [hg]; exact (below_size (by repeat (first | (with_reducible first | exact HB.out | apply below_alloc | apply pw_below_drewN | apply below_drew1) | exact HB.out))) : w.heap.size ≤ gb340)); have n3_ := Aside0.mk ((by rw [hg]; exact (below_size (by repeat (first | (with_reducible first | exact HB.out | apply below_alloc | apply pw_below_drewN | apply below_drew1) | exact HB.out))) : w.heap.size ≤ gb340)); clear HB; have HB := n0_; have BK340 := n1_; have GW340 := n2_; have GE340 := n3_; clear n0_ n1_ n2_ n3_; clear hb hbox hg; have hcz20_0 : w19.cell? ⟨gb340, 0, none⟩ = some (.int .i64 a0_0) := (blk_cell BK340.out 0).trans rfl; have hcz20_1 : w19.cell? ⟨gb340, 1, none⟩ = some (.slice A0_1 l0_1.length c0_1) := (blk_cell BK340.out 1).trans rfl; have hfz20_0 := blk_frozen BK340.out 0; have hfz20_1 := blk_frozen BK340.out 1) | ((with_reducible refine gate_callee (f := 10) rfl ?_); refine goesL_ (some 15) rfl rfl Try.func10 (by kernel_rfl) rfl #[.agg #[.int .i64 a0_0, .slice A0_1 l0_1.length c0_1], .int .i64 1048576] rfl (by (try simp only [List.map_toArray, List.map_cons, List.map_nil]); first | done | rfl | (simp only [List.length_drop, List.length_take]; rfl)) ?_; (with_reducible refine (laws_szGrid.calls a0_0 _ _ l0_1 1048576 t341 _ ?side1 ?side2 A3.out).mono ?_); (case side1 => repeat (first | exact (Kd.C_below HR0_1.out HB.out) | (with_reducible refine Kd.C_alloc ?_ _) | (with_reducible refine Kd.C_drewN ?_ _) | (with_reducible refine Kd.C_drew ?_))); (case side2 => exact HC0_1.out); rintro e w21 ⟨rfl, hb⟩; refine ⟨_, rfl, ?_⟩; have n0_ := Aside0.mk (blk_below (bK BK340.out) hb); have n1_ := Aside0.mk (below_step (by repeat (first | (with_reducible first | exact HB.out | apply below_alloc | apply pw_below_drewN | apply below_drew1 | refine below_set ?_ GE340.out) | exact HB.out)) hb); clear BK340; clear HB; have BK340 := n0_; have HB := n1_; clear n0_ n1_; (try clear hb); (try clear hb2); (try clear hk); (try clear hi); have hcz22_0 : w21.cell? ⟨gb340, 0, none⟩ = some (.int .i64 a0_0) := (blk_cell BK340.out 0).trans rfl; have hcz22_1 : w21.cell? ⟨gb340, 1, none⟩ = some (.slice A0_1 l0_1.length c0_1) := (blk_cell BK340.out 1).trans rfl; have hfz22_0 := blk_frozen BK340.out 0; have hfz22_1 := blk_frozen BK340.out 1) | ((with_reducible refine gate_callee (f := 12) rfl ?_); refine goesL_ (some 19) rfl rfl Try.func12 (by kernel_rfl) rfl #[.agg #[.int .i64 a0_0, .slice A0_1 l0_1.length c0_1]] rfl (by (try simp only [List.map_toArray, List.map_cons, List.map_nil]); first | done | rfl | (simp only [List.length_drop, List.length_take]; rfl)) ?_; (with_reducible refine (laws_toGrid.calls k a0_0 _ _ l0_1 t342 t343 _ ?side1 ?side2 A8.out).mono ?_); (case side1 => repeat (first | exact (Kd.C_below HR0_1.out HB.out) | (with_reducible refine Kd.C_alloc ?_ _) | (with_reducible refine Kd.C_drewN ?_ _) | (with_reducible refine Kd.C_drew ?_))); (case side2 => exact HC0_1.out); rintro e w23 ⟨v344, rfl, ho0, hb⟩; refine ⟨_, rfl, ?_⟩; have n0_ := Aside0.mk (Kd.R_lower ho0 (below_size (by repeat (first | (with_reducible first | exact HB.out | apply below_alloc | apply pw_below_drewN | apply below_drew1 | refine below_set ?_ GE340.out) | exact HB.out)))); have n1_ := Aside0.mk (blk_below (bK BK340.out) hb); have n2_ := Aside0.mk (below_step (by repeat (first | (with_reducible first | exact HB.out | apply below_alloc | apply pw_below_drewN | apply below_drew1 | refine below_set ?_ GE340.out) | exact HB.out)) hb); clear BK340; clear HB; have HO345 := n0_; have BK340 := n1_; have HB := n2_; clear n0_ n1_ n2_; (try clear hb); (try clear hb2); (try clear hk); (try clear hi); (try clear ho0); obtain ⟨Ao24, co24, eo24⟩ := Kd.R_slice HO345.out; subst eo24) | ((with_reducible refine gate_callee (f := 19) rfl ?_); refine goesL_ (some 21) rfl rfl Try.func19 (by kernel_rfl) rfl #[.agg #[.int .i64 t342, .slice Ao24 t343.length co24], .int .i64 a1] rfl (by (try simp only [List.map_toArray, List.map_cons, List.map_nil]); first | done | rfl | (simp only [List.length_drop, List.length_take]; rfl)) ?_; (with_reducible refine (spec_TrailVisits.calls k t342 _ _ t343 a1 t346 _ ?side1 ?side2 A9.out).mono ?_); (case side1 => repeat (first | exact (Kd.R_reads' HO345.out).2.2 | (with_reducible refine Kd.C_alloc ?_ _) | (with_reducible refine Kd.C_drewN ?_ _) | (with_reducible refine Kd.C_drew ?_))); (case side2 => exact (Kd.R_reads' HO345.out).2.1); rintro e w25 ⟨v347, rfl, ho0, hb⟩; refine ⟨_, rfl, ?_⟩; have n0_ := Aside0.mk (Kd.R_below (kR HO345.out) hb); have n1_ := Aside0.mk (Kd.R_lower ho0 (below_size (by repeat (first | (with_reducible first | exact HB.out | apply below_alloc | apply pw_below_drewN | apply below_drew1 | refine below_set ?_ GE340.out) | exact HB.out)))); have n2_ := Aside0.mk (blk_below (bK BK340.out) hb); have n3_ := Aside0.mk (below_step (by repeat (first | (with_reducible first | exact HB.out | apply below_alloc | apply pw_below_drewN | apply below_drew1 | refine below_set ?_ GE340.out) | exact HB.out)) hb); clear HO345; clear BK340; clear HB; have HO345 := n0_; have HO348 := n1_; have BK340 := n2_; have HB := n3_; clear n0_ n1_ n2_ n3_; (try clear hb); (try clear hb2); (try clear hk); (try clear hi); (try clear ho0); have hcz26_0 : w25.cell? ⟨gb340, 0, none⟩ = some (.int .i64 a0_0) := (blk_cell BK340.out 0).trans rfl; have hcz26_1 : w25.cell? ⟨gb340, 1, none⟩ = some (.slice A0_1 l0_1.length c0_1) := (blk_cell BK340.out 1).trans rfl; have hfz26_0 := blk_frozen BK340.out 0; have hfz26_1 := blk_frozen BK340.out 1) | ((with_reducible refine gate_callee (f := 12) rfl ?_); refine goesL_ (some 23) rfl rfl Try.func12 (by kernel_rfl) rfl #[.agg #[.int .i64 a0_0, .slice A0_1 l0_1.length c0_1]] rfl (by (try simp only [List.map_toArray, List.map_cons, List.map_nil]); first | done | rfl | (simp only [List.length_drop, List.length_take]; rfl)) ?_; (with_reducible refine (laws_toGrid.calls k a0_0 _ _ l0_1 t349 t350 _ ?side1 ?side2 A10.out).mono ?_); (case side1 => repeat (first | exact (Kd.C_below HR0_1.out HB.out) | (with_reducible refine Kd.C_alloc ?_ _) | (with_reducible refine Kd.C_drewN ?_ _) | (with_reducible refine Kd.C_drew ?_))); (case side2 => exact HC0_1.out); rintro e w27 ⟨v351, rfl, ho0, hb⟩; refine ⟨_, rfl, ?_⟩; have n0_ := Aside0.mk (Kd.R_elder' (kR HO345.out) (Kd.R_base ho0) hb); have n1_ := Aside0.mk (Kd.R_below (kR HO348.out) hb); have n2_ := Aside0.mk (Kd.R_lower (Kd.R_new' ho0 (Kd.R_lt (kR HO345.out))) (below_size (by repeat (first | (with_reducible first | exact HB.out | apply below_alloc | apply pw_below_drewN | apply below_drew1 | refine below_set ?_ GE340.out) | exact HB.out)))); have n3_ := Aside0.mk (blk_below (bK BK340.out) hb); have n4_ := Aside0.mk (below_step (by repeat (first | (with_reducible first | exact HB.out | apply below_alloc | apply pw_below_drewN | apply below_drew1 | refine below_set ?_ GE340.out) | exact HB.out)) hb); clear HO345; clear HO348; clear BK340; clear HB; have HO345 := n0_; have HO348 := n1_; have HO352 := n2_; have BK340 := n3_; have HB := n4_; clear n0_ n1_ n2_ n3_ n4_; (try clear hb); (try clear hb2); (try clear hk); (try clear hi); (try clear ho0)) | ((with_reducible refine gate_dst (N := 7) rfl ?_); refine box_event ?hg (N := 7) ?hd (cs := #[.int .i64 0, .slice none 0 0]) (t := 30) ?hr ?_; (case hd => rfl); (case hg => rfl); (case hr => first | (go_simp; done) | (go_simp; rfl)); intro gb353 hg w28 hbox hb; have n0_ := Aside0.mk (Kd.R_below (kR HO345.out) hb); have n1_ := Aside0.mk (Kd.R_below (kR HO348.out) hb); have n2_ := Aside0.mk (Kd.R_below (kR HO352.out) hb); have n3_ := Aside0.mk (blk_below (bK BK340.out) hb); have n4_ := Aside0.mk (below_step (by repeat (first | (with_reducible first | exact HB.out | apply below_alloc | apply pw_below_drewN | apply below_drew1 | refine below_set ?_ GE340.out) | exact HB.out)) hb); have n5_ := Aside0.mk (hbox); have n6_ := Aside0.mk ((by rw [hg]; exact (below_size (by repeat (first | (with_reducible first | exact HB.out | apply below_alloc | apply pw_below_drewN | apply below_drew1 | refine below_set ?_ GE340.out) | exact HB.out))) : w.heap.size ≤ gb353)); have n7_ := Aside0.mk ((by rw [hg]; exact (below_size (by repeat (first | (with_reducible first | exact HB.out | apply below_alloc | apply pw_below_drewN | apply below_drew1 | refine below_set ?_ GE340.out) | exact HB.out))) : w.heap.size ≤ gb353)); have n8_ := Aside0.mk ((by rw [hg]; exact Nat.ne_of_lt (blk_lt (bK BK340.out)) : gb340 ≠ gb353)); have n9_ := Aside0.mk ((by rw [hg]; exact Nat.ne_of_gt (blk_lt (bK BK340.out)) : gb353 ≠ gb340)); clear HO345; clear HO348; clear HO352; clear BK340; clear HB; have HO345 := n0_; have HO348 := n1_; have HO352 := n2_; have BK340 := n3_; have HB := n4_; have BK353 := n5_; have GW353 := n6_; have GE353 := n7_; have NB340_353 := n8_; have NB353_340 := n9_; clear n0_ n1_ n2_ n3_ n4_ n5_ n6_ n7_ n8_ n9_; clear hb hbox hg; have hnb29 := NB353_340.out; have hnc29 := NB340_353.out; have hcz30_0 : w28.cell? ⟨gb353, 0, none⟩ = some (.int .i64 0) := (blk_cell BK353.out 0).trans rfl; have hcz30_1 : w28.cell? ⟨gb353, 1, none⟩ = some (.slice none 0 0) := (blk_cell BK353.out 1).trans rfl; have hfz30_0 := blk_frozen BK353.out 0; have hfz30_1 := blk_frozen BK353.out 1; obtain ⟨Ao31, co31, eo31⟩ := Kd.R_slice HO352.out; subst eo31) | ((with_reducible refine gate_callee (f := 20) rfl ?_); refine goesL_ (some 26) rfl rfl Try.func20 (by kernel_rfl) rfl #[.agg #[.int .i64 t349, .slice Ao31 t350.length co31], .int .i64 a1] rfl (by (try simp only [List.map_toArray, List.map_cons, List.map_nil]); first | done | rfl | (simp only [List.length_drop, List.length_take]; rfl)) ?_; (with_reducible refine (impl_TrailVisits.calls k t349 _ _ t350 a1 t354 _ ?side1 ?side2 A11.out).mono ?_); (case side1 => refine (Kd.R_reads' (e := 57) (base := w.heap.size) (ok := fun k_ => (True ∧ some k_ ≠ (.slice Ao24 t343.length co24 : Value).ownBlock)) (n := t350.length) (c := co31) ?_).2.2; exact (by (with_reducible repeat (first | apply Kd.R_alloc | apply Kd.R_drewN | apply Kd.R_drew)); exact (Kd.R_mono (Kd.R_far (p := ⟨gb353, 1, none⟩) (Kd.R_far (p := ⟨gb353, 0, none⟩) (Kd.R_types HO352.out BK353.out (by decide)) (fun _ hk => hk.2) (.int .i64 t349)) (fun _ hk => hk.2) (.slice Ao31 t350.length co31)) (fun _ h_ => h_.1)))); (case side2 => exact (Kd.R_reads' HO352.out).2.1); rintro e w32 ⟨v355, rfl, ho0, hb⟩; refine ⟨_, rfl, ?_⟩; have n0_ := Aside0.mk (Kd.R_below (by (with_reducible repeat (first | apply Kd.R_alloc | apply Kd.R_drewN | apply Kd.R_drew)); exact (Kd.R_mono (Kd.R_far (p := ⟨gb353, 1, none⟩) (Kd.R_far (p := ⟨gb353, 0, none⟩) (Kd.R_types HO345.out BK353.out (by decide)) (fun _ hk => hk.2) (.int .i64 t349)) (fun _ hk => hk.2) (.slice Ao31 t350.length co31)) (fun _ h_ => h_.1))) hb); have n1_ := Aside0.mk (Kd.R_elder' (by (with_reducible repeat (first | apply Kd.R_alloc | apply Kd.R_drewN | apply Kd.R_drew)); exact (Kd.R_mono (Kd.R_far (p := ⟨gb353, 1, none⟩) (Kd.R_far (p := ⟨gb353, 0, none⟩) (Kd.R_types HO348.out BK353.out (by decide)) (fun _ hk => hk.2) (.int .i64 t349)) (fun _ hk => hk.2) (.slice Ao31 t350.length co31)) (fun _ h_ => h_.1))) (Kd.R_base ho0) hb); have n2_ := Aside0.mk (Kd.R_below (by (with_reducible repeat (first | apply Kd.R_alloc | apply Kd.R_drewN | apply Kd.R_drew)); exact (Kd.R_mono (Kd.R_far (p := ⟨gb353, 1, none⟩) (Kd.R_far (p := ⟨gb353, 0, none⟩) (Kd.R_types HO352.out BK353.out (by decide)) (fun _ hk => hk.2) (.int .i64 t349)) (fun _ hk => hk.2) (.slice Ao31 t350.length co31)) (fun _ h_ => h_.1))) hb); have n3_ := Aside0.mk (Kd.R_lower (Kd.R_new' ho0 (Kd.R_lt (by (with_reducible repeat (first | apply Kd.R_alloc | apply Kd.R_drewN | apply Kd.R_drew)); exact (Kd.R_mono (Kd.R_far (p := ⟨gb353, 1, none⟩) (Kd.R_far (p := ⟨gb353, 0, none⟩) (Kd.R_types HO348.out BK353.out (by decide)) (fun _ hk => hk.2) (.int .i64 t349)) (fun _ hk => hk.2) (.slice Ao31 t350.length co31)) (fun _ h_ => h_.1))))) (below_size (by repeat (first | (with_reducible first | exact HB.out | apply below_alloc | apply pw_below_drewN | apply below_drew1 | refine below_set ?_ GE340.out | refine below_set ?_ GE353.out) | exact HB.out)))); have n4_ := Aside0.mk (blk_below (g := gb340) (o := .cells #[.int .i64 a0_0, .slice A0_1 l0_1.length c0_1] 24 (0, 0)) (by (with_reducible repeat (first | refine blk_drewN ?_ _ | refine blk_drew ?_ | refine blk_alloc ?_ _)); refine blk_far ?_ NB340_353.out _; (with_reducible repeat (first | refine blk_drewN ?_ _ | refine blk_drew ?_ | refine blk_alloc ?_ _)); refine blk_far ?_ NB340_353.out _; (with_reducible repeat (first | refine blk_drewN ?_ _ | refine blk_drew ?_ | refine blk_alloc ?_ _)); exact BK340.out) hb); have n5_ := Aside0.mk (blk_below (g := gb353) (o := .cells #[.int .i64 t349, .slice Ao31 t350.length co31] 30 (0, 0)) (by (with_reducible repeat (first | refine blk_drewN ?_ _ | refine blk_drew ?_ | refine blk_alloc ?_ _)); refine blk_put (cs := #[.int .i64 t349, .slice none 0 0]) ?_ 1 _ rfl; (with_reducible repeat (first | refine blk_drewN ?_ _ | refine blk_drew ?_ | refine blk_alloc ?_ _)); refine blk_put (cs := #[.int .i64 0, .slice none 0 0]) ?_ 0 _ rfl; (with_reducible repeat (first | refine blk_drewN ?_ _ | refine blk_drew ?_ | refine blk_alloc ?_ _)); exact BK353.out) hb); have n6_ := Aside0.mk (below_step (by repeat (first | (with_reducible first | exact HB.out | apply below_alloc | apply pw_below_drewN | apply below_drew1 | refine below_set ?_ GE340.out | refine below_set ?_ GE353.out) | exact HB.out)) hb); clear HO345; clear HO348; clear HO352; clear BK340; clear BK353; clear HB; have HO345 := n0_; have HO348 := n1_; have HO352 := n2_; have HO356 := n3_; have BK340 := n4_; have BK353 := n5_; have HB := n6_; clear n0_ n1_ n2_ n3_ n4_ n5_ n6_; (try clear hb); (try clear hb2); (try clear hk); (try clear hi); (try clear ho0); obtain ⟨Ao33, co33, eo33⟩ := Kd.R_slice HO356.out; subst eo33; obtain ⟨Ao34, co34, eo34⟩ := Kd.R_slice HO348.out; subst eo34) | ((with_reducible refine gate_callee (f := 21) rfl ?_); refine goesL_ (some 29) rfl rfl Try.func21 (by kernel_rfl) rfl #[.slice Ao33 t354.length co33, .slice Ao34 t346.length co34] rfl (by (try simp only [List.map_toArray, List.map_cons, List.map_nil]); first | done | rfl | (simp only [List.length_drop, List.length_take]; rfl)) ?_; (with_reducible refine (laws_eqVisitS.calls k _ _ t354 _ _ t346 true _ ?side1 ?side2 ?side3 ?side4 A12.out).mono ?_); (case side1 => repeat (first | exact (Kd.R_reads' HO356.out).2.2 | (with_reducible refine Kd.C_alloc ?_ _) | (with_reducible refine Kd.C_drewN ?_ _) | (with_reducible refine Kd.C_drew ?_))); (case side2 => exact (Kd.R_reads' HO356.out).2.1); (case side3 => repeat (first | exact (Kd.R_reads' HO348.out).2.2 | (with_reducible refine Kd.C_alloc ?_ _) | (with_reducible refine Kd.C_drewN ?_ _) | (with_reducible refine Kd.C_drew ?_))); (case side4 => exact (Kd.R_reads' HO348.out).2.1); rintro e w35 ⟨rfl, hb⟩; refine ⟨_, rfl, ?_⟩; have n0_ := Aside0.mk (Kd.R_below (kR HO345.out) hb); have n1_ := Aside0.mk (Kd.R_below (kR HO348.out) hb); have n2_ := Aside0.mk (Kd.R_below (kR HO352.out) hb); have n3_ := Aside0.mk (Kd.R_below (kR HO356.out) hb); have n4_ := Aside0.mk (blk_below (bK BK340.out) hb); have n5_ := Aside0.mk (blk_below (bK BK353.out) hb); have n6_ := Aside0.mk (below_step (by repeat (first | (with_reducible first | exact HB.out | apply below_alloc | apply pw_below_drewN | apply below_drew1 | refine below_set ?_ GE340.out | refine below_set ?_ GE353.out) | exact HB.out)) hb); clear HO345; clear HO348; clear HO352; clear HO356; clear BK340; clear BK353; clear HB; have HO345 := n0_; have HO348 := n1_; have HO352 := n2_; have HO356 := n3_; have BK340 := n4_; have BK353 := n5_; have HB := n6_; clear n0_ n1_ n2_ n3_ n4_ n5_ n6_; (try clear hb); (try clear hb2); (try clear hk); (try clear hi)))
    have n0_ := Aside0.mk (Kd.R_drew HO345.out)
    have n1_ := Aside0.mk (Kd.R_drew HO348.out)
    have n2_ := Aside0.mk (Kd.R_drew HO352.out)
    have n3_ := Aside0.mk (Kd.R_drew HO356.out)
    have n4_ := Aside0.mk (blk_drew BK340.out)
    have n5_ := Aside0.mk (blk_drew BK353.out)
    have n6_ := Aside0.mk (below_drew1 HB.out)
    clear HO345
    clear HO348
    clear HO352
    clear HO356
    clear BK340
    clear BK353
    clear HB
    have HO345 := n0_
    have HO348 := n1_
    have HO352 := n2_
    have HO356 := n3_
    have BK340 := n4_
    have BK353 := n5_
    have HB := n6_
    clear n0_ n1_ n2_ n3_ n4_ n5_ n6_
    refine start_ (n := 5) (S := fun w' => w'.cell? ⟨gb353, 0, none⟩ = some (.int .i64 t349) ∧ w'.cell? ⟨gb353, 1, none⟩ = some (.slice Ao31 t350.length co31) ∧ w'.cell? ⟨gb340, 0, none⟩ = some (.int .i64 a0_0) ∧ w'.cell? ⟨gb340, 1, none⟩ = some (.slice A0_1 l0_1.length c0_1)) (ds := []) #[false, false, false, false, false] (by kernel_rfl) rfl rfl ⟨(blk_cell BK353.out 0).trans rfl, (blk_cell BK353.out 1).trans rfl, (blk_cell BK340.out 0).trans rfl, (blk_cell BK340.out 1).trans rfl⟩ (fun hHeld => ?_)
    generalize w35.drew = w36 at HO345 HO348 HO352 HO356 BK340 BK353 HB hHeld ⊢
    refine take_ (i := 0) (N := some 31) (v := ?_) (a' := ?_) #[true, false, false, false, false] rfl rfl (by kernel_rfl) (fun _ _ _ h => h) (Or.inl ⟨by rfl, ?_⟩) hHeld ?_ ?_
    rotate_left
    ·rintro w' ⟨s0, s1, s2, s3⟩
     go_simp
     with_reducible rfl
    rotate_left
    ·simp only [Act.put, List.setIfInBounds_toArray, List.set_cons_zero, List.set_cons_succ, i64_w, i32_w]
     rfl
    refine take_ (i := 1) (N := some 32) (v := ?_) (a' := ?_) #[true, true, false, false, false] rfl rfl (by kernel_rfl) (fun _ _ _ h => h) (Or.inl ⟨by rfl, ?_⟩) hHeld ?_ ?_
    rotate_left
    ·rintro w' ⟨s0, s1, s2, s3⟩
     go_simp
     with_reducible rfl
    rotate_left
    ·simp only [Act.put, List.setIfInBounds_toArray, List.set_cons_zero, List.set_cons_succ, i64_w, i32_w]
     rfl
    refine one_ (i := 2) (N := some 33) #[true, true, true, false, false] rfl rfl (by kernel_rfl) (by decide) (fun K hK => ?_)
    refine goes_ Try.func12 (by kernel_rfl) rfl #[.agg #[.int .i64 a0_0, .slice A0_1 l0_1.length c0_1]] (by rfl) rfl rfl (by (try simp only [List.map_toArray, List.map_cons, List.map_nil]); first | done | rfl | (simp only [List.length_drop, List.length_take]; rfl)) ?_
    with_reducible refine (laws_toGrid.calls k a0_0 _ _ l0_1 t358 t359 _ ?side1 ?side2 A14.out).mono ?_
    (case side1 => repeat (first | exact (Kd.C_below HR0_1.out HB.out) | (with_reducible refine Kd.C_alloc ?_ _) | (with_reducible refine Kd.C_drewN ?_ _) | (with_reducible refine Kd.C_drew ?_)))
    (case side2 => exact HC0_1.out)
    rintro e w37 ⟨v360, rfl, ho0, hb⟩
    refine ⟨_, rfl, ?_⟩
    have n0_ := Aside0.mk (Kd.R_elder' (kR HO345.out) (Kd.R_base ho0) hb)
    have n1_ := Aside0.mk (Kd.R_below (kR HO348.out) hb)
    have n2_ := Aside0.mk (Kd.R_elder' (kR HO352.out) (Kd.R_base ho0) hb)
    have n3_ := Aside0.mk (Kd.R_below (kR HO356.out) hb)
    have n4_ := Aside0.mk (Kd.R_lower (Kd.R_new' (Kd.R_new' ho0 (Kd.R_lt (kR HO345.out))) (Kd.R_lt (kR HO352.out))) (below_size (by repeat (first | (with_reducible first | exact HB.out | apply below_alloc | apply pw_below_drewN | apply below_drew1 | refine below_set ?_ GE340.out | refine below_set ?_ GE353.out) | exact HB.out))))
    have n5_ := Aside0.mk (blk_below (bK BK340.out) hb)
    have n6_ := Aside0.mk (blk_below (bK BK353.out) hb)
    have n7_ := Aside0.mk (below_step (by repeat (first | (with_reducible first | exact HB.out | apply below_alloc | apply pw_below_drewN | apply below_drew1 | refine below_set ?_ GE340.out | refine below_set ?_ GE353.out) | exact HB.out)) hb)
    clear HO345
    clear HO348
    clear HO352
    clear HO356
    clear BK340
    clear BK353
    clear HB
    have HO345 := n0_
    have HO348 := n1_
    have HO352 := n2_
    have HO356 := n3_
    have HO361 := n4_
    have BK340 := n5_
    have BK353 := n6_
    have HB := n7_
    clear n0_ n1_ n2_ n3_ n4_ n5_ n6_ n7_
    (try clear hb)
    (try clear hb2)
    (try clear hk)
    (try clear hi)
    (try clear ho0)
    obtain ⟨Ao38, co38, eo38⟩ := Kd.R_slice HO361.out
    (first | subst eo38 | (injection eo38 with f1_ f2_ f3_; have f4_ := f1_.symm; have f5_ := f3_.symm; clear f1_ f2_ f3_; subst f4_; subst f5_))
    refine hK.out _ _ ⟨(blk_cell BK353.out 0).trans rfl, (blk_cell BK353.out 1).trans rfl, (blk_cell BK340.out 0).trans rfl, (blk_cell BK340.out 1).trans rfl⟩ (fun hHeld => ?_)
    clear hK K
    refine norm_ (a' := ?_) ?_ ?_
    rotate_left
    ·show Act.put _ (some 33) _ = _
     simp only [Act.put, List.setIfInBounds_toArray, List.set_cons_zero, List.set_cons_succ, i64_w, i32_w]
     rfl
    refine one_ (i := 3) (N := some 34) #[true, true, true, true, false] rfl rfl (by kernel_rfl) (by decide) (fun K hK => ?_)
    refine goes_ Try.func15 (by kernel_rfl) rfl #[.agg #[.int .i64 t349, .slice Ao31 t350.length co31], .agg #[.int .i64 t358, .slice Ao38 t359.length co38]] (by rfl) rfl rfl (by (try simp only [List.map_toArray, List.map_cons, List.map_nil]); first | done | rfl | (simp only [List.length_drop, List.length_take]; rfl)) ?_
    with_reducible refine (laws_eqGrid.calls k t349 _ _ t350 t358 _ _ t359 true _ ?side1 ?side2 ?side3 ?side4 A15.out).mono ?_
    (case side1 => repeat (first | exact (Kd.R_reads' HO352.out).2.2 | (with_reducible refine Kd.C_alloc ?_ _) | (with_reducible refine Kd.C_drewN ?_ _) | (with_reducible refine Kd.C_drew ?_)))
    (case side2 => exact (Kd.R_reads' HO352.out).2.1)
    (case side3 => repeat (first | exact (Kd.R_reads' HO361.out).2.2 | (with_reducible refine Kd.C_alloc ?_ _) | (with_reducible refine Kd.C_drewN ?_ _) | (with_reducible refine Kd.C_drew ?_)))
    (case side4 => exact (Kd.R_reads' HO361.out).2.1)
    rintro e w39 ⟨rfl, hb⟩
    refine ⟨_, rfl, ?_⟩
    have n0_ := Aside0.mk (Kd.R_below (kR HO345.out) hb)
    have n1_ := Aside0.mk (Kd.R_below (kR HO348.out) hb)
    have n2_ := Aside0.mk (Kd.R_below (kR HO352.out) hb)
    have n3_ := Aside0.mk (Kd.R_below (kR HO356.out) hb)
    have n4_ := Aside0.mk (Kd.R_below (kR HO361.out) hb)
    have n5_ := Aside0.mk (blk_below (bK BK340.out) hb)
    have n6_ := Aside0.mk (blk_below (bK BK353.out) hb)
    have n7_ := Aside0.mk (below_step (by repeat (first | (with_reducible first | exact HB.out | apply below_alloc | apply pw_below_drewN | apply below_drew1 | refine below_set ?_ GE340.out | refine below_set ?_ GE353.out) | exact HB.out)) hb)
    clear HO345
    clear HO348
    clear HO352
    clear HO356
    clear HO361
    clear BK340
    clear BK353
    clear HB
    have HO345 := n0_
    have HO348 := n1_
    have HO352 := n2_
    have HO356 := n3_
    have HO361 := n4_
    have BK340 := n5_
    have BK353 := n6_
    have HB := n7_
    clear n0_ n1_ n2_ n3_ n4_ n5_ n6_ n7_
    (try clear hb)
    (try clear hb2)
    (try clear hk)
    (try clear hi)
    refine hK.out _ _ ⟨(blk_cell BK353.out 0).trans rfl, (blk_cell BK353.out 1).trans rfl, (blk_cell BK340.out 0).trans rfl, (blk_cell BK340.out 1).trans rfl⟩ (fun hHeld => ?_)
    clear hK K
    refine norm_ (a' := ?_) ?_ ?_
    rotate_left
    ·show Act.put _ (some 34) _ = _
     simp only [Act.put, List.setIfInBounds_toArray, List.set_cons_zero, List.set_cons_succ, i64_w, i32_w]
     rfl
    refine pure_ (i := 4) (N := some 35) (v := ?_) (a' := ?_) #[true, true, true, true, true] rfl rfl (by kernel_rfl) (fun _ _ _ h => h) (Or.inl ⟨by rfl, ?_⟩) ?_ ?_
    rotate_left
    ·intro w'
     go_simp
     with_reducible rfl
    rotate_left
    ·simp only [Act.put, List.setIfInBounds_toArray, List.set_cons_zero, List.set_cons_succ, i64_w, i32_w]
     rfl
    refine done_ (by kernel_rfl) ?_
    have hcz40_0 : w39.cell? ⟨gb353, 0, none⟩ = some (.int .i64 t349) := (blk_cell BK353.out 0).trans rfl
    have hcz40_1 : w39.cell? ⟨gb353, 1, none⟩ = some (.slice Ao31 t350.length co31) := (blk_cell BK353.out 1).trans rfl
    have hfz40_0 := blk_frozen BK353.out 0
    have hfz40_1 := blk_frozen BK353.out 1
    go_upto_region 14 with (first | ((with_reducible refine gate_callee (f := 16) rfl ?_); refine goesL_ (some 38) rfl rfl Try.func16 (by kernel_rfl) rfl #[.agg #[.int .i64 t349, .slice Ao31 t350.length co31], .int .i64 1] rfl (by (try simp only [List.map_toArray, List.map_cons, List.map_nil]); first | done | rfl | (simp only [List.length_drop, List.length_take]; rfl)) ?_; (with_reducible refine (laws_markGrid.calls k t349 (fun k_ => some k_ = (.slice Ao31 t350.length co31 : Value).ownBlock) (.slice Ao31 t350.length co31) t350 1 t363 t364 w _ ?side1 ?side2 A17.out).mono ?_); (case side1 => repeat (first | (with_reducible first | exact HB.out | apply below_alloc | apply pw_below_drewN | apply below_drew1 | refine below_set ?_ GE340.out | refine below_set ?_ GE353.out) | exact HB.out)); (case side2 => exact Kd.R_tight rfl HO352.out); rintro e w41 ⟨rfl, hy0, hb, hkp⟩; refine ⟨_, rfl, ?_⟩; have n0_ := Aside0.mk (blk_kept (bK BK340.out) hkp (fun hs_ => (fun e_ => (Kd.R_ne HO352.out BK340.out (by decide)) e_) hs_)); have n1_ := Aside0.mk (Kd.R_mono (ok' := fun k_ => some k_ ≠ (.slice Ao31 t350.length co31 : Value).ownBlock ∧ some k_ ≠ (.slice Ao38 t359.length co38 : Value).ownBlock) (Kd.R_keptB (HO345.out) hkp (fun k_ hk_ hs_ => (hk_.1.2) hs_)) (fun k_ hk_ => ⟨hk_.1.1.2, hk_.1.2⟩)); have n2_ := Aside0.mk (Kd.R_mono (ok' := fun k_ => some k_ ≠ (.slice Ao33 t354.length co33 : Value).ownBlock) (Kd.R_keptB ((Kd.R_apart' HO348.out (Kd.R_typed HO352.out) (by decide))) hkp (fun k_ hk_ hs_ => (hk_.2) hs_)) (fun k_ hk_ => hk_.1.1.2)); have n3_ := Aside0.mk (Kd.R_reok rfl hy0 (fun k_ e_ => HO352.out.1 k_ e_)); have n4_ := Aside0.mk (blk_kept (bK BK353.out) hkp (fun hs_ => (fun e_ => (Kd.R_ne HO352.out BK353.out (by decide)) e_) hs_)); have n5_ := Aside0.mk (Kd.R_mono (ok' := fun k_ => some k_ ≠ (.slice Ao34 t346.length co34 : Value).ownBlock) (Kd.R_keptB ((Kd.R_apart' HO356.out (Kd.R_typed HO352.out) (by decide))) hkp (fun k_ hk_ hs_ => (hk_.2) hs_)) (fun k_ hk_ => hk_.1.1.2)); have n6_ := Aside0.mk (Kd.R_mono (ok' := fun k_ => some k_ ≠ (.slice Ao24 t343.length co24 : Value).ownBlock ∧ some k_ ≠ (.slice Ao31 t350.length co31 : Value).ownBlock) (Kd.R_keptB (HO361.out) hkp (fun k_ hk_ hs_ => (hk_.2) hs_)) (fun k_ hk_ => ⟨hk_.1.1.2, hk_.1.2⟩)); have n7_ := Aside0.mk (hb); clear BK340; clear HO345; clear HO348; clear HO352; clear BK353; clear HO356; clear HO361; clear HB; have BK340 := n0_; have HO345 := n1_; have HO348 := n2_; have HO352 := n3_; have BK353 := n4_; have HO356 := n5_; have HO361 := n6_; have HB := n7_; clear n0_ n1_ n2_ n3_ n4_ n5_ n6_ n7_; (try clear hb); (try clear hkp); (try clear hy0)))
    (try simp only [Act.put, List.setIfInBounds_toArray, List.set_cons_zero, List.set_cons_succ])
    go_cut [46] (fun v46 wc => ∃ (kq : Nat) (x46_17 : Bool), v46 = .bool x46_17 ∧ Aside0 (laws_FnExactTrailVisits.j0 kq a1 t346 t354 x46_17 a0_0 l0_1 = some r) ∧ Aside0 (kq ≤ k) ∧ Aside0 (Kd.R k55 55 wc w.heap.size (fun k_ => some k_ ≠ ((.slice Ao33 t354.length co33) : Value).ownBlock) (.slice Ao34 t346.length co34) t346) ∧ Aside0 (Kd.R k55 55 wc w.heap.size (fun k_ => some k_ ≠ ((.slice Ao34 t346.length co34) : Value).ownBlock) (.slice Ao33 t354.length co33) t354) ∧ Aside0 (Kd.R k57 57 wc w.heap.size (fun _ => True) (.slice Ao31 t350.length co31) t364) ∧ Aside0 (wc.heap[gb340]? = some (.cells #[.int .i64 a0_0, (.slice A0_1 l0_1.length c0_1)] 24 (0, 0))) ∧ Aside0 (wc.heap[gb353]? = some (.cells #[.int .i64 t349, (.slice Ao31 t350.length co31)] 30 (0, 0))) ∧ Aside0 (Below w.heap.size w wc))
    case first =>
     have H := HC18.out
     clear HC18
     by_cases c42 : t363 < 0
     ·rw [if_pos c42] at H
      have c42b0 : decide (t363 < 0) = true := decide_eq_true c42
      clear c42
      (first | rw [c42b0] | (simp only [i64_w, i32_w]; rw [c42b0]) | skip)
      cases k with
      | zero => exact absurd H (by simp [laws_FnExactTrailVisits.j0])
      | succ k_ =>
       have hf_ := Option.some.inj (show (some false : Option Bool) = some r from H)
       rw [HRT.out] at hf_
       exact absurd hf_ (by decide)
     ·rw [if_neg c42] at H
      have c42b0 : decide (t363 < 0) = false := decide_eq_false c42
      clear c42
      (first | rw [c42b0] | (simp only [i64_w, i32_w]; rw [c42b0]) | skip)
      replace H := Option.bind_eq_some_iff.mp H
      obtain ⟨t365, A430, H⟩ := H
      replace H : (laws_FnExactTrailVisits.j0 k a1 t346 t354 (!t365) a0_0 l0_1) = some r := H
      have A43 := Aside0.mk A430
      clear A430
      have H' := Aside0.mk H
      clear H
      go_wp2_with (first | (go_at_call 21; (with_reducible refine (laws_eqVisitS.calls k _ _ t354 _ _ t346 t365 _ ?side1 ?side2 ?side3 ?side4 A43.out).mono ?_); (case side1 => repeat (first | exact (Kd.R_reads' HO356.out).2.2 | (with_reducible refine Kd.C_alloc ?_ _) | (with_reducible refine Kd.C_drewN ?_ _) | (with_reducible refine Kd.C_drew ?_))); (case side2 => exact (Kd.R_reads' HO356.out).2.1); (case side3 => repeat (first | exact (Kd.R_reads' HO348.out).2.2 | (with_reducible refine Kd.C_alloc ?_ _) | (with_reducible refine Kd.C_drewN ?_ _) | (with_reducible refine Kd.C_drew ?_))); (case side4 => exact (Kd.R_reads' HO348.out).2.1); rintro e w44 ⟨rfl, hb⟩; have n0_ := Aside0.mk (Kd.R_below (kR HO345.out) hb); have n1_ := Aside0.mk (Kd.R_below (kR HO348.out) hb); have n2_ := Aside0.mk (Kd.R_below (kR HO352.out) hb); have n3_ := Aside0.mk (Kd.R_below (kR HO356.out) hb); have n4_ := Aside0.mk (Kd.R_below (kR HO361.out) hb); have n5_ := Aside0.mk (blk_below (bK BK340.out) hb); have n6_ := Aside0.mk (blk_below (bK BK353.out) hb); have n7_ := Aside0.mk (below_step (by repeat (first | (with_reducible first | exact HB.out | apply below_alloc | apply pw_below_drewN | apply below_drew1 | refine below_set ?_ GE340.out | refine below_set ?_ GE353.out) | exact HB.out)) hb); clear HO345; clear HO348; clear HO352; clear HO356; clear HO361; clear BK340; clear BK353; clear HB; have HO345 := n0_; have HO348 := n1_; have HO352 := n2_; have HO356 := n3_; have HO361 := n4_; have BK340 := n5_; have BK353 := n6_; have HB := n7_; clear n0_ n1_ n2_ n3_ n4_ n5_ n6_ n7_; (try clear hb); (try clear hb2); (try clear hk); (try clear hi)))
      go_meet
      case rel => exact ⟨_, (!t365), (by first | rfl | (simp; done) | (simp [*]; done)), H', ⟨by first | omega | exact Nat.le_refl _⟩, ⟨by (with_reducible repeat (first | apply Kd.R_alloc | apply Kd.R_drewN | apply Kd.R_drew)); exact HO348.out⟩, ⟨by (with_reducible repeat (first | apply Kd.R_alloc | apply Kd.R_drewN | apply Kd.R_drew)); exact HO356.out⟩, ⟨by (with_reducible repeat (first | apply Kd.R_alloc | apply Kd.R_drewN | apply Kd.R_drew)); exact Kd.R_mono HO352.out (fun _ hk => trivial)⟩, ⟨by (with_reducible repeat (first | refine blk_drewN ?_ _ | refine blk_drew ?_ | refine blk_alloc ?_ _)); exact BK340.out⟩, ⟨by (with_reducible repeat (first | refine blk_drewN ?_ _ | refine blk_drew ?_ | refine blk_alloc ?_ _)); exact BK353.out⟩, ⟨by repeat (first | (with_reducible first | exact HB.out | apply below_alloc | apply pw_below_drewN | apply below_drew1 | refine below_set ?_ GE340.out | refine below_set ?_ GE353.out) | exact HB.out)⟩⟩
    case rest =>
     clear HC18
     try clear c1
     try clear c2
     try clear p2
     try clear c4
     try clear c4b0
     try clear c10
     try clear c12
     try clear c13
     try clear c15
     try clear c16
     try clear c19
     try clear c20
     try clear c21
     try clear c29
     try clear c42
     try clear c42b0
     try clear hcz20_0
     try clear hcz20_1
     try clear hcz22_0
     try clear hcz22_1
     try clear hcz26_0
     try clear hcz26_1
     try clear hcz30_0
     try clear hcz30_1
     try clear hcz40_0
     try clear hcz40_1
     try clear hcz6_0
     try clear hcz6_1
     try clear hfz20_0
     try clear hfz20_1
     try clear hfz22_0
     try clear hfz22_1
     try clear hfz26_0
     try clear hfz26_1
     try clear hfz30_0
     try clear hfz30_1
     try clear hfz40_0
     try clear hfz40_1
     try clear hfz6_0
     try clear hfz6_1
     obtain ⟨kq, x46_17, rfl, HA, HJ17, HO_6, HO_8, HO_354001, BK340, BK353, HB⟩ := hcut
     have hl354001_17 := (Kd.R_reads' HO_354001.out).1
     rw [hl354001_17] at HO_354001
     (try simp only [hl354001_17])
     (try simp only [hl354001_17] at BK340)
     (try simp only [hl354001_17] at BK353)
     (try simp only [hl354001_17] at HO_6)
     (try simp only [hl354001_17] at HO_8)
     cases kq with
     | zero => exact absurd HA.out (by simp [laws_FnExactTrailVisits.j0])
     | succ kj17 =>
      have H := HA.out
      clear HA
      simp only [laws_FnExactTrailVisits.j0] at H
      by_cases c45 : x46_17 = true
      ·subst c45
       have H1 : (some false) = some r := by rw [if_pos rfl] at H; exact H
       clear H
       have H := H1
       clear H1
       obtain rfl := Option.some.inj H
       exact absurd HRT.out (by decide)
      ·replace c45 := Bool.eq_false_iff.mpr c45
       subst c45
       have H1 : ((laws_markVisitS.f kj17 t354 1).bind fun bt366 => ((laws_heldVisitS.f kj17 bt366.2 1).bind fun t368 => (if t368 < 0 then (some false) else (if t368 = bt366.1 then ((laws_toGrid.f kj17 a0_0 l0_1).bind fun bt369 => ((impl_TrailVisits.f kj17 bt369.1 bt369.2 a1).bind fun t373 => ((laws_eqVisitS.f kj17 t373 t346).bind fun t376 => (if t376 = true then ((laws_heldVisitS.f kj17 bt366.2 1).bind fun t377 => (if t377 < 0 then (some false) else (if t377 = bt366.1 then (some true) else (some false)))) else (some false))))) else (some false))))) = some r := by rw [if_neg (show ¬ (false = true) by decide)] at H; exact H
       clear H
       have H := H1
       clear H1
       replace H := Option.bind_eq_some_iff.mp H
       obtain ⟨⟨t366, t367⟩, A460, H⟩ := H
       replace H : ((laws_heldVisitS.f kj17 t367 1).bind fun t368 => (if t368 < 0 then (some false) else (if t368 = t366 then ((laws_toGrid.f kj17 a0_0 l0_1).bind fun bt369 => ((impl_TrailVisits.f kj17 bt369.1 bt369.2 a1).bind fun t373 => ((laws_eqVisitS.f kj17 t373 t346).bind fun t376 => (if t376 = true then ((laws_heldVisitS.f kj17 t367 1).bind fun t377 => (if t377 < 0 then (some false) else (if t377 = t366 then (some true) else (some false)))) else (some false))))) else (some false)))) = some r := H
       have A46 := Aside0.mk A460
       clear A460
       replace H := Option.bind_eq_some_iff.mp H
       obtain ⟨t368, A470, H⟩ := H
       replace H : (if t368 < 0 then (some false) else (if t368 = t366 then ((laws_toGrid.f kj17 a0_0 l0_1).bind fun bt369 => ((impl_TrailVisits.f kj17 bt369.1 bt369.2 a1).bind fun t373 => ((laws_eqVisitS.f kj17 t373 t346).bind fun t376 => (if t376 = true then ((laws_heldVisitS.f kj17 t367 1).bind fun t377 => (if t377 < 0 then (some false) else (if t377 = t366 then (some true) else (some false)))) else (some false))))) else (some false))) = some r := H
       have A47 := Aside0.mk A470
       clear A470
       by_cases c48 : t368 < 0
       ·rw [if_pos c48] at H
        have c48b0 : decide (t368 < 0) = true := decide_eq_true c48
        clear c48
        obtain rfl := Option.some.inj H
        exact absurd HRT.out (by decide)
       ·rw [if_neg c48] at H
        have c48b0 : decide (t368 < 0) = false := decide_eq_false c48
        clear c48
        by_cases c49 : t368 = t366
        ·rw [if_pos c49] at H
         have c49b0 : (t368 == t366) = true := beq_iff_eq.mpr c49
         have c49b1 : (t368 != t366) = false := bne_eq_false_iff_eq.mpr c49
         clear c49
         replace H := Option.bind_eq_some_iff.mp H
         obtain ⟨⟨t369, t370⟩, A500, H⟩ := H
         replace H : ((impl_TrailVisits.f kj17 t369 t370 a1).bind fun t373 => ((laws_eqVisitS.f kj17 t373 t346).bind fun t376 => (if t376 = true then ((laws_heldVisitS.f kj17 t367 1).bind fun t377 => (if t377 < 0 then (some false) else (if t377 = t366 then (some true) else (some false)))) else (some false)))) = some r := H
         have A50 := Aside0.mk A500
         clear A500
         replace H := Option.bind_eq_some_iff.mp H
         obtain ⟨t373, A510, H⟩ := H
         replace H : ((laws_eqVisitS.f kj17 t373 t346).bind fun t376 => (if t376 = true then ((laws_heldVisitS.f kj17 t367 1).bind fun t377 => (if t377 < 0 then (some false) else (if t377 = t366 then (some true) else (some false)))) else (some false))) = some r := H
         have A51 := Aside0.mk A510
         clear A510
         replace H := Option.bind_eq_some_iff.mp H
         obtain ⟨t376, A520, H⟩ := H
         replace H : (if t376 = true then ((laws_heldVisitS.f kj17 t367 1).bind fun t377 => (if t377 < 0 then (some false) else (if t377 = t366 then (some true) else (some false)))) else (some false)) = some r := H
         have A52 := Aside0.mk A520
         clear A520
         by_cases c53 : t376 = true
         ·subst c53
          have H1 : ((laws_heldVisitS.f kj17 t367 1).bind fun t377 => (if t377 < 0 then (some false) else (if t377 = t366 then (some true) else (some false)))) = some r := by rw [if_pos rfl] at H; exact H
          clear H
          have H := H1
          clear H1
          replace H := Option.bind_eq_some_iff.mp H
          obtain ⟨t377, A540, H⟩ := H
          replace H : (if t377 < 0 then (some false) else (if t377 = t366 then (some true) else (some false))) = some r := H
          have A54 := Aside0.mk A540
          clear A540
          by_cases c55 : t377 < 0
          ·rw [if_pos c55] at H
           have c55b0 : decide (t377 < 0) = true := decide_eq_true c55
           clear c55
           obtain rfl := Option.some.inj H
           exact absurd HRT.out (by decide)
          ·rw [if_neg c55] at H
           have c55b0 : decide (t377 < 0) = false := decide_eq_false c55
           clear c55
           by_cases c56 : t377 = t366
           ·rw [if_pos c56] at H
            have c56b0 : (t377 == t366) = true := beq_iff_eq.mpr c56
            have c56b1 : (t377 != t366) = false := bne_eq_false_iff_eq.mpr c56
            clear c56
            obtain rfl := Option.some.inj H
            go_wp2_with (first | ((with_reducible refine gate_callee (f := 22) rfl ?_); refine goesL_ (some 49) rfl rfl Try.func22 (by kernel_rfl) rfl #[.slice Ao33 t354.length co33, .int .i64 1] rfl (by (try simp only [List.map_toArray, List.map_cons, List.map_nil]); first | done | rfl | (simp only [List.length_drop, List.length_take]; rfl)) ?_; (with_reducible refine (laws_markVisitS.calls kj17 (fun k_ => some k_ = (.slice Ao33 t354.length co33 : Value).ownBlock) (.slice Ao33 t354.length co33) t354 1 t366 t367 w _ ?side1 ?side2 A46.out).mono ?_); (case side1 => repeat (first | (with_reducible first | exact HB.out | apply below_alloc | apply pw_below_drewN | apply below_drew1 | refine below_set ?_ GE340.out | refine below_set ?_ GE353.out) | exact HB.out)); (case side2 => exact Kd.R_tight rfl HO_8.out); rintro e w57 ⟨rfl, hy0, hb, hkp⟩; refine ⟨_, rfl, ?_⟩; have n0_ := Aside0.mk (Kd.R_mono (ok' := fun k_ => some k_ ≠ (.slice Ao33 t354.length co33 : Value).ownBlock) (Kd.R_keptB (HO_6.out) hkp (fun k_ hk_ hs_ => (hk_) hs_)) (fun k_ hk_ => hk_.1)); have n1_ := Aside0.mk (Kd.R_reok rfl hy0 (fun k_ e_ => HO_8.out.1 k_ e_)); have n2_ := Aside0.mk (Kd.R_mono (ok' := fun k_ => True) (Kd.R_keptB ((Kd.R_apart' HO_354001.out (Kd.R_typed HO_8.out) (by decide))) hkp (fun k_ hk_ hs_ => (hk_.2) hs_)) (fun k_ hk_ => trivial)); have n3_ := Aside0.mk (blk_kept (bK BK340.out) hkp (fun hs_ => (fun e_ => (Kd.R_ne HO_8.out BK340.out (by decide)) e_) hs_)); have n4_ := Aside0.mk (blk_kept (bK BK353.out) hkp (fun hs_ => (fun e_ => (Kd.R_ne HO_8.out BK353.out (by decide)) e_) hs_)); have n5_ := Aside0.mk (hb); clear HO_6; clear HO_8; clear HO_354001; clear BK340; clear BK353; clear HB; have HO_6 := n0_; have HO_8 := n1_; have HO_354001 := n2_; have BK340 := n3_; have BK353 := n4_; have HB := n5_; clear n0_ n1_ n2_ n3_ n4_ n5_; (try clear hb); (try clear hkp); (try clear hy0)) | ((with_reducible refine gate_callee (f := 23) rfl ?_); refine goesL_ (some 52) rfl rfl Try.func23 (by kernel_rfl) rfl #[.slice Ao33 t367.length co33, .int .i64 1] rfl (by (try simp only [List.map_toArray, List.map_cons, List.map_nil]); first | done | (rw [show t367.length = t354.length from (Kd.R_reads' HO_8.out).1.symm] <;> rfl) | rfl | (simp only [List.length_drop, List.length_take]; rfl)) ?_; (with_reducible refine (laws_heldVisitS.calls kj17 _ _ t367 1 t368 _ ?side1 ?side2 A47.out).mono ?_); (case side1 => repeat (first | exact (Kd.R_reads' HO_8.out).2.2 | (with_reducible refine Kd.C_alloc ?_ _) | (with_reducible refine Kd.C_drewN ?_ _) | (with_reducible refine Kd.C_drew ?_))); (case side2 => rw [show t367.length = t354.length from (Kd.R_reads' HO_8.out).1.symm]; exact (Kd.R_reads' HO_8.out).2.1); rintro e w' ⟨rfl, ⟨nd, rfl⟩⟩; refine ⟨_, rfl, ?_⟩; have hnb58 := NB340_353.out; have hnc58 := NB353_340.out; have hcz59_0 : w57.cell? ⟨gb340, 0, none⟩ = some (.int .i64 a0_0) := (blk_cell BK340.out 0).trans rfl; have hcz59_1 : w57.cell? ⟨gb340, 1, none⟩ = some (.slice A0_1 l0_1.length c0_1) := (blk_cell BK340.out 1).trans rfl; have hfz59_0 := blk_frozen BK340.out 0; have hfz59_1 := blk_frozen BK340.out 1) | ((with_reducible refine gate_callee (f := 12) rfl ?_); refine goesL_ (some 59) rfl rfl Try.func12 (by kernel_rfl) rfl #[.agg #[.int .i64 a0_0, .slice A0_1 l0_1.length c0_1]] rfl (by (try simp only [List.map_toArray, List.map_cons, List.map_nil]); first | done | rfl | (simp only [List.length_drop, List.length_take]; rfl)) ?_; (with_reducible refine (laws_toGrid.calls kj17 a0_0 _ _ l0_1 t369 t370 _ ?side1 ?side2 A50.out).mono ?_); (case side1 => repeat (first | exact (Kd.C_below HR0_1.out (by repeat (first | (with_reducible first | exact HB.out | apply below_alloc | apply pw_below_drewN | apply below_drew1 | refine below_set ?_ GE340.out | refine below_set ?_ GE353.out) | exact HB.out))) | (with_reducible refine Kd.C_alloc ?_ _) | (with_reducible refine Kd.C_drewN ?_ _) | (with_reducible refine Kd.C_drew ?_))); (case side2 => exact HC0_1.out); rintro e w60 ⟨v371, rfl, ho0, hb⟩; refine ⟨_, rfl, ?_⟩; have n0_ := Aside0.mk (Kd.R_below (kR HO_6.out) hb); have n1_ := Aside0.mk (Kd.R_below (kR HO_8.out) hb); have n2_ := Aside0.mk (Kd.R_elder' (kR HO_354001.out) (Kd.R_base ho0) hb); have n3_ := Aside0.mk (Kd.R_lower (Kd.R_new' ho0 (Kd.R_lt (kR HO_354001.out))) (below_size (by repeat (first | (with_reducible first | exact HB.out | apply below_alloc | apply pw_below_drewN | apply below_drew1 | refine below_set ?_ GE340.out | refine below_set ?_ GE353.out) | exact HB.out)))); have n4_ := Aside0.mk (blk_below (bK BK340.out) hb); have n5_ := Aside0.mk (blk_below (bK BK353.out) hb); have n6_ := Aside0.mk (below_step (by repeat (first | (with_reducible first | exact HB.out | apply below_alloc | apply pw_below_drewN | apply below_drew1 | refine below_set ?_ GE340.out | refine below_set ?_ GE353.out) | exact HB.out)) hb); clear HO_6; clear HO_8; clear HO_354001; clear BK340; clear BK353; clear HB; have HO_6 := n0_; have HO_8 := n1_; have HO_354001 := n2_; have HO372 := n3_; have BK340 := n4_; have BK353 := n5_; have HB := n6_; clear n0_ n1_ n2_ n3_ n4_ n5_ n6_; (try clear hb); (try clear hb2); (try clear hk); (try clear hi); (try clear ho0); obtain ⟨Ao61, co61, eo61⟩ := Kd.R_slice HO372.out; subst eo61) | ((with_reducible refine gate_callee (f := 20) rfl ?_); refine goesL_ (some 61) rfl rfl Try.func20 (by kernel_rfl) rfl #[.agg #[.int .i64 t369, .slice Ao61 t370.length co61], .int .i64 a1] rfl (by (try simp only [List.map_toArray, List.map_cons, List.map_nil]); first | done | rfl | (simp only [List.length_drop, List.length_take]; rfl)) ?_; (with_reducible refine (impl_TrailVisits.calls kj17 t369 _ _ t370 a1 t373 _ ?side1 ?side2 A51.out).mono ?_); (case side1 => repeat (first | exact (Kd.R_reads' HO372.out).2.2 | (with_reducible refine Kd.C_alloc ?_ _) | (with_reducible refine Kd.C_drewN ?_ _) | (with_reducible refine Kd.C_drew ?_))); (case side2 => exact (Kd.R_reads' HO372.out).2.1); rintro e w62 ⟨v374, rfl, ho0, hb⟩; refine ⟨_, rfl, ?_⟩; have n0_ := Aside0.mk (Kd.R_elder' (kR HO_6.out) (Kd.R_base ho0) hb); have n1_ := Aside0.mk (Kd.R_elder' (kR HO_8.out) (Kd.R_base ho0) hb); have n2_ := Aside0.mk (Kd.R_below (kR HO_354001.out) hb); have n3_ := Aside0.mk (Kd.R_below (kR HO372.out) hb); have n4_ := Aside0.mk (Kd.R_lower (Kd.R_new' (Kd.R_new' ho0 (Kd.R_lt (kR HO_6.out))) (Kd.R_lt (kR HO_8.out))) (below_size (by repeat (first | (with_reducible first | exact HB.out | apply below_alloc | apply pw_below_drewN | apply below_drew1 | refine below_set ?_ GE340.out | refine below_set ?_ GE353.out) | exact HB.out)))); have n5_ := Aside0.mk (blk_below (bK BK340.out) hb); have n6_ := Aside0.mk (blk_below (bK BK353.out) hb); have n7_ := Aside0.mk (below_step (by repeat (first | (with_reducible first | exact HB.out | apply below_alloc | apply pw_below_drewN | apply below_drew1 | refine below_set ?_ GE340.out | refine below_set ?_ GE353.out) | exact HB.out)) hb); clear HO_6; clear HO_8; clear HO_354001; clear HO372; clear BK340; clear BK353; clear HB; have HO_6 := n0_; have HO_8 := n1_; have HO_354001 := n2_; have HO372 := n3_; have HO375 := n4_; have BK340 := n5_; have BK353 := n6_; have HB := n7_; clear n0_ n1_ n2_ n3_ n4_ n5_ n6_ n7_; (try clear hb); (try clear hb2); (try clear hk); (try clear hi); (try clear ho0); obtain ⟨Ao63, co63, eo63⟩ := Kd.R_slice HO375.out; subst eo63) | ((with_reducible refine gate_callee (f := 21) rfl ?_); refine goesL_ (some 64) rfl rfl Try.func21 (by kernel_rfl) rfl #[.slice Ao63 t373.length co63, .slice Ao34 t346.length co34] rfl (by (try simp only [List.map_toArray, List.map_cons, List.map_nil]); first | done | rfl | (simp only [List.length_drop, List.length_take]; rfl)) ?_; (with_reducible refine (laws_eqVisitS.calls kj17 _ _ t373 _ _ t346 true _ ?side1 ?side2 ?side3 ?side4 A52.out).mono ?_); (case side1 => repeat (first | exact (Kd.R_reads' HO375.out).2.2 | (with_reducible refine Kd.C_alloc ?_ _) | (with_reducible refine Kd.C_drewN ?_ _) | (with_reducible refine Kd.C_drew ?_))); (case side2 => exact (Kd.R_reads' HO375.out).2.1); (case side3 => repeat (first | exact (Kd.R_reads' HO_6.out).2.2 | (with_reducible refine Kd.C_alloc ?_ _) | (with_reducible refine Kd.C_drewN ?_ _) | (with_reducible refine Kd.C_drew ?_))); (case side4 => exact (Kd.R_reads' HO_6.out).2.1); rintro e w64 ⟨rfl, hb⟩; refine ⟨_, rfl, ?_⟩; have n0_ := Aside0.mk (Kd.R_below (kR HO_6.out) hb); have n1_ := Aside0.mk (Kd.R_below (kR HO_8.out) hb); have n2_ := Aside0.mk (Kd.R_below (kR HO_354001.out) hb); have n3_ := Aside0.mk (Kd.R_below (kR HO372.out) hb); have n4_ := Aside0.mk (Kd.R_below (kR HO375.out) hb); have n5_ := Aside0.mk (blk_below (bK BK340.out) hb); have n6_ := Aside0.mk (blk_below (bK BK353.out) hb); have n7_ := Aside0.mk (below_step (by repeat (first | (with_reducible first | exact HB.out | apply below_alloc | apply pw_below_drewN | apply below_drew1 | refine below_set ?_ GE340.out | refine below_set ?_ GE353.out) | exact HB.out)) hb); clear HO_6; clear HO_8; clear HO_354001; clear HO372; clear HO375; clear BK340; clear BK353; clear HB; have HO_6 := n0_; have HO_8 := n1_; have HO_354001 := n2_; have HO372 := n3_; have HO375 := n4_; have BK340 := n5_; have BK353 := n6_; have HB := n7_; clear n0_ n1_ n2_ n3_ n4_ n5_ n6_ n7_; (try clear hb); (try clear hb2); (try clear hk); (try clear hi)) | ((with_reducible refine gate_callee (f := 23) rfl ?_); refine goesL_ (some 68) rfl rfl Try.func23 (by kernel_rfl) rfl #[.slice Ao33 t367.length co33, .int .i64 1] rfl (by (try simp only [List.map_toArray, List.map_cons, List.map_nil]); first | done | (rw [show t367.length = t354.length from (Kd.R_reads' HO_8.out).1.symm] <;> rfl) | rfl | (simp only [List.length_drop, List.length_take]; rfl)) ?_; (with_reducible refine (laws_heldVisitS.calls kj17 _ _ t367 1 t377 _ ?side1 ?side2 A54.out).mono ?_); (case side1 => repeat (first | exact (Kd.R_reads' HO_8.out).2.2 | (with_reducible refine Kd.C_alloc ?_ _) | (with_reducible refine Kd.C_drewN ?_ _) | (with_reducible refine Kd.C_drew ?_))); (case side2 => rw [show t367.length = t354.length from (Kd.R_reads' HO_8.out).1.symm]; exact (Kd.R_reads' HO_8.out).2.1); rintro e w' ⟨rfl, ⟨nd, rfl⟩⟩; refine ⟨_, rfl, ?_⟩))
            go_ret
            exact ⟨by first | rfl | (simp [errW_none, errW_some] <;> rfl) | (simp [*, errW_none, errW_some] <;> rfl) | (exfalso; simp_all; done), by repeat (first | (with_reducible first | exact HB.out | apply below_alloc | apply pw_below_drewN | apply below_drew1 | refine below_set ?_ GE340.out | refine below_set ?_ GE353.out) | exact HB.out)⟩
           ·rw [if_neg c56] at H
            have c56b0 : (t377 == t366) = false := beq_eq_false_iff_ne.mpr c56
            have c56b1 : (t377 != t366) = true := bne_iff_ne.mpr c56
            obtain rfl := Option.some.inj H
            exact absurd HRT.out (by decide)
         ·replace c53 := Bool.eq_false_iff.mpr c53
          subst c53
          have H1 : (some false) = some r := by rw [if_neg (show ¬ (false = true) by decide)] at H; exact H
          clear H
          have H := H1
          clear H1
          obtain rfl := Option.some.inj H
          exact absurd HRT.out (by decide)
        ·rw [if_neg c49] at H
         have c49b0 : (t368 == t366) = false := beq_eq_false_iff_ne.mpr c49
         have c49b1 : (t368 != t366) = true := bne_iff_ne.mpr c49
         obtain rfl := Option.some.inj H
         exact absurd HRT.out (by decide)
   ·replace c16 := Bool.eq_false_iff.mpr c16
    subst c16
    have H1 : (some false) = some r := by rw [if_neg (show ¬ (false = true) by decide)] at H; exact H
    clear H
    have H := H1
    clear H1
    obtain rfl := Option.some.inj H
    exact absurd HRT.out (by decide)
  ·replace c13 := Bool.eq_false_iff.mpr c13
   subst c13
   have H1 : (some false) = some r := by rw [if_neg (show ¬ (false = true) by decide)] at H; exact H
   clear H
   have H := H1
   clear H1
   obtain rfl := Option.some.inj H
   exact absurd HRT.out (by decide)

end Go.Proofs.Ytmohfoleolmijaa.P
