/- PROVED: contracts of functions of the program, the reference and the statements; written by this session's driver (pk.py) through its own changed copy of the kit's print. No condition. -/
import Derived.Test.YtmohfoleolmijaaPx0
import Derived.Test.YtmohfoleolmijaaPx3
import Derived.Test.YtmohfoleolmijaaPx4
import Derived.Test.YtmohfoleolmijaaPx7
import Derived.Test.YtmohfoleolmijaaPx8
import Derived.Test.YtmohfoleolmijaaPx34
import Derived.Test.YtmohfoleolmijaaT3Go
namespace Go.Proofs.Ytmohfoleolmijaa.P
open Go.RowKit Go.Proofs.YtmohfoleolmijaaW.PrintWords Go.Proofs.YtmohfoleolmijaaW.PrintLast Go.Proofs.YtmohfoleolmijaaW.PrintMore
attribute [local go_sem] max2_int min2_int max_two min_two max_three min_three max_four min_four   -- for this text's walks alone
set_option linter.unusedVariables false
set_option linter.unusedSimpArgs false

/-! ### laws_FnExactTrailEnds: function 3 -/
def laws_FnExactTrailEnds.j0 : Nat → Int → List (S48) → List (S48) → Bool → Int → List (S86) → Option (Bool)
 | 0, _, _, _, _, _, _ => none
 | k + 1, x1, x6, x8, x46, x285000, x285001 => if x46 = true then (some false) else ((laws_markEndS.f k x8 1).bind fun bt310 => ((laws_heldEndS.f k bt310.2 1).bind fun t312 => (if t312 < 0 then (some false) else (if t312 = bt310.1 then ((laws_toGrid.f k x285000 x285001).bind fun bt313 => ((impl_TrailEnds.f k bt313.1 bt313.2 x1).bind fun t317 => ((laws_eqEndS.f k t317 x6).bind fun t320 => (if t320 = true then ((laws_heldEndS.f k bt310.2 1).bind fun t321 => (if t321 < 0 then (some false) else (if t321 = bt310.1 then (some true) else (some false)))) else (some false))))) else (some false)))))
def laws_FnExactTrailEnds.f (k : Nat) (a0_0 : Int) (l0_1 : List (S86)) (a1 : Int) : Option (Bool) := (laws_szGrid.f a0_0 l0_1 1048576).bind fun t285 => (if t285 < 0 then (some true) else ((laws_toGrid.f k a0_0 l0_1).bind fun bt286 => ((spec_TrailEnds.f k bt286.1 bt286.2 a1).bind fun t290 => ((laws_toGrid.f k a0_0 l0_1).bind fun bt293 => ((impl_TrailEnds.f k bt293.1 bt293.2 a1).bind fun t298 => ((laws_eqEndS.f k t298 t290).bind fun t301 => (if t301 = true then ((laws_toGrid.f k a0_0 l0_1).bind fun bt302 => ((laws_eqGrid.f k bt293.1 bt293.2 bt302.1 bt302.2).bind fun t306 => (if t306 = true then ((laws_markGrid.f k bt293.1 bt293.2 1).bind fun bt307 => (if bt307.1 < 0 then (laws_FnExactTrailEnds.j0 k a1 t290 t298 true a0_0 l0_1) else ((laws_eqEndS.f k t298 t290).bind fun t309 => (laws_FnExactTrailEnds.j0 k a1 t290 t298 (!t309) a0_0 l0_1)))) else (some false)))) else (some false))))))))
theorem laws_FnExactTrailEnds.mono_l : ∀ k, (∀ y0 y1 y2 y3 y4 y5, LeO (laws_FnExactTrailEnds.j0 k y0 y1 y2 y3 y4 y5) (laws_FnExactTrailEnds.j0 (k + 1) y0 y1 y2 y3 y4 y5))
 | 0 => fun _ _ _ _ _ _ r h => by simp [laws_FnExactTrailEnds.j0] at h
 | k + 1 => by
  have ih0 := laws_FnExactTrailEnds.mono_l k
  ·intro y0 y1 y2 y3 y4 y5
   unfold laws_FnExactTrailEnds.j0
   repeat' first
   | (with_reducible exact ih0 _ _ _ _ _ _)
   | (with_reducible exact impl_TrailEnds.mono _ _ _ _)
   | (with_reducible exact laws_eqEndS.mono _ _ _)
   | (with_reducible exact laws_eqGrid.mono _ _ _ _ _)
   | (with_reducible exact laws_heldEndS.mono _ _ _)
   | (with_reducible exact laws_markEndS.mono _ _ _)
   | (with_reducible exact laws_markGrid.mono _ _ _ _)
   | (with_reducible exact laws_toGrid.mono _ _ _)
   | (with_reducible exact spec_TrailEnds.mono _ _ _ _)
   | (with_reducible exact LeO.refl _)
   | (with_reducible exact LeO.none _)
   | (with_reducible refine LeO.ite ?_ ?_)
   | (with_reducible refine LeO.bind ?_ (fun _ => ?_))
   | exact ih0 _ _ _ _ _ _
   | exact impl_TrailEnds.mono _ _ _ _
   | exact laws_eqEndS.mono _ _ _
   | exact laws_eqGrid.mono _ _ _ _ _
   | exact laws_heldEndS.mono _ _ _
   | exact laws_markEndS.mono _ _ _
   | exact laws_markGrid.mono _ _ _ _
   | exact laws_toGrid.mono _ _ _
   | exact spec_TrailEnds.mono _ _ _ _
   | exact LeO.none _
   | refine LeO.ite ?_ ?_
   | refine LeO.bind ?_ (fun _ => ?_)
theorem laws_FnExactTrailEnds.mono : ∀ a0 a1 a2 k, LeO (laws_FnExactTrailEnds.f k a0 a1 a2) (laws_FnExactTrailEnds.f (k + 1) a0 a1 a2) := by
 intro a0 a1 a2 k
 have ih0 := laws_FnExactTrailEnds.mono_l k
 unfold laws_FnExactTrailEnds.f
 repeat' first
   | (with_reducible exact ih0 _ _ _ _ _ _)
   | (with_reducible exact impl_TrailEnds.mono _ _ _ _)
   | (with_reducible exact laws_eqEndS.mono _ _ _)
   | (with_reducible exact laws_eqGrid.mono _ _ _ _ _)
   | (with_reducible exact laws_heldEndS.mono _ _ _)
   | (with_reducible exact laws_markEndS.mono _ _ _)
   | (with_reducible exact laws_markGrid.mono _ _ _ _)
   | (with_reducible exact laws_toGrid.mono _ _ _)
   | (with_reducible exact spec_TrailEnds.mono _ _ _ _)
   | (with_reducible exact LeO.refl _)
   | (with_reducible exact LeO.none _)
   | (with_reducible refine LeO.ite ?_ ?_)
   | (with_reducible refine LeO.bind ?_ (fun _ => ?_))
   | exact ih0 _ _ _ _ _ _
   | exact impl_TrailEnds.mono _ _ _ _
   | exact laws_eqEndS.mono _ _ _
   | exact laws_eqGrid.mono _ _ _ _ _
   | exact laws_heldEndS.mono _ _ _
   | exact laws_markEndS.mono _ _ _
   | exact laws_markGrid.mono _ _ _ _
   | exact laws_toGrid.mono _ _ _
   | exact spec_TrailEnds.mono _ _ _ _
   | exact LeO.none _
   | refine LeO.ite ?_ ?_
   | refine LeO.bind ?_ (fun _ => ?_)
set_option maxHeartbeats 8000000 in
set_option maxRecDepth 100000 in
theorem laws_FnExactTrailEnds.calls (k : Nat) (a0_0 : Int) (A0_1 : Option Addr) (c0_1 : Nat) (l0_1 : List (S86)) (a1 : Int) (r : Bool) (w : World) (hr0_1 : Kd.C k86 w A0_1 l0_1.length l0_1) (hc0_1 : l0_1.length ≤ c0_1) (h : laws_FnExactTrailEnds.f k a0_0 l0_1 a1 = some r) (hrt : r = true) :
  Calls Try.prog 3 #[.agg #[.int .i64 a0_0, .slice A0_1 l0_1.length c0_1], .int .i64 a1] w fun e w' => e = .returned (.bool r) ∧ Below w.heap.size w w' := by
 have HRT := Aside0.mk hrt
 clear hrt
 have hu24 := Try.underlying24
 have hu30 := Try.underlying30
 have HR0_1 := Aside0.mk hr0_1
 have HC0_1 := Aside0.mk hc0_1
 clear hr0_1 hc0_1
 have HB := Aside0.mk (Below.refl w.heap.size w)
 have H : ((laws_szGrid.f a0_0 l0_1 1048576).bind fun t285 => (if t285 < 0 then (some true) else ((laws_toGrid.f k a0_0 l0_1).bind fun bt286 => ((spec_TrailEnds.f k bt286.1 bt286.2 a1).bind fun t290 => ((laws_toGrid.f k a0_0 l0_1).bind fun bt293 => ((impl_TrailEnds.f k bt293.1 bt293.2 a1).bind fun t298 => ((laws_eqEndS.f k t298 t290).bind fun t301 => (if t301 = true then ((laws_toGrid.f k a0_0 l0_1).bind fun bt302 => ((laws_eqGrid.f k bt293.1 bt293.2 bt302.1 bt302.2).bind fun t306 => (if t306 = true then ((laws_markGrid.f k bt293.1 bt293.2 1).bind fun bt307 => (if bt307.1 < 0 then (laws_FnExactTrailEnds.j0 k a1 t290 t298 true a0_0 l0_1) else ((laws_eqEndS.f k t298 t290).bind fun t309 => (laws_FnExactTrailEnds.j0 k a1 t290 t298 (!t309) a0_0 l0_1)))) else (some false)))) else (some false))))))))) = some r := h
 clear h
 replace H := Option.bind_eq_some_iff.mp H
 obtain ⟨t285, A30, H⟩ := H
 replace H : (if t285 < 0 then (some true) else ((laws_toGrid.f k a0_0 l0_1).bind fun bt286 => ((spec_TrailEnds.f k bt286.1 bt286.2 a1).bind fun t290 => ((laws_toGrid.f k a0_0 l0_1).bind fun bt293 => ((impl_TrailEnds.f k bt293.1 bt293.2 a1).bind fun t298 => ((laws_eqEndS.f k t298 t290).bind fun t301 => (if t301 = true then ((laws_toGrid.f k a0_0 l0_1).bind fun bt302 => ((laws_eqGrid.f k bt293.1 bt293.2 bt302.1 bt302.2).bind fun t306 => (if t306 = true then ((laws_markGrid.f k bt293.1 bt293.2 1).bind fun bt307 => (if bt307.1 < 0 then (laws_FnExactTrailEnds.j0 k a1 t290 t298 true a0_0 l0_1) else ((laws_eqEndS.f k t298 t290).bind fun t309 => (laws_FnExactTrailEnds.j0 k a1 t290 t298 (!t309) a0_0 l0_1)))) else (some false)))) else (some false)))))))) = some r := H
 have A3 := Aside0.mk A30
 clear A30
 by_cases c4 : t285 < 0
 ·rw [if_pos c4] at H
  have c4b0 : decide (t285 < 0) = true := decide_eq_true c4
  clear c4
  obtain rfl := Option.some.inj H
  go_enter Try.func3, Try.ntmps3
  go_wp2_with (first | ((with_reducible refine gate_dst (N := 2) rfl ?_); refine box_event ?hg (N := 2) ?hd (cs := #[.int .i64 a0_0, .slice A0_1 l0_1.length c0_1]) (t := 24) ?hr ?_; (case hd => rfl); (case hg => rfl); (case hr => first | (go_simp; done) | (go_simp; rfl)); intro gb284 hg w5 hbox hb; have n0_ := Aside0.mk (below_step (by repeat (first | (with_reducible first | exact HB.out | apply below_alloc | apply pw_below_drewN | apply below_drew1) | exact HB.out)) hb); have n1_ := Aside0.mk (hbox); have n2_ := Aside0.mk ((by rw [hg]; exact (below_size (by repeat (first | (with_reducible first | exact HB.out | apply below_alloc | apply pw_below_drewN | apply below_drew1) | exact HB.out))) : w.heap.size ≤ gb284)); have n3_ := Aside0.mk ((by rw [hg]; exact (below_size (by repeat (first | (with_reducible first | exact HB.out | apply below_alloc | apply pw_below_drewN | apply below_drew1) | exact HB.out))) : w.heap.size ≤ gb284)); clear HB; have HB := n0_; have BK284 := n1_; have GW284 := n2_; have GE284 := n3_; clear n0_ n1_ n2_ n3_; clear hb hbox hg; have hcz6_0 : w5.cell? ⟨gb284, 0, none⟩ = some (.int .i64 a0_0) := (blk_cell BK284.out 0).trans rfl; have hcz6_1 : w5.cell? ⟨gb284, 1, none⟩ = some (.slice A0_1 l0_1.length c0_1) := (blk_cell BK284.out 1).trans rfl; have hfz6_0 := blk_frozen BK284.out 0; have hfz6_1 := blk_frozen BK284.out 1) | ((with_reducible refine gate_callee (f := 10) rfl ?_); refine goesL_ (some 15) rfl rfl Try.func10 (by kernel_rfl) rfl #[.agg #[.int .i64 a0_0, .slice A0_1 l0_1.length c0_1], .int .i64 1048576] rfl (by (try simp only [List.map_toArray, List.map_cons, List.map_nil]); first | done | rfl | (simp only [List.length_drop, List.length_take]; rfl)) ?_; (with_reducible refine (laws_szGrid.calls a0_0 _ _ l0_1 1048576 t285 _ ?side1 ?side2 A3.out).mono ?_); (case side1 => repeat (first | exact (Kd.C_below HR0_1.out HB.out) | (with_reducible refine Kd.C_alloc ?_ _) | (with_reducible refine Kd.C_drewN ?_ _) | (with_reducible refine Kd.C_drew ?_))); (case side2 => exact HC0_1.out); rintro e w7 ⟨rfl, hb⟩; refine ⟨_, rfl, ?_⟩; have n0_ := Aside0.mk (blk_below (bK BK284.out) hb); have n1_ := Aside0.mk (below_step (by repeat (first | (with_reducible first | exact HB.out | apply below_alloc | apply pw_below_drewN | apply below_drew1 | refine below_set ?_ GE284.out) | exact HB.out)) hb); clear BK284; clear HB; have BK284 := n0_; have HB := n1_; clear n0_ n1_; (try clear hb); (try clear hb2); (try clear hk); (try clear hi)))
  go_ret
  exact ⟨by first | rfl | (simp [errW_none, errW_some] <;> rfl) | (simp [*, errW_none, errW_some] <;> rfl) | (exfalso; simp_all; done), by repeat (first | (with_reducible first | exact HB.out | apply below_alloc | apply pw_below_drewN | apply below_drew1 | refine below_set ?_ GE284.out) | exact HB.out)⟩
 ·rw [if_neg c4] at H
  have c4b0 : decide (t285 < 0) = false := decide_eq_false c4
  clear c4
  replace H := Option.bind_eq_some_iff.mp H
  obtain ⟨⟨t286, t287⟩, A80, H⟩ := H
  replace H : ((spec_TrailEnds.f k t286 t287 a1).bind fun t290 => ((laws_toGrid.f k a0_0 l0_1).bind fun bt293 => ((impl_TrailEnds.f k bt293.1 bt293.2 a1).bind fun t298 => ((laws_eqEndS.f k t298 t290).bind fun t301 => (if t301 = true then ((laws_toGrid.f k a0_0 l0_1).bind fun bt302 => ((laws_eqGrid.f k bt293.1 bt293.2 bt302.1 bt302.2).bind fun t306 => (if t306 = true then ((laws_markGrid.f k bt293.1 bt293.2 1).bind fun bt307 => (if bt307.1 < 0 then (laws_FnExactTrailEnds.j0 k a1 t290 t298 true a0_0 l0_1) else ((laws_eqEndS.f k t298 t290).bind fun t309 => (laws_FnExactTrailEnds.j0 k a1 t290 t298 (!t309) a0_0 l0_1)))) else (some false)))) else (some false)))))) = some r := H
  have A8 := Aside0.mk A80
  clear A80
  replace H := Option.bind_eq_some_iff.mp H
  obtain ⟨t290, A90, H⟩ := H
  replace H : ((laws_toGrid.f k a0_0 l0_1).bind fun bt293 => ((impl_TrailEnds.f k bt293.1 bt293.2 a1).bind fun t298 => ((laws_eqEndS.f k t298 t290).bind fun t301 => (if t301 = true then ((laws_toGrid.f k a0_0 l0_1).bind fun bt302 => ((laws_eqGrid.f k bt293.1 bt293.2 bt302.1 bt302.2).bind fun t306 => (if t306 = true then ((laws_markGrid.f k bt293.1 bt293.2 1).bind fun bt307 => (if bt307.1 < 0 then (laws_FnExactTrailEnds.j0 k a1 t290 t298 true a0_0 l0_1) else ((laws_eqEndS.f k t298 t290).bind fun t309 => (laws_FnExactTrailEnds.j0 k a1 t290 t298 (!t309) a0_0 l0_1)))) else (some false)))) else (some false))))) = some r := H
  have A9 := Aside0.mk A90
  clear A90
  replace H := Option.bind_eq_some_iff.mp H
  obtain ⟨⟨t293, t294⟩, A100, H⟩ := H
  replace H : ((impl_TrailEnds.f k t293 t294 a1).bind fun t298 => ((laws_eqEndS.f k t298 t290).bind fun t301 => (if t301 = true then ((laws_toGrid.f k a0_0 l0_1).bind fun bt302 => ((laws_eqGrid.f k t293 t294 bt302.1 bt302.2).bind fun t306 => (if t306 = true then ((laws_markGrid.f k t293 t294 1).bind fun bt307 => (if bt307.1 < 0 then (laws_FnExactTrailEnds.j0 k a1 t290 t298 true a0_0 l0_1) else ((laws_eqEndS.f k t298 t290).bind fun t309 => (laws_FnExactTrailEnds.j0 k a1 t290 t298 (!t309) a0_0 l0_1)))) else (some false)))) else (some false)))) = some r := H
  have A10 := Aside0.mk A100
  clear A100
  replace H := Option.bind_eq_some_iff.mp H
  obtain ⟨t298, A110, H⟩ := H
  replace H : ((laws_eqEndS.f k t298 t290).bind fun t301 => (if t301 = true then ((laws_toGrid.f k a0_0 l0_1).bind fun bt302 => ((laws_eqGrid.f k t293 t294 bt302.1 bt302.2).bind fun t306 => (if t306 = true then ((laws_markGrid.f k t293 t294 1).bind fun bt307 => (if bt307.1 < 0 then (laws_FnExactTrailEnds.j0 k a1 t290 t298 true a0_0 l0_1) else ((laws_eqEndS.f k t298 t290).bind fun t309 => (laws_FnExactTrailEnds.j0 k a1 t290 t298 (!t309) a0_0 l0_1)))) else (some false)))) else (some false))) = some r := H
  have A11 := Aside0.mk A110
  clear A110
  replace H := Option.bind_eq_some_iff.mp H
  obtain ⟨t301, A120, H⟩ := H
  replace H : (if t301 = true then ((laws_toGrid.f k a0_0 l0_1).bind fun bt302 => ((laws_eqGrid.f k t293 t294 bt302.1 bt302.2).bind fun t306 => (if t306 = true then ((laws_markGrid.f k t293 t294 1).bind fun bt307 => (if bt307.1 < 0 then (laws_FnExactTrailEnds.j0 k a1 t290 t298 true a0_0 l0_1) else ((laws_eqEndS.f k t298 t290).bind fun t309 => (laws_FnExactTrailEnds.j0 k a1 t290 t298 (!t309) a0_0 l0_1)))) else (some false)))) else (some false)) = some r := H
  have A12 := Aside0.mk A120
  clear A120
  by_cases c13 : t301 = true
  ·subst c13
   have H1 : ((laws_toGrid.f k a0_0 l0_1).bind fun bt302 => ((laws_eqGrid.f k t293 t294 bt302.1 bt302.2).bind fun t306 => (if t306 = true then ((laws_markGrid.f k t293 t294 1).bind fun bt307 => (if bt307.1 < 0 then (laws_FnExactTrailEnds.j0 k a1 t290 t298 true a0_0 l0_1) else ((laws_eqEndS.f k t298 t290).bind fun t309 => (laws_FnExactTrailEnds.j0 k a1 t290 t298 (!t309) a0_0 l0_1)))) else (some false)))) = some r := by rw [if_pos rfl] at H; exact H
   clear H
   have H := H1
   clear H1
   replace H := Option.bind_eq_some_iff.mp H
   obtain ⟨⟨t302, t303⟩, A140, H⟩ := H
   replace H : ((laws_eqGrid.f k t293 t294 t302 t303).bind fun t306 => (if t306 = true then ((laws_markGrid.f k t293 t294 1).bind fun bt307 => (if bt307.1 < 0 then (laws_FnExactTrailEnds.j0 k a1 t290 t298 true a0_0 l0_1) else ((laws_eqEndS.f k t298 t290).bind fun t309 => (laws_FnExactTrailEnds.j0 k a1 t290 t298 (!t309) a0_0 l0_1)))) else (some false))) = some r := H
   have A14 := Aside0.mk A140
   clear A140
   replace H := Option.bind_eq_some_iff.mp H
   obtain ⟨t306, A150, H⟩ := H
   replace H : (if t306 = true then ((laws_markGrid.f k t293 t294 1).bind fun bt307 => (if bt307.1 < 0 then (laws_FnExactTrailEnds.j0 k a1 t290 t298 true a0_0 l0_1) else ((laws_eqEndS.f k t298 t290).bind fun t309 => (laws_FnExactTrailEnds.j0 k a1 t290 t298 (!t309) a0_0 l0_1)))) else (some false)) = some r := H
   have A15 := Aside0.mk A150
   clear A150
   by_cases c16 : t306 = true
   ·subst c16
    have H1 : ((laws_markGrid.f k t293 t294 1).bind fun bt307 => (if bt307.1 < 0 then (laws_FnExactTrailEnds.j0 k a1 t290 t298 true a0_0 l0_1) else ((laws_eqEndS.f k t298 t290).bind fun t309 => (laws_FnExactTrailEnds.j0 k a1 t290 t298 (!t309) a0_0 l0_1)))) = some r := by rw [if_pos rfl] at H; exact H
    clear H
    have H := H1
    clear H1
    replace H := Option.bind_eq_some_iff.mp H
    obtain ⟨⟨t307, t308⟩, A170, H⟩ := H
    replace H : (if t307 < 0 then (laws_FnExactTrailEnds.j0 k a1 t290 t298 true a0_0 l0_1) else ((laws_eqEndS.f k t298 t290).bind fun t309 => (laws_FnExactTrailEnds.j0 k a1 t290 t298 (!t309) a0_0 l0_1))) = some r := H
    have A17 := Aside0.mk A170
    clear A170
    have HC18 := Aside0.mk H
    clear H
    go_enter Try.func3, Try.ntmps3
    try go_wp2_with (first | ((with_reducible refine gate_dst (N := 2) rfl ?_); refine box_event ?hg (N := 2) ?hd (cs := #[.int .i64 a0_0, .slice A0_1 l0_1.length c0_1]) (t := 24) ?hr ?_; (case hd => rfl); (case hg => rfl); (case hr => first | (go_simp; done) | (go_simp; rfl)); intro gb284 hg w19 hbox hb; have n0_ := Aside0.mk (below_step (by repeat (first | (with_reducible first | exact HB.out | apply below_alloc | apply pw_below_drewN | apply below_drew1) | exact HB.out)) hb); have n1_ := Aside0.mk (hbox); have n2_ := Aside0.mk ((by rw [hg]; exact (below_size (by repeat (first | (with_reducible first | exact HB.out | apply below_alloc | apply pw_below_drewN | apply below_drew1) | exact HB.out))) : w.heap.size ≤ gb284)); have n3_ := Aside0.mk ((by rw [hg]; exact (below_size (by repeat (first | (with_reducible first | exact HB.out | apply below_alloc | apply pw_below_drewN | apply below_drew1) | exact HB.out))) : w.heap.size ≤ gb284)); clear HB; have HB := n0_; have BK284 := n1_; have GW284 := n2_; have GE284 := n3_; clear n0_ n1_ n2_ n3_; clear hb hbox hg; have hcz20_0 : w19.cell? ⟨gb284, 0, none⟩ = some (.int .i64 a0_0) := (blk_cell BK284.out 0).trans rfl; have hcz20_1 : w19.cell? ⟨gb284, 1, none⟩ = some (.slice A0_1 l0_1.length c0_1) := (blk_cell BK284.out 1).trans rfl; have hfz20_0 := blk_frozen BK284.out 0; have hfz20_1 := blk_frozen BK284.out 1) | ((with_reducible refine gate_callee (f := 10) rfl ?_); refine goesL_ (some 15) rfl rfl Try.func10 (by kernel_rfl) rfl #[.agg #[.int .i64 a0_0, .slice A0_1 l0_1.length c0_1], .int .i64 1048576] rfl (by (try simp only [List.map_toArray, List.map_cons, List.map_nil]); first | done | rfl | (simp only [List.length_drop, List.length_take]; rfl)) ?_; (with_reducible refine (laws_szGrid.calls a0_0 _ _ l0_1 1048576 t285 _ ?side1 ?side2 A3.out).mono ?_); (case side1 => repeat (first | exact (Kd.C_below HR0_1.out HB.out) | (with_reducible refine Kd.C_alloc ?_ _) | (with_reducible refine Kd.C_drewN ?_ _) | (with_reducible refine Kd.C_drew ?_))); (case side2 => exact HC0_1.out); rintro e w21 ⟨rfl, hb⟩; refine ⟨_, rfl, ?_⟩; have n0_ := Aside0.mk (blk_below (bK BK284.out) hb); have n1_ := Aside0.mk (below_step (by repeat (first | (with_reducible first | exact HB.out | apply below_alloc | apply pw_below_drewN | apply below_drew1 | refine below_set ?_ GE284.out) | exact HB.out)) hb); clear BK284; clear HB; have BK284 := n0_; have HB := n1_; clear n0_ n1_; (try clear hb); (try clear hb2); (try clear hk); (try clear hi); have hcz22_0 : w21.cell? ⟨gb284, 0, none⟩ = some (.int .i64 a0_0) := (blk_cell BK284.out 0).trans rfl; have hcz22_1 : w21.cell? ⟨gb284, 1, none⟩ = some (.slice A0_1 l0_1.length c0_1) := (blk_cell BK284.out 1).trans rfl; have hfz22_0 := blk_frozen BK284.out 0; have hfz22_1 := blk_frozen BK284.out 1) | ((with_reducible refine gate_callee (f := 12) rfl ?_); refine goesL_ (some 19) rfl rfl Try.func12 (by kernel_rfl) rfl #[.agg #[.int .i64 a0_0, .slice A0_1 l0_1.length c0_1]] rfl (by (try simp only [List.map_toArray, List.map_cons, List.map_nil]); first | done | rfl | (simp only [List.length_drop, List.length_take]; rfl)) ?_; (with_reducible refine (laws_toGrid.calls k a0_0 _ _ l0_1 t286 t287 _ ?side1 ?side2 A8.out).mono ?_); (case side1 => repeat (first | exact (Kd.C_below HR0_1.out HB.out) | (with_reducible refine Kd.C_alloc ?_ _) | (with_reducible refine Kd.C_drewN ?_ _) | (with_reducible refine Kd.C_drew ?_))); (case side2 => exact HC0_1.out); rintro e w23 ⟨v288, rfl, ho0, hb⟩; refine ⟨_, rfl, ?_⟩; have n0_ := Aside0.mk (Kd.R_lower ho0 (below_size (by repeat (first | (with_reducible first | exact HB.out | apply below_alloc | apply pw_below_drewN | apply below_drew1 | refine below_set ?_ GE284.out) | exact HB.out)))); have n1_ := Aside0.mk (blk_below (bK BK284.out) hb); have n2_ := Aside0.mk (below_step (by repeat (first | (with_reducible first | exact HB.out | apply below_alloc | apply pw_below_drewN | apply below_drew1 | refine below_set ?_ GE284.out) | exact HB.out)) hb); clear BK284; clear HB; have HO289 := n0_; have BK284 := n1_; have HB := n2_; clear n0_ n1_ n2_; (try clear hb); (try clear hb2); (try clear hk); (try clear hi); (try clear ho0); obtain ⟨Ao24, co24, eo24⟩ := Kd.R_slice HO289.out; subst eo24) | ((with_reducible refine gate_callee (f := 11) rfl ?_); refine goesL_ (some 21) rfl rfl Try.func11 (by kernel_rfl) rfl #[.agg #[.int .i64 t286, .slice Ao24 t287.length co24], .int .i64 a1] rfl (by (try simp only [List.map_toArray, List.map_cons, List.map_nil]); first | done | rfl | (simp only [List.length_drop, List.length_take]; rfl)) ?_; (with_reducible refine (spec_TrailEnds.calls k t286 _ _ t287 a1 t290 _ ?side1 ?side2 A9.out).mono ?_); (case side1 => repeat (first | exact (Kd.R_reads' HO289.out).2.2 | (with_reducible refine Kd.C_alloc ?_ _) | (with_reducible refine Kd.C_drewN ?_ _) | (with_reducible refine Kd.C_drew ?_))); (case side2 => exact (Kd.R_reads' HO289.out).2.1); rintro e w25 ⟨v291, rfl, ho0, hb⟩; refine ⟨_, rfl, ?_⟩; have n0_ := Aside0.mk (Kd.R_below (kR HO289.out) hb); have n1_ := Aside0.mk (Kd.R_lower ho0 (below_size (by repeat (first | (with_reducible first | exact HB.out | apply below_alloc | apply pw_below_drewN | apply below_drew1 | refine below_set ?_ GE284.out) | exact HB.out)))); have n2_ := Aside0.mk (blk_below (bK BK284.out) hb); have n3_ := Aside0.mk (below_step (by repeat (first | (with_reducible first | exact HB.out | apply below_alloc | apply pw_below_drewN | apply below_drew1 | refine below_set ?_ GE284.out) | exact HB.out)) hb); clear HO289; clear BK284; clear HB; have HO289 := n0_; have HO292 := n1_; have BK284 := n2_; have HB := n3_; clear n0_ n1_ n2_ n3_; (try clear hb); (try clear hb2); (try clear hk); (try clear hi); (try clear ho0); have hcz26_0 : w25.cell? ⟨gb284, 0, none⟩ = some (.int .i64 a0_0) := (blk_cell BK284.out 0).trans rfl; have hcz26_1 : w25.cell? ⟨gb284, 1, none⟩ = some (.slice A0_1 l0_1.length c0_1) := (blk_cell BK284.out 1).trans rfl; have hfz26_0 := blk_frozen BK284.out 0; have hfz26_1 := blk_frozen BK284.out 1) | ((with_reducible refine gate_callee (f := 12) rfl ?_); refine goesL_ (some 23) rfl rfl Try.func12 (by kernel_rfl) rfl #[.agg #[.int .i64 a0_0, .slice A0_1 l0_1.length c0_1]] rfl (by (try simp only [List.map_toArray, List.map_cons, List.map_nil]); first | done | rfl | (simp only [List.length_drop, List.length_take]; rfl)) ?_; (with_reducible refine (laws_toGrid.calls k a0_0 _ _ l0_1 t293 t294 _ ?side1 ?side2 A10.out).mono ?_); (case side1 => repeat (first | exact (Kd.C_below HR0_1.out HB.out) | (with_reducible refine Kd.C_alloc ?_ _) | (with_reducible refine Kd.C_drewN ?_ _) | (with_reducible refine Kd.C_drew ?_))); (case side2 => exact HC0_1.out); rintro e w27 ⟨v295, rfl, ho0, hb⟩; refine ⟨_, rfl, ?_⟩; have n0_ := Aside0.mk (Kd.R_elder' (kR HO289.out) (Kd.R_base ho0) hb); have n1_ := Aside0.mk (Kd.R_below (kR HO292.out) hb); have n2_ := Aside0.mk (Kd.R_lower (Kd.R_new' ho0 (Kd.R_lt (kR HO289.out))) (below_size (by repeat (first | (with_reducible first | exact HB.out | apply below_alloc | apply pw_below_drewN | apply below_drew1 | refine below_set ?_ GE284.out) | exact HB.out)))); have n3_ := Aside0.mk (blk_below (bK BK284.out) hb); have n4_ := Aside0.mk (below_step (by repeat (first | (with_reducible first | exact HB.out | apply below_alloc | apply pw_below_drewN | apply below_drew1 | refine below_set ?_ GE284.out) | exact HB.out)) hb); clear HO289; clear HO292; clear BK284; clear HB; have HO289 := n0_; have HO292 := n1_; have HO296 := n2_; have BK284 := n3_; have HB := n4_; clear n0_ n1_ n2_ n3_ n4_; (try clear hb); (try clear hb2); (try clear hk); (try clear hi); (try clear ho0)) | ((with_reducible refine gate_dst (N := 7) rfl ?_); refine box_event ?hg (N := 7) ?hd (cs := #[.int .i64 0, .slice none 0 0]) (t := 30) ?hr ?_; (case hd => rfl); (case hg => rfl); (case hr => first | (go_simp; done) | (go_simp; rfl)); intro gb297 hg w28 hbox hb; have n0_ := Aside0.mk (Kd.R_below (kR HO289.out) hb); have n1_ := Aside0.mk (Kd.R_below (kR HO292.out) hb); have n2_ := Aside0.mk (Kd.R_below (kR HO296.out) hb); have n3_ := Aside0.mk (blk_below (bK BK284.out) hb); have n4_ := Aside0.mk (below_step (by repeat (first | (with_reducible first | exact HB.out | apply below_alloc | apply pw_below_drewN | apply below_drew1 | refine below_set ?_ GE284.out) | exact HB.out)) hb); have n5_ := Aside0.mk (hbox); have n6_ := Aside0.mk ((by rw [hg]; exact (below_size (by repeat (first | (with_reducible first | exact HB.out | apply below_alloc | apply pw_below_drewN | apply below_drew1 | refine below_set ?_ GE284.out) | exact HB.out))) : w.heap.size ≤ gb297)); have n7_ := Aside0.mk ((by rw [hg]; exact (below_size (by repeat (first | (with_reducible first | exact HB.out | apply below_alloc | apply pw_below_drewN | apply below_drew1 | refine below_set ?_ GE284.out) | exact HB.out))) : w.heap.size ≤ gb297)); have n8_ := Aside0.mk ((by rw [hg]; exact Nat.ne_of_lt (blk_lt (bK BK284.out)) : gb284 ≠ gb297)); have n9_ := Aside0.mk ((by rw [hg]; exact Nat.ne_of_gt (blk_lt (bK BK284.out)) : gb297 ≠ gb284)); clear HO289; clear HO292; clear HO296; clear BK284; clear HB; have HO289 := n0_; have HO292 := n1_; have HO296 := n2_; have BK284 := n3_; have HB := n4_; have BK297 := n5_; have GW297 := n6_; have GE297 := n7_; have NB284_297 := n8_; have NB297_284 := n9_; clear n0_ n1_ n2_ n3_ n4_ n5_ n6_ n7_ n8_ n9_; clear hb hbox hg; have hnb29 := NB297_284.out; have hnc29 := NB284_297.out; have hcz30_0 : w28.cell? ⟨gb297, 0, none⟩ = some (.int .i64 0) := (blk_cell BK297.out 0).trans rfl; have hcz30_1 : w28.cell? ⟨gb297, 1, none⟩ = some (.slice none 0 0) := (blk_cell BK297.out 1).trans rfl; have hfz30_0 := blk_frozen BK297.out 0; have hfz30_1 := blk_frozen BK297.out 1; obtain ⟨Ao31, co31, eo31⟩ := Kd.R_slice HO296.out; subst eo31) | ((with_reducible refine gate_callee (f := 13) rfl ?_); refine goesL_ (some 26) rfl rfl Try.func13 (by kernel_rfl) rfl #[.agg #[.int .i64 t293, .slice Ao31 t294.length co31], .int .i64 a1] rfl (by (try simp only [List.map_toArray, List.map_cons, List.map_nil]); first | done | rfl | (simp only [List.length_drop, List.length_take]; rfl)) ?_; (with_reducible refine (impl_TrailEnds.calls k t293 _ _ t294 a1 t298 _ ?side1 ?side2 A11.out).mono ?_); (case side1 => refine (Kd.R_reads' (e := 57) (base := w.heap.size) (ok := fun k_ => (True ∧ some k_ ≠ (.slice Ao24 t287.length co24 : Value).ownBlock)) (n := t294.length) (c := co31) ?_).2.2; exact (by (with_reducible repeat (first | apply Kd.R_alloc | apply Kd.R_drewN | apply Kd.R_drew)); exact (Kd.R_mono (Kd.R_far (p := ⟨gb297, 1, none⟩) (Kd.R_far (p := ⟨gb297, 0, none⟩) (Kd.R_types HO296.out BK297.out (by decide)) (fun _ hk => hk.2) (.int .i64 t293)) (fun _ hk => hk.2) (.slice Ao31 t294.length co31)) (fun _ h_ => h_.1)))); (case side2 => exact (Kd.R_reads' HO296.out).2.1); rintro e w32 ⟨v299, rfl, ho0, hb⟩; refine ⟨_, rfl, ?_⟩; have n0_ := Aside0.mk (Kd.R_below (by (with_reducible repeat (first | apply Kd.R_alloc | apply Kd.R_drewN | apply Kd.R_drew)); exact (Kd.R_mono (Kd.R_far (p := ⟨gb297, 1, none⟩) (Kd.R_far (p := ⟨gb297, 0, none⟩) (Kd.R_types HO289.out BK297.out (by decide)) (fun _ hk => hk.2) (.int .i64 t293)) (fun _ hk => hk.2) (.slice Ao31 t294.length co31)) (fun _ h_ => h_.1))) hb); have n1_ := Aside0.mk (Kd.R_elder' (by (with_reducible repeat (first | apply Kd.R_alloc | apply Kd.R_drewN | apply Kd.R_drew)); exact (Kd.R_mono (Kd.R_far (p := ⟨gb297, 1, none⟩) (Kd.R_far (p := ⟨gb297, 0, none⟩) (Kd.R_types HO292.out BK297.out (by decide)) (fun _ hk => hk.2) (.int .i64 t293)) (fun _ hk => hk.2) (.slice Ao31 t294.length co31)) (fun _ h_ => h_.1))) (Kd.R_base ho0) hb); have n2_ := Aside0.mk (Kd.R_below (by (with_reducible repeat (first | apply Kd.R_alloc | apply Kd.R_drewN | apply Kd.R_drew)); exact (Kd.R_mono (Kd.R_far (p := ⟨gb297, 1, none⟩) (Kd.R_far (p := ⟨gb297, 0, none⟩) (Kd.R_types HO296.out BK297.out (by decide)) (fun _ hk => hk.2) (.int .i64 t293)) (fun _ hk => hk.2) (.slice Ao31 t294.length co31)) (fun _ h_ => h_.1))) hb); have n3_ := Aside0.mk (Kd.R_lower (Kd.R_new' ho0 (Kd.R_lt (by (with_reducible repeat (first | apply Kd.R_alloc | apply Kd.R_drewN | apply Kd.R_drew)); exact (Kd.R_mono (Kd.R_far (p := ⟨gb297, 1, none⟩) (Kd.R_far (p := ⟨gb297, 0, none⟩) (Kd.R_types HO292.out BK297.out (by decide)) (fun _ hk => hk.2) (.int .i64 t293)) (fun _ hk => hk.2) (.slice Ao31 t294.length co31)) (fun _ h_ => h_.1))))) (below_size (by repeat (first | (with_reducible first | exact HB.out | apply below_alloc | apply pw_below_drewN | apply below_drew1 | refine below_set ?_ GE284.out | refine below_set ?_ GE297.out) | exact HB.out)))); have n4_ := Aside0.mk (blk_below (g := gb284) (o := .cells #[.int .i64 a0_0, .slice A0_1 l0_1.length c0_1] 24 (0, 0)) (by (with_reducible repeat (first | refine blk_drewN ?_ _ | refine blk_drew ?_ | refine blk_alloc ?_ _)); refine blk_far ?_ NB284_297.out _; (with_reducible repeat (first | refine blk_drewN ?_ _ | refine blk_drew ?_ | refine blk_alloc ?_ _)); refine blk_far ?_ NB284_297.out _; (with_reducible repeat (first | refine blk_drewN ?_ _ | refine blk_drew ?_ | refine blk_alloc ?_ _)); exact BK284.out) hb); have n5_ := Aside0.mk (blk_below (g := gb297) (o := .cells #[.int .i64 t293, .slice Ao31 t294.length co31] 30 (0, 0)) (by (with_reducible repeat (first | refine blk_drewN ?_ _ | refine blk_drew ?_ | refine blk_alloc ?_ _)); refine blk_put (cs := #[.int .i64 t293, .slice none 0 0]) ?_ 1 _ rfl; (with_reducible repeat (first | refine blk_drewN ?_ _ | refine blk_drew ?_ | refine blk_alloc ?_ _)); refine blk_put (cs := #[.int .i64 0, .slice none 0 0]) ?_ 0 _ rfl; (with_reducible repeat (first | refine blk_drewN ?_ _ | refine blk_drew ?_ | refine blk_alloc ?_ _)); exact BK297.out) hb); have n6_ := Aside0.mk (below_step (by repeat (first | (with_reducible first | exact HB.out | apply below_alloc | apply pw_below_drewN | apply below_drew1 | refine below_set ?_ GE284.out | refine below_set ?_ GE297.out) | exact HB.out)) hb); clear HO289; clear HO292; clear HO296; clear BK284; clear BK297; clear HB; have HO289 := n0_; have HO292 := n1_; have HO296 := n2_; have HO300 := n3_; have BK284 := n4_; have BK297 := n5_; have HB := n6_; clear n0_ n1_ n2_ n3_ n4_ n5_ n6_; (try clear hb); (try clear hb2); (try clear hk); (try clear hi); (try clear ho0); obtain ⟨Ao33, co33, eo33⟩ := Kd.R_slice HO300.out; subst eo33; obtain ⟨Ao34, co34, eo34⟩ := Kd.R_slice HO292.out; subst eo34) | ((with_reducible refine gate_callee (f := 14) rfl ?_); refine goesL_ (some 29) rfl rfl Try.func14 (by kernel_rfl) rfl #[.slice Ao33 t298.length co33, .slice Ao34 t290.length co34] rfl (by (try simp only [List.map_toArray, List.map_cons, List.map_nil]); first | done | rfl | (simp only [List.length_drop, List.length_take]; rfl)) ?_; (with_reducible refine (laws_eqEndS.calls k _ _ t298 _ _ t290 true _ ?side1 ?side2 ?side3 ?side4 A12.out).mono ?_); (case side1 => repeat (first | exact (Kd.R_reads' HO300.out).2.2 | (with_reducible refine Kd.C_alloc ?_ _) | (with_reducible refine Kd.C_drewN ?_ _) | (with_reducible refine Kd.C_drew ?_))); (case side2 => exact (Kd.R_reads' HO300.out).2.1); (case side3 => repeat (first | exact (Kd.R_reads' HO292.out).2.2 | (with_reducible refine Kd.C_alloc ?_ _) | (with_reducible refine Kd.C_drewN ?_ _) | (with_reducible refine Kd.C_drew ?_))); (case side4 => exact (Kd.R_reads' HO292.out).2.1); rintro e w35 ⟨rfl, hb⟩; refine ⟨_, rfl, ?_⟩; have n0_ := Aside0.mk (Kd.R_below (kR HO289.out) hb); have n1_ := Aside0.mk (Kd.R_below (kR HO292.out) hb); have n2_ := Aside0.mk (Kd.R_below (kR HO296.out) hb); have n3_ := Aside0.mk (Kd.R_below (kR HO300.out) hb); have n4_ := Aside0.mk (blk_below (bK BK284.out) hb); have n5_ := Aside0.mk (blk_below (bK BK297.out) hb); have n6_ := Aside0.mk (below_step (by repeat (first | (with_reducible first | exact HB.out | apply below_alloc | apply pw_below_drewN | apply below_drew1 | refine below_set ?_ GE284.out | refine below_set ?_ GE297.out) | exact HB.out)) hb); clear HO289; clear HO292; clear HO296; clear HO300; clear BK284; clear BK297; clear HB; have HO289 := n0_; have HO292 := n1_; have HO296 := n2_; have HO300 := n3_; have BK284 := n4_; have BK297 := n5_; have HB := n6_; clear n0_ n1_ n2_ n3_ n4_ n5_ n6_; (try clear hb); (try clear hb2); (try clear hk); (try clear hi)))
    have n0_ := Aside0.mk (Kd.R_drew HO289.out)
    have n1_ := Aside0.mk (Kd.R_drew HO292.out)
    have n2_ := Aside0.mk (Kd.R_drew HO296.out)
    have n3_ := Aside0.mk (Kd.R_drew HO300.out)
    have n4_ := Aside0.mk (blk_drew BK284.out)
    have n5_ := Aside0.mk (blk_drew BK297.out)
    have n6_ := Aside0.mk (below_drew1 HB.out)
    clear HO289
    clear HO292
    clear HO296
    clear HO300
    clear BK284
    clear BK297
    clear HB
    have HO289 := n0_
    have HO292 := n1_
    have HO296 := n2_
    have HO300 := n3_
    have BK284 := n4_
    have BK297 := n5_
    have HB := n6_
    clear n0_ n1_ n2_ n3_ n4_ n5_ n6_
    refine start_ (n := 5) (S := fun w' => w'.cell? ⟨gb297, 0, none⟩ = some (.int .i64 t293) ∧ w'.cell? ⟨gb297, 1, none⟩ = some (.slice Ao31 t294.length co31) ∧ w'.cell? ⟨gb284, 0, none⟩ = some (.int .i64 a0_0) ∧ w'.cell? ⟨gb284, 1, none⟩ = some (.slice A0_1 l0_1.length c0_1)) (ds := []) #[false, false, false, false, false] (by kernel_rfl) rfl rfl ⟨(blk_cell BK297.out 0).trans rfl, (blk_cell BK297.out 1).trans rfl, (blk_cell BK284.out 0).trans rfl, (blk_cell BK284.out 1).trans rfl⟩ (fun hHeld => ?_)
    generalize w35.drew = w36 at HO289 HO292 HO296 HO300 BK284 BK297 HB hHeld ⊢
    refine take_ (i := 0) (N := some 31) (v := ?_) (a' := ?_) #[true, false, false, false, false] rfl rfl (by kernel_rfl) (fun _ _ _ h => h) (Or.inl ⟨by rfl, ?_⟩) hHeld ?_ ?_
    rotate_left
    ·rintro w' ⟨s0, s1, s2, s3⟩
     go_simp
     with_reducible rfl
    rotate_left
    ·simp only [Act.put, List.setIfInBounds_toArray, List.set_cons_zero, List.set_cons_succ, i64_w, i32_w]
     rfl
    refine take_ (i := 1) (N := some 32) (v := ?_) (a' := ?_) #[true, true, false, false, false] rfl rfl (by kernel_rfl) (fun _ _ _ h => h) (Or.inl ⟨by rfl, ?_⟩) hHeld ?_ ?_
    rotate_left
    ·rintro w' ⟨s0, s1, s2, s3⟩
     go_simp
     with_reducible rfl
    rotate_left
    ·simp only [Act.put, List.setIfInBounds_toArray, List.set_cons_zero, List.set_cons_succ, i64_w, i32_w]
     rfl
    refine one_ (i := 2) (N := some 33) #[true, true, true, false, false] rfl rfl (by kernel_rfl) (by decide) (fun K hK => ?_)
    refine goes_ Try.func12 (by kernel_rfl) rfl #[.agg #[.int .i64 a0_0, .slice A0_1 l0_1.length c0_1]] (by rfl) rfl rfl (by (try simp only [List.map_toArray, List.map_cons, List.map_nil]); first | done | rfl | (simp only [List.length_drop, List.length_take]; rfl)) ?_
    with_reducible refine (laws_toGrid.calls k a0_0 _ _ l0_1 t302 t303 _ ?side1 ?side2 A14.out).mono ?_
    (case side1 => repeat (first | exact (Kd.C_below HR0_1.out HB.out) | (with_reducible refine Kd.C_alloc ?_ _) | (with_reducible refine Kd.C_drewN ?_ _) | (with_reducible refine Kd.C_drew ?_)))
    (case side2 => exact HC0_1.out)
    rintro e w37 ⟨v304, rfl, ho0, hb⟩
    refine ⟨_, rfl, ?_⟩
    have n0_ := Aside0.mk (Kd.R_elder' (kR HO289.out) (Kd.R_base ho0) hb)
    have n1_ := Aside0.mk (Kd.R_below (kR HO292.out) hb)
    have n2_ := Aside0.mk (Kd.R_elder' (kR HO296.out) (Kd.R_base ho0) hb)
    have n3_ := Aside0.mk (Kd.R_below (kR HO300.out) hb)
    have n4_ := Aside0.mk (Kd.R_lower (Kd.R_new' (Kd.R_new' ho0 (Kd.R_lt (kR HO289.out))) (Kd.R_lt (kR HO296.out))) (below_size (by repeat (first | (with_reducible first | exact HB.out | apply below_alloc | apply pw_below_drewN | apply below_drew1 | refine below_set ?_ GE284.out | refine below_set ?_ GE297.out) | exact HB.out))))
    have n5_ := Aside0.mk (blk_below (bK BK284.out) hb)
    have n6_ := Aside0.mk (blk_below (bK BK297.out) hb)
    have n7_ := Aside0.mk (below_step (by repeat (first | (with_reducible first | exact HB.out | apply below_alloc | apply pw_below_drewN | apply below_drew1 | refine below_set ?_ GE284.out | refine below_set ?_ GE297.out) | exact HB.out)) hb)
    clear HO289
    clear HO292
    clear HO296
    clear HO300
    clear BK284
    clear BK297
    clear HB
    have HO289 := n0_
    have HO292 := n1_
    have HO296 := n2_
    have HO300 := n3_
    have HO305 := n4_
    have BK284 := n5_
    have BK297 := n6_
    have HB := n7_
    clear n0_ n1_ n2_ n3_ n4_ n5_ n6_ n7_
    (try clear hb)
    (try clear hb2)
    (try clear hk)
    (try clear hi)
    (try clear ho0)
    obtain ⟨Ao38, co38, eo38⟩ := Kd.R_slice HO305.out
    (first | subst eo38 | (injection eo38 with f1_ f2_ f3_; have f4_ := f1_.symm; have f5_ := f3_.symm; clear f1_ f2_ f3_; subst f4_; subst f5_))
    refine hK.out _ _ ⟨(blk_cell BK297.out 0).trans rfl, (blk_cell BK297.out 1).trans rfl, (blk_cell BK284.out 0).trans rfl, (blk_cell BK284.out 1).trans rfl⟩ (fun hHeld => ?_)
    clear hK K
    refine norm_ (a' := ?_) ?_ ?_
    rotate_left
    ·show Act.put _ (some 33) _ = _
     simp only [Act.put, List.setIfInBounds_toArray, List.set_cons_zero, List.set_cons_succ, i64_w, i32_w]
     rfl
    refine one_ (i := 3) (N := some 34) #[true, true, true, true, false] rfl rfl (by kernel_rfl) (by decide) (fun K hK => ?_)
    refine goes_ Try.func15 (by kernel_rfl) rfl #[.agg #[.int .i64 t293, .slice Ao31 t294.length co31], .agg #[.int .i64 t302, .slice Ao38 t303.length co38]] (by rfl) rfl rfl (by (try simp only [List.map_toArray, List.map_cons, List.map_nil]); first | done | rfl | (simp only [List.length_drop, List.length_take]; rfl)) ?_
    with_reducible refine (laws_eqGrid.calls k t293 _ _ t294 t302 _ _ t303 true _ ?side1 ?side2 ?side3 ?side4 A15.out).mono ?_
    (case side1 => repeat (first | exact (Kd.R_reads' HO296.out).2.2 | (with_reducible refine Kd.C_alloc ?_ _) | (with_reducible refine Kd.C_drewN ?_ _) | (with_reducible refine Kd.C_drew ?_)))
    (case side2 => exact (Kd.R_reads' HO296.out).2.1)
    (case side3 => repeat (first | exact (Kd.R_reads' HO305.out).2.2 | (with_reducible refine Kd.C_alloc ?_ _) | (with_reducible refine Kd.C_drewN ?_ _) | (with_reducible refine Kd.C_drew ?_)))
    (case side4 => exact (Kd.R_reads' HO305.out).2.1)
    rintro e w39 ⟨rfl, hb⟩
    refine ⟨_, rfl, ?_⟩
    have n0_ := Aside0.mk (Kd.R_below (kR HO289.out) hb)
    have n1_ := Aside0.mk (Kd.R_below (kR HO292.out) hb)
    have n2_ := Aside0.mk (Kd.R_below (kR HO296.out) hb)
    have n3_ := Aside0.mk (Kd.R_below (kR HO300.out) hb)
    have n4_ := Aside0.mk (Kd.R_below (kR HO305.out) hb)
    have n5_ := Aside0.mk (blk_below (bK BK284.out) hb)
    have n6_ := Aside0.mk (blk_below (bK BK297.out) hb)
    have n7_ := Aside0.mk (below_step (by repeat (first | (with_reducible first | exact HB.out | apply below_alloc | apply pw_below_drewN | apply below_drew1 | refine below_set ?_ GE284.out | refine below_set ?_ GE297.out) | exact HB.out)) hb)
    clear HO289
    clear HO292
    clear HO296
    clear HO300
    clear HO305
    clear BK284
    clear BK297
    clear HB
    have HO289 := n0_
    have HO292 := n1_
    have HO296 := n2_
    have HO300 := n3_
    have HO305 := n4_
    have BK284 := n5_
    have BK297 := n6_
    have HB := n7_
    clear n0_ n1_ n2_ n3_ n4_ n5_ n6_ n7_
    (try clear hb)
    (try clear hb2)
    (try clear hk)
    (try clear hi)
    refine hK.out _ _ ⟨(blk_cell BK297.out 0).trans rfl, (blk_cell BK297.out 1).trans rfl, (blk_cell BK284.out 0).trans rfl, (blk_cell BK284.out 1).trans rfl⟩ (fun hHeld => ?_)
    clear hK K
    refine norm_ (a' := ?_) ?_ ?_
    rotate_left
    ·show Act.put _ (some 34) _ = _
     simp only [Act.put, List.setIfInBounds_toArray, List.set_cons_zero, List.set_cons_succ, i64_w, i32_w]
     rfl
    refine pure_ (i := 4) (N := some 35) (v := ?_) (a' := ?_) #[true, true, true, true, true] rfl rfl (by kernel_rfl) (fun _ _ _ h => h) (Or.inl ⟨by rfl, ?_⟩) ?_ ?_
    rotate_left
    ·intro w'
     go_simp
     with_reducible rfl
    rotate_left
    ·simp only [Act.put, List.setIfInBounds_toArray, List.set_cons_zero, List.set_cons_succ, i64_w, i32_w]
     rfl
    refine done_ (by kernel_rfl) ?_
    have hcz40_0 : w39.cell? ⟨gb297, 0, none⟩ = some (.int .i64 t293) := (blk_cell BK297.out 0).trans rfl
    have hcz40_1 : w39.cell? ⟨gb297, 1, none⟩ = some (.slice Ao31 t294.length co31) := (blk_cell BK297.out 1).trans rfl
    have hfz40_0 := blk_frozen BK297.out 0
    have hfz40_1 := blk_frozen BK297.out 1
    go_upto_region 14 with (first | ((with_reducible refine gate_callee (f := 16) rfl ?_); refine goesL_ (some 38) rfl rfl Try.func16 (by kernel_rfl) rfl #[.agg #[.int .i64 t293, .slice Ao31 t294.length co31], .int .i64 1] rfl (by (try simp only [List.map_toArray, List.map_cons, List.map_nil]); first | done | rfl | (simp only [List.length_drop, List.length_take]; rfl)) ?_; (with_reducible refine (laws_markGrid.calls k t293 (fun k_ => some k_ = (.slice Ao31 t294.length co31 : Value).ownBlock) (.slice Ao31 t294.length co31) t294 1 t307 t308 w _ ?side1 ?side2 A17.out).mono ?_); (case side1 => repeat (first | (with_reducible first | exact HB.out | apply below_alloc | apply pw_below_drewN | apply below_drew1 | refine below_set ?_ GE284.out | refine below_set ?_ GE297.out) | exact HB.out)); (case side2 => exact Kd.R_tight rfl HO296.out); rintro e w41 ⟨rfl, hy0, hb, hkp⟩; refine ⟨_, rfl, ?_⟩; have n0_ := Aside0.mk (blk_kept (bK BK284.out) hkp (fun hs_ => (fun e_ => (Kd.R_ne HO296.out BK284.out (by decide)) e_) hs_)); have n1_ := Aside0.mk (Kd.R_mono (ok' := fun k_ => some k_ ≠ (.slice Ao31 t294.length co31 : Value).ownBlock ∧ some k_ ≠ (.slice Ao38 t303.length co38 : Value).ownBlock) (Kd.R_keptB (HO289.out) hkp (fun k_ hk_ hs_ => (hk_.1.2) hs_)) (fun k_ hk_ => ⟨hk_.1.1.2, hk_.1.2⟩)); have n2_ := Aside0.mk (Kd.R_mono (ok' := fun k_ => some k_ ≠ (.slice Ao33 t298.length co33 : Value).ownBlock) (Kd.R_keptB ((Kd.R_apart' HO292.out (Kd.R_typed HO296.out) (by decide))) hkp (fun k_ hk_ hs_ => (hk_.2) hs_)) (fun k_ hk_ => hk_.1.1.2)); have n3_ := Aside0.mk (Kd.R_reok rfl hy0 (fun k_ e_ => HO296.out.1 k_ e_)); have n4_ := Aside0.mk (blk_kept (bK BK297.out) hkp (fun hs_ => (fun e_ => (Kd.R_ne HO296.out BK297.out (by decide)) e_) hs_)); have n5_ := Aside0.mk (Kd.R_mono (ok' := fun k_ => some k_ ≠ (.slice Ao34 t290.length co34 : Value).ownBlock) (Kd.R_keptB ((Kd.R_apart' HO300.out (Kd.R_typed HO296.out) (by decide))) hkp (fun k_ hk_ hs_ => (hk_.2) hs_)) (fun k_ hk_ => hk_.1.1.2)); have n6_ := Aside0.mk (Kd.R_mono (ok' := fun k_ => some k_ ≠ (.slice Ao24 t287.length co24 : Value).ownBlock ∧ some k_ ≠ (.slice Ao31 t294.length co31 : Value).ownBlock) (Kd.R_keptB (HO305.out) hkp (fun k_ hk_ hs_ => (hk_.2) hs_)) (fun k_ hk_ => ⟨hk_.1.1.2, hk_.1.2⟩)); have n7_ := Aside0.mk (hb); clear BK284; clear HO289; clear HO292; clear HO296; clear BK297; clear HO300; clear HO305; clear HB; have BK284 := n0_; have HO289 := n1_; have HO292 := n2_; have HO296 := n3_; have BK297 := n4_; have HO300 := n5_; have HO305 := n6_; have HB := n7_; clear n0_ n1_ n2_ n3_ n4_ n5_ n6_ n7_; (try clear hb); (try clear hkp); (try clear hy0)))
    (try simp only [Act.put, List.setIfInBounds_toArray, List.set_cons_zero, List.set_cons_succ])
    go_cut [46] (fun v46 wc => ∃ (kq : Nat) (x46_17 : Bool), v46 = .bool x46_17 ∧ Aside0 (laws_FnExactTrailEnds.j0 kq a1 t290 t298 x46_17 a0_0 l0_1 = some r) ∧ Aside0 (kq ≤ k) ∧ Aside0 (Kd.R k48 48 wc w.heap.size (fun k_ => some k_ ≠ ((.slice Ao33 t298.length co33) : Value).ownBlock) (.slice Ao34 t290.length co34) t290) ∧ Aside0 (Kd.R k48 48 wc w.heap.size (fun k_ => some k_ ≠ ((.slice Ao34 t290.length co34) : Value).ownBlock) (.slice Ao33 t298.length co33) t298) ∧ Aside0 (Kd.R k57 57 wc w.heap.size (fun _ => True) (.slice Ao31 t294.length co31) t308) ∧ Aside0 (wc.heap[gb284]? = some (.cells #[.int .i64 a0_0, (.slice A0_1 l0_1.length c0_1)] 24 (0, 0))) ∧ Aside0 (wc.heap[gb297]? = some (.cells #[.int .i64 t293, (.slice Ao31 t294.length co31)] 30 (0, 0))) ∧ Aside0 (Below w.heap.size w wc))
    case first =>
     have H := HC18.out
     clear HC18
     by_cases c42 : t307 < 0
     ·rw [if_pos c42] at H
      have c42b0 : decide (t307 < 0) = true := decide_eq_true c42
      clear c42
      (first | rw [c42b0] | (simp only [i64_w, i32_w]; rw [c42b0]) | skip)
      cases k with
      | zero => exact absurd H (by simp [laws_FnExactTrailEnds.j0])
      | succ k_ =>
       have hf_ := Option.some.inj (show (some false : Option Bool) = some r from H)
       rw [HRT.out] at hf_
       exact absurd hf_ (by decide)
     ·rw [if_neg c42] at H
      have c42b0 : decide (t307 < 0) = false := decide_eq_false c42
      clear c42
      (first | rw [c42b0] | (simp only [i64_w, i32_w]; rw [c42b0]) | skip)
      replace H := Option.bind_eq_some_iff.mp H
      obtain ⟨t309, A430, H⟩ := H
      replace H : (laws_FnExactTrailEnds.j0 k a1 t290 t298 (!t309) a0_0 l0_1) = some r := H
      have A43 := Aside0.mk A430
      clear A430
      have H' := Aside0.mk H
      clear H
      go_wp2_with (first | (go_at_call 14; (with_reducible refine (laws_eqEndS.calls k _ _ t298 _ _ t290 t309 _ ?side1 ?side2 ?side3 ?side4 A43.out).mono ?_); (case side1 => repeat (first | exact (Kd.R_reads' HO300.out).2.2 | (with_reducible refine Kd.C_alloc ?_ _) | (with_reducible refine Kd.C_drewN ?_ _) | (with_reducible refine Kd.C_drew ?_))); (case side2 => exact (Kd.R_reads' HO300.out).2.1); (case side3 => repeat (first | exact (Kd.R_reads' HO292.out).2.2 | (with_reducible refine Kd.C_alloc ?_ _) | (with_reducible refine Kd.C_drewN ?_ _) | (with_reducible refine Kd.C_drew ?_))); (case side4 => exact (Kd.R_reads' HO292.out).2.1); rintro e w44 ⟨rfl, hb⟩; have n0_ := Aside0.mk (Kd.R_below (kR HO289.out) hb); have n1_ := Aside0.mk (Kd.R_below (kR HO292.out) hb); have n2_ := Aside0.mk (Kd.R_below (kR HO296.out) hb); have n3_ := Aside0.mk (Kd.R_below (kR HO300.out) hb); have n4_ := Aside0.mk (Kd.R_below (kR HO305.out) hb); have n5_ := Aside0.mk (blk_below (bK BK284.out) hb); have n6_ := Aside0.mk (blk_below (bK BK297.out) hb); have n7_ := Aside0.mk (below_step (by repeat (first | (with_reducible first | exact HB.out | apply below_alloc | apply pw_below_drewN | apply below_drew1 | refine below_set ?_ GE284.out | refine below_set ?_ GE297.out) | exact HB.out)) hb); clear HO289; clear HO292; clear HO296; clear HO300; clear HO305; clear BK284; clear BK297; clear HB; have HO289 := n0_; have HO292 := n1_; have HO296 := n2_; have HO300 := n3_; have HO305 := n4_; have BK284 := n5_; have BK297 := n6_; have HB := n7_; clear n0_ n1_ n2_ n3_ n4_ n5_ n6_ n7_; (try clear hb); (try clear hb2); (try clear hk); (try clear hi)))
      go_meet
      case rel => exact ⟨_, (!t309), (by first | rfl | (simp; done) | (simp [*]; done)), H', ⟨by first | omega | exact Nat.le_refl _⟩, ⟨by (with_reducible repeat (first | apply Kd.R_alloc | apply Kd.R_drewN | apply Kd.R_drew)); exact HO292.out⟩, ⟨by (with_reducible repeat (first | apply Kd.R_alloc | apply Kd.R_drewN | apply Kd.R_drew)); exact HO300.out⟩, ⟨by (with_reducible repeat (first | apply Kd.R_alloc | apply Kd.R_drewN | apply Kd.R_drew)); exact Kd.R_mono HO296.out (fun _ hk => trivial)⟩, ⟨by (with_reducible repeat (first | refine blk_drewN ?_ _ | refine blk_drew ?_ | refine blk_alloc ?_ _)); exact BK284.out⟩, ⟨by (with_reducible repeat (first | refine blk_drewN ?_ _ | refine blk_drew ?_ | refine blk_alloc ?_ _)); exact BK297.out⟩, ⟨by repeat (first | (with_reducible first | exact HB.out | apply below_alloc | apply pw_below_drewN | apply below_drew1 | refine below_set ?_ GE284.out | refine below_set ?_ GE297.out) | exact HB.out)⟩⟩
    case rest =>
     clear HC18
     try clear c1
     try clear c2
     try clear p2
     try clear c3
     try clear c4
     try clear c4b0
     try clear c10
     try clear c11
     try clear c12
     try clear c13
     try clear c14
     try clear c15
     try clear c16
     try clear c29
     try clear c42
     try clear c42b0
     try clear hcz20_0
     try clear hcz20_1
     try clear hcz22_0
     try clear hcz22_1
     try clear hcz26_0
     try clear hcz26_1
     try clear hcz30_0
     try clear hcz30_1
     try clear hcz40_0
     try clear hcz40_1
     try clear hcz6_0
     try clear hcz6_1
     try clear hfz20_0
     try clear hfz20_1
     try clear hfz22_0
     try clear hfz22_1
     try clear hfz26_0
     try clear hfz26_1
     try clear hfz30_0
     try clear hfz30_1
     try clear hfz40_0
     try clear hfz40_1
     try clear hfz6_0
     try clear hfz6_1
     obtain ⟨kq, x46_17, rfl, HA, HJ17, HO_6, HO_8, HO_298001, BK284, BK297, HB⟩ := hcut
     have hl298001_17 := (Kd.R_reads' HO_298001.out).1
     rw [hl298001_17] at HO_298001
     (try simp only [hl298001_17])
     (try simp only [hl298001_17] at BK284)
     (try simp only [hl298001_17] at BK297)
     (try simp only [hl298001_17] at HO_6)
     (try simp only [hl298001_17] at HO_8)
     cases kq with
     | zero => exact absurd HA.out (by simp [laws_FnExactTrailEnds.j0])
     | succ kj17 =>
      have H := HA.out
      clear HA
      simp only [laws_FnExactTrailEnds.j0] at H
      by_cases c45 : x46_17 = true
      ·subst c45
       have H1 : (some false) = some r := by rw [if_pos rfl] at H; exact H
       clear H
       have H := H1
       clear H1
       obtain rfl := Option.some.inj H
       exact absurd HRT.out (by decide)
      ·replace c45 := Bool.eq_false_iff.mpr c45
       subst c45
       have H1 : ((laws_markEndS.f kj17 t298 1).bind fun bt310 => ((laws_heldEndS.f kj17 bt310.2 1).bind fun t312 => (if t312 < 0 then (some false) else (if t312 = bt310.1 then ((laws_toGrid.f kj17 a0_0 l0_1).bind fun bt313 => ((impl_TrailEnds.f kj17 bt313.1 bt313.2 a1).bind fun t317 => ((laws_eqEndS.f kj17 t317 t290).bind fun t320 => (if t320 = true then ((laws_heldEndS.f kj17 bt310.2 1).bind fun t321 => (if t321 < 0 then (some false) else (if t321 = bt310.1 then (some true) else (some false)))) else (some false))))) else (some false))))) = some r := by rw [if_neg (show ¬ (false = true) by decide)] at H; exact H
       clear H
       have H := H1
       clear H1
       replace H := Option.bind_eq_some_iff.mp H
       obtain ⟨⟨t310, t311⟩, A460, H⟩ := H
       replace H : ((laws_heldEndS.f kj17 t311 1).bind fun t312 => (if t312 < 0 then (some false) else (if t312 = t310 then ((laws_toGrid.f kj17 a0_0 l0_1).bind fun bt313 => ((impl_TrailEnds.f kj17 bt313.1 bt313.2 a1).bind fun t317 => ((laws_eqEndS.f kj17 t317 t290).bind fun t320 => (if t320 = true then ((laws_heldEndS.f kj17 t311 1).bind fun t321 => (if t321 < 0 then (some false) else (if t321 = t310 then (some true) else (some false)))) else (some false))))) else (some false)))) = some r := H
       have A46 := Aside0.mk A460
       clear A460
       replace H := Option.bind_eq_some_iff.mp H
       obtain ⟨t312, A470, H⟩ := H
       replace H : (if t312 < 0 then (some false) else (if t312 = t310 then ((laws_toGrid.f kj17 a0_0 l0_1).bind fun bt313 => ((impl_TrailEnds.f kj17 bt313.1 bt313.2 a1).bind fun t317 => ((laws_eqEndS.f kj17 t317 t290).bind fun t320 => (if t320 = true then ((laws_heldEndS.f kj17 t311 1).bind fun t321 => (if t321 < 0 then (some false) else (if t321 = t310 then (some true) else (some false)))) else (some false))))) else (some false))) = some r := H
       have A47 := Aside0.mk A470
       clear A470
       by_cases c48 : t312 < 0
       ·rw [if_pos c48] at H
        have c48b0 : decide (t312 < 0) = true := decide_eq_true c48
        clear c48
        obtain rfl := Option.some.inj H
        exact absurd HRT.out (by decide)
       ·rw [if_neg c48] at H
        have c48b0 : decide (t312 < 0) = false := decide_eq_false c48
        clear c48
        by_cases c49 : t312 = t310
        ·rw [if_pos c49] at H
         have c49b0 : (t312 == t310) = true := beq_iff_eq.mpr c49
         have c49b1 : (t312 != t310) = false := bne_eq_false_iff_eq.mpr c49
         clear c49
         replace H := Option.bind_eq_some_iff.mp H
         obtain ⟨⟨t313, t314⟩, A500, H⟩ := H
         replace H : ((impl_TrailEnds.f kj17 t313 t314 a1).bind fun t317 => ((laws_eqEndS.f kj17 t317 t290).bind fun t320 => (if t320 = true then ((laws_heldEndS.f kj17 t311 1).bind fun t321 => (if t321 < 0 then (some false) else (if t321 = t310 then (some true) else (some false)))) else (some false)))) = some r := H
         have A50 := Aside0.mk A500
         clear A500
         replace H := Option.bind_eq_some_iff.mp H
         obtain ⟨t317, A510, H⟩ := H
         replace H : ((laws_eqEndS.f kj17 t317 t290).bind fun t320 => (if t320 = true then ((laws_heldEndS.f kj17 t311 1).bind fun t321 => (if t321 < 0 then (some false) else (if t321 = t310 then (some true) else (some false)))) else (some false))) = some r := H
         have A51 := Aside0.mk A510
         clear A510
         replace H := Option.bind_eq_some_iff.mp H
         obtain ⟨t320, A520, H⟩ := H
         replace H : (if t320 = true then ((laws_heldEndS.f kj17 t311 1).bind fun t321 => (if t321 < 0 then (some false) else (if t321 = t310 then (some true) else (some false)))) else (some false)) = some r := H
         have A52 := Aside0.mk A520
         clear A520
         by_cases c53 : t320 = true
         ·subst c53
          have H1 : ((laws_heldEndS.f kj17 t311 1).bind fun t321 => (if t321 < 0 then (some false) else (if t321 = t310 then (some true) else (some false)))) = some r := by rw [if_pos rfl] at H; exact H
          clear H
          have H := H1
          clear H1
          replace H := Option.bind_eq_some_iff.mp H
          obtain ⟨t321, A540, H⟩ := H
          replace H : (if t321 < 0 then (some false) else (if t321 = t310 then (some true) else (some false))) = some r := H
          have A54 := Aside0.mk A540
          clear A540
          by_cases c55 : t321 < 0
          ·rw [if_pos c55] at H
           have c55b0 : decide (t321 < 0) = true := decide_eq_true c55
           clear c55
           obtain rfl := Option.some.inj H
           exact absurd HRT.out (by decide)
          ·rw [if_neg c55] at H
           have c55b0 : decide (t321 < 0) = false := decide_eq_false c55
           clear c55
           by_cases c56 : t321 = t310
           ·rw [if_pos c56] at H
            have c56b0 : (t321 == t310) = true := beq_iff_eq.mpr c56
            have c56b1 : (t321 != t310) = false := bne_eq_false_iff_eq.mpr c56
            clear c56
            obtain rfl := Option.some.inj H
            go_wp2_with (first | ((with_reducible refine gate_callee (f := 17) rfl ?_); refine goesL_ (some 49) rfl rfl Try.func17 (by kernel_rfl) rfl #[.slice Ao33 t298.length co33, .int .i64 1] rfl (by (try simp only [List.map_toArray, List.map_cons, List.map_nil]); first | done | rfl | (simp only [List.length_drop, List.length_take]; rfl)) ?_; (with_reducible refine (laws_markEndS.calls kj17 (fun k_ => some k_ = (.slice Ao33 t298.length co33 : Value).ownBlock) (.slice Ao33 t298.length co33) t298 1 t310 t311 w _ ?side1 ?side2 A46.out).mono ?_); (case side1 => repeat (first | (with_reducible first | exact HB.out | apply below_alloc | apply pw_below_drewN | apply below_drew1 | refine below_set ?_ GE284.out | refine below_set ?_ GE297.out) | exact HB.out)); (case side2 => exact Kd.R_tight rfl HO_8.out); rintro e w57 ⟨rfl, hy0, hb, hkp⟩; refine ⟨_, rfl, ?_⟩; have n0_ := Aside0.mk (Kd.R_mono (ok' := fun k_ => some k_ ≠ (.slice Ao33 t298.length co33 : Value).ownBlock) (Kd.R_keptB (HO_6.out) hkp (fun k_ hk_ hs_ => (hk_) hs_)) (fun k_ hk_ => hk_.1)); have n1_ := Aside0.mk (Kd.R_reok rfl hy0 (fun k_ e_ => HO_8.out.1 k_ e_)); have n2_ := Aside0.mk (Kd.R_mono (ok' := fun k_ => True) (Kd.R_keptB ((Kd.R_apart' HO_298001.out (Kd.R_typed HO_8.out) (by decide))) hkp (fun k_ hk_ hs_ => (hk_.2) hs_)) (fun k_ hk_ => trivial)); have n3_ := Aside0.mk (blk_kept (bK BK284.out) hkp (fun hs_ => (fun e_ => (Kd.R_ne HO_8.out BK284.out (by decide)) e_) hs_)); have n4_ := Aside0.mk (blk_kept (bK BK297.out) hkp (fun hs_ => (fun e_ => (Kd.R_ne HO_8.out BK297.out (by decide)) e_) hs_)); have n5_ := Aside0.mk (hb); clear HO_6; clear HO_8; clear HO_298001; clear BK284; clear BK297; clear HB; have HO_6 := n0_; have HO_8 := n1_; have HO_298001 := n2_; have BK284 := n3_; have BK297 := n4_; have HB := n5_; clear n0_ n1_ n2_ n3_ n4_ n5_; (try clear hb); (try clear hkp); (try clear hy0)) | ((with_reducible refine gate_callee (f := 18) rfl ?_); refine goesL_ (some 52) rfl rfl Try.func18 (by kernel_rfl) rfl #[.slice Ao33 t311.length co33, .int .i64 1] rfl (by (try simp only [List.map_toArray, List.map_cons, List.map_nil]); first | done | (rw [show t311.length = t298.length from (Kd.R_reads' HO_8.out).1.symm] <;> rfl) | rfl | (simp only [List.length_drop, List.length_take]; rfl)) ?_; (with_reducible refine (laws_heldEndS.calls kj17 _ _ t311 1 t312 _ ?side1 ?side2 A47.out).mono ?_); (case side1 => repeat (first | exact (Kd.R_reads' HO_8.out).2.2 | (with_reducible refine Kd.C_alloc ?_ _) | (with_reducible refine Kd.C_drewN ?_ _) | (with_reducible refine Kd.C_drew ?_))); (case side2 => rw [show t311.length = t298.length from (Kd.R_reads' HO_8.out).1.symm]; exact (Kd.R_reads' HO_8.out).2.1); rintro e w' ⟨rfl, ⟨nd, rfl⟩⟩; refine ⟨_, rfl, ?_⟩; have hnb58 := NB284_297.out; have hnc58 := NB297_284.out; have hcz59_0 : w57.cell? ⟨gb284, 0, none⟩ = some (.int .i64 a0_0) := (blk_cell BK284.out 0).trans rfl; have hcz59_1 : w57.cell? ⟨gb284, 1, none⟩ = some (.slice A0_1 l0_1.length c0_1) := (blk_cell BK284.out 1).trans rfl; have hfz59_0 := blk_frozen BK284.out 0; have hfz59_1 := blk_frozen BK284.out 1) | ((with_reducible refine gate_callee (f := 12) rfl ?_); refine goesL_ (some 59) rfl rfl Try.func12 (by kernel_rfl) rfl #[.agg #[.int .i64 a0_0, .slice A0_1 l0_1.length c0_1]] rfl (by (try simp only [List.map_toArray, List.map_cons, List.map_nil]); first | done | rfl | (simp only [List.length_drop, List.length_take]; rfl)) ?_; (with_reducible refine (laws_toGrid.calls kj17 a0_0 _ _ l0_1 t313 t314 _ ?side1 ?side2 A50.out).mono ?_); (case side1 => repeat (first | exact (Kd.C_below HR0_1.out (by repeat (first | (with_reducible first | exact HB.out | apply below_alloc | apply pw_below_drewN | apply below_drew1 | refine below_set ?_ GE284.out | refine below_set ?_ GE297.out) | exact HB.out))) | (with_reducible refine Kd.C_alloc ?_ _) | (with_reducible refine Kd.C_drewN ?_ _) | (with_reducible refine Kd.C_drew ?_))); (case side2 => exact HC0_1.out); rintro e w60 ⟨v315, rfl, ho0, hb⟩; refine ⟨_, rfl, ?_⟩; have n0_ := Aside0.mk (Kd.R_below (kR HO_6.out) hb); have n1_ := Aside0.mk (Kd.R_below (kR HO_8.out) hb); have n2_ := Aside0.mk (Kd.R_elder' (kR HO_298001.out) (Kd.R_base ho0) hb); have n3_ := Aside0.mk (Kd.R_lower (Kd.R_new' ho0 (Kd.R_lt (kR HO_298001.out))) (below_size (by repeat (first | (with_reducible first | exact HB.out | apply below_alloc | apply pw_below_drewN | apply below_drew1 | refine below_set ?_ GE284.out | refine below_set ?_ GE297.out) | exact HB.out)))); have n4_ := Aside0.mk (blk_below (bK BK284.out) hb); have n5_ := Aside0.mk (blk_below (bK BK297.out) hb); have n6_ := Aside0.mk (below_step (by repeat (first | (with_reducible first | exact HB.out | apply below_alloc | apply pw_below_drewN | apply below_drew1 | refine below_set ?_ GE284.out | refine below_set ?_ GE297.out) | exact HB.out)) hb); clear HO_6; clear HO_8; clear HO_298001; clear BK284; clear BK297; clear HB; have HO_6 := n0_; have HO_8 := n1_; have HO_298001 := n2_; have HO316 := n3_; have BK284 := n4_; have BK297 := n5_; have HB := n6_; clear n0_ n1_ n2_ n3_ n4_ n5_ n6_; (try clear hb); (try clear hb2); (try clear hk); (try clear hi); (try clear ho0); obtain ⟨Ao61, co61, eo61⟩ := Kd.R_slice HO316.out; subst eo61) | ((with_reducible refine gate_callee (f := 13) rfl ?_); refine goesL_ (some 61) rfl rfl Try.func13 (by kernel_rfl) rfl #[.agg #[.int .i64 t313, .slice Ao61 t314.length co61], .int .i64 a1] rfl (by (try simp only [List.map_toArray, List.map_cons, List.map_nil]); first | done | rfl | (simp only [List.length_drop, List.length_take]; rfl)) ?_; (with_reducible refine (impl_TrailEnds.calls kj17 t313 _ _ t314 a1 t317 _ ?side1 ?side2 A51.out).mono ?_); (case side1 => repeat (first | exact (Kd.R_reads' HO316.out).2.2 | (with_reducible refine Kd.C_alloc ?_ _) | (with_reducible refine Kd.C_drewN ?_ _) | (with_reducible refine Kd.C_drew ?_))); (case side2 => exact (Kd.R_reads' HO316.out).2.1); rintro e w62 ⟨v318, rfl, ho0, hb⟩; refine ⟨_, rfl, ?_⟩; have n0_ := Aside0.mk (Kd.R_elder' (kR HO_6.out) (Kd.R_base ho0) hb); have n1_ := Aside0.mk (Kd.R_elder' (kR HO_8.out) (Kd.R_base ho0) hb); have n2_ := Aside0.mk (Kd.R_below (kR HO_298001.out) hb); have n3_ := Aside0.mk (Kd.R_below (kR HO316.out) hb); have n4_ := Aside0.mk (Kd.R_lower (Kd.R_new' (Kd.R_new' ho0 (Kd.R_lt (kR HO_6.out))) (Kd.R_lt (kR HO_8.out))) (below_size (by repeat (first | (with_reducible first | exact HB.out | apply below_alloc | apply pw_below_drewN | apply below_drew1 | refine below_set ?_ GE284.out | refine below_set ?_ GE297.out) | exact HB.out)))); have n5_ := Aside0.mk (blk_below (bK BK284.out) hb); have n6_ := Aside0.mk (blk_below (bK BK297.out) hb); have n7_ := Aside0.mk (below_step (by repeat (first | (with_reducible first | exact HB.out | apply below_alloc | apply pw_below_drewN | apply below_drew1 | refine below_set ?_ GE284.out | refine below_set ?_ GE297.out) | exact HB.out)) hb); clear HO_6; clear HO_8; clear HO_298001; clear HO316; clear BK284; clear BK297; clear HB; have HO_6 := n0_; have HO_8 := n1_; have HO_298001 := n2_; have HO316 := n3_; have HO319 := n4_; have BK284 := n5_; have BK297 := n6_; have HB := n7_; clear n0_ n1_ n2_ n3_ n4_ n5_ n6_ n7_; (try clear hb); (try clear hb2); (try clear hk); (try clear hi); (try clear ho0); obtain ⟨Ao63, co63, eo63⟩ := Kd.R_slice HO319.out; subst eo63) | ((with_reducible refine gate_callee (f := 14) rfl ?_); refine goesL_ (some 64) rfl rfl Try.func14 (by kernel_rfl) rfl #[.slice Ao63 t317.length co63, .slice Ao34 t290.length co34] rfl (by (try simp only [List.map_toArray, List.map_cons, List.map_nil]); first | done | rfl | (simp only [List.length_drop, List.length_take]; rfl)) ?_; (with_reducible refine (laws_eqEndS.calls kj17 _ _ t317 _ _ t290 true _ ?side1 ?side2 ?side3 ?side4 A52.out).mono ?_); (case side1 => repeat (first | exact (Kd.R_reads' HO319.out).2.2 | (with_reducible refine Kd.C_alloc ?_ _) | (with_reducible refine Kd.C_drewN ?_ _) | (with_reducible refine Kd.C_drew ?_))); (case side2 => exact (Kd.R_reads' HO319.out).2.1); (case side3 => repeat (first | exact (Kd.R_reads' HO_6.out).2.2 | (with_reducible refine Kd.C_alloc ?_ _) | (with_reducible refine Kd.C_drewN ?_ _) | (with_reducible refine Kd.C_drew ?_))); (case side4 => exact (Kd.R_reads' HO_6.out).2.1); rintro e w64 ⟨rfl, hb⟩; refine ⟨_, rfl, ?_⟩; have n0_ := Aside0.mk (Kd.R_below (kR HO_6.out) hb); have n1_ := Aside0.mk (Kd.R_below (kR HO_8.out) hb); have n2_ := Aside0.mk (Kd.R_below (kR HO_298001.out) hb); have n3_ := Aside0.mk (Kd.R_below (kR HO316.out) hb); have n4_ := Aside0.mk (Kd.R_below (kR HO319.out) hb); have n5_ := Aside0.mk (blk_below (bK BK284.out) hb); have n6_ := Aside0.mk (blk_below (bK BK297.out) hb); have n7_ := Aside0.mk (below_step (by repeat (first | (with_reducible first | exact HB.out | apply below_alloc | apply pw_below_drewN | apply below_drew1 | refine below_set ?_ GE284.out | refine below_set ?_ GE297.out) | exact HB.out)) hb); clear HO_6; clear HO_8; clear HO_298001; clear HO316; clear HO319; clear BK284; clear BK297; clear HB; have HO_6 := n0_; have HO_8 := n1_; have HO_298001 := n2_; have HO316 := n3_; have HO319 := n4_; have BK284 := n5_; have BK297 := n6_; have HB := n7_; clear n0_ n1_ n2_ n3_ n4_ n5_ n6_ n7_; (try clear hb); (try clear hb2); (try clear hk); (try clear hi)) | ((with_reducible refine gate_callee (f := 18) rfl ?_); refine goesL_ (some 68) rfl rfl Try.func18 (by kernel_rfl) rfl #[.slice Ao33 t311.length co33, .int .i64 1] rfl (by (try simp only [List.map_toArray, List.map_cons, List.map_nil]); first | done | (rw [show t311.length = t298.length from (Kd.R_reads' HO_8.out).1.symm] <;> rfl) | rfl | (simp only [List.length_drop, List.length_take]; rfl)) ?_; (with_reducible refine (laws_heldEndS.calls kj17 _ _ t311 1 t321 _ ?side1 ?side2 A54.out).mono ?_); (case side1 => repeat (first | exact (Kd.R_reads' HO_8.out).2.2 | (with_reducible refine Kd.C_alloc ?_ _) | (with_reducible refine Kd.C_drewN ?_ _) | (with_reducible refine Kd.C_drew ?_))); (case side2 => rw [show t311.length = t298.length from (Kd.R_reads' HO_8.out).1.symm]; exact (Kd.R_reads' HO_8.out).2.1); rintro e w' ⟨rfl, ⟨nd, rfl⟩⟩; refine ⟨_, rfl, ?_⟩))
            go_ret
            exact ⟨by first | rfl | (simp [errW_none, errW_some] <;> rfl) | (simp [*, errW_none, errW_some] <;> rfl) | (exfalso; simp_all; done), by repeat (first | (with_reducible first | exact HB.out | apply below_alloc | apply pw_below_drewN | apply below_drew1 | refine below_set ?_ GE284.out | refine below_set ?_ GE297.out) | exact HB.out)⟩
           ·rw [if_neg c56] at H
            have c56b0 : (t321 == t310) = false := beq_eq_false_iff_ne.mpr c56
            have c56b1 : (t321 != t310) = true := bne_iff_ne.mpr c56
            obtain rfl := Option.some.inj H
            exact absurd HRT.out (by decide)
         ·replace c53 := Bool.eq_false_iff.mpr c53
          subst c53
          have H1 : (some false) = some r := by rw [if_neg (show ¬ (false = true) by decide)] at H; exact H
          clear H
          have H := H1
          clear H1
          obtain rfl := Option.some.inj H
          exact absurd HRT.out (by decide)
        ·rw [if_neg c49] at H
         have c49b0 : (t312 == t310) = false := beq_eq_false_iff_ne.mpr c49
         have c49b1 : (t312 != t310) = true := bne_iff_ne.mpr c49
         obtain rfl := Option.some.inj H
         exact absurd HRT.out (by decide)
   ·replace c16 := Bool.eq_false_iff.mpr c16
    subst c16
    have H1 : (some false) = some r := by rw [if_neg (show ¬ (false = true) by decide)] at H; exact H
    clear H
    have H := H1
    clear H1
    obtain rfl := Option.some.inj H
    exact absurd HRT.out (by decide)
  ·replace c13 := Bool.eq_false_iff.mpr c13
   subst c13
   have H1 : (some false) = some r := by rw [if_neg (show ¬ (false = true) by decide)] at H; exact H
   clear H
   have H := H1
   clear H1
   obtain rfl := Option.some.inj H
   exact absurd HRT.out (by decide)

end Go.Proofs.Ytmohfoleolmijaa.P
