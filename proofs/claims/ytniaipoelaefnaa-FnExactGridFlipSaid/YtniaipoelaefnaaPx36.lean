/- PROVED: contracts of functions of the program, the reference and the statements; written by this session's driver (pk.py) through its own changed copy of the kit's print. No condition. -/
import Derived.Test.YtniaipoelaefnaaPx0
import Derived.Test.YtniaipoelaefnaaPx1
import Derived.Test.YtniaipoelaefnaaPx3
import Derived.Test.YtniaipoelaefnaaPx4
import Derived.Test.YtniaipoelaefnaaPx19
import Derived.Test.YtniaipoelaefnaaH3Flip
namespace Go.Proofs.Ytniaipoelaefnaa.P
open Go.RowKit Go.Proofs.YtniaipoelaefnaaW.PrintWords Go.Proofs.YtniaipoelaefnaaW.PrintLast Go.Proofs.YtniaipoelaefnaaW.PrintMore
attribute [local go_sem] max2_int min2_int max_two min_two max_three min_three max_four min_four   -- for this text's walks alone
set_option linter.unusedVariables false
set_option linter.unusedSimpArgs false

/-! ### laws_FnExactGridFlip: function 13 -/
def laws_FnExactGridFlip.j0 : Nat → Bool → Int → List (S45) → Int → List (S48) → Int → List (S48) → Option (Bool)
 | 0, _, _, _, _, _, _, _ => none
 | k + 1, x42, x556000, x556001, x566000, x566001, x576000, x576001 => if x42 = true then (some false) else ((laws_markGrid.f k x576000 x576001 1).bind fun bt585 => ((laws_heldGrid.f k x576000 bt585.2 1).bind fun t587 => (if t587 < 0 then (some false) else (if t587 = bt585.1 then ((laws_toGrid.f k x556000 x556001).bind fun bt588 => ((impl_GridFlip.f bt588.1 bt588.2).bind fun bt592 => ((laws_eqGrid.f k bt592.1 bt592.2 x566000 x566001).bind fun t597 => (if t597 = true then ((laws_heldGrid.f k x576000 bt585.2 1).bind fun t598 => (if t598 < 0 then (some false) else (if t598 = bt585.1 then (some true) else (some false)))) else (some false))))) else (some false)))))
def laws_FnExactGridFlip.f (k : Nat) (a0_0 : Int) (l0_1 : List (S45)) : Option (Bool) := (laws_szGrid.f a0_0 l0_1 1048576).bind fun t556 => (if t556 < 0 then (some true) else ((laws_toGrid.f k a0_0 l0_1).bind fun bt557 => ((spec_GridFlip.f k bt557.1 bt557.2).bind fun bt561 => ((laws_toGrid.f k a0_0 l0_1).bind fun bt566 => ((impl_GridFlip.f bt566.1 bt566.2).bind fun bt571 => ((laws_eqGrid.f k bt571.1 bt571.2 bt561.1 bt561.2).bind fun t576 => (if t576 = true then ((laws_toGrid.f k a0_0 l0_1).bind fun bt577 => ((laws_eqGrid.f k bt566.1 bt566.2 bt577.1 bt577.2).bind fun t581 => (if t581 = true then ((laws_markGrid.f k bt566.1 bt566.2 1).bind fun bt582 => (if bt582.1 < 0 then (laws_FnExactGridFlip.j0 k true a0_0 l0_1 bt561.1 bt561.2 bt571.1 bt571.2) else ((laws_eqGrid.f k bt571.1 bt571.2 bt561.1 bt561.2).bind fun t584 => (laws_FnExactGridFlip.j0 k (!t584) a0_0 l0_1 bt561.1 bt561.2 bt571.1 bt571.2)))) else (some false)))) else (some false))))))))
theorem laws_FnExactGridFlip.mono_l : ∀ k, (∀ y0 y1 y2 y3 y4 y5 y6, LeO (laws_FnExactGridFlip.j0 k y0 y1 y2 y3 y4 y5 y6) (laws_FnExactGridFlip.j0 (k + 1) y0 y1 y2 y3 y4 y5 y6))
 | 0 => fun _ _ _ _ _ _ _ r h => by simp [laws_FnExactGridFlip.j0] at h
 | k + 1 => by
  have ih0 := laws_FnExactGridFlip.mono_l k
  ·intro y0 y1 y2 y3 y4 y5 y6
   unfold laws_FnExactGridFlip.j0
   repeat' first
   | (with_reducible exact ih0 _ _ _ _ _ _ _)
   | (with_reducible exact laws_eqGrid.mono _ _ _ _ _)
   | (with_reducible exact laws_heldGrid.mono _ _ _ _)
   | (with_reducible exact laws_markGrid.mono _ _ _ _)
   | (with_reducible exact laws_toGrid.mono _ _ _)
   | (with_reducible exact spec_GridFlip.mono _ _ _)
   | (with_reducible exact LeO.refl _)
   | (with_reducible exact LeO.none _)
   | (with_reducible refine LeO.ite ?_ ?_)
   | (with_reducible refine LeO.bind ?_ (fun _ => ?_))
   | exact ih0 _ _ _ _ _ _ _
   | exact laws_eqGrid.mono _ _ _ _ _
   | exact laws_heldGrid.mono _ _ _ _
   | exact laws_markGrid.mono _ _ _ _
   | exact laws_toGrid.mono _ _ _
   | exact spec_GridFlip.mono _ _ _
   | exact LeO.none _
   | refine LeO.ite ?_ ?_
   | refine LeO.bind ?_ (fun _ => ?_)
theorem laws_FnExactGridFlip.mono : ∀ a0 a1 k, LeO (laws_FnExactGridFlip.f k a0 a1) (laws_FnExactGridFlip.f (k + 1) a0 a1) := by
 intro a0 a1 k
 have ih0 := laws_FnExactGridFlip.mono_l k
 unfold laws_FnExactGridFlip.f
 repeat' first
   | (with_reducible exact ih0 _ _ _ _ _ _ _)
   | (with_reducible exact laws_eqGrid.mono _ _ _ _ _)
   | (with_reducible exact laws_heldGrid.mono _ _ _ _)
   | (with_reducible exact laws_markGrid.mono _ _ _ _)
   | (with_reducible exact laws_toGrid.mono _ _ _)
   | (with_reducible exact spec_GridFlip.mono _ _ _)
   | (with_reducible exact LeO.refl _)
   | (with_reducible exact LeO.none _)
   | (with_reducible refine LeO.ite ?_ ?_)
   | (with_reducible refine LeO.bind ?_ (fun _ => ?_))
   | exact ih0 _ _ _ _ _ _ _
   | exact laws_eqGrid.mono _ _ _ _ _
   | exact laws_heldGrid.mono _ _ _ _
   | exact laws_markGrid.mono _ _ _ _
   | exact laws_toGrid.mono _ _ _
   | exact spec_GridFlip.mono _ _ _
   | exact LeO.none _
   | refine LeO.ite ?_ ?_
   | refine LeO.bind ?_ (fun _ => ?_)
set_option maxHeartbeats 8000000 in
set_option maxRecDepth 100000 in
theorem laws_FnExactGridFlip.calls (k : Nat) (a0_0 : Int) (A0_1 : Option Addr) (c0_1 : Nat) (l0_1 : List (S45)) (r : Bool) (w : World) (hr0_1 : Kd.C k45 w A0_1 l0_1.length l0_1) (hc0_1 : l0_1.length ≤ c0_1) (h : laws_FnExactGridFlip.f k a0_0 l0_1 = some r) (hrt : r = true) :
  Calls Try.prog 13 #[.agg #[.int .i64 a0_0, .slice A0_1 l0_1.length c0_1]] w fun e w' => e = .returned (.bool r) ∧ Below w.heap.size w w' := by
 have HRT := Aside0.mk hrt
 clear hrt
 have hu24 := Try.underlying24
 have hu29 := Try.underlying29
 have HR0_1 := Aside0.mk hr0_1
 have HC0_1 := Aside0.mk hc0_1
 clear hr0_1 hc0_1
 have HB := Aside0.mk (Below.refl w.heap.size w)
 have H : ((laws_szGrid.f a0_0 l0_1 1048576).bind fun t556 => (if t556 < 0 then (some true) else ((laws_toGrid.f k a0_0 l0_1).bind fun bt557 => ((spec_GridFlip.f k bt557.1 bt557.2).bind fun bt561 => ((laws_toGrid.f k a0_0 l0_1).bind fun bt566 => ((impl_GridFlip.f bt566.1 bt566.2).bind fun bt571 => ((laws_eqGrid.f k bt571.1 bt571.2 bt561.1 bt561.2).bind fun t576 => (if t576 = true then ((laws_toGrid.f k a0_0 l0_1).bind fun bt577 => ((laws_eqGrid.f k bt566.1 bt566.2 bt577.1 bt577.2).bind fun t581 => (if t581 = true then ((laws_markGrid.f k bt566.1 bt566.2 1).bind fun bt582 => (if bt582.1 < 0 then (laws_FnExactGridFlip.j0 k true a0_0 l0_1 bt561.1 bt561.2 bt571.1 bt571.2) else ((laws_eqGrid.f k bt571.1 bt571.2 bt561.1 bt561.2).bind fun t584 => (laws_FnExactGridFlip.j0 k (!t584) a0_0 l0_1 bt561.1 bt561.2 bt571.1 bt571.2)))) else (some false)))) else (some false))))))))) = some r := h
 clear h
 replace H := Option.bind_eq_some_iff.mp H
 obtain ⟨t556, A20, H⟩ := H
 replace H : (if t556 < 0 then (some true) else ((laws_toGrid.f k a0_0 l0_1).bind fun bt557 => ((spec_GridFlip.f k bt557.1 bt557.2).bind fun bt561 => ((laws_toGrid.f k a0_0 l0_1).bind fun bt566 => ((impl_GridFlip.f bt566.1 bt566.2).bind fun bt571 => ((laws_eqGrid.f k bt571.1 bt571.2 bt561.1 bt561.2).bind fun t576 => (if t576 = true then ((laws_toGrid.f k a0_0 l0_1).bind fun bt577 => ((laws_eqGrid.f k bt566.1 bt566.2 bt577.1 bt577.2).bind fun t581 => (if t581 = true then ((laws_markGrid.f k bt566.1 bt566.2 1).bind fun bt582 => (if bt582.1 < 0 then (laws_FnExactGridFlip.j0 k true a0_0 l0_1 bt561.1 bt561.2 bt571.1 bt571.2) else ((laws_eqGrid.f k bt571.1 bt571.2 bt561.1 bt561.2).bind fun t584 => (laws_FnExactGridFlip.j0 k (!t584) a0_0 l0_1 bt561.1 bt561.2 bt571.1 bt571.2)))) else (some false)))) else (some false)))))))) = some r := H
 have A2 := Aside0.mk A20
 clear A20
 by_cases c3 : t556 < 0
 ·rw [if_pos c3] at H
  have c3b0 : decide (t556 < 0) = true := decide_eq_true c3
  clear c3
  obtain rfl := Option.some.inj H
  go_enter Try.func13, Try.ntmps13
  go_wp2_with (first | ((with_reducible refine gate_dst (N := 1) rfl ?_); refine box_event ?hg (N := 1) ?hd (cs := #[.int .i64 a0_0, .slice A0_1 l0_1.length c0_1]) (t := 24) ?hr ?_; (case hd => rfl); (case hg => rfl); (case hr => first | (go_simp; done) | (go_simp; rfl)); intro gb555 hg w4 hbox hb; have n0_ := Aside0.mk (below_step (by repeat (first | (with_reducible first | exact HB.out | apply below_alloc | apply pw_below_drewN | apply below_drew1) | exact HB.out)) hb); have n1_ := Aside0.mk (hbox); have n2_ := Aside0.mk ((by rw [hg]; exact (below_size (by repeat (first | (with_reducible first | exact HB.out | apply below_alloc | apply pw_below_drewN | apply below_drew1) | exact HB.out))) : w.heap.size ≤ gb555)); have n3_ := Aside0.mk ((by rw [hg]; exact (below_size (by repeat (first | (with_reducible first | exact HB.out | apply below_alloc | apply pw_below_drewN | apply below_drew1) | exact HB.out))) : w.heap.size ≤ gb555)); clear HB; have HB := n0_; have BK555 := n1_; have GW555 := n2_; have GE555 := n3_; clear n0_ n1_ n2_ n3_; clear hb hbox hg; have hcz5_0 : w4.cell? ⟨gb555, 0, none⟩ = some (.int .i64 a0_0) := (blk_cell BK555.out 0).trans rfl; have hcz5_1 : w4.cell? ⟨gb555, 1, none⟩ = some (.slice A0_1 l0_1.length c0_1) := (blk_cell BK555.out 1).trans rfl; have hfz5_0 := blk_frozen BK555.out 0; have hfz5_1 := blk_frozen BK555.out 1) | ((with_reducible refine gate_callee (f := 15) rfl ?_); refine goesL_ (some 13) rfl rfl Try.func15 (by kernel_rfl) rfl #[.agg #[.int .i64 a0_0, .slice A0_1 l0_1.length c0_1], .int .i64 1048576] rfl (by (try simp only [List.map_toArray, List.map_cons, List.map_nil]); first | done | rfl | (simp only [List.length_drop, List.length_take]; rfl)) ?_; (with_reducible refine (laws_szGrid.calls a0_0 _ _ l0_1 1048576 t556 _ ?side1 ?side2 A2.out).mono ?_); (case side1 => repeat (first | exact (Kd.C_below HR0_1.out HB.out) | (with_reducible refine Kd.C_alloc ?_ _) | (with_reducible refine Kd.C_drewN ?_ _) | (with_reducible refine Kd.C_drew ?_))); (case side2 => exact HC0_1.out); rintro e w6 ⟨rfl, hb⟩; refine ⟨_, rfl, ?_⟩; have n0_ := Aside0.mk (blk_below (bK BK555.out) hb); have n1_ := Aside0.mk (below_step (by repeat (first | (with_reducible first | exact HB.out | apply below_alloc | apply pw_below_drewN | apply below_drew1 | refine below_set ?_ GE555.out) | exact HB.out)) hb); clear BK555; clear HB; have BK555 := n0_; have HB := n1_; clear n0_ n1_; (try clear hb); (try clear hb2); (try clear hk); (try clear hi)))
  go_ret
  exact ⟨by first | rfl | (simp [errW_none, errW_some] <;> rfl) | (simp [*, errW_none, errW_some] <;> rfl) | (exfalso; simp_all; done), by repeat (first | (with_reducible first | exact HB.out | apply below_alloc | apply pw_below_drewN | apply below_drew1 | refine below_set ?_ GE555.out) | exact HB.out)⟩
 ·rw [if_neg c3] at H
  have c3b0 : decide (t556 < 0) = false := decide_eq_false c3
  clear c3
  replace H := Option.bind_eq_some_iff.mp H
  obtain ⟨⟨t557, t558⟩, A70, H⟩ := H
  replace H : ((spec_GridFlip.f k t557 t558).bind fun bt561 => ((laws_toGrid.f k a0_0 l0_1).bind fun bt566 => ((impl_GridFlip.f bt566.1 bt566.2).bind fun bt571 => ((laws_eqGrid.f k bt571.1 bt571.2 bt561.1 bt561.2).bind fun t576 => (if t576 = true then ((laws_toGrid.f k a0_0 l0_1).bind fun bt577 => ((laws_eqGrid.f k bt566.1 bt566.2 bt577.1 bt577.2).bind fun t581 => (if t581 = true then ((laws_markGrid.f k bt566.1 bt566.2 1).bind fun bt582 => (if bt582.1 < 0 then (laws_FnExactGridFlip.j0 k true a0_0 l0_1 bt561.1 bt561.2 bt571.1 bt571.2) else ((laws_eqGrid.f k bt571.1 bt571.2 bt561.1 bt561.2).bind fun t584 => (laws_FnExactGridFlip.j0 k (!t584) a0_0 l0_1 bt561.1 bt561.2 bt571.1 bt571.2)))) else (some false)))) else (some false)))))) = some r := H
  have A7 := Aside0.mk A70
  clear A70
  replace H := Option.bind_eq_some_iff.mp H
  obtain ⟨⟨t561, t562⟩, A80, H⟩ := H
  replace H : ((laws_toGrid.f k a0_0 l0_1).bind fun bt566 => ((impl_GridFlip.f bt566.1 bt566.2).bind fun bt571 => ((laws_eqGrid.f k bt571.1 bt571.2 t561 t562).bind fun t576 => (if t576 = true then ((laws_toGrid.f k a0_0 l0_1).bind fun bt577 => ((laws_eqGrid.f k bt566.1 bt566.2 bt577.1 bt577.2).bind fun t581 => (if t581 = true then ((laws_markGrid.f k bt566.1 bt566.2 1).bind fun bt582 => (if bt582.1 < 0 then (laws_FnExactGridFlip.j0 k true a0_0 l0_1 t561 t562 bt571.1 bt571.2) else ((laws_eqGrid.f k bt571.1 bt571.2 t561 t562).bind fun t584 => (laws_FnExactGridFlip.j0 k (!t584) a0_0 l0_1 t561 t562 bt571.1 bt571.2)))) else (some false)))) else (some false))))) = some r := H
  have A8 := Aside0.mk A80
  clear A80
  replace H := Option.bind_eq_some_iff.mp H
  obtain ⟨⟨t566, t567⟩, A90, H⟩ := H
  replace H : ((impl_GridFlip.f t566 t567).bind fun bt571 => ((laws_eqGrid.f k bt571.1 bt571.2 t561 t562).bind fun t576 => (if t576 = true then ((laws_toGrid.f k a0_0 l0_1).bind fun bt577 => ((laws_eqGrid.f k t566 t567 bt577.1 bt577.2).bind fun t581 => (if t581 = true then ((laws_markGrid.f k t566 t567 1).bind fun bt582 => (if bt582.1 < 0 then (laws_FnExactGridFlip.j0 k true a0_0 l0_1 t561 t562 bt571.1 bt571.2) else ((laws_eqGrid.f k bt571.1 bt571.2 t561 t562).bind fun t584 => (laws_FnExactGridFlip.j0 k (!t584) a0_0 l0_1 t561 t562 bt571.1 bt571.2)))) else (some false)))) else (some false)))) = some r := H
  have A9 := Aside0.mk A90
  clear A90
  replace H := Option.bind_eq_some_iff.mp H
  obtain ⟨⟨t571, t572⟩, A100, H⟩ := H
  replace H : ((laws_eqGrid.f k t571 t572 t561 t562).bind fun t576 => (if t576 = true then ((laws_toGrid.f k a0_0 l0_1).bind fun bt577 => ((laws_eqGrid.f k t566 t567 bt577.1 bt577.2).bind fun t581 => (if t581 = true then ((laws_markGrid.f k t566 t567 1).bind fun bt582 => (if bt582.1 < 0 then (laws_FnExactGridFlip.j0 k true a0_0 l0_1 t561 t562 t571 t572) else ((laws_eqGrid.f k t571 t572 t561 t562).bind fun t584 => (laws_FnExactGridFlip.j0 k (!t584) a0_0 l0_1 t561 t562 t571 t572)))) else (some false)))) else (some false))) = some r := H
  have A10 := Aside0.mk A100
  clear A100
  replace H := Option.bind_eq_some_iff.mp H
  obtain ⟨t576, A110, H⟩ := H
  replace H : (if t576 = true then ((laws_toGrid.f k a0_0 l0_1).bind fun bt577 => ((laws_eqGrid.f k t566 t567 bt577.1 bt577.2).bind fun t581 => (if t581 = true then ((laws_markGrid.f k t566 t567 1).bind fun bt582 => (if bt582.1 < 0 then (laws_FnExactGridFlip.j0 k true a0_0 l0_1 t561 t562 t571 t572) else ((laws_eqGrid.f k t571 t572 t561 t562).bind fun t584 => (laws_FnExactGridFlip.j0 k (!t584) a0_0 l0_1 t561 t562 t571 t572)))) else (some false)))) else (some false)) = some r := H
  have A11 := Aside0.mk A110
  clear A110
  by_cases c12 : t576 = true
  ·subst c12
   have H1 : ((laws_toGrid.f k a0_0 l0_1).bind fun bt577 => ((laws_eqGrid.f k t566 t567 bt577.1 bt577.2).bind fun t581 => (if t581 = true then ((laws_markGrid.f k t566 t567 1).bind fun bt582 => (if bt582.1 < 0 then (laws_FnExactGridFlip.j0 k true a0_0 l0_1 t561 t562 t571 t572) else ((laws_eqGrid.f k t571 t572 t561 t562).bind fun t584 => (laws_FnExactGridFlip.j0 k (!t584) a0_0 l0_1 t561 t562 t571 t572)))) else (some false)))) = some r := by rw [if_pos rfl] at H; exact H
   clear H
   have H := H1
   clear H1
   replace H := Option.bind_eq_some_iff.mp H
   obtain ⟨⟨t577, t578⟩, A130, H⟩ := H
   replace H : ((laws_eqGrid.f k t566 t567 t577 t578).bind fun t581 => (if t581 = true then ((laws_markGrid.f k t566 t567 1).bind fun bt582 => (if bt582.1 < 0 then (laws_FnExactGridFlip.j0 k true a0_0 l0_1 t561 t562 t571 t572) else ((laws_eqGrid.f k t571 t572 t561 t562).bind fun t584 => (laws_FnExactGridFlip.j0 k (!t584) a0_0 l0_1 t561 t562 t571 t572)))) else (some false))) = some r := H
   have A13 := Aside0.mk A130
   clear A130
   replace H := Option.bind_eq_some_iff.mp H
   obtain ⟨t581, A140, H⟩ := H
   replace H : (if t581 = true then ((laws_markGrid.f k t566 t567 1).bind fun bt582 => (if bt582.1 < 0 then (laws_FnExactGridFlip.j0 k true a0_0 l0_1 t561 t562 t571 t572) else ((laws_eqGrid.f k t571 t572 t561 t562).bind fun t584 => (laws_FnExactGridFlip.j0 k (!t584) a0_0 l0_1 t561 t562 t571 t572)))) else (some false)) = some r := H
   have A14 := Aside0.mk A140
   clear A140
   by_cases c15 : t581 = true
   ·subst c15
    have H1 : ((laws_markGrid.f k t566 t567 1).bind fun bt582 => (if bt582.1 < 0 then (laws_FnExactGridFlip.j0 k true a0_0 l0_1 t561 t562 t571 t572) else ((laws_eqGrid.f k t571 t572 t561 t562).bind fun t584 => (laws_FnExactGridFlip.j0 k (!t584) a0_0 l0_1 t561 t562 t571 t572)))) = some r := by rw [if_pos rfl] at H; exact H
    clear H
    have H := H1
    clear H1
    replace H := Option.bind_eq_some_iff.mp H
    obtain ⟨⟨t582, t583⟩, A160, H⟩ := H
    replace H : (if t582 < 0 then (laws_FnExactGridFlip.j0 k true a0_0 l0_1 t561 t562 t571 t572) else ((laws_eqGrid.f k t571 t572 t561 t562).bind fun t584 => (laws_FnExactGridFlip.j0 k (!t584) a0_0 l0_1 t561 t562 t571 t572))) = some r := H
    have A16 := Aside0.mk A160
    clear A160
    have HC17 := Aside0.mk H
    clear H
    go_enter Try.func13, Try.ntmps13
    try go_wp2_with (first | ((with_reducible refine gate_dst (N := 1) rfl ?_); refine box_event ?hg (N := 1) ?hd (cs := #[.int .i64 a0_0, .slice A0_1 l0_1.length c0_1]) (t := 24) ?hr ?_; (case hd => rfl); (case hg => rfl); (case hr => first | (go_simp; done) | (go_simp; rfl)); intro gb555 hg w18 hbox hb; have n0_ := Aside0.mk (below_step (by repeat (first | (with_reducible first | exact HB.out | apply below_alloc | apply pw_below_drewN | apply below_drew1) | exact HB.out)) hb); have n1_ := Aside0.mk (hbox); have n2_ := Aside0.mk ((by rw [hg]; exact (below_size (by repeat (first | (with_reducible first | exact HB.out | apply below_alloc | apply pw_below_drewN | apply below_drew1) | exact HB.out))) : w.heap.size ≤ gb555)); have n3_ := Aside0.mk ((by rw [hg]; exact (below_size (by repeat (first | (with_reducible first | exact HB.out | apply below_alloc | apply pw_below_drewN | apply below_drew1) | exact HB.out))) : w.heap.size ≤ gb555)); clear HB; have HB := n0_; have BK555 := n1_; have GW555 := n2_; have GE555 := n3_; clear n0_ n1_ n2_ n3_; clear hb hbox hg; have hcz19_0 : w18.cell? ⟨gb555, 0, none⟩ = some (.int .i64 a0_0) := (blk_cell BK555.out 0).trans rfl; have hcz19_1 : w18.cell? ⟨gb555, 1, none⟩ = some (.slice A0_1 l0_1.length c0_1) := (blk_cell BK555.out 1).trans rfl; have hfz19_0 := blk_frozen BK555.out 0; have hfz19_1 := blk_frozen BK555.out 1) | ((with_reducible refine gate_callee (f := 15) rfl ?_); refine goesL_ (some 13) rfl rfl Try.func15 (by kernel_rfl) rfl #[.agg #[.int .i64 a0_0, .slice A0_1 l0_1.length c0_1], .int .i64 1048576] rfl (by (try simp only [List.map_toArray, List.map_cons, List.map_nil]); first | done | rfl | (simp only [List.length_drop, List.length_take]; rfl)) ?_; (with_reducible refine (laws_szGrid.calls a0_0 _ _ l0_1 1048576 t556 _ ?side1 ?side2 A2.out).mono ?_); (case side1 => repeat (first | exact (Kd.C_below HR0_1.out HB.out) | (with_reducible refine Kd.C_alloc ?_ _) | (with_reducible refine Kd.C_drewN ?_ _) | (with_reducible refine Kd.C_drew ?_))); (case side2 => exact HC0_1.out); rintro e w20 ⟨rfl, hb⟩; refine ⟨_, rfl, ?_⟩; have n0_ := Aside0.mk (blk_below (bK BK555.out) hb); have n1_ := Aside0.mk (below_step (by repeat (first | (with_reducible first | exact HB.out | apply below_alloc | apply pw_below_drewN | apply below_drew1 | refine below_set ?_ GE555.out) | exact HB.out)) hb); clear BK555; clear HB; have BK555 := n0_; have HB := n1_; clear n0_ n1_; (try clear hb); (try clear hb2); (try clear hk); (try clear hi); have hcz21_0 : w20.cell? ⟨gb555, 0, none⟩ = some (.int .i64 a0_0) := (blk_cell BK555.out 0).trans rfl; have hcz21_1 : w20.cell? ⟨gb555, 1, none⟩ = some (.slice A0_1 l0_1.length c0_1) := (blk_cell BK555.out 1).trans rfl; have hfz21_0 := blk_frozen BK555.out 0; have hfz21_1 := blk_frozen BK555.out 1) | ((with_reducible refine gate_callee (f := 17) rfl ?_); refine goesL_ (some 17) rfl rfl Try.func17 (by kernel_rfl) rfl #[.agg #[.int .i64 a0_0, .slice A0_1 l0_1.length c0_1]] rfl (by (try simp only [List.map_toArray, List.map_cons, List.map_nil]); first | done | rfl | (simp only [List.length_drop, List.length_take]; rfl)) ?_; (with_reducible refine (laws_toGrid.calls k a0_0 _ _ l0_1 t557 t558 _ ?side1 ?side2 A7.out).mono ?_); (case side1 => repeat (first | exact (Kd.C_below HR0_1.out HB.out) | (with_reducible refine Kd.C_alloc ?_ _) | (with_reducible refine Kd.C_drewN ?_ _) | (with_reducible refine Kd.C_drew ?_))); (case side2 => exact HC0_1.out); rintro e w22 ⟨v559, rfl, ho0, hb⟩; refine ⟨_, rfl, ?_⟩; have n0_ := Aside0.mk (Kd.R_lower ho0 (below_size (by repeat (first | (with_reducible first | exact HB.out | apply below_alloc | apply pw_below_drewN | apply below_drew1 | refine below_set ?_ GE555.out) | exact HB.out)))); have n1_ := Aside0.mk (blk_below (bK BK555.out) hb); have n2_ := Aside0.mk (below_step (by repeat (first | (with_reducible first | exact HB.out | apply below_alloc | apply pw_below_drewN | apply below_drew1 | refine below_set ?_ GE555.out) | exact HB.out)) hb); clear BK555; clear HB; have HO560 := n0_; have BK555 := n1_; have HB := n2_; clear n0_ n1_ n2_; (try clear hb); (try clear hb2); (try clear hk); (try clear hi); (try clear ho0); obtain ⟨Ao23, co23, eo23⟩ := Kd.R_slice HO560.out; subst eo23) | ((with_reducible refine gate_callee (f := 42) rfl ?_); refine goesL_ (some 18) rfl rfl Try.func42 (by kernel_rfl) rfl #[.agg #[.int .i64 t557, .slice Ao23 t558.length co23]] rfl (by (try simp only [List.map_toArray, List.map_cons, List.map_nil]); first | done | rfl | (simp only [List.length_drop, List.length_take]; rfl)) ?_; (with_reducible refine (spec_GridFlip.calls k t557 _ _ t558 t561 t562 _ ?side1 ?side2 A8.out).mono ?_); (case side1 => repeat (first | exact (Kd.R_reads' HO560.out).2.2 | (with_reducible refine Kd.C_alloc ?_ _) | (with_reducible refine Kd.C_drewN ?_ _) | (with_reducible refine Kd.C_drew ?_))); (case side2 => exact (Kd.R_reads' HO560.out).2.1); rintro e w24 ⟨v563, rfl, ho0, hb⟩; refine ⟨_, rfl, ?_⟩; have n0_ := Aside0.mk (Kd.R_elder' (kR HO560.out) (Kd.R_base ho0) hb); have n1_ := Aside0.mk (Kd.R_lower (Kd.R_new' ho0 (Kd.R_lt (kR HO560.out))) (below_size (by repeat (first | (with_reducible first | exact HB.out | apply below_alloc | apply pw_below_drewN | apply below_drew1 | refine below_set ?_ GE555.out) | exact HB.out)))); have n2_ := Aside0.mk (blk_below (bK BK555.out) hb); have n3_ := Aside0.mk (below_step (by repeat (first | (with_reducible first | exact HB.out | apply below_alloc | apply pw_below_drewN | apply below_drew1 | refine below_set ?_ GE555.out) | exact HB.out)) hb); clear HO560; clear BK555; clear HB; have HO560 := n0_; have HO564 := n1_; have BK555 := n2_; have HB := n3_; clear n0_ n1_ n2_ n3_; (try clear hb); (try clear hb2); (try clear hk); (try clear hi); (try clear ho0)) | ((with_reducible refine gate_dst (N := 4) rfl ?_); refine box_event ?hg (N := 4) ?hd (cs := #[.int .i64 0, .slice none 0 0]) (t := 29) ?hr ?_; (case hd => rfl); (case hg => rfl); (case hr => first | (go_simp; done) | (go_simp; rfl)); intro gb565 hg w25 hbox hb; have n0_ := Aside0.mk (Kd.R_below (kR HO560.out) hb); have n1_ := Aside0.mk (Kd.R_below (kR HO564.out) hb); have n2_ := Aside0.mk (blk_below (bK BK555.out) hb); have n3_ := Aside0.mk (below_step (by repeat (first | (with_reducible first | exact HB.out | apply below_alloc | apply pw_below_drewN | apply below_drew1 | refine below_set ?_ GE555.out) | exact HB.out)) hb); have n4_ := Aside0.mk (hbox); have n5_ := Aside0.mk ((by rw [hg]; exact (below_size (by repeat (first | (with_reducible first | exact HB.out | apply below_alloc | apply pw_below_drewN | apply below_drew1 | refine below_set ?_ GE555.out) | exact HB.out))) : w.heap.size ≤ gb565)); have n6_ := Aside0.mk ((by rw [hg]; exact (below_size (by repeat (first | (with_reducible first | exact HB.out | apply below_alloc | apply pw_below_drewN | apply below_drew1 | refine below_set ?_ GE555.out) | exact HB.out))) : w.heap.size ≤ gb565)); have n7_ := Aside0.mk ((by rw [hg]; exact Nat.ne_of_lt (blk_lt (bK BK555.out)) : gb555 ≠ gb565)); have n8_ := Aside0.mk ((by rw [hg]; exact Nat.ne_of_gt (blk_lt (bK BK555.out)) : gb565 ≠ gb555)); clear HO560; clear HO564; clear BK555; clear HB; have HO560 := n0_; have HO564 := n1_; have BK555 := n2_; have HB := n3_; have BK565 := n4_; have GW565 := n5_; have GE565 := n6_; have NB555_565 := n7_; have NB565_555 := n8_; clear n0_ n1_ n2_ n3_ n4_ n5_ n6_ n7_ n8_; clear hb hbox hg; have hnb26 := NB565_555.out; have hnc26 := NB555_565.out; have hcz27_0 : w25.cell? ⟨gb565, 0, none⟩ = some (.int .i64 0) := (blk_cell BK565.out 0).trans rfl; have hcz27_1 : w25.cell? ⟨gb565, 1, none⟩ = some (.slice none 0 0) := (blk_cell BK565.out 1).trans rfl; have hfz27_0 := blk_frozen BK565.out 0; have hfz27_1 := blk_frozen BK565.out 1; obtain ⟨Ao28, co28, eo28⟩ := Kd.R_slice HO564.out; subst eo28; have hcz29_0 : w25.cell? ⟨gb555, 0, none⟩ = some (.int .i64 a0_0) := (blk_cell BK555.out 0).trans rfl; have hcz29_1 : w25.cell? ⟨gb555, 1, none⟩ = some (.slice A0_1 l0_1.length c0_1) := (blk_cell BK555.out 1).trans rfl; have hfz29_0 := blk_frozen BK555.out 0; have hfz29_1 := blk_frozen BK555.out 1) | ((with_reducible refine gate_callee (f := 17) rfl ?_); refine goesL_ (some 20) rfl rfl Try.func17 (by kernel_rfl) rfl #[.agg #[.int .i64 a0_0, .slice A0_1 l0_1.length c0_1]] rfl (by (try simp only [List.map_toArray, List.map_cons, List.map_nil]); first | done | rfl | (simp only [List.length_drop, List.length_take]; rfl)) ?_; (with_reducible refine (laws_toGrid.calls k a0_0 _ _ l0_1 t566 t567 _ ?side1 ?side2 A9.out).mono ?_); (case side1 => exact Kd.C_below HR0_1.out (by repeat (first | (with_reducible first | exact HB.out | apply below_alloc | apply pw_below_drewN | apply below_drew1 | refine below_set ?_ GE555.out | refine below_set ?_ GE565.out) | exact HB.out))); (case side2 => exact HC0_1.out); rintro e w30 ⟨v568, rfl, ho0, hb⟩; refine ⟨_, rfl, ?_⟩; have n0_ := Aside0.mk (Kd.R_elder' (by (with_reducible repeat (first | apply Kd.R_alloc | apply Kd.R_drewN | apply Kd.R_drew)); exact (Kd.R_mono (Kd.R_far (p := ⟨gb565, 1, none⟩) (Kd.R_far (p := ⟨gb565, 0, none⟩) (Kd.R_types HO560.out BK565.out (by decide)) (fun _ hk => hk.2) (.int .i64 t561)) (fun _ hk => hk.2) (.slice Ao28 t562.length co28)) (fun _ h_ => h_.1))) (Kd.R_base ho0) hb); have n1_ := Aside0.mk (Kd.R_elder' (by (with_reducible repeat (first | apply Kd.R_alloc | apply Kd.R_drewN | apply Kd.R_drew)); exact (Kd.R_mono (Kd.R_far (p := ⟨gb565, 1, none⟩) (Kd.R_far (p := ⟨gb565, 0, none⟩) (Kd.R_types HO564.out BK565.out (by decide)) (fun _ hk => hk.2) (.int .i64 t561)) (fun _ hk => hk.2) (.slice Ao28 t562.length co28)) (fun _ h_ => h_.1))) (Kd.R_base ho0) hb); have n2_ := Aside0.mk (Kd.R_lower (Kd.R_new' (Kd.R_new' ho0 (Kd.R_lt (by (with_reducible repeat (first | apply Kd.R_alloc | apply Kd.R_drewN | apply Kd.R_drew)); exact (Kd.R_mono (Kd.R_far (p := ⟨gb565, 1, none⟩) (Kd.R_far (p := ⟨gb565, 0, none⟩) (Kd.R_types HO560.out BK565.out (by decide)) (fun _ hk => hk.2) (.int .i64 t561)) (fun _ hk => hk.2) (.slice Ao28 t562.length co28)) (fun _ h_ => h_.1))))) (Kd.R_lt (by (with_reducible repeat (first | apply Kd.R_alloc | apply Kd.R_drewN | apply Kd.R_drew)); exact (Kd.R_mono (Kd.R_far (p := ⟨gb565, 1, none⟩) (Kd.R_far (p := ⟨gb565, 0, none⟩) (Kd.R_types HO564.out BK565.out (by decide)) (fun _ hk => hk.2) (.int .i64 t561)) (fun _ hk => hk.2) (.slice Ao28 t562.length co28)) (fun _ h_ => h_.1))))) (below_size (by repeat (first | (with_reducible first | exact HB.out | apply below_alloc | apply pw_below_drewN | apply below_drew1 | refine below_set ?_ GE555.out | refine below_set ?_ GE565.out) | exact HB.out)))); have n3_ := Aside0.mk (blk_below (g := gb555) (o := .cells #[.int .i64 a0_0, .slice A0_1 l0_1.length c0_1] 24 (0, 0)) (by (with_reducible repeat (first | refine blk_drewN ?_ _ | refine blk_drew ?_ | refine blk_alloc ?_ _)); refine blk_far ?_ NB555_565.out _; (with_reducible repeat (first | refine blk_drewN ?_ _ | refine blk_drew ?_ | refine blk_alloc ?_ _)); refine blk_far ?_ NB555_565.out _; (with_reducible repeat (first | refine blk_drewN ?_ _ | refine blk_drew ?_ | refine blk_alloc ?_ _)); exact BK555.out) hb); have n4_ := Aside0.mk (blk_below (g := gb565) (o := .cells #[.int .i64 t561, .slice Ao28 t562.length co28] 29 (0, 0)) (by (with_reducible repeat (first | refine blk_drewN ?_ _ | refine blk_drew ?_ | refine blk_alloc ?_ _)); refine blk_put (cs := #[.int .i64 t561, .slice none 0 0]) ?_ 1 _ rfl; (with_reducible repeat (first | refine blk_drewN ?_ _ | refine blk_drew ?_ | refine blk_alloc ?_ _)); refine blk_put (cs := #[.int .i64 0, .slice none 0 0]) ?_ 0 _ rfl; (with_reducible repeat (first | refine blk_drewN ?_ _ | refine blk_drew ?_ | refine blk_alloc ?_ _)); exact BK565.out) hb); have n5_ := Aside0.mk (below_step (by repeat (first | (with_reducible first | exact HB.out | apply below_alloc | apply pw_below_drewN | apply below_drew1 | refine below_set ?_ GE555.out | refine below_set ?_ GE565.out) | exact HB.out)) hb); clear HO560; clear HO564; clear BK555; clear BK565; clear HB; have HO560 := n0_; have HO564 := n1_; have HO569 := n2_; have BK555 := n3_; have BK565 := n4_; have HB := n5_; clear n0_ n1_ n2_ n3_ n4_ n5_; (try clear hb); (try clear hb2); (try clear hk); (try clear hi); (try clear ho0)) | ((with_reducible refine gate_dst (N := 5) rfl ?_); refine box_event ?hg (N := 5) ?hd (cs := #[.int .i64 0, .slice none 0 0]) (t := 29) ?hr ?_; (case hd => rfl); (case hg => rfl); (case hr => first | (go_simp; done) | (go_simp; rfl)); intro gb570 hg w31 hbox hb; have n0_ := Aside0.mk (Kd.R_below (kR HO560.out) hb); have n1_ := Aside0.mk (Kd.R_below (kR HO564.out) hb); have n2_ := Aside0.mk (Kd.R_below (kR HO569.out) hb); have n3_ := Aside0.mk (blk_below (bK BK555.out) hb); have n4_ := Aside0.mk (blk_below (bK BK565.out) hb); have n5_ := Aside0.mk (below_step (by repeat (first | (with_reducible first | exact HB.out | apply below_alloc | apply pw_below_drewN | apply below_drew1 | refine below_set ?_ GE555.out | refine below_set ?_ GE565.out) | exact HB.out)) hb); have n6_ := Aside0.mk (hbox); have n7_ := Aside0.mk ((by rw [hg]; exact (below_size (by repeat (first | (with_reducible first | exact HB.out | apply below_alloc | apply pw_below_drewN | apply below_drew1 | refine below_set ?_ GE555.out | refine below_set ?_ GE565.out) | exact HB.out))) : w.heap.size ≤ gb570)); have n8_ := Aside0.mk ((by rw [hg]; exact (below_size (by repeat (first | (with_reducible first | exact HB.out | apply below_alloc | apply pw_below_drewN | apply below_drew1 | refine below_set ?_ GE555.out | refine below_set ?_ GE565.out) | exact HB.out))) : w.heap.size ≤ gb570)); have n9_ := Aside0.mk ((by rw [hg]; exact Nat.ne_of_lt (blk_lt (bK BK555.out)) : gb555 ≠ gb570)); have n10_ := Aside0.mk ((by rw [hg]; exact Nat.ne_of_gt (blk_lt (bK BK555.out)) : gb570 ≠ gb555)); have n11_ := Aside0.mk ((by rw [hg]; exact Nat.ne_of_lt (blk_lt (bK BK565.out)) : gb565 ≠ gb570)); have n12_ := Aside0.mk ((by rw [hg]; exact Nat.ne_of_gt (blk_lt (bK BK565.out)) : gb570 ≠ gb565)); clear HO560; clear HO564; clear HO569; clear BK555; clear BK565; clear HB; have HO560 := n0_; have HO564 := n1_; have HO569 := n2_; have BK555 := n3_; have BK565 := n4_; have HB := n5_; have BK570 := n6_; have GW570 := n7_; have GE570 := n8_; have NB555_570 := n9_; have NB570_555 := n10_; have NB565_570 := n11_; have NB570_565 := n12_; clear n0_ n1_ n2_ n3_ n4_ n5_ n6_ n7_ n8_ n9_ n10_ n11_ n12_; clear hb hbox hg; have hnb32 := NB570_555.out; have hnc32 := NB555_570.out; have hnb33 := NB570_565.out; have hnc33 := NB565_570.out; have hcz34_0 : w31.cell? ⟨gb570, 0, none⟩ = some (.int .i64 0) := (blk_cell BK570.out 0).trans rfl; have hcz34_1 : w31.cell? ⟨gb570, 1, none⟩ = some (.slice none 0 0) := (blk_cell BK570.out 1).trans rfl; have hfz34_0 := blk_frozen BK570.out 0; have hfz34_1 := blk_frozen BK570.out 1; obtain ⟨Ao35, co35, eo35⟩ := Kd.R_slice HO569.out; subst eo35) | ((with_reducible refine gate_callee (f := 43) rfl ?_); refine goesL_ (some 22) rfl rfl Try.func43 (by kernel_rfl) rfl #[.agg #[.int .i64 t566, .slice Ao35 t567.length co35]] rfl (by (try simp only [List.map_toArray, List.map_cons, List.map_nil]); first | done | rfl | (simp only [List.length_drop, List.length_take]; rfl)) ?_; (with_reducible refine (impl_GridFlip.calls t566 _ _ t567 t571 t572 _ ?side1 ?side2 A10.out).mono ?_); (case side1 => refine (Kd.R_reads' (e := 48) (base := w.heap.size) (ok := fun k_ => ((True ∧ some k_ ≠ (.slice Ao23 t558.length co23 : Value).ownBlock) ∧ some k_ ≠ (.slice Ao28 t562.length co28 : Value).ownBlock)) (n := t567.length) (c := co35) ?_).2.2; exact (by (with_reducible repeat (first | apply Kd.R_alloc | apply Kd.R_drewN | apply Kd.R_drew)); exact (Kd.R_mono (Kd.R_far (p := ⟨gb570, 1, none⟩) (Kd.R_far (p := ⟨gb570, 0, none⟩) (Kd.R_types HO569.out BK570.out (by decide)) (fun _ hk => hk.2) (.int .i64 t566)) (fun _ hk => hk.2) (.slice Ao35 t567.length co35)) (fun _ h_ => h_.1)))); (case side2 => exact (Kd.R_reads' HO569.out).2.1); rintro e w36 ⟨v573, rfl, ho0, hb⟩; refine ⟨_, rfl, ?_⟩; have n0_ := Aside0.mk (Kd.R_elder' (by (with_reducible repeat (first | apply Kd.R_alloc | apply Kd.R_drewN | apply Kd.R_drew)); exact (Kd.R_mono (Kd.R_far (p := ⟨gb570, 1, none⟩) (Kd.R_far (p := ⟨gb570, 0, none⟩) (Kd.R_types HO560.out BK570.out (by decide)) (fun _ hk => hk.2) (.int .i64 t566)) (fun _ hk => hk.2) (.slice Ao35 t567.length co35)) (fun _ h_ => h_.1))) (Kd.R_base ho0) hb); have n1_ := Aside0.mk (Kd.R_elder' (by (with_reducible repeat (first | apply Kd.R_alloc | apply Kd.R_drewN | apply Kd.R_drew)); exact (Kd.R_mono (Kd.R_far (p := ⟨gb570, 1, none⟩) (Kd.R_far (p := ⟨gb570, 0, none⟩) (Kd.R_types HO564.out BK570.out (by decide)) (fun _ hk => hk.2) (.int .i64 t566)) (fun _ hk => hk.2) (.slice Ao35 t567.length co35)) (fun _ h_ => h_.1))) (Kd.R_base ho0) hb); have n2_ := Aside0.mk (Kd.R_elder' (by (with_reducible repeat (first | apply Kd.R_alloc | apply Kd.R_drewN | apply Kd.R_drew)); exact (Kd.R_mono (Kd.R_far (p := ⟨gb570, 1, none⟩) (Kd.R_far (p := ⟨gb570, 0, none⟩) (Kd.R_types HO569.out BK570.out (by decide)) (fun _ hk => hk.2) (.int .i64 t566)) (fun _ hk => hk.2) (.slice Ao35 t567.length co35)) (fun _ h_ => h_.1))) (Kd.R_base ho0) hb); have n3_ := Aside0.mk (Kd.R_lower (Kd.R_new' (Kd.R_new' (Kd.R_new' ho0 (Kd.R_lt (by (with_reducible repeat (first | apply Kd.R_alloc | apply Kd.R_drewN | apply Kd.R_drew)); exact (Kd.R_mono (Kd.R_far (p := ⟨gb570, 1, none⟩) (Kd.R_far (p := ⟨gb570, 0, none⟩) (Kd.R_types HO560.out BK570.out (by decide)) (fun _ hk => hk.2) (.int .i64 t566)) (fun _ hk => hk.2) (.slice Ao35 t567.length co35)) (fun _ h_ => h_.1))))) (Kd.R_lt (by (with_reducible repeat (first | apply Kd.R_alloc | apply Kd.R_drewN | apply Kd.R_drew)); exact (Kd.R_mono (Kd.R_far (p := ⟨gb570, 1, none⟩) (Kd.R_far (p := ⟨gb570, 0, none⟩) (Kd.R_types HO564.out BK570.out (by decide)) (fun _ hk => hk.2) (.int .i64 t566)) (fun _ hk => hk.2) (.slice Ao35 t567.length co35)) (fun _ h_ => h_.1))))) (Kd.R_lt (by (with_reducible repeat (first | apply Kd.R_alloc | apply Kd.R_drewN | apply Kd.R_drew)); exact (Kd.R_mono (Kd.R_far (p := ⟨gb570, 1, none⟩) (Kd.R_far (p := ⟨gb570, 0, none⟩) (Kd.R_types HO569.out BK570.out (by decide)) (fun _ hk => hk.2) (.int .i64 t566)) (fun _ hk => hk.2) (.slice Ao35 t567.length co35)) (fun _ h_ => h_.1))))) (below_size (by repeat (first | (with_reducible first | exact HB.out | apply below_alloc | apply pw_below_drewN | apply below_drew1 | refine below_set ?_ GE555.out | refine below_set ?_ GE565.out | refine below_set ?_ GE570.out) | exact HB.out)))); have n4_ := Aside0.mk (blk_below (g := gb555) (o := .cells #[.int .i64 a0_0, .slice A0_1 l0_1.length c0_1] 24 (0, 0)) (by (with_reducible repeat (first | refine blk_drewN ?_ _ | refine blk_drew ?_ | refine blk_alloc ?_ _)); refine blk_far ?_ NB555_570.out _; (with_reducible repeat (first | refine blk_drewN ?_ _ | refine blk_drew ?_ | refine blk_alloc ?_ _)); refine blk_far ?_ NB555_570.out _; (with_reducible repeat (first | refine blk_drewN ?_ _ | refine blk_drew ?_ | refine blk_alloc ?_ _)); exact BK555.out) hb); have n5_ := Aside0.mk (blk_below (g := gb565) (o := .cells #[.int .i64 t561, .slice Ao28 t562.length co28] 29 (0, 0)) (by (with_reducible repeat (first | refine blk_drewN ?_ _ | refine blk_drew ?_ | refine blk_alloc ?_ _)); refine blk_far ?_ NB565_570.out _; (with_reducible repeat (first | refine blk_drewN ?_ _ | refine blk_drew ?_ | refine blk_alloc ?_ _)); refine blk_far ?_ NB565_570.out _; (with_reducible repeat (first | refine blk_drewN ?_ _ | refine blk_drew ?_ | refine blk_alloc ?_ _)); exact BK565.out) hb); have n6_ := Aside0.mk (blk_below (g := gb570) (o := .cells #[.int .i64 t566, .slice Ao35 t567.length co35] 29 (0, 0)) (by (with_reducible repeat (first | refine blk_drewN ?_ _ | refine blk_drew ?_ | refine blk_alloc ?_ _)); refine blk_put (cs := #[.int .i64 t566, .slice none 0 0]) ?_ 1 _ rfl; (with_reducible repeat (first | refine blk_drewN ?_ _ | refine blk_drew ?_ | refine blk_alloc ?_ _)); refine blk_put (cs := #[.int .i64 0, .slice none 0 0]) ?_ 0 _ rfl; (with_reducible repeat (first | refine blk_drewN ?_ _ | refine blk_drew ?_ | refine blk_alloc ?_ _)); exact BK570.out) hb); have n7_ := Aside0.mk (below_step (by repeat (first | (with_reducible first | exact HB.out | apply below_alloc | apply pw_below_drewN | apply below_drew1 | refine below_set ?_ GE555.out | refine below_set ?_ GE565.out | refine below_set ?_ GE570.out) | exact HB.out)) hb); clear HO560; clear HO564; clear HO569; clear BK555; clear BK565; clear BK570; clear HB; have HO560 := n0_; have HO564 := n1_; have HO569 := n2_; have HO574 := n3_; have BK555 := n4_; have BK565 := n5_; have BK570 := n6_; have HB := n7_; clear n0_ n1_ n2_ n3_ n4_ n5_ n6_ n7_; (try clear hb); (try clear hb2); (try clear hk); (try clear hi); (try clear ho0)) | ((with_reducible refine gate_dst (N := 6) rfl ?_); refine box_event ?hg (N := 6) ?hd (cs := #[.int .i64 0, .slice none 0 0]) (t := 29) ?hr ?_; (case hd => rfl); (case hg => rfl); (case hr => first | (go_simp; done) | (go_simp; rfl)); intro gb575 hg w37 hbox hb; have n0_ := Aside0.mk (Kd.R_below (kR HO560.out) hb); have n1_ := Aside0.mk (Kd.R_below (kR HO564.out) hb); have n2_ := Aside0.mk (Kd.R_below (kR HO569.out) hb); have n3_ := Aside0.mk (Kd.R_below (kR HO574.out) hb); have n4_ := Aside0.mk (blk_below (bK BK555.out) hb); have n5_ := Aside0.mk (blk_below (bK BK565.out) hb); have n6_ := Aside0.mk (blk_below (bK BK570.out) hb); have n7_ := Aside0.mk (below_step (by repeat (first | (with_reducible first | exact HB.out | apply below_alloc | apply pw_below_drewN | apply below_drew1 | refine below_set ?_ GE555.out | refine below_set ?_ GE565.out | refine below_set ?_ GE570.out) | exact HB.out)) hb); have n8_ := Aside0.mk (hbox); have n9_ := Aside0.mk ((by rw [hg]; exact (below_size (by repeat (first | (with_reducible first | exact HB.out | apply below_alloc | apply pw_below_drewN | apply below_drew1 | refine below_set ?_ GE555.out | refine below_set ?_ GE565.out | refine below_set ?_ GE570.out) | exact HB.out))) : w.heap.size ≤ gb575)); have n10_ := Aside0.mk ((by rw [hg]; exact (below_size (by repeat (first | (with_reducible first | exact HB.out | apply below_alloc | apply pw_below_drewN | apply below_drew1 | refine below_set ?_ GE555.out | refine below_set ?_ GE565.out | refine below_set ?_ GE570.out) | exact HB.out))) : w.heap.size ≤ gb575)); have n11_ := Aside0.mk ((by rw [hg]; exact Nat.ne_of_lt (blk_lt (bK BK555.out)) : gb555 ≠ gb575)); have n12_ := Aside0.mk ((by rw [hg]; exact Nat.ne_of_gt (blk_lt (bK BK555.out)) : gb575 ≠ gb555)); have n13_ := Aside0.mk ((by rw [hg]; exact Nat.ne_of_lt (blk_lt (bK BK565.out)) : gb565 ≠ gb575)); have n14_ := Aside0.mk ((by rw [hg]; exact Nat.ne_of_gt (blk_lt (bK BK565.out)) : gb575 ≠ gb565)); have n15_ := Aside0.mk ((by rw [hg]; exact Nat.ne_of_lt (blk_lt (bK BK570.out)) : gb570 ≠ gb575)); have n16_ := Aside0.mk ((by rw [hg]; exact Nat.ne_of_gt (blk_lt (bK BK570.out)) : gb575 ≠ gb570)); clear HO560; clear HO564; clear HO569; clear HO574; clear BK555; clear BK565; clear BK570; clear HB; have HO560 := n0_; have HO564 := n1_; have HO569 := n2_; have HO574 := n3_; have BK555 := n4_; have BK565 := n5_; have BK570 := n6_; have HB := n7_; have BK575 := n8_; have GW575 := n9_; have GE575 := n10_; have NB555_575 := n11_; have NB575_555 := n12_; have NB565_575 := n13_; have NB575_565 := n14_; have NB570_575 := n15_; have NB575_570 := n16_; clear n0_ n1_ n2_ n3_ n4_ n5_ n6_ n7_ n8_ n9_ n10_ n11_ n12_ n13_ n14_ n15_ n16_; clear hb hbox hg; have hnb38 := NB575_555.out; have hnc38 := NB555_575.out; have hnb39 := NB575_565.out; have hnc39 := NB565_575.out; have hnb40 := NB575_570.out; have hnc40 := NB570_575.out; have hcz41_0 : w37.cell? ⟨gb575, 0, none⟩ = some (.int .i64 0) := (blk_cell BK575.out 0).trans rfl; have hcz41_1 : w37.cell? ⟨gb575, 1, none⟩ = some (.slice none 0 0) := (blk_cell BK575.out 1).trans rfl; have hfz41_0 := blk_frozen BK575.out 0; have hfz41_1 := blk_frozen BK575.out 1; obtain ⟨Ao42, co42, eo42⟩ := Kd.R_slice HO574.out; subst eo42; have hcz43_0 : w37.cell? ⟨gb565, 0, none⟩ = some (.int .i64 t561) := (blk_cell BK565.out 0).trans rfl; have hcz43_1 : w37.cell? ⟨gb565, 1, none⟩ = some (.slice Ao28 t562.length co28) := (blk_cell BK565.out 1).trans rfl; have hfz43_0 := blk_frozen BK565.out 0; have hfz43_1 := blk_frozen BK565.out 1) | ((with_reducible refine gate_callee (f := 19) rfl ?_); refine goesL_ (some 25) rfl rfl Try.func19 (by kernel_rfl) rfl #[.agg #[.int .i64 t571, .slice Ao42 t572.length co42], .agg #[.int .i64 t561, .slice Ao28 t562.length co28]] rfl (by (try simp only [List.map_toArray, List.map_cons, List.map_nil]); first | done | rfl | (simp only [List.length_drop, List.length_take]; rfl)) ?_; (with_reducible refine (laws_eqGrid.calls k t571 _ _ t572 t561 _ _ t562 true _ ?side1 ?side2 ?side3 ?side4 A11.out).mono ?_); (case side1 => refine (Kd.R_reads' (e := 48) (base := w.heap.size) (ok := fun k_ => (((True ∧ some k_ ≠ (.slice Ao23 t558.length co23 : Value).ownBlock) ∧ some k_ ≠ (.slice Ao28 t562.length co28 : Value).ownBlock) ∧ some k_ ≠ (.slice Ao35 t567.length co35 : Value).ownBlock)) (n := t572.length) (c := co42) ?_).2.2; exact (by (with_reducible repeat (first | apply Kd.R_alloc | apply Kd.R_drewN | apply Kd.R_drew)); exact (Kd.R_mono (Kd.R_far (p := ⟨gb575, 1, none⟩) (Kd.R_far (p := ⟨gb575, 0, none⟩) (Kd.R_types HO574.out BK575.out (by decide)) (fun _ hk => hk.2) (.int .i64 t571)) (fun _ hk => hk.2) (.slice Ao42 t572.length co42)) (fun _ h_ => h_.1)))); (case side2 => exact (Kd.R_reads' HO574.out).2.1); (case side3 => refine (Kd.R_reads' (e := 48) (base := w.heap.size) (ok := fun k_ => (((True ∧ some k_ ≠ (.slice Ao23 t558.length co23 : Value).ownBlock) ∧ some k_ ≠ (.slice Ao35 t567.length co35 : Value).ownBlock) ∧ some k_ ≠ (.slice Ao42 t572.length co42 : Value).ownBlock)) (n := t562.length) (c := co28) ?_).2.2; exact (by (with_reducible repeat (first | apply Kd.R_alloc | apply Kd.R_drewN | apply Kd.R_drew)); exact (Kd.R_mono (Kd.R_far (p := ⟨gb575, 1, none⟩) (Kd.R_far (p := ⟨gb575, 0, none⟩) (Kd.R_types HO564.out BK575.out (by decide)) (fun _ hk => hk.2) (.int .i64 t571)) (fun _ hk => hk.2) (.slice Ao42 t572.length co42)) (fun _ h_ => h_.1)))); (case side4 => exact (Kd.R_reads' HO564.out).2.1); rintro e w44 ⟨rfl, hb⟩; refine ⟨_, rfl, ?_⟩; have n0_ := Aside0.mk (Kd.R_below (by (with_reducible repeat (first | apply Kd.R_alloc | apply Kd.R_drewN | apply Kd.R_drew)); exact (Kd.R_mono (Kd.R_far (p := ⟨gb575, 1, none⟩) (Kd.R_far (p := ⟨gb575, 0, none⟩) (Kd.R_types HO560.out BK575.out (by decide)) (fun _ hk => hk.2) (.int .i64 t571)) (fun _ hk => hk.2) (.slice Ao42 t572.length co42)) (fun _ h_ => h_.1))) hb); have n1_ := Aside0.mk (Kd.R_below (by (with_reducible repeat (first | apply Kd.R_alloc | apply Kd.R_drewN | apply Kd.R_drew)); exact (Kd.R_mono (Kd.R_far (p := ⟨gb575, 1, none⟩) (Kd.R_far (p := ⟨gb575, 0, none⟩) (Kd.R_types HO564.out BK575.out (by decide)) (fun _ hk => hk.2) (.int .i64 t571)) (fun _ hk => hk.2) (.slice Ao42 t572.length co42)) (fun _ h_ => h_.1))) hb); have n2_ := Aside0.mk (Kd.R_below (by (with_reducible repeat (first | apply Kd.R_alloc | apply Kd.R_drewN | apply Kd.R_drew)); exact (Kd.R_mono (Kd.R_far (p := ⟨gb575, 1, none⟩) (Kd.R_far (p := ⟨gb575, 0, none⟩) (Kd.R_types HO569.out BK575.out (by decide)) (fun _ hk => hk.2) (.int .i64 t571)) (fun _ hk => hk.2) (.slice Ao42 t572.length co42)) (fun _ h_ => h_.1))) hb); have n3_ := Aside0.mk (Kd.R_below (by (with_reducible repeat (first | apply Kd.R_alloc | apply Kd.R_drewN | apply Kd.R_drew)); exact (Kd.R_mono (Kd.R_far (p := ⟨gb575, 1, none⟩) (Kd.R_far (p := ⟨gb575, 0, none⟩) (Kd.R_types HO574.out BK575.out (by decide)) (fun _ hk => hk.2) (.int .i64 t571)) (fun _ hk => hk.2) (.slice Ao42 t572.length co42)) (fun _ h_ => h_.1))) hb); have n4_ := Aside0.mk (blk_below (g := gb555) (o := .cells #[.int .i64 a0_0, .slice A0_1 l0_1.length c0_1] 24 (0, 0)) (by (with_reducible repeat (first | refine blk_drewN ?_ _ | refine blk_drew ?_ | refine blk_alloc ?_ _)); refine blk_far ?_ NB555_575.out _; (with_reducible repeat (first | refine blk_drewN ?_ _ | refine blk_drew ?_ | refine blk_alloc ?_ _)); refine blk_far ?_ NB555_575.out _; (with_reducible repeat (first | refine blk_drewN ?_ _ | refine blk_drew ?_ | refine blk_alloc ?_ _)); exact BK555.out) hb); have n5_ := Aside0.mk (blk_below (g := gb565) (o := .cells #[.int .i64 t561, .slice Ao28 t562.length co28] 29 (0, 0)) (by (with_reducible repeat (first | refine blk_drewN ?_ _ | refine blk_drew ?_ | refine blk_alloc ?_ _)); refine blk_far ?_ NB565_575.out _; (with_reducible repeat (first | refine blk_drewN ?_ _ | refine blk_drew ?_ | refine blk_alloc ?_ _)); refine blk_far ?_ NB565_575.out _; (with_reducible repeat (first | refine blk_drewN ?_ _ | refine blk_drew ?_ | refine blk_alloc ?_ _)); exact BK565.out) hb); have n6_ := Aside0.mk (blk_below (g := gb570) (o := .cells #[.int .i64 t566, .slice Ao35 t567.length co35] 29 (0, 0)) (by (with_reducible repeat (first | refine blk_drewN ?_ _ | refine blk_drew ?_ | refine blk_alloc ?_ _)); refine blk_far ?_ NB570_575.out _; (with_reducible repeat (first | refine blk_drewN ?_ _ | refine blk_drew ?_ | refine blk_alloc ?_ _)); refine blk_far ?_ NB570_575.out _; (with_reducible repeat (first | refine blk_drewN ?_ _ | refine blk_drew ?_ | refine blk_alloc ?_ _)); exact BK570.out) hb); have n7_ := Aside0.mk (blk_below (g := gb575) (o := .cells #[.int .i64 t571, .slice Ao42 t572.length co42] 29 (0, 0)) (by (with_reducible repeat (first | refine blk_drewN ?_ _ | refine blk_drew ?_ | refine blk_alloc ?_ _)); refine blk_put (cs := #[.int .i64 t571, .slice none 0 0]) ?_ 1 _ rfl; (with_reducible repeat (first | refine blk_drewN ?_ _ | refine blk_drew ?_ | refine blk_alloc ?_ _)); refine blk_put (cs := #[.int .i64 0, .slice none 0 0]) ?_ 0 _ rfl; (with_reducible repeat (first | refine blk_drewN ?_ _ | refine blk_drew ?_ | refine blk_alloc ?_ _)); exact BK575.out) hb); have n8_ := Aside0.mk (below_step (by repeat (first | (with_reducible first | exact HB.out | apply below_alloc | apply pw_below_drewN | apply below_drew1 | refine below_set ?_ GE555.out | refine below_set ?_ GE565.out | refine below_set ?_ GE570.out | refine below_set ?_ GE575.out) | exact HB.out)) hb); clear HO560; clear HO564; clear HO569; clear HO574; clear BK555; clear BK565; clear BK570; clear BK575; clear HB; have HO560 := n0_; have HO564 := n1_; have HO569 := n2_; have HO574 := n3_; have BK555 := n4_; have BK565 := n5_; have BK570 := n6_; have BK575 := n7_; have HB := n8_; clear n0_ n1_ n2_ n3_ n4_ n5_ n6_ n7_ n8_; (try clear hb); (try clear hb2); (try clear hk); (try clear hi)))
    have n0_ := Aside0.mk (Kd.R_drew HO560.out)
    have n1_ := Aside0.mk (Kd.R_drew HO564.out)
    have n2_ := Aside0.mk (Kd.R_drew HO569.out)
    have n3_ := Aside0.mk (Kd.R_drew HO574.out)
    have n4_ := Aside0.mk (blk_drew BK555.out)
    have n5_ := Aside0.mk (blk_drew BK565.out)
    have n6_ := Aside0.mk (blk_drew BK570.out)
    have n7_ := Aside0.mk (blk_drew BK575.out)
    have n8_ := Aside0.mk (below_drew1 HB.out)
    clear HO560
    clear HO564
    clear HO569
    clear HO574
    clear BK555
    clear BK565
    clear BK570
    clear BK575
    clear HB
    have HO560 := n0_
    have HO564 := n1_
    have HO569 := n2_
    have HO574 := n3_
    have BK555 := n4_
    have BK565 := n5_
    have BK570 := n6_
    have BK575 := n7_
    have HB := n8_
    clear n0_ n1_ n2_ n3_ n4_ n5_ n6_ n7_ n8_
    refine start_ (n := 5) (S := fun w' => w'.cell? ⟨gb570, 0, none⟩ = some (.int .i64 t566) ∧ w'.cell? ⟨gb570, 1, none⟩ = some (.slice Ao35 t567.length co35) ∧ w'.cell? ⟨gb555, 0, none⟩ = some (.int .i64 a0_0) ∧ w'.cell? ⟨gb555, 1, none⟩ = some (.slice A0_1 l0_1.length c0_1)) (ds := []) #[false, false, false, false, false] (by kernel_rfl) rfl rfl ⟨(blk_cell BK570.out 0).trans rfl, (blk_cell BK570.out 1).trans rfl, (blk_cell BK555.out 0).trans rfl, (blk_cell BK555.out 1).trans rfl⟩ (fun hHeld => ?_)
    generalize w44.drew = w45 at HO560 HO564 HO569 HO574 BK555 BK565 BK570 BK575 HB hHeld ⊢
    refine take_ (i := 0) (N := some 27) (v := ?_) (a' := ?_) #[true, false, false, false, false] rfl rfl (by kernel_rfl) (fun _ _ _ h => h) (Or.inl ⟨by rfl, ?_⟩) hHeld ?_ ?_
    rotate_left
    ·rintro w' ⟨s0, s1, s2, s3⟩
     go_simp
     with_reducible rfl
    rotate_left
    ·simp only [Act.put, List.setIfInBounds_toArray, List.set_cons_zero, List.set_cons_succ, i64_w, i32_w]
     rfl
    refine take_ (i := 1) (N := some 28) (v := ?_) (a' := ?_) #[true, true, false, false, false] rfl rfl (by kernel_rfl) (fun _ _ _ h => h) (Or.inl ⟨by rfl, ?_⟩) hHeld ?_ ?_
    rotate_left
    ·rintro w' ⟨s0, s1, s2, s3⟩
     go_simp
     with_reducible rfl
    rotate_left
    ·simp only [Act.put, List.setIfInBounds_toArray, List.set_cons_zero, List.set_cons_succ, i64_w, i32_w]
     rfl
    refine one_ (i := 2) (N := some 29) #[true, true, true, false, false] rfl rfl (by kernel_rfl) (by decide) (fun K hK => ?_)
    refine goes_ Try.func17 (by kernel_rfl) rfl #[.agg #[.int .i64 a0_0, .slice A0_1 l0_1.length c0_1]] (by rfl) rfl rfl (by (try simp only [List.map_toArray, List.map_cons, List.map_nil]); first | done | rfl | (simp only [List.length_drop, List.length_take]; rfl)) ?_
    with_reducible refine (laws_toGrid.calls k a0_0 _ _ l0_1 t577 t578 _ ?side1 ?side2 A13.out).mono ?_
    (case side1 => repeat (first | exact (Kd.C_below HR0_1.out HB.out) | (with_reducible refine Kd.C_alloc ?_ _) | (with_reducible refine Kd.C_drewN ?_ _) | (with_reducible refine Kd.C_drew ?_)))
    (case side2 => exact HC0_1.out)
    rintro e w46 ⟨v579, rfl, ho0, hb⟩
    refine ⟨_, rfl, ?_⟩
    have n0_ := Aside0.mk (Kd.R_elder' (kR HO560.out) (Kd.R_base ho0) hb)
    have n1_ := Aside0.mk (Kd.R_elder' (kR HO564.out) (Kd.R_base ho0) hb)
    have n2_ := Aside0.mk (Kd.R_elder' (kR HO569.out) (Kd.R_base ho0) hb)
    have n3_ := Aside0.mk (Kd.R_elder' (kR HO574.out) (Kd.R_base ho0) hb)
    have n4_ := Aside0.mk (Kd.R_lower (Kd.R_new' (Kd.R_new' (Kd.R_new' (Kd.R_new' ho0 (Kd.R_lt (kR HO560.out))) (Kd.R_lt (kR HO564.out))) (Kd.R_lt (kR HO569.out))) (Kd.R_lt (kR HO574.out))) (below_size (by repeat (first | (with_reducible first | exact HB.out | apply below_alloc | apply pw_below_drewN | apply below_drew1 | refine below_set ?_ GE555.out | refine below_set ?_ GE565.out | refine below_set ?_ GE570.out | refine below_set ?_ GE575.out) | exact HB.out))))
    have n5_ := Aside0.mk (blk_below (bK BK555.out) hb)
    have n6_ := Aside0.mk (blk_below (bK BK565.out) hb)
    have n7_ := Aside0.mk (blk_below (bK BK570.out) hb)
    have n8_ := Aside0.mk (blk_below (bK BK575.out) hb)
    have n9_ := Aside0.mk (below_step (by repeat (first | (with_reducible first | exact HB.out | apply below_alloc | apply pw_below_drewN | apply below_drew1 | refine below_set ?_ GE555.out | refine below_set ?_ GE565.out | refine below_set ?_ GE570.out | refine below_set ?_ GE575.out) | exact HB.out)) hb)
    clear HO560
    clear HO564
    clear HO569
    clear HO574
    clear BK555
    clear BK565
    clear BK570
    clear BK575
    clear HB
    have HO560 := n0_
    have HO564 := n1_
    have HO569 := n2_
    have HO574 := n3_
    have HO580 := n4_
    have BK555 := n5_
    have BK565 := n6_
    have BK570 := n7_
    have BK575 := n8_
    have HB := n9_
    clear n0_ n1_ n2_ n3_ n4_ n5_ n6_ n7_ n8_ n9_
    (try clear hb)
    (try clear hb2)
    (try clear hk)
    (try clear hi)
    (try clear ho0)
    obtain ⟨Ao47, co47, eo47⟩ := Kd.R_slice HO580.out
    (first | subst eo47 | (injection eo47 with f1_ f2_ f3_; have f4_ := f1_.symm; have f5_ := f3_.symm; clear f1_ f2_ f3_; subst f4_; subst f5_))
    refine hK.out _ _ ⟨(blk_cell BK570.out 0).trans rfl, (blk_cell BK570.out 1).trans rfl, (blk_cell BK555.out 0).trans rfl, (blk_cell BK555.out 1).trans rfl⟩ (fun hHeld => ?_)
    clear hK K
    refine norm_ (a' := ?_) ?_ ?_
    rotate_left
    ·show Act.put _ (some 29) _ = _
     simp only [Act.put, List.setIfInBounds_toArray, List.set_cons_zero, List.set_cons_succ, i64_w, i32_w]
     rfl
    refine one_ (i := 3) (N := some 30) #[true, true, true, true, false] rfl rfl (by kernel_rfl) (by decide) (fun K hK => ?_)
    refine goes_ Try.func19 (by kernel_rfl) rfl #[.agg #[.int .i64 t566, .slice Ao35 t567.length co35], .agg #[.int .i64 t577, .slice Ao47 t578.length co47]] (by rfl) rfl rfl (by (try simp only [List.map_toArray, List.map_cons, List.map_nil]); first | done | rfl | (simp only [List.length_drop, List.length_take]; rfl)) ?_
    with_reducible refine (laws_eqGrid.calls k t566 _ _ t567 t577 _ _ t578 true _ ?side1 ?side2 ?side3 ?side4 A14.out).mono ?_
    (case side1 => repeat (first | exact (Kd.R_reads' HO569.out).2.2 | (with_reducible refine Kd.C_alloc ?_ _) | (with_reducible refine Kd.C_drewN ?_ _) | (with_reducible refine Kd.C_drew ?_)))
    (case side2 => exact (Kd.R_reads' HO569.out).2.1)
    (case side3 => repeat (first | exact (Kd.R_reads' HO580.out).2.2 | (with_reducible refine Kd.C_alloc ?_ _) | (with_reducible refine Kd.C_drewN ?_ _) | (with_reducible refine Kd.C_drew ?_)))
    (case side4 => exact (Kd.R_reads' HO580.out).2.1)
    rintro e w48 ⟨rfl, hb⟩
    refine ⟨_, rfl, ?_⟩
    have n0_ := Aside0.mk (Kd.R_below (kR HO560.out) hb)
    have n1_ := Aside0.mk (Kd.R_below (kR HO564.out) hb)
    have n2_ := Aside0.mk (Kd.R_below (kR HO569.out) hb)
    have n3_ := Aside0.mk (Kd.R_below (kR HO574.out) hb)
    have n4_ := Aside0.mk (Kd.R_below (kR HO580.out) hb)
    have n5_ := Aside0.mk (blk_below (bK BK555.out) hb)
    have n6_ := Aside0.mk (blk_below (bK BK565.out) hb)
    have n7_ := Aside0.mk (blk_below (bK BK570.out) hb)
    have n8_ := Aside0.mk (blk_below (bK BK575.out) hb)
    have n9_ := Aside0.mk (below_step (by repeat (first | (with_reducible first | exact HB.out | apply below_alloc | apply pw_below_drewN | apply below_drew1 | refine below_set ?_ GE555.out | refine below_set ?_ GE565.out | refine below_set ?_ GE570.out | refine below_set ?_ GE575.out) | exact HB.out)) hb)
    clear HO560
    clear HO564
    clear HO569
    clear HO574
    clear HO580
    clear BK555
    clear BK565
    clear BK570
    clear BK575
    clear HB
    have HO560 := n0_
    have HO564 := n1_
    have HO569 := n2_
    have HO574 := n3_
    have HO580 := n4_
    have BK555 := n5_
    have BK565 := n6_
    have BK570 := n7_
    have BK575 := n8_
    have HB := n9_
    clear n0_ n1_ n2_ n3_ n4_ n5_ n6_ n7_ n8_ n9_
    (try clear hb)
    (try clear hb2)
    (try clear hk)
    (try clear hi)
    refine hK.out _ _ ⟨(blk_cell BK570.out 0).trans rfl, (blk_cell BK570.out 1).trans rfl, (blk_cell BK555.out 0).trans rfl, (blk_cell BK555.out 1).trans rfl⟩ (fun hHeld => ?_)
    clear hK K
    refine norm_ (a' := ?_) ?_ ?_
    rotate_left
    ·show Act.put _ (some 30) _ = _
     simp only [Act.put, List.setIfInBounds_toArray, List.set_cons_zero, List.set_cons_succ, i64_w, i32_w]
     rfl
    refine pure_ (i := 4) (N := some 31) (v := ?_) (a' := ?_) #[true, true, true, true, true] rfl rfl (by kernel_rfl) (fun _ _ _ h => h) (Or.inl ⟨by rfl, ?_⟩) ?_ ?_
    rotate_left
    ·intro w'
     go_simp
     with_reducible rfl
    rotate_left
    ·simp only [Act.put, List.setIfInBounds_toArray, List.set_cons_zero, List.set_cons_succ, i64_w, i32_w]
     rfl
    refine done_ (by kernel_rfl) ?_
    have hcz49_0 : w48.cell? ⟨gb570, 0, none⟩ = some (.int .i64 t566) := (blk_cell BK570.out 0).trans rfl
    have hcz49_1 : w48.cell? ⟨gb570, 1, none⟩ = some (.slice Ao35 t567.length co35) := (blk_cell BK570.out 1).trans rfl
    have hfz49_0 := blk_frozen BK570.out 0
    have hfz49_1 := blk_frozen BK570.out 1
    go_upto_region 14 with (first | ((with_reducible refine gate_callee (f := 36) rfl ?_); refine goesL_ (some 34) rfl rfl Try.func36 (by kernel_rfl) rfl #[.agg #[.int .i64 t566, .slice Ao35 t567.length co35], .int .i64 1] rfl (by (try simp only [List.map_toArray, List.map_cons, List.map_nil]); first | done | rfl | (simp only [List.length_drop, List.length_take]; rfl)) ?_; (with_reducible refine (laws_markGrid.calls k t566 (fun k_ => some k_ = (.slice Ao35 t567.length co35 : Value).ownBlock) (.slice Ao35 t567.length co35) t567 1 t582 t583 w _ ?side1 ?side2 A16.out).mono ?_); (case side1 => repeat (first | (with_reducible first | exact HB.out | apply below_alloc | apply pw_below_drewN | apply below_drew1 | refine below_set ?_ GE555.out | refine below_set ?_ GE565.out | refine below_set ?_ GE570.out | refine below_set ?_ GE575.out) | exact HB.out)); (case side2 => exact Kd.R_tight rfl HO569.out); rintro e w50 ⟨rfl, hy0, hb, hkp⟩; refine ⟨_, rfl, ?_⟩; have n0_ := Aside0.mk (blk_kept (bK BK555.out) hkp (fun hs_ => (fun e_ => (Kd.R_ne HO569.out BK555.out (by decide)) e_) hs_)); have n1_ := Aside0.mk (Kd.R_mono (ok' := fun k_ => some k_ ≠ (.slice Ao28 t562.length co28 : Value).ownBlock ∧ some k_ ≠ (.slice Ao35 t567.length co35 : Value).ownBlock ∧ some k_ ≠ (.slice Ao42 t572.length co42 : Value).ownBlock ∧ some k_ ≠ (.slice Ao47 t578.length co47 : Value).ownBlock) (Kd.R_keptB (HO560.out) hkp (fun k_ hk_ hs_ => (hk_.1.1.2) hs_)) (fun k_ hk_ => ⟨hk_.1.1.1.1.2, hk_.1.1.1.2, hk_.1.1.2, hk_.1.2⟩)); have n2_ := Aside0.mk (Kd.R_mono (ok' := fun k_ => some k_ ≠ (.slice Ao23 t558.length co23 : Value).ownBlock ∧ some k_ ≠ (.slice Ao35 t567.length co35 : Value).ownBlock ∧ some k_ ≠ (.slice Ao42 t572.length co42 : Value).ownBlock ∧ some k_ ≠ (.slice Ao47 t578.length co47 : Value).ownBlock) (Kd.R_keptB (HO564.out) hkp (fun k_ hk_ hs_ => (hk_.1.1.2) hs_)) (fun k_ hk_ => ⟨hk_.1.1.1.1.2, hk_.1.1.1.2, hk_.1.1.2, hk_.1.2⟩)); have n3_ := Aside0.mk (blk_kept (bK BK565.out) hkp (fun hs_ => (fun e_ => (Kd.R_ne HO569.out BK565.out (by decide)) e_) hs_)); have n4_ := Aside0.mk (Kd.R_reok rfl hy0 (fun k_ e_ => HO569.out.1 k_ e_)); have n5_ := Aside0.mk (blk_kept (bK BK570.out) hkp (fun hs_ => (fun e_ => (Kd.R_ne HO569.out BK570.out (by decide)) e_) hs_)); have n6_ := Aside0.mk (Kd.R_mono (ok' := fun k_ => some k_ ≠ (.slice Ao23 t558.length co23 : Value).ownBlock ∧ some k_ ≠ (.slice Ao28 t562.length co28 : Value).ownBlock ∧ some k_ ≠ (.slice Ao35 t567.length co35 : Value).ownBlock ∧ some k_ ≠ (.slice Ao47 t578.length co47 : Value).ownBlock) (Kd.R_keptB (HO574.out) hkp (fun k_ hk_ hs_ => (hk_.1.2) hs_)) (fun k_ hk_ => ⟨hk_.1.1.1.1.2, hk_.1.1.1.2, hk_.1.1.2, hk_.1.2⟩)); have n7_ := Aside0.mk (blk_kept (bK BK575.out) hkp (fun hs_ => (fun e_ => (Kd.R_ne HO569.out BK575.out (by decide)) e_) hs_)); have n8_ := Aside0.mk (Kd.R_mono (ok' := fun k_ => some k_ ≠ (.slice Ao23 t558.length co23 : Value).ownBlock ∧ some k_ ≠ (.slice Ao28 t562.length co28 : Value).ownBlock ∧ some k_ ≠ (.slice Ao35 t567.length co35 : Value).ownBlock ∧ some k_ ≠ (.slice Ao42 t572.length co42 : Value).ownBlock) (Kd.R_keptB (HO580.out) hkp (fun k_ hk_ hs_ => (hk_.1.2) hs_)) (fun k_ hk_ => ⟨hk_.1.1.1.1.2, hk_.1.1.1.2, hk_.1.1.2, hk_.1.2⟩)); have n9_ := Aside0.mk (hb); clear BK555; clear HO560; clear HO564; clear BK565; clear HO569; clear BK570; clear HO574; clear BK575; clear HO580; clear HB; have BK555 := n0_; have HO560 := n1_; have HO564 := n2_; have BK565 := n3_; have HO569 := n4_; have BK570 := n5_; have HO574 := n6_; have BK575 := n7_; have HO580 := n8_; have HB := n9_; clear n0_ n1_ n2_ n3_ n4_ n5_ n6_ n7_ n8_ n9_; (try clear hb); (try clear hkp); (try clear hy0)))
    (try simp only [Act.put, List.setIfInBounds_toArray, List.set_cons_zero, List.set_cons_succ])
    go_cut [42] (fun v42 wc => ∃ (kq : Nat) (x42_16 : Bool), v42 = .bool x42_16 ∧ Aside0 (laws_FnExactGridFlip.j0 kq x42_16 a0_0 l0_1 t561 t562 t571 t572 = some r) ∧ Aside0 (kq ≤ k) ∧ Aside0 (Kd.R k48 48 wc w.heap.size (fun k_ => some k_ ≠ ((.slice Ao35 t567.length co35) : Value).ownBlock ∧ some k_ ≠ ((.slice Ao42 t572.length co42) : Value).ownBlock) (.slice Ao28 t562.length co28) t562) ∧ Aside0 (Kd.R k48 48 wc w.heap.size (fun k_ => some k_ ≠ ((.slice Ao28 t562.length co28) : Value).ownBlock ∧ some k_ ≠ ((.slice Ao42 t572.length co42) : Value).ownBlock) (.slice Ao35 t567.length co35) t583) ∧ Aside0 (Kd.R k48 48 wc w.heap.size (fun k_ => some k_ ≠ ((.slice Ao28 t562.length co28) : Value).ownBlock ∧ some k_ ≠ ((.slice Ao35 t567.length co35) : Value).ownBlock) (.slice Ao42 t572.length co42) t572) ∧ Aside0 (wc.heap[gb555]? = some (.cells #[.int .i64 a0_0, (.slice A0_1 l0_1.length c0_1)] 24 (0, 0))) ∧ Aside0 (wc.heap[gb565]? = some (.cells #[.int .i64 t561, (.slice Ao28 t562.length co28)] 29 (0, 0))) ∧ Aside0 (wc.heap[gb570]? = some (.cells #[.int .i64 t566, (.slice Ao35 t567.length co35)] 29 (0, 0))) ∧ Aside0 (wc.heap[gb575]? = some (.cells #[.int .i64 t571, (.slice Ao42 t572.length co42)] 29 (0, 0))) ∧ Aside0 (Below w.heap.size w wc))
    case first =>
     have H := HC17.out
     clear HC17
     by_cases c51 : t582 < 0
     ·rw [if_pos c51] at H
      have c51b0 : decide (t582 < 0) = true := decide_eq_true c51
      clear c51
      (first | rw [c51b0] | (simp only [i64_w, i32_w]; rw [c51b0]) | skip)
      cases k with
      | zero => exact absurd H (by simp [laws_FnExactGridFlip.j0])
      | succ k_ =>
       have hf_ := Option.some.inj (show (some false : Option Bool) = some r from H)
       rw [HRT.out] at hf_
       exact absurd hf_ (by decide)
     ·rw [if_neg c51] at H
      have c51b0 : decide (t582 < 0) = false := decide_eq_false c51
      clear c51
      (first | rw [c51b0] | (simp only [i64_w, i32_w]; rw [c51b0]) | skip)
      replace H := Option.bind_eq_some_iff.mp H
      obtain ⟨t584, A520, H⟩ := H
      replace H : (laws_FnExactGridFlip.j0 k (!t584) a0_0 l0_1 t561 t562 t571 t572) = some r := H
      have A52 := Aside0.mk A520
      clear A520
      have H' := Aside0.mk H
      clear H
      have hnb53 := NB575_555.out
      have hnc53 := NB555_575.out
      have hnb54 := NB575_565.out
      have hnc54 := NB565_575.out
      have hnb55 := NB575_570.out
      have hnc55 := NB570_575.out
      have hcz56_0 : w50.cell? ⟨gb575, 0, none⟩ = some (.int .i64 t571) := (blk_cell BK575.out 0).trans rfl
      have hcz56_1 : w50.cell? ⟨gb575, 1, none⟩ = some (.slice Ao42 t572.length co42) := (blk_cell BK575.out 1).trans rfl
      have hfz56_0 := blk_frozen BK575.out 0
      have hfz56_1 := blk_frozen BK575.out 1
      have hnb57 := NB565_555.out
      have hnc57 := NB555_565.out
      have hnb58 := NB565_570.out
      have hnc58 := NB570_565.out
      have hcz59_0 : w50.cell? ⟨gb565, 0, none⟩ = some (.int .i64 t561) := (blk_cell BK565.out 0).trans rfl
      have hcz59_1 : w50.cell? ⟨gb565, 1, none⟩ = some (.slice Ao28 t562.length co28) := (blk_cell BK565.out 1).trans rfl
      have hfz59_0 := blk_frozen BK565.out 0
      have hfz59_1 := blk_frozen BK565.out 1
      go_wp2_with (first | (go_at_call 19; (with_reducible refine (laws_eqGrid.calls k t571 _ _ t572 t561 _ _ t562 t584 _ ?side1 ?side2 ?side3 ?side4 A52.out).mono ?_); (case side1 => repeat (first | exact (Kd.R_reads' HO574.out).2.2 | (with_reducible refine Kd.C_alloc ?_ _) | (with_reducible refine Kd.C_drewN ?_ _) | (with_reducible refine Kd.C_drew ?_))); (case side2 => exact (Kd.R_reads' HO574.out).2.1); (case side3 => repeat (first | exact (Kd.R_reads' HO564.out).2.2 | (with_reducible refine Kd.C_alloc ?_ _) | (with_reducible refine Kd.C_drewN ?_ _) | (with_reducible refine Kd.C_drew ?_))); (case side4 => exact (Kd.R_reads' HO564.out).2.1); rintro e w60 ⟨rfl, hb⟩; have n0_ := Aside0.mk (Kd.R_below (kR HO560.out) hb); have n1_ := Aside0.mk (Kd.R_below (kR HO564.out) hb); have n2_ := Aside0.mk (Kd.R_below (kR HO569.out) hb); have n3_ := Aside0.mk (Kd.R_below (kR HO574.out) hb); have n4_ := Aside0.mk (Kd.R_below (kR HO580.out) hb); have n5_ := Aside0.mk (blk_below (bK BK555.out) hb); have n6_ := Aside0.mk (blk_below (bK BK565.out) hb); have n7_ := Aside0.mk (blk_below (bK BK570.out) hb); have n8_ := Aside0.mk (blk_below (bK BK575.out) hb); have n9_ := Aside0.mk (below_step (by repeat (first | (with_reducible first | exact HB.out | apply below_alloc | apply pw_below_drewN | apply below_drew1 | refine below_set ?_ GE555.out | refine below_set ?_ GE565.out | refine below_set ?_ GE570.out | refine below_set ?_ GE575.out) | exact HB.out)) hb); clear HO560; clear HO564; clear HO569; clear HO574; clear HO580; clear BK555; clear BK565; clear BK570; clear BK575; clear HB; have HO560 := n0_; have HO564 := n1_; have HO569 := n2_; have HO574 := n3_; have HO580 := n4_; have BK555 := n5_; have BK565 := n6_; have BK570 := n7_; have BK575 := n8_; have HB := n9_; clear n0_ n1_ n2_ n3_ n4_ n5_ n6_ n7_ n8_ n9_; (try clear hb); (try clear hb2); (try clear hk); (try clear hi)))
      go_meet
      case rel => exact ⟨_, (!t584), (by first | rfl | (simp; done) | (simp [*]; done)), H', ⟨by first | omega | exact Nat.le_refl _⟩, ⟨by (with_reducible repeat (first | apply Kd.R_alloc | apply Kd.R_drewN | apply Kd.R_drew)); exact Kd.R_mono HO564.out (fun _ hk => ⟨hk.2.1, hk.2.2.1⟩)⟩, ⟨by (with_reducible repeat (first | apply Kd.R_alloc | apply Kd.R_drewN | apply Kd.R_drew)); exact Kd.R_mono HO569.out (fun _ hk => ⟨hk.1.1.2, hk.1.2⟩)⟩, ⟨by (with_reducible repeat (first | apply Kd.R_alloc | apply Kd.R_drewN | apply Kd.R_drew)); exact Kd.R_mono HO574.out (fun _ hk => ⟨hk.2.1, hk.2.2.1⟩)⟩, ⟨by (with_reducible repeat (first | refine blk_drewN ?_ _ | refine blk_drew ?_ | refine blk_alloc ?_ _)); exact BK555.out⟩, ⟨by (with_reducible repeat (first | refine blk_drewN ?_ _ | refine blk_drew ?_ | refine blk_alloc ?_ _)); exact BK565.out⟩, ⟨by (with_reducible repeat (first | refine blk_drewN ?_ _ | refine blk_drew ?_ | refine blk_alloc ?_ _)); exact BK570.out⟩, ⟨by (with_reducible repeat (first | refine blk_drewN ?_ _ | refine blk_drew ?_ | refine blk_alloc ?_ _)); exact BK575.out⟩, ⟨by repeat (first | (with_reducible first | exact HB.out | apply below_alloc | apply pw_below_drewN | apply below_drew1 | refine below_set ?_ GE555.out | refine below_set ?_ GE565.out | refine below_set ?_ GE570.out | refine below_set ?_ GE575.out) | exact HB.out)⟩⟩
    case rest =>
     clear HC17
     try clear c1
     try clear c2
     try clear p2
     try clear c3
     try clear c3b0
     try clear c4
     try clear c5
     try clear c12
     try clear c13
     try clear c15
     try clear c17
     try clear c19
     try clear c26
     try clear c32
     try clear c33
     try clear c36
     try clear c38
     try clear c39
     try clear c40
     try clear c42
     try clear c43
     try clear c51
     try clear c51b0
     try clear c53
     try clear c54
     try clear c55
     try clear c57
     try clear c58
     try clear hcz19_0
     try clear hcz19_1
     try clear hcz21_0
     try clear hcz21_1
     try clear hcz27_0
     try clear hcz27_1
     try clear hcz29_0
     try clear hcz29_1
     try clear hcz34_0
     try clear hcz34_1
     try clear hcz41_0
     try clear hcz41_1
     try clear hcz43_0
     try clear hcz43_1
     try clear hcz49_0
     try clear hcz49_1
     try clear hcz56_0
     try clear hcz56_1
     try clear hcz59_0
     try clear hcz59_1
     try clear hcz5_0
     try clear hcz5_1
     try clear hfz19_0
     try clear hfz19_1
     try clear hfz21_0
     try clear hfz21_1
     try clear hfz27_0
     try clear hfz27_1
     try clear hfz29_0
     try clear hfz29_1
     try clear hfz34_0
     try clear hfz34_1
     try clear hfz41_0
     try clear hfz41_1
     try clear hfz43_0
     try clear hfz43_1
     try clear hfz49_0
     try clear hfz49_1
     try clear hfz56_0
     try clear hfz56_1
     try clear hfz59_0
     try clear hfz59_1
     try clear hfz5_0
     try clear hfz5_1
     obtain ⟨kq, x42_16, rfl, HA, HJ16, HO_566001, HO_571001, HO_576001, BK555, BK565, BK570, BK575, HB⟩ := hcut
     have hl571001_16 := (Kd.R_reads' HO_571001.out).1
     rw [hl571001_16] at HO_571001
     (try simp only [hl571001_16])
     (try simp only [hl571001_16] at BK555)
     (try simp only [hl571001_16] at BK565)
     (try simp only [hl571001_16] at BK570)
     (try simp only [hl571001_16] at BK575)
     (try simp only [hl571001_16] at HO_566001)
     (try simp only [hl571001_16] at HO_576001)
     cases kq with
     | zero => exact absurd HA.out (by simp [laws_FnExactGridFlip.j0])
     | succ kj16 =>
      have H := HA.out
      clear HA
      simp only [laws_FnExactGridFlip.j0] at H
      by_cases c61 : x42_16 = true
      ·subst c61
       have H1 : (some false) = some r := by rw [if_pos rfl] at H; exact H
       clear H
       have H := H1
       clear H1
       obtain rfl := Option.some.inj H
       exact absurd HRT.out (by decide)
      ·replace c61 := Bool.eq_false_iff.mpr c61
       subst c61
       have H1 : ((laws_markGrid.f kj16 t571 t572 1).bind fun bt585 => ((laws_heldGrid.f kj16 t571 bt585.2 1).bind fun t587 => (if t587 < 0 then (some false) else (if t587 = bt585.1 then ((laws_toGrid.f kj16 a0_0 l0_1).bind fun bt588 => ((impl_GridFlip.f bt588.1 bt588.2).bind fun bt592 => ((laws_eqGrid.f kj16 bt592.1 bt592.2 t561 t562).bind fun t597 => (if t597 = true then ((laws_heldGrid.f kj16 t571 bt585.2 1).bind fun t598 => (if t598 < 0 then (some false) else (if t598 = bt585.1 then (some true) else (some false)))) else (some false))))) else (some false))))) = some r := by rw [if_neg (show ¬ (false = true) by decide)] at H; exact H
       clear H
       have H := H1
       clear H1
       replace H := Option.bind_eq_some_iff.mp H
       obtain ⟨⟨t585, t586⟩, A620, H⟩ := H
       replace H : ((laws_heldGrid.f kj16 t571 t586 1).bind fun t587 => (if t587 < 0 then (some false) else (if t587 = t585 then ((laws_toGrid.f kj16 a0_0 l0_1).bind fun bt588 => ((impl_GridFlip.f bt588.1 bt588.2).bind fun bt592 => ((laws_eqGrid.f kj16 bt592.1 bt592.2 t561 t562).bind fun t597 => (if t597 = true then ((laws_heldGrid.f kj16 t571 t586 1).bind fun t598 => (if t598 < 0 then (some false) else (if t598 = t585 then (some true) else (some false)))) else (some false))))) else (some false)))) = some r := H
       have A62 := Aside0.mk A620
       clear A620
       replace H := Option.bind_eq_some_iff.mp H
       obtain ⟨t587, A630, H⟩ := H
       replace H : (if t587 < 0 then (some false) else (if t587 = t585 then ((laws_toGrid.f kj16 a0_0 l0_1).bind fun bt588 => ((impl_GridFlip.f bt588.1 bt588.2).bind fun bt592 => ((laws_eqGrid.f kj16 bt592.1 bt592.2 t561 t562).bind fun t597 => (if t597 = true then ((laws_heldGrid.f kj16 t571 t586 1).bind fun t598 => (if t598 < 0 then (some false) else (if t598 = t585 then (some true) else (some false)))) else (some false))))) else (some false))) = some r := H
       have A63 := Aside0.mk A630
       clear A630
       by_cases c64 : t587 < 0
       ·rw [if_pos c64] at H
        have c64b0 : decide (t587 < 0) = true := decide_eq_true c64
        clear c64
        obtain rfl := Option.some.inj H
        exact absurd HRT.out (by decide)
       ·rw [if_neg c64] at H
        have c64b0 : decide (t587 < 0) = false := decide_eq_false c64
        clear c64
        by_cases c65 : t587 = t585
        ·rw [if_pos c65] at H
         have c65b0 : (t587 == t585) = true := beq_iff_eq.mpr c65
         have c65b1 : (t587 != t585) = false := bne_eq_false_iff_eq.mpr c65
         clear c65
         replace H := Option.bind_eq_some_iff.mp H
         obtain ⟨⟨t588, t589⟩, A660, H⟩ := H
         replace H : ((impl_GridFlip.f t588 t589).bind fun bt592 => ((laws_eqGrid.f kj16 bt592.1 bt592.2 t561 t562).bind fun t597 => (if t597 = true then ((laws_heldGrid.f kj16 t571 t586 1).bind fun t598 => (if t598 < 0 then (some false) else (if t598 = t585 then (some true) else (some false)))) else (some false)))) = some r := H
         have A66 := Aside0.mk A660
         clear A660
         replace H := Option.bind_eq_some_iff.mp H
         obtain ⟨⟨t592, t593⟩, A670, H⟩ := H
         replace H : ((laws_eqGrid.f kj16 t592 t593 t561 t562).bind fun t597 => (if t597 = true then ((laws_heldGrid.f kj16 t571 t586 1).bind fun t598 => (if t598 < 0 then (some false) else (if t598 = t585 then (some true) else (some false)))) else (some false))) = some r := H
         have A67 := Aside0.mk A670
         clear A670
         replace H := Option.bind_eq_some_iff.mp H
         obtain ⟨t597, A680, H⟩ := H
         replace H : (if t597 = true then ((laws_heldGrid.f kj16 t571 t586 1).bind fun t598 => (if t598 < 0 then (some false) else (if t598 = t585 then (some true) else (some false)))) else (some false)) = some r := H
         have A68 := Aside0.mk A680
         clear A680
         by_cases c69 : t597 = true
         ·subst c69
          have H1 : ((laws_heldGrid.f kj16 t571 t586 1).bind fun t598 => (if t598 < 0 then (some false) else (if t598 = t585 then (some true) else (some false)))) = some r := by rw [if_pos rfl] at H; exact H
          clear H
          have H := H1
          clear H1
          replace H := Option.bind_eq_some_iff.mp H
          obtain ⟨t598, A700, H⟩ := H
          replace H : (if t598 < 0 then (some false) else (if t598 = t585 then (some true) else (some false))) = some r := H
          have A70 := Aside0.mk A700
          clear A700
          by_cases c71 : t598 < 0
          ·rw [if_pos c71] at H
           have c71b0 : decide (t598 < 0) = true := decide_eq_true c71
           clear c71
           obtain rfl := Option.some.inj H
           exact absurd HRT.out (by decide)
          ·rw [if_neg c71] at H
           have c71b0 : decide (t598 < 0) = false := decide_eq_false c71
           clear c71
           by_cases c72 : t598 = t585
           ·rw [if_pos c72] at H
            have c72b0 : (t598 == t585) = true := beq_iff_eq.mpr c72
            have c72b1 : (t598 != t585) = false := bne_eq_false_iff_eq.mpr c72
            clear c72
            obtain rfl := Option.some.inj H
            have hnb73 := NB575_555.out
            have hnc73 := NB555_575.out
            have hnb74 := NB575_565.out
            have hnc74 := NB565_575.out
            have hnb75 := NB575_570.out
            have hnc75 := NB570_575.out
            have hcz76_0 : wc.cell? ⟨gb575, 0, none⟩ = some (.int .i64 t571) := (blk_cell BK575.out 0).trans rfl
            have hcz76_1 : wc.cell? ⟨gb575, 1, none⟩ = some (.slice Ao42 t572.length co42) := (blk_cell BK575.out 1).trans rfl
            have hfz76_0 := blk_frozen BK575.out 0
            have hfz76_1 := blk_frozen BK575.out 1
            go_wp2_with (first | ((with_reducible refine gate_callee (f := 36) rfl ?_); refine goesL_ (some 45) rfl rfl Try.func36 (by kernel_rfl) rfl #[.agg #[.int .i64 t571, .slice Ao42 t572.length co42], .int .i64 1] rfl (by (try simp only [List.map_toArray, List.map_cons, List.map_nil]); first | done | rfl | (simp only [List.length_drop, List.length_take]; rfl)) ?_; (with_reducible refine (laws_markGrid.calls kj16 t571 (fun k_ => some k_ = (.slice Ao42 t572.length co42 : Value).ownBlock) (.slice Ao42 t572.length co42) t572 1 t585 t586 w _ ?side1 ?side2 A62.out).mono ?_); (case side1 => repeat (first | (with_reducible first | exact HB.out | apply below_alloc | apply pw_below_drewN | apply below_drew1 | refine below_set ?_ GE555.out | refine below_set ?_ GE565.out | refine below_set ?_ GE570.out | refine below_set ?_ GE575.out) | exact HB.out)); (case side2 => exact Kd.R_tight rfl HO_576001.out); rintro e w77 ⟨rfl, hy0, hb, hkp⟩; refine ⟨_, rfl, ?_⟩; have n0_ := Aside0.mk (Kd.R_mono (ok' := fun k_ => some k_ ≠ (.slice Ao35 t583.length co35 : Value).ownBlock ∧ some k_ ≠ (.slice Ao42 t572.length co42 : Value).ownBlock) (Kd.R_keptB (HO_566001.out) hkp (fun k_ hk_ hs_ => (hk_.2) hs_)) (fun k_ hk_ => ⟨hk_.1.1, hk_.1.2⟩)); have n1_ := Aside0.mk (Kd.R_mono (ok' := fun k_ => some k_ ≠ (.slice Ao28 t562.length co28 : Value).ownBlock ∧ some k_ ≠ (.slice Ao42 t572.length co42 : Value).ownBlock) (Kd.R_keptB (HO_571001.out) hkp (fun k_ hk_ hs_ => (hk_.2) hs_)) (fun k_ hk_ => ⟨hk_.1.1, hk_.1.2⟩)); have n2_ := Aside0.mk (Kd.R_reok rfl hy0 (fun k_ e_ => HO_576001.out.1 k_ e_)); have n3_ := Aside0.mk (blk_kept (bK BK555.out) hkp (fun hs_ => (fun e_ => (Kd.R_ne HO_576001.out BK555.out (by decide)) e_) hs_)); have n4_ := Aside0.mk (blk_kept (bK BK565.out) hkp (fun hs_ => (fun e_ => (Kd.R_ne HO_576001.out BK565.out (by decide)) e_) hs_)); have n5_ := Aside0.mk (blk_kept (bK BK570.out) hkp (fun hs_ => (fun e_ => (Kd.R_ne HO_576001.out BK570.out (by decide)) e_) hs_)); have n6_ := Aside0.mk (blk_kept (bK BK575.out) hkp (fun hs_ => (fun e_ => (Kd.R_ne HO_576001.out BK575.out (by decide)) e_) hs_)); have n7_ := Aside0.mk (hb); clear HO_566001; clear HO_571001; clear HO_576001; clear BK555; clear BK565; clear BK570; clear BK575; clear HB; have HO_566001 := n0_; have HO_571001 := n1_; have HO_576001 := n2_; have BK555 := n3_; have BK565 := n4_; have BK570 := n5_; have BK575 := n6_; have HB := n7_; clear n0_ n1_ n2_ n3_ n4_ n5_ n6_ n7_; (try clear hb); (try clear hkp); (try clear hy0); have hcz78_0 : w77.cell? ⟨gb575, 0, none⟩ = some (.int .i64 t571) := (blk_cell BK575.out 0).trans rfl; have hcz78_1 : w77.cell? ⟨gb575, 1, none⟩ = some (.slice Ao42 t572.length co42) := (blk_cell BK575.out 1).trans rfl; have hfz78_0 := blk_frozen BK575.out 0; have hfz78_1 := blk_frozen BK575.out 1) | ((with_reducible refine gate_callee (f := 37) rfl ?_); refine goesL_ (some 48) rfl rfl Try.func37 (by kernel_rfl) rfl #[.agg #[.int .i64 t571, .slice Ao42 t586.length co42], .int .i64 1] rfl (by (try simp only [List.map_toArray, List.map_cons, List.map_nil]); first | done | (rw [show t586.length = t572.length from (Kd.R_reads' HO_576001.out).1.symm] <;> rfl) | rfl | (simp only [List.length_drop, List.length_take]; rfl)) ?_; (with_reducible refine (laws_heldGrid.calls kj16 t571 _ _ t586 1 t587 _ ?side1 ?side2 A63.out).mono ?_); (case side1 => repeat (first | exact (Kd.R_reads' HO_576001.out).2.2 | (with_reducible refine Kd.C_alloc ?_ _) | (with_reducible refine Kd.C_drewN ?_ _) | (with_reducible refine Kd.C_drew ?_))); (case side2 => rw [show t586.length = t572.length from (Kd.R_reads' HO_576001.out).1.symm]; exact (Kd.R_reads' HO_576001.out).2.1); rintro e w79 ⟨rfl, hb⟩; refine ⟨_, rfl, ?_⟩; have n0_ := Aside0.mk (Kd.R_below (kR HO_566001.out) hb); have n1_ := Aside0.mk (Kd.R_below (kR HO_571001.out) hb); have n2_ := Aside0.mk (Kd.R_below (kR HO_576001.out) hb); have n3_ := Aside0.mk (blk_below (bK BK555.out) hb); have n4_ := Aside0.mk (blk_below (bK BK565.out) hb); have n5_ := Aside0.mk (blk_below (bK BK570.out) hb); have n6_ := Aside0.mk (blk_below (bK BK575.out) hb); have n7_ := Aside0.mk (below_step (by repeat (first | (with_reducible first | exact HB.out | apply below_alloc | apply pw_below_drewN | apply below_drew1 | refine below_set ?_ GE555.out | refine below_set ?_ GE565.out | refine below_set ?_ GE570.out | refine below_set ?_ GE575.out) | exact HB.out)) hb); clear HO_566001; clear HO_571001; clear HO_576001; clear BK555; clear BK565; clear BK570; clear BK575; clear HB; have HO_566001 := n0_; have HO_571001 := n1_; have HO_576001 := n2_; have BK555 := n3_; have BK565 := n4_; have BK570 := n5_; have BK575 := n6_; have HB := n7_; clear n0_ n1_ n2_ n3_ n4_ n5_ n6_ n7_; (try clear hb); (try clear hb2); (try clear hk); (try clear hi); have hnb80 := NB555_565.out; have hnc80 := NB565_555.out; have hnb81 := NB555_570.out; have hnc81 := NB570_555.out; have hcz82_0 : w79.cell? ⟨gb555, 0, none⟩ = some (.int .i64 a0_0) := (blk_cell BK555.out 0).trans rfl; have hcz82_1 : w79.cell? ⟨gb555, 1, none⟩ = some (.slice A0_1 l0_1.length c0_1) := (blk_cell BK555.out 1).trans rfl; have hfz82_0 := blk_frozen BK555.out 0; have hfz82_1 := blk_frozen BK555.out 1) | ((with_reducible refine gate_callee (f := 17) rfl ?_); refine goesL_ (some 55) rfl rfl Try.func17 (by kernel_rfl) rfl #[.agg #[.int .i64 a0_0, .slice A0_1 l0_1.length c0_1]] rfl (by (try simp only [List.map_toArray, List.map_cons, List.map_nil]); first | done | rfl | (simp only [List.length_drop, List.length_take]; rfl)) ?_; (with_reducible refine (laws_toGrid.calls kj16 a0_0 _ _ l0_1 t588 t589 _ ?side1 ?side2 A66.out).mono ?_); (case side1 => repeat (first | exact (Kd.C_below HR0_1.out HB.out) | (with_reducible refine Kd.C_alloc ?_ _) | (with_reducible refine Kd.C_drewN ?_ _) | (with_reducible refine Kd.C_drew ?_))); (case side2 => exact HC0_1.out); rintro e w83 ⟨v590, rfl, ho0, hb⟩; refine ⟨_, rfl, ?_⟩; have n0_ := Aside0.mk (Kd.R_elder' (kR HO_566001.out) (Kd.R_base ho0) hb); have n1_ := Aside0.mk (Kd.R_elder' (kR HO_571001.out) (Kd.R_base ho0) hb); have n2_ := Aside0.mk (Kd.R_elder' (kR HO_576001.out) (Kd.R_base ho0) hb); have n3_ := Aside0.mk (Kd.R_lower (Kd.R_new' (Kd.R_new' (Kd.R_new' ho0 (Kd.R_lt (kR HO_566001.out))) (Kd.R_lt (kR HO_571001.out))) (Kd.R_lt (kR HO_576001.out))) (below_size (by repeat (first | (with_reducible first | exact HB.out | apply below_alloc | apply pw_below_drewN | apply below_drew1 | refine below_set ?_ GE555.out | refine below_set ?_ GE565.out | refine below_set ?_ GE570.out | refine below_set ?_ GE575.out) | exact HB.out)))); have n4_ := Aside0.mk (blk_below (bK BK555.out) hb); have n5_ := Aside0.mk (blk_below (bK BK565.out) hb); have n6_ := Aside0.mk (blk_below (bK BK570.out) hb); have n7_ := Aside0.mk (blk_below (bK BK575.out) hb); have n8_ := Aside0.mk (below_step (by repeat (first | (with_reducible first | exact HB.out | apply below_alloc | apply pw_below_drewN | apply below_drew1 | refine below_set ?_ GE555.out | refine below_set ?_ GE565.out | refine below_set ?_ GE570.out | refine below_set ?_ GE575.out) | exact HB.out)) hb); clear HO_566001; clear HO_571001; clear HO_576001; clear BK555; clear BK565; clear BK570; clear BK575; clear HB; have HO_566001 := n0_; have HO_571001 := n1_; have HO_576001 := n2_; have HO591 := n3_; have BK555 := n4_; have BK565 := n5_; have BK570 := n6_; have BK575 := n7_; have HB := n8_; clear n0_ n1_ n2_ n3_ n4_ n5_ n6_ n7_ n8_; (try clear hb); (try clear hb2); (try clear hk); (try clear hi); (try clear ho0); obtain ⟨Ao84, co84, eo84⟩ := Kd.R_slice HO591.out; subst eo84) | ((with_reducible refine gate_callee (f := 43) rfl ?_); refine goesL_ (some 56) rfl rfl Try.func43 (by kernel_rfl) rfl #[.agg #[.int .i64 t588, .slice Ao84 t589.length co84]] rfl (by (try simp only [List.map_toArray, List.map_cons, List.map_nil]); first | done | rfl | (simp only [List.length_drop, List.length_take]; rfl)) ?_; (with_reducible refine (impl_GridFlip.calls t588 _ _ t589 t592 t593 _ ?side1 ?side2 A67.out).mono ?_); (case side1 => repeat (first | exact (Kd.R_reads' HO591.out).2.2 | (with_reducible refine Kd.C_alloc ?_ _) | (with_reducible refine Kd.C_drewN ?_ _) | (with_reducible refine Kd.C_drew ?_))); (case side2 => exact (Kd.R_reads' HO591.out).2.1); rintro e w85 ⟨v594, rfl, ho0, hb⟩; refine ⟨_, rfl, ?_⟩; have n0_ := Aside0.mk (Kd.R_elder' (kR HO_566001.out) (Kd.R_base ho0) hb); have n1_ := Aside0.mk (Kd.R_elder' (kR HO_571001.out) (Kd.R_base ho0) hb); have n2_ := Aside0.mk (Kd.R_elder' (kR HO_576001.out) (Kd.R_base ho0) hb); have n3_ := Aside0.mk (Kd.R_elder' (kR HO591.out) (Kd.R_base ho0) hb); have n4_ := Aside0.mk (Kd.R_lower (Kd.R_new' (Kd.R_new' (Kd.R_new' (Kd.R_new' ho0 (Kd.R_lt (kR HO_566001.out))) (Kd.R_lt (kR HO_571001.out))) (Kd.R_lt (kR HO_576001.out))) (Kd.R_lt (kR HO591.out))) (below_size (by repeat (first | (with_reducible first | exact HB.out | apply below_alloc | apply pw_below_drewN | apply below_drew1 | refine below_set ?_ GE555.out | refine below_set ?_ GE565.out | refine below_set ?_ GE570.out | refine below_set ?_ GE575.out) | exact HB.out)))); have n5_ := Aside0.mk (blk_below (bK BK555.out) hb); have n6_ := Aside0.mk (blk_below (bK BK565.out) hb); have n7_ := Aside0.mk (blk_below (bK BK570.out) hb); have n8_ := Aside0.mk (blk_below (bK BK575.out) hb); have n9_ := Aside0.mk (below_step (by repeat (first | (with_reducible first | exact HB.out | apply below_alloc | apply pw_below_drewN | apply below_drew1 | refine below_set ?_ GE555.out | refine below_set ?_ GE565.out | refine below_set ?_ GE570.out | refine below_set ?_ GE575.out) | exact HB.out)) hb); clear HO_566001; clear HO_571001; clear HO_576001; clear HO591; clear BK555; clear BK565; clear BK570; clear BK575; clear HB; have HO_566001 := n0_; have HO_571001 := n1_; have HO_576001 := n2_; have HO591 := n3_; have HO595 := n4_; have BK555 := n5_; have BK565 := n6_; have BK570 := n7_; have BK575 := n8_; have HB := n9_; clear n0_ n1_ n2_ n3_ n4_ n5_ n6_ n7_ n8_ n9_; (try clear hb); (try clear hb2); (try clear hk); (try clear hi); (try clear ho0)) | ((with_reducible refine gate_dst (N := 10) rfl ?_); refine box_event ?hg (N := 10) ?hd (cs := #[.int .i64 0, .slice none 0 0]) (t := 29) ?hr ?_; (case hd => rfl); (case hg => rfl); (case hr => first | (go_simp; done) | (go_simp; rfl)); intro gb596 hg w86 hbox hb; have n0_ := Aside0.mk (Kd.R_below (kR HO_566001.out) hb); have n1_ := Aside0.mk (Kd.R_below (kR HO_571001.out) hb); have n2_ := Aside0.mk (Kd.R_below (kR HO_576001.out) hb); have n3_ := Aside0.mk (Kd.R_below (kR HO591.out) hb); have n4_ := Aside0.mk (Kd.R_below (kR HO595.out) hb); have n5_ := Aside0.mk (blk_below (bK BK555.out) hb); have n6_ := Aside0.mk (blk_below (bK BK565.out) hb); have n7_ := Aside0.mk (blk_below (bK BK570.out) hb); have n8_ := Aside0.mk (blk_below (bK BK575.out) hb); have n9_ := Aside0.mk (below_step (by repeat (first | (with_reducible first | exact HB.out | apply below_alloc | apply pw_below_drewN | apply below_drew1 | refine below_set ?_ GE555.out | refine below_set ?_ GE565.out | refine below_set ?_ GE570.out | refine below_set ?_ GE575.out) | exact HB.out)) hb); have n10_ := Aside0.mk (hbox); have n11_ := Aside0.mk ((by rw [hg]; exact (below_size (by repeat (first | (with_reducible first | exact HB.out | apply below_alloc | apply pw_below_drewN | apply below_drew1 | refine below_set ?_ GE555.out | refine below_set ?_ GE565.out | refine below_set ?_ GE570.out | refine below_set ?_ GE575.out) | exact HB.out))) : w.heap.size ≤ gb596)); have n12_ := Aside0.mk ((by rw [hg]; exact (below_size (by repeat (first | (with_reducible first | exact HB.out | apply below_alloc | apply pw_below_drewN | apply below_drew1 | refine below_set ?_ GE555.out | refine below_set ?_ GE565.out | refine below_set ?_ GE570.out | refine below_set ?_ GE575.out) | exact HB.out))) : w.heap.size ≤ gb596)); have n13_ := Aside0.mk ((by rw [hg]; exact Nat.ne_of_lt (blk_lt (bK BK555.out)) : gb555 ≠ gb596)); have n14_ := Aside0.mk ((by rw [hg]; exact Nat.ne_of_gt (blk_lt (bK BK555.out)) : gb596 ≠ gb555)); have n15_ := Aside0.mk ((by rw [hg]; exact Nat.ne_of_lt (blk_lt (bK BK565.out)) : gb565 ≠ gb596)); have n16_ := Aside0.mk ((by rw [hg]; exact Nat.ne_of_gt (blk_lt (bK BK565.out)) : gb596 ≠ gb565)); have n17_ := Aside0.mk ((by rw [hg]; exact Nat.ne_of_lt (blk_lt (bK BK570.out)) : gb570 ≠ gb596)); have n18_ := Aside0.mk ((by rw [hg]; exact Nat.ne_of_gt (blk_lt (bK BK570.out)) : gb596 ≠ gb570)); have n19_ := Aside0.mk ((by rw [hg]; exact Nat.ne_of_lt (blk_lt (bK BK575.out)) : gb575 ≠ gb596)); have n20_ := Aside0.mk ((by rw [hg]; exact Nat.ne_of_gt (blk_lt (bK BK575.out)) : gb596 ≠ gb575)); clear HO_566001; clear HO_571001; clear HO_576001; clear HO591; clear HO595; clear BK555; clear BK565; clear BK570; clear BK575; clear HB; have HO_566001 := n0_; have HO_571001 := n1_; have HO_576001 := n2_; have HO591 := n3_; have HO595 := n4_; have BK555 := n5_; have BK565 := n6_; have BK570 := n7_; have BK575 := n8_; have HB := n9_; have BK596 := n10_; have GW596 := n11_; have GE596 := n12_; have NB555_596 := n13_; have NB596_555 := n14_; have NB565_596 := n15_; have NB596_565 := n16_; have NB570_596 := n17_; have NB596_570 := n18_; have NB575_596 := n19_; have NB596_575 := n20_; clear n0_ n1_ n2_ n3_ n4_ n5_ n6_ n7_ n8_ n9_ n10_ n11_ n12_ n13_ n14_ n15_ n16_ n17_ n18_ n19_ n20_; clear hb hbox hg; have hnb87 := NB596_555.out; have hnc87 := NB555_596.out; have hnb88 := NB596_565.out; have hnc88 := NB565_596.out; have hnb89 := NB596_570.out; have hnc89 := NB570_596.out; have hnb90 := NB596_575.out; have hnc90 := NB575_596.out; have hcz91_0 : w86.cell? ⟨gb596, 0, none⟩ = some (.int .i64 0) := (blk_cell BK596.out 0).trans rfl; have hcz91_1 : w86.cell? ⟨gb596, 1, none⟩ = some (.slice none 0 0) := (blk_cell BK596.out 1).trans rfl; have hfz91_0 := blk_frozen BK596.out 0; have hfz91_1 := blk_frozen BK596.out 1; obtain ⟨Ao92, co92, eo92⟩ := Kd.R_slice HO595.out; subst eo92; have hnb93 := NB565_570.out; have hnc93 := NB570_565.out; have hcz94_0 : w86.cell? ⟨gb565, 0, none⟩ = some (.int .i64 t561) := (blk_cell BK565.out 0).trans rfl; have hcz94_1 : w86.cell? ⟨gb565, 1, none⟩ = some (.slice Ao28 t562.length co28) := (blk_cell BK565.out 1).trans rfl; have hfz94_0 := blk_frozen BK565.out 0; have hfz94_1 := blk_frozen BK565.out 1) | ((with_reducible refine gate_callee (f := 19) rfl ?_); refine goesL_ (some 59) rfl rfl Try.func19 (by kernel_rfl) rfl #[.agg #[.int .i64 t592, .slice Ao92 t593.length co92], .agg #[.int .i64 t561, .slice Ao28 t562.length co28]] rfl (by (try simp only [List.map_toArray, List.map_cons, List.map_nil]); first | done | rfl | (simp only [List.length_drop, List.length_take]; rfl)) ?_; (with_reducible refine (laws_eqGrid.calls kj16 t592 _ _ t593 t561 _ _ t562 true _ ?side1 ?side2 ?side3 ?side4 A68.out).mono ?_); (case side1 => refine (Kd.R_reads' (e := 48) (base := w.heap.size) (ok := fun k_ => ((((True ∧ some k_ ≠ (.slice Ao28 t562.length co28 : Value).ownBlock) ∧ some k_ ≠ (.slice Ao35 t583.length co35 : Value).ownBlock) ∧ some k_ ≠ (.slice Ao42 t572.length co42 : Value).ownBlock) ∧ some k_ ≠ (.slice Ao84 t589.length co84 : Value).ownBlock)) (n := t593.length) (c := co92) ?_).2.2; exact (by (with_reducible repeat (first | apply Kd.R_alloc | apply Kd.R_drewN | apply Kd.R_drew)); exact (Kd.R_mono (Kd.R_far (p := ⟨gb596, 1, none⟩) (Kd.R_far (p := ⟨gb596, 0, none⟩) (Kd.R_types HO595.out BK596.out (by decide)) (fun _ hk => hk.2) (.int .i64 t592)) (fun _ hk => hk.2) (.slice Ao92 t593.length co92)) (fun _ h_ => h_.1)))); (case side2 => exact (Kd.R_reads' HO595.out).2.1); (case side3 => refine (Kd.R_reads' (e := 48) (base := w.heap.size) (ok := fun k_ => (((some k_ ≠ (.slice Ao35 t583.length co35 : Value).ownBlock ∧ some k_ ≠ (.slice Ao42 t572.length co42 : Value).ownBlock) ∧ some k_ ≠ (.slice Ao84 t589.length co84 : Value).ownBlock) ∧ some k_ ≠ (.slice Ao92 t593.length co92 : Value).ownBlock)) (n := t562.length) (c := co28) ?_).2.2; exact (by (with_reducible repeat (first | apply Kd.R_alloc | apply Kd.R_drewN | apply Kd.R_drew)); exact (Kd.R_mono (Kd.R_far (p := ⟨gb596, 1, none⟩) (Kd.R_far (p := ⟨gb596, 0, none⟩) (Kd.R_types HO_566001.out BK596.out (by decide)) (fun _ hk => hk.2) (.int .i64 t592)) (fun _ hk => hk.2) (.slice Ao92 t593.length co92)) (fun _ h_ => h_.1)))); (case side4 => exact (Kd.R_reads' HO_566001.out).2.1); rintro e w95 ⟨rfl, hb⟩; refine ⟨_, rfl, ?_⟩; have n0_ := Aside0.mk (Kd.R_below (by (with_reducible repeat (first | apply Kd.R_alloc | apply Kd.R_drewN | apply Kd.R_drew)); exact (Kd.R_mono (Kd.R_far (p := ⟨gb596, 1, none⟩) (Kd.R_far (p := ⟨gb596, 0, none⟩) (Kd.R_types HO_566001.out BK596.out (by decide)) (fun _ hk => hk.2) (.int .i64 t592)) (fun _ hk => hk.2) (.slice Ao92 t593.length co92)) (fun _ h_ => h_.1))) hb); have n1_ := Aside0.mk (Kd.R_below (by (with_reducible repeat (first | apply Kd.R_alloc | apply Kd.R_drewN | apply Kd.R_drew)); exact (Kd.R_mono (Kd.R_far (p := ⟨gb596, 1, none⟩) (Kd.R_far (p := ⟨gb596, 0, none⟩) (Kd.R_types HO_571001.out BK596.out (by decide)) (fun _ hk => hk.2) (.int .i64 t592)) (fun _ hk => hk.2) (.slice Ao92 t593.length co92)) (fun _ h_ => h_.1))) hb); have n2_ := Aside0.mk (Kd.R_below (by (with_reducible repeat (first | apply Kd.R_alloc | apply Kd.R_drewN | apply Kd.R_drew)); exact (Kd.R_mono (Kd.R_far (p := ⟨gb596, 1, none⟩) (Kd.R_far (p := ⟨gb596, 0, none⟩) (Kd.R_types HO_576001.out BK596.out (by decide)) (fun _ hk => hk.2) (.int .i64 t592)) (fun _ hk => hk.2) (.slice Ao92 t593.length co92)) (fun _ h_ => h_.1))) hb); have n3_ := Aside0.mk (Kd.R_below (by (with_reducible repeat (first | apply Kd.R_alloc | apply Kd.R_drewN | apply Kd.R_drew)); exact (Kd.R_mono (Kd.R_far (p := ⟨gb596, 1, none⟩) (Kd.R_far (p := ⟨gb596, 0, none⟩) (Kd.R_types HO591.out BK596.out (by decide)) (fun _ hk => hk.2) (.int .i64 t592)) (fun _ hk => hk.2) (.slice Ao92 t593.length co92)) (fun _ h_ => h_.1))) hb); have n4_ := Aside0.mk (Kd.R_below (by (with_reducible repeat (first | apply Kd.R_alloc | apply Kd.R_drewN | apply Kd.R_drew)); exact (Kd.R_mono (Kd.R_far (p := ⟨gb596, 1, none⟩) (Kd.R_far (p := ⟨gb596, 0, none⟩) (Kd.R_types HO595.out BK596.out (by decide)) (fun _ hk => hk.2) (.int .i64 t592)) (fun _ hk => hk.2) (.slice Ao92 t593.length co92)) (fun _ h_ => h_.1))) hb); have n5_ := Aside0.mk (blk_below (g := gb555) (o := .cells #[.int .i64 a0_0, .slice A0_1 l0_1.length c0_1] 24 (0, 0)) (by (with_reducible repeat (first | refine blk_drewN ?_ _ | refine blk_drew ?_ | refine blk_alloc ?_ _)); refine blk_far ?_ NB555_596.out _; (with_reducible repeat (first | refine blk_drewN ?_ _ | refine blk_drew ?_ | refine blk_alloc ?_ _)); refine blk_far ?_ NB555_596.out _; (with_reducible repeat (first | refine blk_drewN ?_ _ | refine blk_drew ?_ | refine blk_alloc ?_ _)); exact BK555.out) hb); have n6_ := Aside0.mk (blk_below (g := gb565) (o := .cells #[.int .i64 t561, .slice Ao28 t562.length co28] 29 (0, 0)) (by (with_reducible repeat (first | refine blk_drewN ?_ _ | refine blk_drew ?_ | refine blk_alloc ?_ _)); refine blk_far ?_ NB565_596.out _; (with_reducible repeat (first | refine blk_drewN ?_ _ | refine blk_drew ?_ | refine blk_alloc ?_ _)); refine blk_far ?_ NB565_596.out _; (with_reducible repeat (first | refine blk_drewN ?_ _ | refine blk_drew ?_ | refine blk_alloc ?_ _)); exact BK565.out) hb); have n7_ := Aside0.mk (blk_below (g := gb570) (o := .cells #[.int .i64 t566, .slice Ao35 t583.length co35] 29 (0, 0)) (by (with_reducible repeat (first | refine blk_drewN ?_ _ | refine blk_drew ?_ | refine blk_alloc ?_ _)); refine blk_far ?_ NB570_596.out _; (with_reducible repeat (first | refine blk_drewN ?_ _ | refine blk_drew ?_ | refine blk_alloc ?_ _)); refine blk_far ?_ NB570_596.out _; (with_reducible repeat (first | refine blk_drewN ?_ _ | refine blk_drew ?_ | refine blk_alloc ?_ _)); exact BK570.out) hb); have n8_ := Aside0.mk (blk_below (g := gb575) (o := .cells #[.int .i64 t571, .slice Ao42 t572.length co42] 29 (0, 0)) (by (with_reducible repeat (first | refine blk_drewN ?_ _ | refine blk_drew ?_ | refine blk_alloc ?_ _)); refine blk_far ?_ NB575_596.out _; (with_reducible repeat (first | refine blk_drewN ?_ _ | refine blk_drew ?_ | refine blk_alloc ?_ _)); refine blk_far ?_ NB575_596.out _; (with_reducible repeat (first | refine blk_drewN ?_ _ | refine blk_drew ?_ | refine blk_alloc ?_ _)); exact BK575.out) hb); have n9_ := Aside0.mk (blk_below (g := gb596) (o := .cells #[.int .i64 t592, .slice Ao92 t593.length co92] 29 (0, 0)) (by (with_reducible repeat (first | refine blk_drewN ?_ _ | refine blk_drew ?_ | refine blk_alloc ?_ _)); refine blk_put (cs := #[.int .i64 t592, .slice none 0 0]) ?_ 1 _ rfl; (with_reducible repeat (first | refine blk_drewN ?_ _ | refine blk_drew ?_ | refine blk_alloc ?_ _)); refine blk_put (cs := #[.int .i64 0, .slice none 0 0]) ?_ 0 _ rfl; (with_reducible repeat (first | refine blk_drewN ?_ _ | refine blk_drew ?_ | refine blk_alloc ?_ _)); exact BK596.out) hb); have n10_ := Aside0.mk (below_step (by repeat (first | (with_reducible first | exact HB.out | apply below_alloc | apply pw_below_drewN | apply below_drew1 | refine below_set ?_ GE555.out | refine below_set ?_ GE565.out | refine below_set ?_ GE570.out | refine below_set ?_ GE575.out | refine below_set ?_ GE596.out) | exact HB.out)) hb); clear HO_566001; clear HO_571001; clear HO_576001; clear HO591; clear HO595; clear BK555; clear BK565; clear BK570; clear BK575; clear BK596; clear HB; have HO_566001 := n0_; have HO_571001 := n1_; have HO_576001 := n2_; have HO591 := n3_; have HO595 := n4_; have BK555 := n5_; have BK565 := n6_; have BK570 := n7_; have BK575 := n8_; have BK596 := n9_; have HB := n10_; clear n0_ n1_ n2_ n3_ n4_ n5_ n6_ n7_ n8_ n9_ n10_; (try clear hb); (try clear hb2); (try clear hk); (try clear hi); have hcz96_0 : w95.cell? ⟨gb575, 0, none⟩ = some (.int .i64 t571) := (blk_cell BK575.out 0).trans rfl; have hcz96_1 : w95.cell? ⟨gb575, 1, none⟩ = some (.slice Ao42 t572.length co42) := (blk_cell BK575.out 1).trans rfl; have hfz96_0 := blk_frozen BK575.out 0; have hfz96_1 := blk_frozen BK575.out 1) | ((with_reducible refine gate_callee (f := 37) rfl ?_); refine goesL_ (some 63) rfl rfl Try.func37 (by kernel_rfl) rfl #[.agg #[.int .i64 t571, .slice Ao42 t586.length co42], .int .i64 1] rfl (by (try simp only [List.map_toArray, List.map_cons, List.map_nil]); first | done | (rw [show t586.length = t572.length from (Kd.R_reads' HO_576001.out).1.symm] <;> rfl) | rfl | (simp only [List.length_drop, List.length_take]; rfl)) ?_; (with_reducible refine (laws_heldGrid.calls kj16 t571 _ _ t586 1 t598 _ ?side1 ?side2 A70.out).mono ?_); (case side1 => repeat (first | exact (Kd.R_reads' HO_576001.out).2.2 | (with_reducible refine Kd.C_alloc ?_ _) | (with_reducible refine Kd.C_drewN ?_ _) | (with_reducible refine Kd.C_drew ?_))); (case side2 => rw [show t586.length = t572.length from (Kd.R_reads' HO_576001.out).1.symm]; exact (Kd.R_reads' HO_576001.out).2.1); rintro e w97 ⟨rfl, hb⟩; refine ⟨_, rfl, ?_⟩; have n0_ := Aside0.mk (Kd.R_below (kR HO_566001.out) hb); have n1_ := Aside0.mk (Kd.R_below (kR HO_571001.out) hb); have n2_ := Aside0.mk (Kd.R_below (kR HO_576001.out) hb); have n3_ := Aside0.mk (Kd.R_below (kR HO591.out) hb); have n4_ := Aside0.mk (Kd.R_below (kR HO595.out) hb); have n5_ := Aside0.mk (blk_below (bK BK555.out) hb); have n6_ := Aside0.mk (blk_below (bK BK565.out) hb); have n7_ := Aside0.mk (blk_below (bK BK570.out) hb); have n8_ := Aside0.mk (blk_below (bK BK575.out) hb); have n9_ := Aside0.mk (blk_below (bK BK596.out) hb); have n10_ := Aside0.mk (below_step (by repeat (first | (with_reducible first | exact HB.out | apply below_alloc | apply pw_below_drewN | apply below_drew1 | refine below_set ?_ GE555.out | refine below_set ?_ GE565.out | refine below_set ?_ GE570.out | refine below_set ?_ GE575.out | refine below_set ?_ GE596.out) | exact HB.out)) hb); clear HO_566001; clear HO_571001; clear HO_576001; clear HO591; clear HO595; clear BK555; clear BK565; clear BK570; clear BK575; clear BK596; clear HB; have HO_566001 := n0_; have HO_571001 := n1_; have HO_576001 := n2_; have HO591 := n3_; have HO595 := n4_; have BK555 := n5_; have BK565 := n6_; have BK570 := n7_; have BK575 := n8_; have BK596 := n9_; have HB := n10_; clear n0_ n1_ n2_ n3_ n4_ n5_ n6_ n7_ n8_ n9_ n10_; (try clear hb); (try clear hb2); (try clear hk); (try clear hi)))
            go_ret
            exact ⟨by first | rfl | (simp [errW_none, errW_some] <;> rfl) | (simp [*, errW_none, errW_some] <;> rfl) | (exfalso; simp_all; done), by repeat (first | (with_reducible first | exact HB.out | apply below_alloc | apply pw_below_drewN | apply below_drew1 | refine below_set ?_ GE555.out | refine below_set ?_ GE565.out | refine below_set ?_ GE570.out | refine below_set ?_ GE575.out | refine below_set ?_ GE596.out) | exact HB.out)⟩
           ·rw [if_neg c72] at H
            have c72b0 : (t598 == t585) = false := beq_eq_false_iff_ne.mpr c72
            have c72b1 : (t598 != t585) = true := bne_iff_ne.mpr c72
            obtain rfl := Option.some.inj H
            exact absurd HRT.out (by decide)
         ·replace c69 := Bool.eq_false_iff.mpr c69
          subst c69
          have H1 : (some false) = some r := by rw [if_neg (show ¬ (false = true) by decide)] at H; exact H
          clear H
          have H := H1
          clear H1
          obtain rfl := Option.some.inj H
          exact absurd HRT.out (by decide)
        ·rw [if_neg c65] at H
         have c65b0 : (t587 == t585) = false := beq_eq_false_iff_ne.mpr c65
         have c65b1 : (t587 != t585) = true := bne_iff_ne.mpr c65
         obtain rfl := Option.some.inj H
         exact absurd HRT.out (by decide)
   ·replace c15 := Bool.eq_false_iff.mpr c15
    subst c15
    have H1 : (some false) = some r := by rw [if_neg (show ¬ (false = true) by decide)] at H; exact H
    clear H
    have H := H1
    clear H1
    obtain rfl := Option.some.inj H
    exact absurd HRT.out (by decide)
  ·replace c12 := Bool.eq_false_iff.mpr c12
   subst c12
   have H1 : (some false) = some r := by rw [if_neg (show ¬ (false = true) by decide)] at H; exact H
   clear H
   have H := H1
   clear H1
   obtain rfl := Option.some.inj H
   exact absurd HRT.out (by decide)

end Go.Proofs.Ytniaipoelaefnaa.P
