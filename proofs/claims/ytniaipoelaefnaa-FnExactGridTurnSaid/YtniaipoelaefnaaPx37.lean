/- PROVED: contracts of functions of the program, the reference and the statements; written by this session's driver (pk.py) through its own changed copy of the kit's print. No condition. -/
import Derived.Test.YtniaipoelaefnaaPx0
import Derived.Test.YtniaipoelaefnaaPx1
import Derived.Test.YtniaipoelaefnaaPx3
import Derived.Test.YtniaipoelaefnaaPx4
import Derived.Test.YtniaipoelaefnaaPx20
import Derived.Test.YtniaipoelaefnaaH3Turn
namespace Go.Proofs.Ytniaipoelaefnaa.P
open Go.RowKit Go.Proofs.YtniaipoelaefnaaW.PrintWords Go.Proofs.YtniaipoelaefnaaW.PrintLast Go.Proofs.YtniaipoelaefnaaW.PrintMore
attribute [local go_sem] max2_int min2_int max_two min_two max_three min_three max_four min_four   -- for this text's walks alone
set_option linter.unusedVariables false
set_option linter.unusedSimpArgs false

/-! ### laws_FnExactGridTurn: function 14 -/
def laws_FnExactGridTurn.j0 : Nat → Bool → Int → List (S45) → Int → List (S48) → Int → List (S48) → Option (Bool)
 | 0, _, _, _, _, _, _, _ => none
 | k + 1, x42, x615000, x615001, x625000, x625001, x635000, x635001 => if x42 = true then (some false) else ((laws_markGrid.f k x635000 x635001 1).bind fun bt644 => ((laws_heldGrid.f k x635000 bt644.2 1).bind fun t646 => (if t646 < 0 then (some false) else (if t646 = bt644.1 then ((laws_toGrid.f k x615000 x615001).bind fun bt647 => ((impl_GridTurn.f bt647.1 bt647.2).bind fun bt651 => ((laws_eqGrid.f k bt651.1 bt651.2 x625000 x625001).bind fun t656 => (if t656 = true then ((laws_heldGrid.f k x635000 bt644.2 1).bind fun t657 => (if t657 < 0 then (some false) else (if t657 = bt644.1 then (some true) else (some false)))) else (some false))))) else (some false)))))
def laws_FnExactGridTurn.f (k : Nat) (a0_0 : Int) (l0_1 : List (S45)) : Option (Bool) := (laws_szGrid.f a0_0 l0_1 1048576).bind fun t615 => (if t615 < 0 then (some true) else ((laws_toGrid.f k a0_0 l0_1).bind fun bt616 => ((spec_GridTurn.f k bt616.1 bt616.2).bind fun bt620 => ((laws_toGrid.f k a0_0 l0_1).bind fun bt625 => ((impl_GridTurn.f bt625.1 bt625.2).bind fun bt630 => ((laws_eqGrid.f k bt630.1 bt630.2 bt620.1 bt620.2).bind fun t635 => (if t635 = true then ((laws_toGrid.f k a0_0 l0_1).bind fun bt636 => ((laws_eqGrid.f k bt625.1 bt625.2 bt636.1 bt636.2).bind fun t640 => (if t640 = true then ((laws_markGrid.f k bt625.1 bt625.2 1).bind fun bt641 => (if bt641.1 < 0 then (laws_FnExactGridTurn.j0 k true a0_0 l0_1 bt620.1 bt620.2 bt630.1 bt630.2) else ((laws_eqGrid.f k bt630.1 bt630.2 bt620.1 bt620.2).bind fun t643 => (laws_FnExactGridTurn.j0 k (!t643) a0_0 l0_1 bt620.1 bt620.2 bt630.1 bt630.2)))) else (some false)))) else (some false))))))))
theorem laws_FnExactGridTurn.mono_l : ∀ k, (∀ y0 y1 y2 y3 y4 y5 y6, LeO (laws_FnExactGridTurn.j0 k y0 y1 y2 y3 y4 y5 y6) (laws_FnExactGridTurn.j0 (k + 1) y0 y1 y2 y3 y4 y5 y6))
 | 0 => fun _ _ _ _ _ _ _ r h => by simp [laws_FnExactGridTurn.j0] at h
 | k + 1 => by
  have ih0 := laws_FnExactGridTurn.mono_l k
  ·intro y0 y1 y2 y3 y4 y5 y6
   unfold laws_FnExactGridTurn.j0
   repeat' first
   | (with_reducible exact ih0 _ _ _ _ _ _ _)
   | (with_reducible exact laws_eqGrid.mono _ _ _ _ _)
   | (with_reducible exact laws_heldGrid.mono _ _ _ _)
   | (with_reducible exact laws_markGrid.mono _ _ _ _)
   | (with_reducible exact laws_toGrid.mono _ _ _)
   | (with_reducible exact spec_GridTurn.mono _ _ _)
   | (with_reducible exact LeO.refl _)
   | (with_reducible exact LeO.none _)
   | (with_reducible refine LeO.ite ?_ ?_)
   | (with_reducible refine LeO.bind ?_ (fun _ => ?_))
   | exact ih0 _ _ _ _ _ _ _
   | exact laws_eqGrid.mono _ _ _ _ _
   | exact laws_heldGrid.mono _ _ _ _
   | exact laws_markGrid.mono _ _ _ _
   | exact laws_toGrid.mono _ _ _
   | exact spec_GridTurn.mono _ _ _
   | exact LeO.none _
   | refine LeO.ite ?_ ?_
   | refine LeO.bind ?_ (fun _ => ?_)
theorem laws_FnExactGridTurn.mono : ∀ a0 a1 k, LeO (laws_FnExactGridTurn.f k a0 a1) (laws_FnExactGridTurn.f (k + 1) a0 a1) := by
 intro a0 a1 k
 have ih0 := laws_FnExactGridTurn.mono_l k
 unfold laws_FnExactGridTurn.f
 repeat' first
   | (with_reducible exact ih0 _ _ _ _ _ _ _)
   | (with_reducible exact laws_eqGrid.mono _ _ _ _ _)
   | (with_reducible exact laws_heldGrid.mono _ _ _ _)
   | (with_reducible exact laws_markGrid.mono _ _ _ _)
   | (with_reducible exact laws_toGrid.mono _ _ _)
   | (with_reducible exact spec_GridTurn.mono _ _ _)
   | (with_reducible exact LeO.refl _)
   | (with_reducible exact LeO.none _)
   | (with_reducible refine LeO.ite ?_ ?_)
   | (with_reducible refine LeO.bind ?_ (fun _ => ?_))
   | exact ih0 _ _ _ _ _ _ _
   | exact laws_eqGrid.mono _ _ _ _ _
   | exact laws_heldGrid.mono _ _ _ _
   | exact laws_markGrid.mono _ _ _ _
   | exact laws_toGrid.mono _ _ _
   | exact spec_GridTurn.mono _ _ _
   | exact LeO.none _
   | refine LeO.ite ?_ ?_
   | refine LeO.bind ?_ (fun _ => ?_)
set_option maxHeartbeats 8000000 in
set_option maxRecDepth 100000 in
theorem laws_FnExactGridTurn.calls (k : Nat) (a0_0 : Int) (A0_1 : Option Addr) (c0_1 : Nat) (l0_1 : List (S45)) (r : Bool) (w : World) (hr0_1 : Kd.C k45 w A0_1 l0_1.length l0_1) (hc0_1 : l0_1.length ≤ c0_1) (h : laws_FnExactGridTurn.f k a0_0 l0_1 = some r) (hrt : r = true) :
  Calls Try.prog 14 #[.agg #[.int .i64 a0_0, .slice A0_1 l0_1.length c0_1]] w fun e w' => e = .returned (.bool r) ∧ Below w.heap.size w w' := by
 have HRT := Aside0.mk hrt
 clear hrt
 have hu24 := Try.underlying24
 have hu29 := Try.underlying29
 have HR0_1 := Aside0.mk hr0_1
 have HC0_1 := Aside0.mk hc0_1
 clear hr0_1 hc0_1
 have HB := Aside0.mk (Below.refl w.heap.size w)
 have H : ((laws_szGrid.f a0_0 l0_1 1048576).bind fun t615 => (if t615 < 0 then (some true) else ((laws_toGrid.f k a0_0 l0_1).bind fun bt616 => ((spec_GridTurn.f k bt616.1 bt616.2).bind fun bt620 => ((laws_toGrid.f k a0_0 l0_1).bind fun bt625 => ((impl_GridTurn.f bt625.1 bt625.2).bind fun bt630 => ((laws_eqGrid.f k bt630.1 bt630.2 bt620.1 bt620.2).bind fun t635 => (if t635 = true then ((laws_toGrid.f k a0_0 l0_1).bind fun bt636 => ((laws_eqGrid.f k bt625.1 bt625.2 bt636.1 bt636.2).bind fun t640 => (if t640 = true then ((laws_markGrid.f k bt625.1 bt625.2 1).bind fun bt641 => (if bt641.1 < 0 then (laws_FnExactGridTurn.j0 k true a0_0 l0_1 bt620.1 bt620.2 bt630.1 bt630.2) else ((laws_eqGrid.f k bt630.1 bt630.2 bt620.1 bt620.2).bind fun t643 => (laws_FnExactGridTurn.j0 k (!t643) a0_0 l0_1 bt620.1 bt620.2 bt630.1 bt630.2)))) else (some false)))) else (some false))))))))) = some r := h
 clear h
 replace H := Option.bind_eq_some_iff.mp H
 obtain ⟨t615, A20, H⟩ := H
 replace H : (if t615 < 0 then (some true) else ((laws_toGrid.f k a0_0 l0_1).bind fun bt616 => ((spec_GridTurn.f k bt616.1 bt616.2).bind fun bt620 => ((laws_toGrid.f k a0_0 l0_1).bind fun bt625 => ((impl_GridTurn.f bt625.1 bt625.2).bind fun bt630 => ((laws_eqGrid.f k bt630.1 bt630.2 bt620.1 bt620.2).bind fun t635 => (if t635 = true then ((laws_toGrid.f k a0_0 l0_1).bind fun bt636 => ((laws_eqGrid.f k bt625.1 bt625.2 bt636.1 bt636.2).bind fun t640 => (if t640 = true then ((laws_markGrid.f k bt625.1 bt625.2 1).bind fun bt641 => (if bt641.1 < 0 then (laws_FnExactGridTurn.j0 k true a0_0 l0_1 bt620.1 bt620.2 bt630.1 bt630.2) else ((laws_eqGrid.f k bt630.1 bt630.2 bt620.1 bt620.2).bind fun t643 => (laws_FnExactGridTurn.j0 k (!t643) a0_0 l0_1 bt620.1 bt620.2 bt630.1 bt630.2)))) else (some false)))) else (some false)))))))) = some r := H
 have A2 := Aside0.mk A20
 clear A20
 by_cases c3 : t615 < 0
 ·rw [if_pos c3] at H
  have c3b0 : decide (t615 < 0) = true := decide_eq_true c3
  clear c3
  obtain rfl := Option.some.inj H
  go_enter Try.func14, Try.ntmps14
  go_wp2_with (first | ((with_reducible refine gate_dst (N := 1) rfl ?_); refine box_event ?hg (N := 1) ?hd (cs := #[.int .i64 a0_0, .slice A0_1 l0_1.length c0_1]) (t := 24) ?hr ?_; (case hd => rfl); (case hg => rfl); (case hr => first | (go_simp; done) | (go_simp; rfl)); intro gb614 hg w4 hbox hb; have n0_ := Aside0.mk (below_step (by repeat (first | (with_reducible first | exact HB.out | apply below_alloc | apply pw_below_drewN | apply below_drew1) | exact HB.out)) hb); have n1_ := Aside0.mk (hbox); have n2_ := Aside0.mk ((by rw [hg]; exact (below_size (by repeat (first | (with_reducible first | exact HB.out | apply below_alloc | apply pw_below_drewN | apply below_drew1) | exact HB.out))) : w.heap.size ≤ gb614)); have n3_ := Aside0.mk ((by rw [hg]; exact (below_size (by repeat (first | (with_reducible first | exact HB.out | apply below_alloc | apply pw_below_drewN | apply below_drew1) | exact HB.out))) : w.heap.size ≤ gb614)); clear HB; have HB := n0_; have BK614 := n1_; have GW614 := n2_; have GE614 := n3_; clear n0_ n1_ n2_ n3_; clear hb hbox hg; have hcz5_0 : w4.cell? ⟨gb614, 0, none⟩ = some (.int .i64 a0_0) := (blk_cell BK614.out 0).trans rfl; have hcz5_1 : w4.cell? ⟨gb614, 1, none⟩ = some (.slice A0_1 l0_1.length c0_1) := (blk_cell BK614.out 1).trans rfl; have hfz5_0 := blk_frozen BK614.out 0; have hfz5_1 := blk_frozen BK614.out 1) | ((with_reducible refine gate_callee (f := 15) rfl ?_); refine goesL_ (some 13) rfl rfl Try.func15 (by kernel_rfl) rfl #[.agg #[.int .i64 a0_0, .slice A0_1 l0_1.length c0_1], .int .i64 1048576] rfl (by (try simp only [List.map_toArray, List.map_cons, List.map_nil]); first | done | rfl | (simp only [List.length_drop, List.length_take]; rfl)) ?_; (with_reducible refine (laws_szGrid.calls a0_0 _ _ l0_1 1048576 t615 _ ?side1 ?side2 A2.out).mono ?_); (case side1 => repeat (first | exact (Kd.C_below HR0_1.out HB.out) | (with_reducible refine Kd.C_alloc ?_ _) | (with_reducible refine Kd.C_drewN ?_ _) | (with_reducible refine Kd.C_drew ?_))); (case side2 => exact HC0_1.out); rintro e w6 ⟨rfl, hb⟩; refine ⟨_, rfl, ?_⟩; have n0_ := Aside0.mk (blk_below (bK BK614.out) hb); have n1_ := Aside0.mk (below_step (by repeat (first | (with_reducible first | exact HB.out | apply below_alloc | apply pw_below_drewN | apply below_drew1 | refine below_set ?_ GE614.out) | exact HB.out)) hb); clear BK614; clear HB; have BK614 := n0_; have HB := n1_; clear n0_ n1_; (try clear hb); (try clear hb2); (try clear hk); (try clear hi)))
  go_ret
  exact ⟨by first | rfl | (simp [errW_none, errW_some] <;> rfl) | (simp [*, errW_none, errW_some] <;> rfl) | (exfalso; simp_all; done), by repeat (first | (with_reducible first | exact HB.out | apply below_alloc | apply pw_below_drewN | apply below_drew1 | refine below_set ?_ GE614.out) | exact HB.out)⟩
 ·rw [if_neg c3] at H
  have c3b0 : decide (t615 < 0) = false := decide_eq_false c3
  clear c3
  replace H := Option.bind_eq_some_iff.mp H
  obtain ⟨⟨t616, t617⟩, A70, H⟩ := H
  replace H : ((spec_GridTurn.f k t616 t617).bind fun bt620 => ((laws_toGrid.f k a0_0 l0_1).bind fun bt625 => ((impl_GridTurn.f bt625.1 bt625.2).bind fun bt630 => ((laws_eqGrid.f k bt630.1 bt630.2 bt620.1 bt620.2).bind fun t635 => (if t635 = true then ((laws_toGrid.f k a0_0 l0_1).bind fun bt636 => ((laws_eqGrid.f k bt625.1 bt625.2 bt636.1 bt636.2).bind fun t640 => (if t640 = true then ((laws_markGrid.f k bt625.1 bt625.2 1).bind fun bt641 => (if bt641.1 < 0 then (laws_FnExactGridTurn.j0 k true a0_0 l0_1 bt620.1 bt620.2 bt630.1 bt630.2) else ((laws_eqGrid.f k bt630.1 bt630.2 bt620.1 bt620.2).bind fun t643 => (laws_FnExactGridTurn.j0 k (!t643) a0_0 l0_1 bt620.1 bt620.2 bt630.1 bt630.2)))) else (some false)))) else (some false)))))) = some r := H
  have A7 := Aside0.mk A70
  clear A70
  replace H := Option.bind_eq_some_iff.mp H
  obtain ⟨⟨t620, t621⟩, A80, H⟩ := H
  replace H : ((laws_toGrid.f k a0_0 l0_1).bind fun bt625 => ((impl_GridTurn.f bt625.1 bt625.2).bind fun bt630 => ((laws_eqGrid.f k bt630.1 bt630.2 t620 t621).bind fun t635 => (if t635 = true then ((laws_toGrid.f k a0_0 l0_1).bind fun bt636 => ((laws_eqGrid.f k bt625.1 bt625.2 bt636.1 bt636.2).bind fun t640 => (if t640 = true then ((laws_markGrid.f k bt625.1 bt625.2 1).bind fun bt641 => (if bt641.1 < 0 then (laws_FnExactGridTurn.j0 k true a0_0 l0_1 t620 t621 bt630.1 bt630.2) else ((laws_eqGrid.f k bt630.1 bt630.2 t620 t621).bind fun t643 => (laws_FnExactGridTurn.j0 k (!t643) a0_0 l0_1 t620 t621 bt630.1 bt630.2)))) else (some false)))) else (some false))))) = some r := H
  have A8 := Aside0.mk A80
  clear A80
  replace H := Option.bind_eq_some_iff.mp H
  obtain ⟨⟨t625, t626⟩, A90, H⟩ := H
  replace H : ((impl_GridTurn.f t625 t626).bind fun bt630 => ((laws_eqGrid.f k bt630.1 bt630.2 t620 t621).bind fun t635 => (if t635 = true then ((laws_toGrid.f k a0_0 l0_1).bind fun bt636 => ((laws_eqGrid.f k t625 t626 bt636.1 bt636.2).bind fun t640 => (if t640 = true then ((laws_markGrid.f k t625 t626 1).bind fun bt641 => (if bt641.1 < 0 then (laws_FnExactGridTurn.j0 k true a0_0 l0_1 t620 t621 bt630.1 bt630.2) else ((laws_eqGrid.f k bt630.1 bt630.2 t620 t621).bind fun t643 => (laws_FnExactGridTurn.j0 k (!t643) a0_0 l0_1 t620 t621 bt630.1 bt630.2)))) else (some false)))) else (some false)))) = some r := H
  have A9 := Aside0.mk A90
  clear A90
  replace H := Option.bind_eq_some_iff.mp H
  obtain ⟨⟨t630, t631⟩, A100, H⟩ := H
  replace H : ((laws_eqGrid.f k t630 t631 t620 t621).bind fun t635 => (if t635 = true then ((laws_toGrid.f k a0_0 l0_1).bind fun bt636 => ((laws_eqGrid.f k t625 t626 bt636.1 bt636.2).bind fun t640 => (if t640 = true then ((laws_markGrid.f k t625 t626 1).bind fun bt641 => (if bt641.1 < 0 then (laws_FnExactGridTurn.j0 k true a0_0 l0_1 t620 t621 t630 t631) else ((laws_eqGrid.f k t630 t631 t620 t621).bind fun t643 => (laws_FnExactGridTurn.j0 k (!t643) a0_0 l0_1 t620 t621 t630 t631)))) else (some false)))) else (some false))) = some r := H
  have A10 := Aside0.mk A100
  clear A100
  replace H := Option.bind_eq_some_iff.mp H
  obtain ⟨t635, A110, H⟩ := H
  replace H : (if t635 = true then ((laws_toGrid.f k a0_0 l0_1).bind fun bt636 => ((laws_eqGrid.f k t625 t626 bt636.1 bt636.2).bind fun t640 => (if t640 = true then ((laws_markGrid.f k t625 t626 1).bind fun bt641 => (if bt641.1 < 0 then (laws_FnExactGridTurn.j0 k true a0_0 l0_1 t620 t621 t630 t631) else ((laws_eqGrid.f k t630 t631 t620 t621).bind fun t643 => (laws_FnExactGridTurn.j0 k (!t643) a0_0 l0_1 t620 t621 t630 t631)))) else (some false)))) else (some false)) = some r := H
  have A11 := Aside0.mk A110
  clear A110
  by_cases c12 : t635 = true
  ·subst c12
   have H1 : ((laws_toGrid.f k a0_0 l0_1).bind fun bt636 => ((laws_eqGrid.f k t625 t626 bt636.1 bt636.2).bind fun t640 => (if t640 = true then ((laws_markGrid.f k t625 t626 1).bind fun bt641 => (if bt641.1 < 0 then (laws_FnExactGridTurn.j0 k true a0_0 l0_1 t620 t621 t630 t631) else ((laws_eqGrid.f k t630 t631 t620 t621).bind fun t643 => (laws_FnExactGridTurn.j0 k (!t643) a0_0 l0_1 t620 t621 t630 t631)))) else (some false)))) = some r := by rw [if_pos rfl] at H; exact H
   clear H
   have H := H1
   clear H1
   replace H := Option.bind_eq_some_iff.mp H
   obtain ⟨⟨t636, t637⟩, A130, H⟩ := H
   replace H : ((laws_eqGrid.f k t625 t626 t636 t637).bind fun t640 => (if t640 = true then ((laws_markGrid.f k t625 t626 1).bind fun bt641 => (if bt641.1 < 0 then (laws_FnExactGridTurn.j0 k true a0_0 l0_1 t620 t621 t630 t631) else ((laws_eqGrid.f k t630 t631 t620 t621).bind fun t643 => (laws_FnExactGridTurn.j0 k (!t643) a0_0 l0_1 t620 t621 t630 t631)))) else (some false))) = some r := H
   have A13 := Aside0.mk A130
   clear A130
   replace H := Option.bind_eq_some_iff.mp H
   obtain ⟨t640, A140, H⟩ := H
   replace H : (if t640 = true then ((laws_markGrid.f k t625 t626 1).bind fun bt641 => (if bt641.1 < 0 then (laws_FnExactGridTurn.j0 k true a0_0 l0_1 t620 t621 t630 t631) else ((laws_eqGrid.f k t630 t631 t620 t621).bind fun t643 => (laws_FnExactGridTurn.j0 k (!t643) a0_0 l0_1 t620 t621 t630 t631)))) else (some false)) = some r := H
   have A14 := Aside0.mk A140
   clear A140
   by_cases c15 : t640 = true
   ·subst c15
    have H1 : ((laws_markGrid.f k t625 t626 1).bind fun bt641 => (if bt641.1 < 0 then (laws_FnExactGridTurn.j0 k true a0_0 l0_1 t620 t621 t630 t631) else ((laws_eqGrid.f k t630 t631 t620 t621).bind fun t643 => (laws_FnExactGridTurn.j0 k (!t643) a0_0 l0_1 t620 t621 t630 t631)))) = some r := by rw [if_pos rfl] at H; exact H
    clear H
    have H := H1
    clear H1
    replace H := Option.bind_eq_some_iff.mp H
    obtain ⟨⟨t641, t642⟩, A160, H⟩ := H
    replace H : (if t641 < 0 then (laws_FnExactGridTurn.j0 k true a0_0 l0_1 t620 t621 t630 t631) else ((laws_eqGrid.f k t630 t631 t620 t621).bind fun t643 => (laws_FnExactGridTurn.j0 k (!t643) a0_0 l0_1 t620 t621 t630 t631))) = some r := H
    have A16 := Aside0.mk A160
    clear A160
    have HC17 := Aside0.mk H
    clear H
    go_enter Try.func14, Try.ntmps14
    try go_wp2_with (first | ((with_reducible refine gate_dst (N := 1) rfl ?_); refine box_event ?hg (N := 1) ?hd (cs := #[.int .i64 a0_0, .slice A0_1 l0_1.length c0_1]) (t := 24) ?hr ?_; (case hd => rfl); (case hg => rfl); (case hr => first | (go_simp; done) | (go_simp; rfl)); intro gb614 hg w18 hbox hb; have n0_ := Aside0.mk (below_step (by repeat (first | (with_reducible first | exact HB.out | apply below_alloc | apply pw_below_drewN | apply below_drew1) | exact HB.out)) hb); have n1_ := Aside0.mk (hbox); have n2_ := Aside0.mk ((by rw [hg]; exact (below_size (by repeat (first | (with_reducible first | exact HB.out | apply below_alloc | apply pw_below_drewN | apply below_drew1) | exact HB.out))) : w.heap.size ≤ gb614)); have n3_ := Aside0.mk ((by rw [hg]; exact (below_size (by repeat (first | (with_reducible first | exact HB.out | apply below_alloc | apply pw_below_drewN | apply below_drew1) | exact HB.out))) : w.heap.size ≤ gb614)); clear HB; have HB := n0_; have BK614 := n1_; have GW614 := n2_; have GE614 := n3_; clear n0_ n1_ n2_ n3_; clear hb hbox hg; have hcz19_0 : w18.cell? ⟨gb614, 0, none⟩ = some (.int .i64 a0_0) := (blk_cell BK614.out 0).trans rfl; have hcz19_1 : w18.cell? ⟨gb614, 1, none⟩ = some (.slice A0_1 l0_1.length c0_1) := (blk_cell BK614.out 1).trans rfl; have hfz19_0 := blk_frozen BK614.out 0; have hfz19_1 := blk_frozen BK614.out 1) | ((with_reducible refine gate_callee (f := 15) rfl ?_); refine goesL_ (some 13) rfl rfl Try.func15 (by kernel_rfl) rfl #[.agg #[.int .i64 a0_0, .slice A0_1 l0_1.length c0_1], .int .i64 1048576] rfl (by (try simp only [List.map_toArray, List.map_cons, List.map_nil]); first | done | rfl | (simp only [List.length_drop, List.length_take]; rfl)) ?_; (with_reducible refine (laws_szGrid.calls a0_0 _ _ l0_1 1048576 t615 _ ?side1 ?side2 A2.out).mono ?_); (case side1 => repeat (first | exact (Kd.C_below HR0_1.out HB.out) | (with_reducible refine Kd.C_alloc ?_ _) | (with_reducible refine Kd.C_drewN ?_ _) | (with_reducible refine Kd.C_drew ?_))); (case side2 => exact HC0_1.out); rintro e w20 ⟨rfl, hb⟩; refine ⟨_, rfl, ?_⟩; have n0_ := Aside0.mk (blk_below (bK BK614.out) hb); have n1_ := Aside0.mk (below_step (by repeat (first | (with_reducible first | exact HB.out | apply below_alloc | apply pw_below_drewN | apply below_drew1 | refine below_set ?_ GE614.out) | exact HB.out)) hb); clear BK614; clear HB; have BK614 := n0_; have HB := n1_; clear n0_ n1_; (try clear hb); (try clear hb2); (try clear hk); (try clear hi); have hcz21_0 : w20.cell? ⟨gb614, 0, none⟩ = some (.int .i64 a0_0) := (blk_cell BK614.out 0).trans rfl; have hcz21_1 : w20.cell? ⟨gb614, 1, none⟩ = some (.slice A0_1 l0_1.length c0_1) := (blk_cell BK614.out 1).trans rfl; have hfz21_0 := blk_frozen BK614.out 0; have hfz21_1 := blk_frozen BK614.out 1) | ((with_reducible refine gate_callee (f := 17) rfl ?_); refine goesL_ (some 17) rfl rfl Try.func17 (by kernel_rfl) rfl #[.agg #[.int .i64 a0_0, .slice A0_1 l0_1.length c0_1]] rfl (by (try simp only [List.map_toArray, List.map_cons, List.map_nil]); first | done | rfl | (simp only [List.length_drop, List.length_take]; rfl)) ?_; (with_reducible refine (laws_toGrid.calls k a0_0 _ _ l0_1 t616 t617 _ ?side1 ?side2 A7.out).mono ?_); (case side1 => repeat (first | exact (Kd.C_below HR0_1.out HB.out) | (with_reducible refine Kd.C_alloc ?_ _) | (with_reducible refine Kd.C_drewN ?_ _) | (with_reducible refine Kd.C_drew ?_))); (case side2 => exact HC0_1.out); rintro e w22 ⟨v618, rfl, ho0, hb⟩; refine ⟨_, rfl, ?_⟩; have n0_ := Aside0.mk (Kd.R_lower ho0 (below_size (by repeat (first | (with_reducible first | exact HB.out | apply below_alloc | apply pw_below_drewN | apply below_drew1 | refine below_set ?_ GE614.out) | exact HB.out)))); have n1_ := Aside0.mk (blk_below (bK BK614.out) hb); have n2_ := Aside0.mk (below_step (by repeat (first | (with_reducible first | exact HB.out | apply below_alloc | apply pw_below_drewN | apply below_drew1 | refine below_set ?_ GE614.out) | exact HB.out)) hb); clear BK614; clear HB; have HO619 := n0_; have BK614 := n1_; have HB := n2_; clear n0_ n1_ n2_; (try clear hb); (try clear hb2); (try clear hk); (try clear hi); (try clear ho0); obtain ⟨Ao23, co23, eo23⟩ := Kd.R_slice HO619.out; subst eo23) | ((with_reducible refine gate_callee (f := 44) rfl ?_); refine goesL_ (some 18) rfl rfl Try.func44 (by kernel_rfl) rfl #[.agg #[.int .i64 t616, .slice Ao23 t617.length co23]] rfl (by (try simp only [List.map_toArray, List.map_cons, List.map_nil]); first | done | rfl | (simp only [List.length_drop, List.length_take]; rfl)) ?_; (with_reducible refine (spec_GridTurn.calls k t616 _ _ t617 t620 t621 _ ?side1 ?side2 A8.out).mono ?_); (case side1 => repeat (first | exact (Kd.R_reads' HO619.out).2.2 | (with_reducible refine Kd.C_alloc ?_ _) | (with_reducible refine Kd.C_drewN ?_ _) | (with_reducible refine Kd.C_drew ?_))); (case side2 => exact (Kd.R_reads' HO619.out).2.1); rintro e w24 ⟨v622, rfl, ho0, hb⟩; refine ⟨_, rfl, ?_⟩; have n0_ := Aside0.mk (Kd.R_elder' (kR HO619.out) (Kd.R_base ho0) hb); have n1_ := Aside0.mk (Kd.R_lower (Kd.R_new' ho0 (Kd.R_lt (kR HO619.out))) (below_size (by repeat (first | (with_reducible first | exact HB.out | apply below_alloc | apply pw_below_drewN | apply below_drew1 | refine below_set ?_ GE614.out) | exact HB.out)))); have n2_ := Aside0.mk (blk_below (bK BK614.out) hb); have n3_ := Aside0.mk (below_step (by repeat (first | (with_reducible first | exact HB.out | apply below_alloc | apply pw_below_drewN | apply below_drew1 | refine below_set ?_ GE614.out) | exact HB.out)) hb); clear HO619; clear BK614; clear HB; have HO619 := n0_; have HO623 := n1_; have BK614 := n2_; have HB := n3_; clear n0_ n1_ n2_ n3_; (try clear hb); (try clear hb2); (try clear hk); (try clear hi); (try clear ho0)) | ((with_reducible refine gate_dst (N := 4) rfl ?_); refine box_event ?hg (N := 4) ?hd (cs := #[.int .i64 0, .slice none 0 0]) (t := 29) ?hr ?_; (case hd => rfl); (case hg => rfl); (case hr => first | (go_simp; done) | (go_simp; rfl)); intro gb624 hg w25 hbox hb; have n0_ := Aside0.mk (Kd.R_below (kR HO619.out) hb); have n1_ := Aside0.mk (Kd.R_below (kR HO623.out) hb); have n2_ := Aside0.mk (blk_below (bK BK614.out) hb); have n3_ := Aside0.mk (below_step (by repeat (first | (with_reducible first | exact HB.out | apply below_alloc | apply pw_below_drewN | apply below_drew1 | refine below_set ?_ GE614.out) | exact HB.out)) hb); have n4_ := Aside0.mk (hbox); have n5_ := Aside0.mk ((by rw [hg]; exact (below_size (by repeat (first | (with_reducible first | exact HB.out | apply below_alloc | apply pw_below_drewN | apply below_drew1 | refine below_set ?_ GE614.out) | exact HB.out))) : w.heap.size ≤ gb624)); have n6_ := Aside0.mk ((by rw [hg]; exact (below_size (by repeat (first | (with_reducible first | exact HB.out | apply below_alloc | apply pw_below_drewN | apply below_drew1 | refine below_set ?_ GE614.out) | exact HB.out))) : w.heap.size ≤ gb624)); have n7_ := Aside0.mk ((by rw [hg]; exact Nat.ne_of_lt (blk_lt (bK BK614.out)) : gb614 ≠ gb624)); have n8_ := Aside0.mk ((by rw [hg]; exact Nat.ne_of_gt (blk_lt (bK BK614.out)) : gb624 ≠ gb614)); clear HO619; clear HO623; clear BK614; clear HB; have HO619 := n0_; have HO623 := n1_; have BK614 := n2_; have HB := n3_; have BK624 := n4_; have GW624 := n5_; have GE624 := n6_; have NB614_624 := n7_; have NB624_614 := n8_; clear n0_ n1_ n2_ n3_ n4_ n5_ n6_ n7_ n8_; clear hb hbox hg; have hnb26 := NB624_614.out; have hnc26 := NB614_624.out; have hcz27_0 : w25.cell? ⟨gb624, 0, none⟩ = some (.int .i64 0) := (blk_cell BK624.out 0).trans rfl; have hcz27_1 : w25.cell? ⟨gb624, 1, none⟩ = some (.slice none 0 0) := (blk_cell BK624.out 1).trans rfl; have hfz27_0 := blk_frozen BK624.out 0; have hfz27_1 := blk_frozen BK624.out 1; obtain ⟨Ao28, co28, eo28⟩ := Kd.R_slice HO623.out; subst eo28; have hcz29_0 : w25.cell? ⟨gb614, 0, none⟩ = some (.int .i64 a0_0) := (blk_cell BK614.out 0).trans rfl; have hcz29_1 : w25.cell? ⟨gb614, 1, none⟩ = some (.slice A0_1 l0_1.length c0_1) := (blk_cell BK614.out 1).trans rfl; have hfz29_0 := blk_frozen BK614.out 0; have hfz29_1 := blk_frozen BK614.out 1) | ((with_reducible refine gate_callee (f := 17) rfl ?_); refine goesL_ (some 20) rfl rfl Try.func17 (by kernel_rfl) rfl #[.agg #[.int .i64 a0_0, .slice A0_1 l0_1.length c0_1]] rfl (by (try simp only [List.map_toArray, List.map_cons, List.map_nil]); first | done | rfl | (simp only [List.length_drop, List.length_take]; rfl)) ?_; (with_reducible refine (laws_toGrid.calls k a0_0 _ _ l0_1 t625 t626 _ ?side1 ?side2 A9.out).mono ?_); (case side1 => exact Kd.C_below HR0_1.out (by repeat (first | (with_reducible first | exact HB.out | apply below_alloc | apply pw_below_drewN | apply below_drew1 | refine below_set ?_ GE614.out | refine below_set ?_ GE624.out) | exact HB.out))); (case side2 => exact HC0_1.out); rintro e w30 ⟨v627, rfl, ho0, hb⟩; refine ⟨_, rfl, ?_⟩; have n0_ := Aside0.mk (Kd.R_elder' (by (with_reducible repeat (first | apply Kd.R_alloc | apply Kd.R_drewN | apply Kd.R_drew)); exact (Kd.R_mono (Kd.R_far (p := ⟨gb624, 1, none⟩) (Kd.R_far (p := ⟨gb624, 0, none⟩) (Kd.R_types HO619.out BK624.out (by decide)) (fun _ hk => hk.2) (.int .i64 t620)) (fun _ hk => hk.2) (.slice Ao28 t621.length co28)) (fun _ h_ => h_.1))) (Kd.R_base ho0) hb); have n1_ := Aside0.mk (Kd.R_elder' (by (with_reducible repeat (first | apply Kd.R_alloc | apply Kd.R_drewN | apply Kd.R_drew)); exact (Kd.R_mono (Kd.R_far (p := ⟨gb624, 1, none⟩) (Kd.R_far (p := ⟨gb624, 0, none⟩) (Kd.R_types HO623.out BK624.out (by decide)) (fun _ hk => hk.2) (.int .i64 t620)) (fun _ hk => hk.2) (.slice Ao28 t621.length co28)) (fun _ h_ => h_.1))) (Kd.R_base ho0) hb); have n2_ := Aside0.mk (Kd.R_lower (Kd.R_new' (Kd.R_new' ho0 (Kd.R_lt (by (with_reducible repeat (first | apply Kd.R_alloc | apply Kd.R_drewN | apply Kd.R_drew)); exact (Kd.R_mono (Kd.R_far (p := ⟨gb624, 1, none⟩) (Kd.R_far (p := ⟨gb624, 0, none⟩) (Kd.R_types HO619.out BK624.out (by decide)) (fun _ hk => hk.2) (.int .i64 t620)) (fun _ hk => hk.2) (.slice Ao28 t621.length co28)) (fun _ h_ => h_.1))))) (Kd.R_lt (by (with_reducible repeat (first | apply Kd.R_alloc | apply Kd.R_drewN | apply Kd.R_drew)); exact (Kd.R_mono (Kd.R_far (p := ⟨gb624, 1, none⟩) (Kd.R_far (p := ⟨gb624, 0, none⟩) (Kd.R_types HO623.out BK624.out (by decide)) (fun _ hk => hk.2) (.int .i64 t620)) (fun _ hk => hk.2) (.slice Ao28 t621.length co28)) (fun _ h_ => h_.1))))) (below_size (by repeat (first | (with_reducible first | exact HB.out | apply below_alloc | apply pw_below_drewN | apply below_drew1 | refine below_set ?_ GE614.out | refine below_set ?_ GE624.out) | exact HB.out)))); have n3_ := Aside0.mk (blk_below (g := gb614) (o := .cells #[.int .i64 a0_0, .slice A0_1 l0_1.length c0_1] 24 (0, 0)) (by (with_reducible repeat (first | refine blk_drewN ?_ _ | refine blk_drew ?_ | refine blk_alloc ?_ _)); refine blk_far ?_ NB614_624.out _; (with_reducible repeat (first | refine blk_drewN ?_ _ | refine blk_drew ?_ | refine blk_alloc ?_ _)); refine blk_far ?_ NB614_624.out _; (with_reducible repeat (first | refine blk_drewN ?_ _ | refine blk_drew ?_ | refine blk_alloc ?_ _)); exact BK614.out) hb); have n4_ := Aside0.mk (blk_below (g := gb624) (o := .cells #[.int .i64 t620, .slice Ao28 t621.length co28] 29 (0, 0)) (by (with_reducible repeat (first | refine blk_drewN ?_ _ | refine blk_drew ?_ | refine blk_alloc ?_ _)); refine blk_put (cs := #[.int .i64 t620, .slice none 0 0]) ?_ 1 _ rfl; (with_reducible repeat (first | refine blk_drewN ?_ _ | refine blk_drew ?_ | refine blk_alloc ?_ _)); refine blk_put (cs := #[.int .i64 0, .slice none 0 0]) ?_ 0 _ rfl; (with_reducible repeat (first | refine blk_drewN ?_ _ | refine blk_drew ?_ | refine blk_alloc ?_ _)); exact BK624.out) hb); have n5_ := Aside0.mk (below_step (by repeat (first | (with_reducible first | exact HB.out | apply below_alloc | apply pw_below_drewN | apply below_drew1 | refine below_set ?_ GE614.out | refine below_set ?_ GE624.out) | exact HB.out)) hb); clear HO619; clear HO623; clear BK614; clear BK624; clear HB; have HO619 := n0_; have HO623 := n1_; have HO628 := n2_; have BK614 := n3_; have BK624 := n4_; have HB := n5_; clear n0_ n1_ n2_ n3_ n4_ n5_; (try clear hb); (try clear hb2); (try clear hk); (try clear hi); (try clear ho0)) | ((with_reducible refine gate_dst (N := 5) rfl ?_); refine box_event ?hg (N := 5) ?hd (cs := #[.int .i64 0, .slice none 0 0]) (t := 29) ?hr ?_; (case hd => rfl); (case hg => rfl); (case hr => first | (go_simp; done) | (go_simp; rfl)); intro gb629 hg w31 hbox hb; have n0_ := Aside0.mk (Kd.R_below (kR HO619.out) hb); have n1_ := Aside0.mk (Kd.R_below (kR HO623.out) hb); have n2_ := Aside0.mk (Kd.R_below (kR HO628.out) hb); have n3_ := Aside0.mk (blk_below (bK BK614.out) hb); have n4_ := Aside0.mk (blk_below (bK BK624.out) hb); have n5_ := Aside0.mk (below_step (by repeat (first | (with_reducible first | exact HB.out | apply below_alloc | apply pw_below_drewN | apply below_drew1 | refine below_set ?_ GE614.out | refine below_set ?_ GE624.out) | exact HB.out)) hb); have n6_ := Aside0.mk (hbox); have n7_ := Aside0.mk ((by rw [hg]; exact (below_size (by repeat (first | (with_reducible first | exact HB.out | apply below_alloc | apply pw_below_drewN | apply below_drew1 | refine below_set ?_ GE614.out | refine below_set ?_ GE624.out) | exact HB.out))) : w.heap.size ≤ gb629)); have n8_ := Aside0.mk ((by rw [hg]; exact (below_size (by repeat (first | (with_reducible first | exact HB.out | apply below_alloc | apply pw_below_drewN | apply below_drew1 | refine below_set ?_ GE614.out | refine below_set ?_ GE624.out) | exact HB.out))) : w.heap.size ≤ gb629)); have n9_ := Aside0.mk ((by rw [hg]; exact Nat.ne_of_lt (blk_lt (bK BK614.out)) : gb614 ≠ gb629)); have n10_ := Aside0.mk ((by rw [hg]; exact Nat.ne_of_gt (blk_lt (bK BK614.out)) : gb629 ≠ gb614)); have n11_ := Aside0.mk ((by rw [hg]; exact Nat.ne_of_lt (blk_lt (bK BK624.out)) : gb624 ≠ gb629)); have n12_ := Aside0.mk ((by rw [hg]; exact Nat.ne_of_gt (blk_lt (bK BK624.out)) : gb629 ≠ gb624)); clear HO619; clear HO623; clear HO628; clear BK614; clear BK624; clear HB; have HO619 := n0_; have HO623 := n1_; have HO628 := n2_; have BK614 := n3_; have BK624 := n4_; have HB := n5_; have BK629 := n6_; have GW629 := n7_; have GE629 := n8_; have NB614_629 := n9_; have NB629_614 := n10_; have NB624_629 := n11_; have NB629_624 := n12_; clear n0_ n1_ n2_ n3_ n4_ n5_ n6_ n7_ n8_ n9_ n10_ n11_ n12_; clear hb hbox hg; have hnb32 := NB629_614.out; have hnc32 := NB614_629.out; have hnb33 := NB629_624.out; have hnc33 := NB624_629.out; have hcz34_0 : w31.cell? ⟨gb629, 0, none⟩ = some (.int .i64 0) := (blk_cell BK629.out 0).trans rfl; have hcz34_1 : w31.cell? ⟨gb629, 1, none⟩ = some (.slice none 0 0) := (blk_cell BK629.out 1).trans rfl; have hfz34_0 := blk_frozen BK629.out 0; have hfz34_1 := blk_frozen BK629.out 1; obtain ⟨Ao35, co35, eo35⟩ := Kd.R_slice HO628.out; subst eo35) | ((with_reducible refine gate_callee (f := 45) rfl ?_); refine goesL_ (some 22) rfl rfl Try.func45 (by kernel_rfl) rfl #[.agg #[.int .i64 t625, .slice Ao35 t626.length co35]] rfl (by (try simp only [List.map_toArray, List.map_cons, List.map_nil]); first | done | rfl | (simp only [List.length_drop, List.length_take]; rfl)) ?_; (with_reducible refine (impl_GridTurn.calls t625 _ _ t626 t630 t631 _ ?side1 ?side2 A10.out).mono ?_); (case side1 => refine (Kd.R_reads' (e := 48) (base := w.heap.size) (ok := fun k_ => ((True ∧ some k_ ≠ (.slice Ao23 t617.length co23 : Value).ownBlock) ∧ some k_ ≠ (.slice Ao28 t621.length co28 : Value).ownBlock)) (n := t626.length) (c := co35) ?_).2.2; exact (by (with_reducible repeat (first | apply Kd.R_alloc | apply Kd.R_drewN | apply Kd.R_drew)); exact (Kd.R_mono (Kd.R_far (p := ⟨gb629, 1, none⟩) (Kd.R_far (p := ⟨gb629, 0, none⟩) (Kd.R_types HO628.out BK629.out (by decide)) (fun _ hk => hk.2) (.int .i64 t625)) (fun _ hk => hk.2) (.slice Ao35 t626.length co35)) (fun _ h_ => h_.1)))); (case side2 => exact (Kd.R_reads' HO628.out).2.1); rintro e w36 ⟨v632, rfl, ho0, hb⟩; refine ⟨_, rfl, ?_⟩; have n0_ := Aside0.mk (Kd.R_elder' (by (with_reducible repeat (first | apply Kd.R_alloc | apply Kd.R_drewN | apply Kd.R_drew)); exact (Kd.R_mono (Kd.R_far (p := ⟨gb629, 1, none⟩) (Kd.R_far (p := ⟨gb629, 0, none⟩) (Kd.R_types HO619.out BK629.out (by decide)) (fun _ hk => hk.2) (.int .i64 t625)) (fun _ hk => hk.2) (.slice Ao35 t626.length co35)) (fun _ h_ => h_.1))) (Kd.R_base ho0) hb); have n1_ := Aside0.mk (Kd.R_elder' (by (with_reducible repeat (first | apply Kd.R_alloc | apply Kd.R_drewN | apply Kd.R_drew)); exact (Kd.R_mono (Kd.R_far (p := ⟨gb629, 1, none⟩) (Kd.R_far (p := ⟨gb629, 0, none⟩) (Kd.R_types HO623.out BK629.out (by decide)) (fun _ hk => hk.2) (.int .i64 t625)) (fun _ hk => hk.2) (.slice Ao35 t626.length co35)) (fun _ h_ => h_.1))) (Kd.R_base ho0) hb); have n2_ := Aside0.mk (Kd.R_elder' (by (with_reducible repeat (first | apply Kd.R_alloc | apply Kd.R_drewN | apply Kd.R_drew)); exact (Kd.R_mono (Kd.R_far (p := ⟨gb629, 1, none⟩) (Kd.R_far (p := ⟨gb629, 0, none⟩) (Kd.R_types HO628.out BK629.out (by decide)) (fun _ hk => hk.2) (.int .i64 t625)) (fun _ hk => hk.2) (.slice Ao35 t626.length co35)) (fun _ h_ => h_.1))) (Kd.R_base ho0) hb); have n3_ := Aside0.mk (Kd.R_lower (Kd.R_new' (Kd.R_new' (Kd.R_new' ho0 (Kd.R_lt (by (with_reducible repeat (first | apply Kd.R_alloc | apply Kd.R_drewN | apply Kd.R_drew)); exact (Kd.R_mono (Kd.R_far (p := ⟨gb629, 1, none⟩) (Kd.R_far (p := ⟨gb629, 0, none⟩) (Kd.R_types HO619.out BK629.out (by decide)) (fun _ hk => hk.2) (.int .i64 t625)) (fun _ hk => hk.2) (.slice Ao35 t626.length co35)) (fun _ h_ => h_.1))))) (Kd.R_lt (by (with_reducible repeat (first | apply Kd.R_alloc | apply Kd.R_drewN | apply Kd.R_drew)); exact (Kd.R_mono (Kd.R_far (p := ⟨gb629, 1, none⟩) (Kd.R_far (p := ⟨gb629, 0, none⟩) (Kd.R_types HO623.out BK629.out (by decide)) (fun _ hk => hk.2) (.int .i64 t625)) (fun _ hk => hk.2) (.slice Ao35 t626.length co35)) (fun _ h_ => h_.1))))) (Kd.R_lt (by (with_reducible repeat (first | apply Kd.R_alloc | apply Kd.R_drewN | apply Kd.R_drew)); exact (Kd.R_mono (Kd.R_far (p := ⟨gb629, 1, none⟩) (Kd.R_far (p := ⟨gb629, 0, none⟩) (Kd.R_types HO628.out BK629.out (by decide)) (fun _ hk => hk.2) (.int .i64 t625)) (fun _ hk => hk.2) (.slice Ao35 t626.length co35)) (fun _ h_ => h_.1))))) (below_size (by repeat (first | (with_reducible first | exact HB.out | apply below_alloc | apply pw_below_drewN | apply below_drew1 | refine below_set ?_ GE614.out | refine below_set ?_ GE624.out | refine below_set ?_ GE629.out) | exact HB.out)))); have n4_ := Aside0.mk (blk_below (g := gb614) (o := .cells #[.int .i64 a0_0, .slice A0_1 l0_1.length c0_1] 24 (0, 0)) (by (with_reducible repeat (first | refine blk_drewN ?_ _ | refine blk_drew ?_ | refine blk_alloc ?_ _)); refine blk_far ?_ NB614_629.out _; (with_reducible repeat (first | refine blk_drewN ?_ _ | refine blk_drew ?_ | refine blk_alloc ?_ _)); refine blk_far ?_ NB614_629.out _; (with_reducible repeat (first | refine blk_drewN ?_ _ | refine blk_drew ?_ | refine blk_alloc ?_ _)); exact BK614.out) hb); have n5_ := Aside0.mk (blk_below (g := gb624) (o := .cells #[.int .i64 t620, .slice Ao28 t621.length co28] 29 (0, 0)) (by (with_reducible repeat (first | refine blk_drewN ?_ _ | refine blk_drew ?_ | refine blk_alloc ?_ _)); refine blk_far ?_ NB624_629.out _; (with_reducible repeat (first | refine blk_drewN ?_ _ | refine blk_drew ?_ | refine blk_alloc ?_ _)); refine blk_far ?_ NB624_629.out _; (with_reducible repeat (first | refine blk_drewN ?_ _ | refine blk_drew ?_ | refine blk_alloc ?_ _)); exact BK624.out) hb); have n6_ := Aside0.mk (blk_below (g := gb629) (o := .cells #[.int .i64 t625, .slice Ao35 t626.length co35] 29 (0, 0)) (by (with_reducible repeat (first | refine blk_drewN ?_ _ | refine blk_drew ?_ | refine blk_alloc ?_ _)); refine blk_put (cs := #[.int .i64 t625, .slice none 0 0]) ?_ 1 _ rfl; (with_reducible repeat (first | refine blk_drewN ?_ _ | refine blk_drew ?_ | refine blk_alloc ?_ _)); refine blk_put (cs := #[.int .i64 0, .slice none 0 0]) ?_ 0 _ rfl; (with_reducible repeat (first | refine blk_drewN ?_ _ | refine blk_drew ?_ | refine blk_alloc ?_ _)); exact BK629.out) hb); have n7_ := Aside0.mk (below_step (by repeat (first | (with_reducible first | exact HB.out | apply below_alloc | apply pw_below_drewN | apply below_drew1 | refine below_set ?_ GE614.out | refine below_set ?_ GE624.out | refine below_set ?_ GE629.out) | exact HB.out)) hb); clear HO619; clear HO623; clear HO628; clear BK614; clear BK624; clear BK629; clear HB; have HO619 := n0_; have HO623 := n1_; have HO628 := n2_; have HO633 := n3_; have BK614 := n4_; have BK624 := n5_; have BK629 := n6_; have HB := n7_; clear n0_ n1_ n2_ n3_ n4_ n5_ n6_ n7_; (try clear hb); (try clear hb2); (try clear hk); (try clear hi); (try clear ho0)) | ((with_reducible refine gate_dst (N := 6) rfl ?_); refine box_event ?hg (N := 6) ?hd (cs := #[.int .i64 0, .slice none 0 0]) (t := 29) ?hr ?_; (case hd => rfl); (case hg => rfl); (case hr => first | (go_simp; done) | (go_simp; rfl)); intro gb634 hg w37 hbox hb; have n0_ := Aside0.mk (Kd.R_below (kR HO619.out) hb); have n1_ := Aside0.mk (Kd.R_below (kR HO623.out) hb); have n2_ := Aside0.mk (Kd.R_below (kR HO628.out) hb); have n3_ := Aside0.mk (Kd.R_below (kR HO633.out) hb); have n4_ := Aside0.mk (blk_below (bK BK614.out) hb); have n5_ := Aside0.mk (blk_below (bK BK624.out) hb); have n6_ := Aside0.mk (blk_below (bK BK629.out) hb); have n7_ := Aside0.mk (below_step (by repeat (first | (with_reducible first | exact HB.out | apply below_alloc | apply pw_below_drewN | apply below_drew1 | refine below_set ?_ GE614.out | refine below_set ?_ GE624.out | refine below_set ?_ GE629.out) | exact HB.out)) hb); have n8_ := Aside0.mk (hbox); have n9_ := Aside0.mk ((by rw [hg]; exact (below_size (by repeat (first | (with_reducible first | exact HB.out | apply below_alloc | apply pw_below_drewN | apply below_drew1 | refine below_set ?_ GE614.out | refine below_set ?_ GE624.out | refine below_set ?_ GE629.out) | exact HB.out))) : w.heap.size ≤ gb634)); have n10_ := Aside0.mk ((by rw [hg]; exact (below_size (by repeat (first | (with_reducible first | exact HB.out | apply below_alloc | apply pw_below_drewN | apply below_drew1 | refine below_set ?_ GE614.out | refine below_set ?_ GE624.out | refine below_set ?_ GE629.out) | exact HB.out))) : w.heap.size ≤ gb634)); have n11_ := Aside0.mk ((by rw [hg]; exact Nat.ne_of_lt (blk_lt (bK BK614.out)) : gb614 ≠ gb634)); have n12_ := Aside0.mk ((by rw [hg]; exact Nat.ne_of_gt (blk_lt (bK BK614.out)) : gb634 ≠ gb614)); have n13_ := Aside0.mk ((by rw [hg]; exact Nat.ne_of_lt (blk_lt (bK BK624.out)) : gb624 ≠ gb634)); have n14_ := Aside0.mk ((by rw [hg]; exact Nat.ne_of_gt (blk_lt (bK BK624.out)) : gb634 ≠ gb624)); have n15_ := Aside0.mk ((by rw [hg]; exact Nat.ne_of_lt (blk_lt (bK BK629.out)) : gb629 ≠ gb634)); have n16_ := Aside0.mk ((by rw [hg]; exact Nat.ne_of_gt (blk_lt (bK BK629.out)) : gb634 ≠ gb629)); clear HO619; clear HO623; clear HO628; clear HO633; clear BK614; clear BK624; clear BK629; clear HB; have HO619 := n0_; have HO623 := n1_; have HO628 := n2_; have HO633 := n3_; have BK614 := n4_; have BK624 := n5_; have BK629 := n6_; have HB := n7_; have BK634 := n8_; have GW634 := n9_; have GE634 := n10_; have NB614_634 := n11_; have NB634_614 := n12_; have NB624_634 := n13_; have NB634_624 := n14_; have NB629_634 := n15_; have NB634_629 := n16_; clear n0_ n1_ n2_ n3_ n4_ n5_ n6_ n7_ n8_ n9_ n10_ n11_ n12_ n13_ n14_ n15_ n16_; clear hb hbox hg; have hnb38 := NB634_614.out; have hnc38 := NB614_634.out; have hnb39 := NB634_624.out; have hnc39 := NB624_634.out; have hnb40 := NB634_629.out; have hnc40 := NB629_634.out; have hcz41_0 : w37.cell? ⟨gb634, 0, none⟩ = some (.int .i64 0) := (blk_cell BK634.out 0).trans rfl; have hcz41_1 : w37.cell? ⟨gb634, 1, none⟩ = some (.slice none 0 0) := (blk_cell BK634.out 1).trans rfl; have hfz41_0 := blk_frozen BK634.out 0; have hfz41_1 := blk_frozen BK634.out 1; obtain ⟨Ao42, co42, eo42⟩ := Kd.R_slice HO633.out; subst eo42; have hcz43_0 : w37.cell? ⟨gb624, 0, none⟩ = some (.int .i64 t620) := (blk_cell BK624.out 0).trans rfl; have hcz43_1 : w37.cell? ⟨gb624, 1, none⟩ = some (.slice Ao28 t621.length co28) := (blk_cell BK624.out 1).trans rfl; have hfz43_0 := blk_frozen BK624.out 0; have hfz43_1 := blk_frozen BK624.out 1) | ((with_reducible refine gate_callee (f := 19) rfl ?_); refine goesL_ (some 25) rfl rfl Try.func19 (by kernel_rfl) rfl #[.agg #[.int .i64 t630, .slice Ao42 t631.length co42], .agg #[.int .i64 t620, .slice Ao28 t621.length co28]] rfl (by (try simp only [List.map_toArray, List.map_cons, List.map_nil]); first | done | rfl | (simp only [List.length_drop, List.length_take]; rfl)) ?_; (with_reducible refine (laws_eqGrid.calls k t630 _ _ t631 t620 _ _ t621 true _ ?side1 ?side2 ?side3 ?side4 A11.out).mono ?_); (case side1 => refine (Kd.R_reads' (e := 48) (base := w.heap.size) (ok := fun k_ => (((True ∧ some k_ ≠ (.slice Ao23 t617.length co23 : Value).ownBlock) ∧ some k_ ≠ (.slice Ao28 t621.length co28 : Value).ownBlock) ∧ some k_ ≠ (.slice Ao35 t626.length co35 : Value).ownBlock)) (n := t631.length) (c := co42) ?_).2.2; exact (by (with_reducible repeat (first | apply Kd.R_alloc | apply Kd.R_drewN | apply Kd.R_drew)); exact (Kd.R_mono (Kd.R_far (p := ⟨gb634, 1, none⟩) (Kd.R_far (p := ⟨gb634, 0, none⟩) (Kd.R_types HO633.out BK634.out (by decide)) (fun _ hk => hk.2) (.int .i64 t630)) (fun _ hk => hk.2) (.slice Ao42 t631.length co42)) (fun _ h_ => h_.1)))); (case side2 => exact (Kd.R_reads' HO633.out).2.1); (case side3 => refine (Kd.R_reads' (e := 48) (base := w.heap.size) (ok := fun k_ => (((True ∧ some k_ ≠ (.slice Ao23 t617.length co23 : Value).ownBlock) ∧ some k_ ≠ (.slice Ao35 t626.length co35 : Value).ownBlock) ∧ some k_ ≠ (.slice Ao42 t631.length co42 : Value).ownBlock)) (n := t621.length) (c := co28) ?_).2.2; exact (by (with_reducible repeat (first | apply Kd.R_alloc | apply Kd.R_drewN | apply Kd.R_drew)); exact (Kd.R_mono (Kd.R_far (p := ⟨gb634, 1, none⟩) (Kd.R_far (p := ⟨gb634, 0, none⟩) (Kd.R_types HO623.out BK634.out (by decide)) (fun _ hk => hk.2) (.int .i64 t630)) (fun _ hk => hk.2) (.slice Ao42 t631.length co42)) (fun _ h_ => h_.1)))); (case side4 => exact (Kd.R_reads' HO623.out).2.1); rintro e w44 ⟨rfl, hb⟩; refine ⟨_, rfl, ?_⟩; have n0_ := Aside0.mk (Kd.R_below (by (with_reducible repeat (first | apply Kd.R_alloc | apply Kd.R_drewN | apply Kd.R_drew)); exact (Kd.R_mono (Kd.R_far (p := ⟨gb634, 1, none⟩) (Kd.R_far (p := ⟨gb634, 0, none⟩) (Kd.R_types HO619.out BK634.out (by decide)) (fun _ hk => hk.2) (.int .i64 t630)) (fun _ hk => hk.2) (.slice Ao42 t631.length co42)) (fun _ h_ => h_.1))) hb); have n1_ := Aside0.mk (Kd.R_below (by (with_reducible repeat (first | apply Kd.R_alloc | apply Kd.R_drewN | apply Kd.R_drew)); exact (Kd.R_mono (Kd.R_far (p := ⟨gb634, 1, none⟩) (Kd.R_far (p := ⟨gb634, 0, none⟩) (Kd.R_types HO623.out BK634.out (by decide)) (fun _ hk => hk.2) (.int .i64 t630)) (fun _ hk => hk.2) (.slice Ao42 t631.length co42)) (fun _ h_ => h_.1))) hb); have n2_ := Aside0.mk (Kd.R_below (by (with_reducible repeat (first | apply Kd.R_alloc | apply Kd.R_drewN | apply Kd.R_drew)); exact (Kd.R_mono (Kd.R_far (p := ⟨gb634, 1, none⟩) (Kd.R_far (p := ⟨gb634, 0, none⟩) (Kd.R_types HO628.out BK634.out (by decide)) (fun _ hk => hk.2) (.int .i64 t630)) (fun _ hk => hk.2) (.slice Ao42 t631.length co42)) (fun _ h_ => h_.1))) hb); have n3_ := Aside0.mk (Kd.R_below (by (with_reducible repeat (first | apply Kd.R_alloc | apply Kd.R_drewN | apply Kd.R_drew)); exact (Kd.R_mono (Kd.R_far (p := ⟨gb634, 1, none⟩) (Kd.R_far (p := ⟨gb634, 0, none⟩) (Kd.R_types HO633.out BK634.out (by decide)) (fun _ hk => hk.2) (.int .i64 t630)) (fun _ hk => hk.2) (.slice Ao42 t631.length co42)) (fun _ h_ => h_.1))) hb); have n4_ := Aside0.mk (blk_below (g := gb614) (o := .cells #[.int .i64 a0_0, .slice A0_1 l0_1.length c0_1] 24 (0, 0)) (by (with_reducible repeat (first | refine blk_drewN ?_ _ | refine blk_drew ?_ | refine blk_alloc ?_ _)); refine blk_far ?_ NB614_634.out _; (with_reducible repeat (first | refine blk_drewN ?_ _ | refine blk_drew ?_ | refine blk_alloc ?_ _)); refine blk_far ?_ NB614_634.out _; (with_reducible repeat (first | refine blk_drewN ?_ _ | refine blk_drew ?_ | refine blk_alloc ?_ _)); exact BK614.out) hb); have n5_ := Aside0.mk (blk_below (g := gb624) (o := .cells #[.int .i64 t620, .slice Ao28 t621.length co28] 29 (0, 0)) (by (with_reducible repeat (first | refine blk_drewN ?_ _ | refine blk_drew ?_ | refine blk_alloc ?_ _)); refine blk_far ?_ NB624_634.out _; (with_reducible repeat (first | refine blk_drewN ?_ _ | refine blk_drew ?_ | refine blk_alloc ?_ _)); refine blk_far ?_ NB624_634.out _; (with_reducible repeat (first | refine blk_drewN ?_ _ | refine blk_drew ?_ | refine blk_alloc ?_ _)); exact BK624.out) hb); have n6_ := Aside0.mk (blk_below (g := gb629) (o := .cells #[.int .i64 t625, .slice Ao35 t626.length co35] 29 (0, 0)) (by (with_reducible repeat (first | refine blk_drewN ?_ _ | refine blk_drew ?_ | refine blk_alloc ?_ _)); refine blk_far ?_ NB629_634.out _; (with_reducible repeat (first | refine blk_drewN ?_ _ | refine blk_drew ?_ | refine blk_alloc ?_ _)); refine blk_far ?_ NB629_634.out _; (with_reducible repeat (first | refine blk_drewN ?_ _ | refine blk_drew ?_ | refine blk_alloc ?_ _)); exact BK629.out) hb); have n7_ := Aside0.mk (blk_below (g := gb634) (o := .cells #[.int .i64 t630, .slice Ao42 t631.length co42] 29 (0, 0)) (by (with_reducible repeat (first | refine blk_drewN ?_ _ | refine blk_drew ?_ | refine blk_alloc ?_ _)); refine blk_put (cs := #[.int .i64 t630, .slice none 0 0]) ?_ 1 _ rfl; (with_reducible repeat (first | refine blk_drewN ?_ _ | refine blk_drew ?_ | refine blk_alloc ?_ _)); refine blk_put (cs := #[.int .i64 0, .slice none 0 0]) ?_ 0 _ rfl; (with_reducible repeat (first | refine blk_drewN ?_ _ | refine blk_drew ?_ | refine blk_alloc ?_ _)); exact BK634.out) hb); have n8_ := Aside0.mk (below_step (by repeat (first | (with_reducible first | exact HB.out | apply below_alloc | apply pw_below_drewN | apply below_drew1 | refine below_set ?_ GE614.out | refine below_set ?_ GE624.out | refine below_set ?_ GE629.out | refine below_set ?_ GE634.out) | exact HB.out)) hb); clear HO619; clear HO623; clear HO628; clear HO633; clear BK614; clear BK624; clear BK629; clear BK634; clear HB; have HO619 := n0_; have HO623 := n1_; have HO628 := n2_; have HO633 := n3_; have BK614 := n4_; have BK624 := n5_; have BK629 := n6_; have BK634 := n7_; have HB := n8_; clear n0_ n1_ n2_ n3_ n4_ n5_ n6_ n7_ n8_; (try clear hb); (try clear hb2); (try clear hk); (try clear hi)))
    have n0_ := Aside0.mk (Kd.R_drew HO619.out)
    have n1_ := Aside0.mk (Kd.R_drew HO623.out)
    have n2_ := Aside0.mk (Kd.R_drew HO628.out)
    have n3_ := Aside0.mk (Kd.R_drew HO633.out)
    have n4_ := Aside0.mk (blk_drew BK614.out)
    have n5_ := Aside0.mk (blk_drew BK624.out)
    have n6_ := Aside0.mk (blk_drew BK629.out)
    have n7_ := Aside0.mk (blk_drew BK634.out)
    have n8_ := Aside0.mk (below_drew1 HB.out)
    clear HO619
    clear HO623
    clear HO628
    clear HO633
    clear BK614
    clear BK624
    clear BK629
    clear BK634
    clear HB
    have HO619 := n0_
    have HO623 := n1_
    have HO628 := n2_
    have HO633 := n3_
    have BK614 := n4_
    have BK624 := n5_
    have BK629 := n6_
    have BK634 := n7_
    have HB := n8_
    clear n0_ n1_ n2_ n3_ n4_ n5_ n6_ n7_ n8_
    refine start_ (n := 5) (S := fun w' => w'.cell? ⟨gb629, 0, none⟩ = some (.int .i64 t625) ∧ w'.cell? ⟨gb629, 1, none⟩ = some (.slice Ao35 t626.length co35) ∧ w'.cell? ⟨gb614, 0, none⟩ = some (.int .i64 a0_0) ∧ w'.cell? ⟨gb614, 1, none⟩ = some (.slice A0_1 l0_1.length c0_1)) (ds := []) #[false, false, false, false, false] (by kernel_rfl) rfl rfl ⟨(blk_cell BK629.out 0).trans rfl, (blk_cell BK629.out 1).trans rfl, (blk_cell BK614.out 0).trans rfl, (blk_cell BK614.out 1).trans rfl⟩ (fun hHeld => ?_)
    generalize w44.drew = w45 at HO619 HO623 HO628 HO633 BK614 BK624 BK629 BK634 HB hHeld ⊢
    refine take_ (i := 0) (N := some 27) (v := ?_) (a' := ?_) #[true, false, false, false, false] rfl rfl (by kernel_rfl) (fun _ _ _ h => h) (Or.inl ⟨by rfl, ?_⟩) hHeld ?_ ?_
    rotate_left
    ·rintro w' ⟨s0, s1, s2, s3⟩
     go_simp
     with_reducible rfl
    rotate_left
    ·simp only [Act.put, List.setIfInBounds_toArray, List.set_cons_zero, List.set_cons_succ, i64_w, i32_w]
     rfl
    refine take_ (i := 1) (N := some 28) (v := ?_) (a' := ?_) #[true, true, false, false, false] rfl rfl (by kernel_rfl) (fun _ _ _ h => h) (Or.inl ⟨by rfl, ?_⟩) hHeld ?_ ?_
    rotate_left
    ·rintro w' ⟨s0, s1, s2, s3⟩
     go_simp
     with_reducible rfl
    rotate_left
    ·simp only [Act.put, List.setIfInBounds_toArray, List.set_cons_zero, List.set_cons_succ, i64_w, i32_w]
     rfl
    refine one_ (i := 2) (N := some 29) #[true, true, true, false, false] rfl rfl (by kernel_rfl) (by decide) (fun K hK => ?_)
    refine goes_ Try.func17 (by kernel_rfl) rfl #[.agg #[.int .i64 a0_0, .slice A0_1 l0_1.length c0_1]] (by rfl) rfl rfl (by (try simp only [List.map_toArray, List.map_cons, List.map_nil]); first | done | rfl | (simp only [List.length_drop, List.length_take]; rfl)) ?_
    with_reducible refine (laws_toGrid.calls k a0_0 _ _ l0_1 t636 t637 _ ?side1 ?side2 A13.out).mono ?_
    (case side1 => repeat (first | exact (Kd.C_below HR0_1.out HB.out) | (with_reducible refine Kd.C_alloc ?_ _) | (with_reducible refine Kd.C_drewN ?_ _) | (with_reducible refine Kd.C_drew ?_)))
    (case side2 => exact HC0_1.out)
    rintro e w46 ⟨v638, rfl, ho0, hb⟩
    refine ⟨_, rfl, ?_⟩
    have n0_ := Aside0.mk (Kd.R_elder' (kR HO619.out) (Kd.R_base ho0) hb)
    have n1_ := Aside0.mk (Kd.R_elder' (kR HO623.out) (Kd.R_base ho0) hb)
    have n2_ := Aside0.mk (Kd.R_elder' (kR HO628.out) (Kd.R_base ho0) hb)
    have n3_ := Aside0.mk (Kd.R_elder' (kR HO633.out) (Kd.R_base ho0) hb)
    have n4_ := Aside0.mk (Kd.R_lower (Kd.R_new' (Kd.R_new' (Kd.R_new' (Kd.R_new' ho0 (Kd.R_lt (kR HO619.out))) (Kd.R_lt (kR HO623.out))) (Kd.R_lt (kR HO628.out))) (Kd.R_lt (kR HO633.out))) (below_size (by repeat (first | (with_reducible first | exact HB.out | apply below_alloc | apply pw_below_drewN | apply below_drew1 | refine below_set ?_ GE614.out | refine below_set ?_ GE624.out | refine below_set ?_ GE629.out | refine below_set ?_ GE634.out) | exact HB.out))))
    have n5_ := Aside0.mk (blk_below (bK BK614.out) hb)
    have n6_ := Aside0.mk (blk_below (bK BK624.out) hb)
    have n7_ := Aside0.mk (blk_below (bK BK629.out) hb)
    have n8_ := Aside0.mk (blk_below (bK BK634.out) hb)
    have n9_ := Aside0.mk (below_step (by repeat (first | (with_reducible first | exact HB.out | apply below_alloc | apply pw_below_drewN | apply below_drew1 | refine below_set ?_ GE614.out | refine below_set ?_ GE624.out | refine below_set ?_ GE629.out | refine below_set ?_ GE634.out) | exact HB.out)) hb)
    clear HO619
    clear HO623
    clear HO628
    clear HO633
    clear BK614
    clear BK624
    clear BK629
    clear BK634
    clear HB
    have HO619 := n0_
    have HO623 := n1_
    have HO628 := n2_
    have HO633 := n3_
    have HO639 := n4_
    have BK614 := n5_
    have BK624 := n6_
    have BK629 := n7_
    have BK634 := n8_
    have HB := n9_
    clear n0_ n1_ n2_ n3_ n4_ n5_ n6_ n7_ n8_ n9_
    (try clear hb)
    (try clear hb2)
    (try clear hk)
    (try clear hi)
    (try clear ho0)
    obtain ⟨Ao47, co47, eo47⟩ := Kd.R_slice HO639.out
    (first | subst eo47 | (injection eo47 with f1_ f2_ f3_; have f4_ := f1_.symm; have f5_ := f3_.symm; clear f1_ f2_ f3_; subst f4_; subst f5_))
    refine hK.out _ _ ⟨(blk_cell BK629.out 0).trans rfl, (blk_cell BK629.out 1).trans rfl, (blk_cell BK614.out 0).trans rfl, (blk_cell BK614.out 1).trans rfl⟩ (fun hHeld => ?_)
    clear hK K
    refine norm_ (a' := ?_) ?_ ?_
    rotate_left
    ·show Act.put _ (some 29) _ = _
     simp only [Act.put, List.setIfInBounds_toArray, List.set_cons_zero, List.set_cons_succ, i64_w, i32_w]
     rfl
    refine one_ (i := 3) (N := some 30) #[true, true, true, true, false] rfl rfl (by kernel_rfl) (by decide) (fun K hK => ?_)
    refine goes_ Try.func19 (by kernel_rfl) rfl #[.agg #[.int .i64 t625, .slice Ao35 t626.length co35], .agg #[.int .i64 t636, .slice Ao47 t637.length co47]] (by rfl) rfl rfl (by (try simp only [List.map_toArray, List.map_cons, List.map_nil]); first | done | rfl | (simp only [List.length_drop, List.length_take]; rfl)) ?_
    with_reducible refine (laws_eqGrid.calls k t625 _ _ t626 t636 _ _ t637 true _ ?side1 ?side2 ?side3 ?side4 A14.out).mono ?_
    (case side1 => repeat (first | exact (Kd.R_reads' HO628.out).2.2 | (with_reducible refine Kd.C_alloc ?_ _) | (with_reducible refine Kd.C_drewN ?_ _) | (with_reducible refine Kd.C_drew ?_)))
    (case side2 => exact (Kd.R_reads' HO628.out).2.1)
    (case side3 => repeat (first | exact (Kd.R_reads' HO639.out).2.2 | (with_reducible refine Kd.C_alloc ?_ _) | (with_reducible refine Kd.C_drewN ?_ _) | (with_reducible refine Kd.C_drew ?_)))
    (case side4 => exact (Kd.R_reads' HO639.out).2.1)
    rintro e w48 ⟨rfl, hb⟩
    refine ⟨_, rfl, ?_⟩
    have n0_ := Aside0.mk (Kd.R_below (kR HO619.out) hb)
    have n1_ := Aside0.mk (Kd.R_below (kR HO623.out) hb)
    have n2_ := Aside0.mk (Kd.R_below (kR HO628.out) hb)
    have n3_ := Aside0.mk (Kd.R_below (kR HO633.out) hb)
    have n4_ := Aside0.mk (Kd.R_below (kR HO639.out) hb)
    have n5_ := Aside0.mk (blk_below (bK BK614.out) hb)
    have n6_ := Aside0.mk (blk_below (bK BK624.out) hb)
    have n7_ := Aside0.mk (blk_below (bK BK629.out) hb)
    have n8_ := Aside0.mk (blk_below (bK BK634.out) hb)
    have n9_ := Aside0.mk (below_step (by repeat (first | (with_reducible first | exact HB.out | apply below_alloc | apply pw_below_drewN | apply below_drew1 | refine below_set ?_ GE614.out | refine below_set ?_ GE624.out | refine below_set ?_ GE629.out | refine below_set ?_ GE634.out) | exact HB.out)) hb)
    clear HO619
    clear HO623
    clear HO628
    clear HO633
    clear HO639
    clear BK614
    clear BK624
    clear BK629
    clear BK634
    clear HB
    have HO619 := n0_
    have HO623 := n1_
    have HO628 := n2_
    have HO633 := n3_
    have HO639 := n4_
    have BK614 := n5_
    have BK624 := n6_
    have BK629 := n7_
    have BK634 := n8_
    have HB := n9_
    clear n0_ n1_ n2_ n3_ n4_ n5_ n6_ n7_ n8_ n9_
    (try clear hb)
    (try clear hb2)
    (try clear hk)
    (try clear hi)
    refine hK.out _ _ ⟨(blk_cell BK629.out 0).trans rfl, (blk_cell BK629.out 1).trans rfl, (blk_cell BK614.out 0).trans rfl, (blk_cell BK614.out 1).trans rfl⟩ (fun hHeld => ?_)
    clear hK K
    refine norm_ (a' := ?_) ?_ ?_
    rotate_left
    ·show Act.put _ (some 30) _ = _
     simp only [Act.put, List.setIfInBounds_toArray, List.set_cons_zero, List.set_cons_succ, i64_w, i32_w]
     rfl
    refine pure_ (i := 4) (N := some 31) (v := ?_) (a' := ?_) #[true, true, true, true, true] rfl rfl (by kernel_rfl) (fun _ _ _ h => h) (Or.inl ⟨by rfl, ?_⟩) ?_ ?_
    rotate_left
    ·intro w'
     go_simp
     with_reducible rfl
    rotate_left
    ·simp only [Act.put, List.setIfInBounds_toArray, List.set_cons_zero, List.set_cons_succ, i64_w, i32_w]
     rfl
    refine done_ (by kernel_rfl) ?_
    have hcz49_0 : w48.cell? ⟨gb629, 0, none⟩ = some (.int .i64 t625) := (blk_cell BK629.out 0).trans rfl
    have hcz49_1 : w48.cell? ⟨gb629, 1, none⟩ = some (.slice Ao35 t626.length co35) := (blk_cell BK629.out 1).trans rfl
    have hfz49_0 := blk_frozen BK629.out 0
    have hfz49_1 := blk_frozen BK629.out 1
    go_upto_region 14 with (first | ((with_reducible refine gate_callee (f := 36) rfl ?_); refine goesL_ (some 34) rfl rfl Try.func36 (by kernel_rfl) rfl #[.agg #[.int .i64 t625, .slice Ao35 t626.length co35], .int .i64 1] rfl (by (try simp only [List.map_toArray, List.map_cons, List.map_nil]); first | done | rfl | (simp only [List.length_drop, List.length_take]; rfl)) ?_; (with_reducible refine (laws_markGrid.calls k t625 (fun k_ => some k_ = (.slice Ao35 t626.length co35 : Value).ownBlock) (.slice Ao35 t626.length co35) t626 1 t641 t642 w _ ?side1 ?side2 A16.out).mono ?_); (case side1 => repeat (first | (with_reducible first | exact HB.out | apply below_alloc | apply pw_below_drewN | apply below_drew1 | refine below_set ?_ GE614.out | refine below_set ?_ GE624.out | refine below_set ?_ GE629.out | refine below_set ?_ GE634.out) | exact HB.out)); (case side2 => exact Kd.R_tight rfl HO628.out); rintro e w50 ⟨rfl, hy0, hb, hkp⟩; refine ⟨_, rfl, ?_⟩; have n0_ := Aside0.mk (blk_kept (bK BK614.out) hkp (fun hs_ => (fun e_ => (Kd.R_ne HO628.out BK614.out (by decide)) e_) hs_)); have n1_ := Aside0.mk (Kd.R_mono (ok' := fun k_ => some k_ ≠ (.slice Ao28 t621.length co28 : Value).ownBlock ∧ some k_ ≠ (.slice Ao35 t626.length co35 : Value).ownBlock ∧ some k_ ≠ (.slice Ao42 t631.length co42 : Value).ownBlock ∧ some k_ ≠ (.slice Ao47 t637.length co47 : Value).ownBlock) (Kd.R_keptB (HO619.out) hkp (fun k_ hk_ hs_ => (hk_.1.1.2) hs_)) (fun k_ hk_ => ⟨hk_.1.1.1.1.2, hk_.1.1.1.2, hk_.1.1.2, hk_.1.2⟩)); have n2_ := Aside0.mk (Kd.R_mono (ok' := fun k_ => some k_ ≠ (.slice Ao23 t617.length co23 : Value).ownBlock ∧ some k_ ≠ (.slice Ao35 t626.length co35 : Value).ownBlock ∧ some k_ ≠ (.slice Ao42 t631.length co42 : Value).ownBlock ∧ some k_ ≠ (.slice Ao47 t637.length co47 : Value).ownBlock) (Kd.R_keptB (HO623.out) hkp (fun k_ hk_ hs_ => (hk_.1.1.2) hs_)) (fun k_ hk_ => ⟨hk_.1.1.1.1.2, hk_.1.1.1.2, hk_.1.1.2, hk_.1.2⟩)); have n3_ := Aside0.mk (blk_kept (bK BK624.out) hkp (fun hs_ => (fun e_ => (Kd.R_ne HO628.out BK624.out (by decide)) e_) hs_)); have n4_ := Aside0.mk (Kd.R_reok rfl hy0 (fun k_ e_ => HO628.out.1 k_ e_)); have n5_ := Aside0.mk (blk_kept (bK BK629.out) hkp (fun hs_ => (fun e_ => (Kd.R_ne HO628.out BK629.out (by decide)) e_) hs_)); have n6_ := Aside0.mk (Kd.R_mono (ok' := fun k_ => some k_ ≠ (.slice Ao23 t617.length co23 : Value).ownBlock ∧ some k_ ≠ (.slice Ao28 t621.length co28 : Value).ownBlock ∧ some k_ ≠ (.slice Ao35 t626.length co35 : Value).ownBlock ∧ some k_ ≠ (.slice Ao47 t637.length co47 : Value).ownBlock) (Kd.R_keptB (HO633.out) hkp (fun k_ hk_ hs_ => (hk_.1.2) hs_)) (fun k_ hk_ => ⟨hk_.1.1.1.1.2, hk_.1.1.1.2, hk_.1.1.2, hk_.1.2⟩)); have n7_ := Aside0.mk (blk_kept (bK BK634.out) hkp (fun hs_ => (fun e_ => (Kd.R_ne HO628.out BK634.out (by decide)) e_) hs_)); have n8_ := Aside0.mk (Kd.R_mono (ok' := fun k_ => some k_ ≠ (.slice Ao23 t617.length co23 : Value).ownBlock ∧ some k_ ≠ (.slice Ao28 t621.length co28 : Value).ownBlock ∧ some k_ ≠ (.slice Ao35 t626.length co35 : Value).ownBlock ∧ some k_ ≠ (.slice Ao42 t631.length co42 : Value).ownBlock) (Kd.R_keptB (HO639.out) hkp (fun k_ hk_ hs_ => (hk_.1.2) hs_)) (fun k_ hk_ => ⟨hk_.1.1.1.1.2, hk_.1.1.1.2, hk_.1.1.2, hk_.1.2⟩)); have n9_ := Aside0.mk (hb); clear BK614; clear HO619; clear HO623; clear BK624; clear HO628; clear BK629; clear HO633; clear BK634; clear HO639; clear HB; have BK614 := n0_; have HO619 := n1_; have HO623 := n2_; have BK624 := n3_; have HO628 := n4_; have BK629 := n5_; have HO633 := n6_; have BK634 := n7_; have HO639 := n8_; have HB := n9_; clear n0_ n1_ n2_ n3_ n4_ n5_ n6_ n7_ n8_ n9_; (try clear hb); (try clear hkp); (try clear hy0)))
    (try simp only [Act.put, List.setIfInBounds_toArray, List.set_cons_zero, List.set_cons_succ])
    go_cut [42] (fun v42 wc => ∃ (kq : Nat) (x42_16 : Bool), v42 = .bool x42_16 ∧ Aside0 (laws_FnExactGridTurn.j0 kq x42_16 a0_0 l0_1 t620 t621 t630 t631 = some r) ∧ Aside0 (kq ≤ k) ∧ Aside0 (Kd.R k48 48 wc w.heap.size (fun k_ => some k_ ≠ ((.slice Ao35 t626.length co35) : Value).ownBlock ∧ some k_ ≠ ((.slice Ao42 t631.length co42) : Value).ownBlock) (.slice Ao28 t621.length co28) t621) ∧ Aside0 (Kd.R k48 48 wc w.heap.size (fun k_ => some k_ ≠ ((.slice Ao28 t621.length co28) : Value).ownBlock ∧ some k_ ≠ ((.slice Ao42 t631.length co42) : Value).ownBlock) (.slice Ao35 t626.length co35) t642) ∧ Aside0 (Kd.R k48 48 wc w.heap.size (fun k_ => some k_ ≠ ((.slice Ao28 t621.length co28) : Value).ownBlock ∧ some k_ ≠ ((.slice Ao35 t626.length co35) : Value).ownBlock) (.slice Ao42 t631.length co42) t631) ∧ Aside0 (wc.heap[gb614]? = some (.cells #[.int .i64 a0_0, (.slice A0_1 l0_1.length c0_1)] 24 (0, 0))) ∧ Aside0 (wc.heap[gb624]? = some (.cells #[.int .i64 t620, (.slice Ao28 t621.length co28)] 29 (0, 0))) ∧ Aside0 (wc.heap[gb629]? = some (.cells #[.int .i64 t625, (.slice Ao35 t626.length co35)] 29 (0, 0))) ∧ Aside0 (wc.heap[gb634]? = some (.cells #[.int .i64 t630, (.slice Ao42 t631.length co42)] 29 (0, 0))) ∧ Aside0 (Below w.heap.size w wc))
    case first =>
     have H := HC17.out
     clear HC17
     by_cases c51 : t641 < 0
     ·rw [if_pos c51] at H
      have c51b0 : decide (t641 < 0) = true := decide_eq_true c51
      clear c51
      (first | rw [c51b0] | (simp only [i64_w, i32_w]; rw [c51b0]) | skip)
      cases k with
      | zero => exact absurd H (by simp [laws_FnExactGridTurn.j0])
      | succ k_ =>
       have hf_ := Option.some.inj (show (some false : Option Bool) = some r from H)
       rw [HRT.out] at hf_
       exact absurd hf_ (by decide)
     ·rw [if_neg c51] at H
      have c51b0 : decide (t641 < 0) = false := decide_eq_false c51
      clear c51
      (first | rw [c51b0] | (simp only [i64_w, i32_w]; rw [c51b0]) | skip)
      replace H := Option.bind_eq_some_iff.mp H
      obtain ⟨t643, A520, H⟩ := H
      replace H : (laws_FnExactGridTurn.j0 k (!t643) a0_0 l0_1 t620 t621 t630 t631) = some r := H
      have A52 := Aside0.mk A520
      clear A520
      have H' := Aside0.mk H
      clear H
      have hnb53 := NB634_614.out
      have hnc53 := NB614_634.out
      have hnb54 := NB634_624.out
      have hnc54 := NB624_634.out
      have hnb55 := NB634_629.out
      have hnc55 := NB629_634.out
      have hcz56_0 : w50.cell? ⟨gb634, 0, none⟩ = some (.int .i64 t630) := (blk_cell BK634.out 0).trans rfl
      have hcz56_1 : w50.cell? ⟨gb634, 1, none⟩ = some (.slice Ao42 t631.length co42) := (blk_cell BK634.out 1).trans rfl
      have hfz56_0 := blk_frozen BK634.out 0
      have hfz56_1 := blk_frozen BK634.out 1
      have hnb57 := NB624_614.out
      have hnc57 := NB614_624.out
      have hnb58 := NB624_629.out
      have hnc58 := NB629_624.out
      have hcz59_0 : w50.cell? ⟨gb624, 0, none⟩ = some (.int .i64 t620) := (blk_cell BK624.out 0).trans rfl
      have hcz59_1 : w50.cell? ⟨gb624, 1, none⟩ = some (.slice Ao28 t621.length co28) := (blk_cell BK624.out 1).trans rfl
      have hfz59_0 := blk_frozen BK624.out 0
      have hfz59_1 := blk_frozen BK624.out 1
      go_wp2_with (first | (go_at_call 19; (with_reducible refine (laws_eqGrid.calls k t630 _ _ t631 t620 _ _ t621 t643 _ ?side1 ?side2 ?side3 ?side4 A52.out).mono ?_); (case side1 => repeat (first | exact (Kd.R_reads' HO633.out).2.2 | (with_reducible refine Kd.C_alloc ?_ _) | (with_reducible refine Kd.C_drewN ?_ _) | (with_reducible refine Kd.C_drew ?_))); (case side2 => exact (Kd.R_reads' HO633.out).2.1); (case side3 => repeat (first | exact (Kd.R_reads' HO623.out).2.2 | (with_reducible refine Kd.C_alloc ?_ _) | (with_reducible refine Kd.C_drewN ?_ _) | (with_reducible refine Kd.C_drew ?_))); (case side4 => exact (Kd.R_reads' HO623.out).2.1); rintro e w60 ⟨rfl, hb⟩; have n0_ := Aside0.mk (Kd.R_below (kR HO619.out) hb); have n1_ := Aside0.mk (Kd.R_below (kR HO623.out) hb); have n2_ := Aside0.mk (Kd.R_below (kR HO628.out) hb); have n3_ := Aside0.mk (Kd.R_below (kR HO633.out) hb); have n4_ := Aside0.mk (Kd.R_below (kR HO639.out) hb); have n5_ := Aside0.mk (blk_below (bK BK614.out) hb); have n6_ := Aside0.mk (blk_below (bK BK624.out) hb); have n7_ := Aside0.mk (blk_below (bK BK629.out) hb); have n8_ := Aside0.mk (blk_below (bK BK634.out) hb); have n9_ := Aside0.mk (below_step (by repeat (first | (with_reducible first | exact HB.out | apply below_alloc | apply pw_below_drewN | apply below_drew1 | refine below_set ?_ GE614.out | refine below_set ?_ GE624.out | refine below_set ?_ GE629.out | refine below_set ?_ GE634.out) | exact HB.out)) hb); clear HO619; clear HO623; clear HO628; clear HO633; clear HO639; clear BK614; clear BK624; clear BK629; clear BK634; clear HB; have HO619 := n0_; have HO623 := n1_; have HO628 := n2_; have HO633 := n3_; have HO639 := n4_; have BK614 := n5_; have BK624 := n6_; have BK629 := n7_; have BK634 := n8_; have HB := n9_; clear n0_ n1_ n2_ n3_ n4_ n5_ n6_ n7_ n8_ n9_; (try clear hb); (try clear hb2); (try clear hk); (try clear hi)))
      go_meet
      case rel => exact ⟨_, (!t643), (by first | rfl | (simp; done) | (simp [*]; done)), H', ⟨by first | omega | exact Nat.le_refl _⟩, ⟨by (with_reducible repeat (first | apply Kd.R_alloc | apply Kd.R_drewN | apply Kd.R_drew)); exact Kd.R_mono HO623.out (fun _ hk => ⟨hk.2.1, hk.2.2.1⟩)⟩, ⟨by (with_reducible repeat (first | apply Kd.R_alloc | apply Kd.R_drewN | apply Kd.R_drew)); exact Kd.R_mono HO628.out (fun _ hk => ⟨hk.1.1.2, hk.1.2⟩)⟩, ⟨by (with_reducible repeat (first | apply Kd.R_alloc | apply Kd.R_drewN | apply Kd.R_drew)); exact Kd.R_mono HO633.out (fun _ hk => ⟨hk.2.1, hk.2.2.1⟩)⟩, ⟨by (with_reducible repeat (first | refine blk_drewN ?_ _ | refine blk_drew ?_ | refine blk_alloc ?_ _)); exact BK614.out⟩, ⟨by (with_reducible repeat (first | refine blk_drewN ?_ _ | refine blk_drew ?_ | refine blk_alloc ?_ _)); exact BK624.out⟩, ⟨by (with_reducible repeat (first | refine blk_drewN ?_ _ | refine blk_drew ?_ | refine blk_alloc ?_ _)); exact BK629.out⟩, ⟨by (with_reducible repeat (first | refine blk_drewN ?_ _ | refine blk_drew ?_ | refine blk_alloc ?_ _)); exact BK634.out⟩, ⟨by repeat (first | (with_reducible first | exact HB.out | apply below_alloc | apply pw_below_drewN | apply below_drew1 | refine below_set ?_ GE614.out | refine below_set ?_ GE624.out | refine below_set ?_ GE629.out | refine below_set ?_ GE634.out) | exact HB.out)⟩⟩
    case rest =>
     clear HC17
     try clear c1
     try clear c2
     try clear p2
     try clear c3
     try clear c3b0
     try clear c4
     try clear c5
     try clear c12
     try clear c14
     try clear c15
     try clear c17
     try clear c19
     try clear c26
     try clear c32
     try clear c33
     try clear c36
     try clear c38
     try clear c39
     try clear c40
     try clear c44
     try clear c45
     try clear c51
     try clear c51b0
     try clear c53
     try clear c54
     try clear c55
     try clear c57
     try clear c58
     try clear hcz19_0
     try clear hcz19_1
     try clear hcz21_0
     try clear hcz21_1
     try clear hcz27_0
     try clear hcz27_1
     try clear hcz29_0
     try clear hcz29_1
     try clear hcz34_0
     try clear hcz34_1
     try clear hcz41_0
     try clear hcz41_1
     try clear hcz43_0
     try clear hcz43_1
     try clear hcz49_0
     try clear hcz49_1
     try clear hcz56_0
     try clear hcz56_1
     try clear hcz59_0
     try clear hcz59_1
     try clear hcz5_0
     try clear hcz5_1
     try clear hfz19_0
     try clear hfz19_1
     try clear hfz21_0
     try clear hfz21_1
     try clear hfz27_0
     try clear hfz27_1
     try clear hfz29_0
     try clear hfz29_1
     try clear hfz34_0
     try clear hfz34_1
     try clear hfz41_0
     try clear hfz41_1
     try clear hfz43_0
     try clear hfz43_1
     try clear hfz49_0
     try clear hfz49_1
     try clear hfz56_0
     try clear hfz56_1
     try clear hfz59_0
     try clear hfz59_1
     try clear hfz5_0
     try clear hfz5_1
     obtain ⟨kq, x42_16, rfl, HA, HJ16, HO_625001, HO_630001, HO_635001, BK614, BK624, BK629, BK634, HB⟩ := hcut
     have hl630001_16 := (Kd.R_reads' HO_630001.out).1
     rw [hl630001_16] at HO_630001
     (try simp only [hl630001_16])
     (try simp only [hl630001_16] at BK614)
     (try simp only [hl630001_16] at BK624)
     (try simp only [hl630001_16] at BK629)
     (try simp only [hl630001_16] at BK634)
     (try simp only [hl630001_16] at HO_625001)
     (try simp only [hl630001_16] at HO_635001)
     cases kq with
     | zero => exact absurd HA.out (by simp [laws_FnExactGridTurn.j0])
     | succ kj16 =>
      have H := HA.out
      clear HA
      simp only [laws_FnExactGridTurn.j0] at H
      by_cases c61 : x42_16 = true
      ·subst c61
       have H1 : (some false) = some r := by rw [if_pos rfl] at H; exact H
       clear H
       have H := H1
       clear H1
       obtain rfl := Option.some.inj H
       exact absurd HRT.out (by decide)
      ·replace c61 := Bool.eq_false_iff.mpr c61
       subst c61
       have H1 : ((laws_markGrid.f kj16 t630 t631 1).bind fun bt644 => ((laws_heldGrid.f kj16 t630 bt644.2 1).bind fun t646 => (if t646 < 0 then (some false) else (if t646 = bt644.1 then ((laws_toGrid.f kj16 a0_0 l0_1).bind fun bt647 => ((impl_GridTurn.f bt647.1 bt647.2).bind fun bt651 => ((laws_eqGrid.f kj16 bt651.1 bt651.2 t620 t621).bind fun t656 => (if t656 = true then ((laws_heldGrid.f kj16 t630 bt644.2 1).bind fun t657 => (if t657 < 0 then (some false) else (if t657 = bt644.1 then (some true) else (some false)))) else (some false))))) else (some false))))) = some r := by rw [if_neg (show ¬ (false = true) by decide)] at H; exact H
       clear H
       have H := H1
       clear H1
       replace H := Option.bind_eq_some_iff.mp H
       obtain ⟨⟨t644, t645⟩, A620, H⟩ := H
       replace H : ((laws_heldGrid.f kj16 t630 t645 1).bind fun t646 => (if t646 < 0 then (some false) else (if t646 = t644 then ((laws_toGrid.f kj16 a0_0 l0_1).bind fun bt647 => ((impl_GridTurn.f bt647.1 bt647.2).bind fun bt651 => ((laws_eqGrid.f kj16 bt651.1 bt651.2 t620 t621).bind fun t656 => (if t656 = true then ((laws_heldGrid.f kj16 t630 t645 1).bind fun t657 => (if t657 < 0 then (some false) else (if t657 = t644 then (some true) else (some false)))) else (some false))))) else (some false)))) = some r := H
       have A62 := Aside0.mk A620
       clear A620
       replace H := Option.bind_eq_some_iff.mp H
       obtain ⟨t646, A630, H⟩ := H
       replace H : (if t646 < 0 then (some false) else (if t646 = t644 then ((laws_toGrid.f kj16 a0_0 l0_1).bind fun bt647 => ((impl_GridTurn.f bt647.1 bt647.2).bind fun bt651 => ((laws_eqGrid.f kj16 bt651.1 bt651.2 t620 t621).bind fun t656 => (if t656 = true then ((laws_heldGrid.f kj16 t630 t645 1).bind fun t657 => (if t657 < 0 then (some false) else (if t657 = t644 then (some true) else (some false)))) else (some false))))) else (some false))) = some r := H
       have A63 := Aside0.mk A630
       clear A630
       by_cases c64 : t646 < 0
       ·rw [if_pos c64] at H
        have c64b0 : decide (t646 < 0) = true := decide_eq_true c64
        clear c64
        obtain rfl := Option.some.inj H
        exact absurd HRT.out (by decide)
       ·rw [if_neg c64] at H
        have c64b0 : decide (t646 < 0) = false := decide_eq_false c64
        clear c64
        by_cases c65 : t646 = t644
        ·rw [if_pos c65] at H
         have c65b0 : (t646 == t644) = true := beq_iff_eq.mpr c65
         have c65b1 : (t646 != t644) = false := bne_eq_false_iff_eq.mpr c65
         clear c65
         replace H := Option.bind_eq_some_iff.mp H
         obtain ⟨⟨t647, t648⟩, A660, H⟩ := H
         replace H : ((impl_GridTurn.f t647 t648).bind fun bt651 => ((laws_eqGrid.f kj16 bt651.1 bt651.2 t620 t621).bind fun t656 => (if t656 = true then ((laws_heldGrid.f kj16 t630 t645 1).bind fun t657 => (if t657 < 0 then (some false) else (if t657 = t644 then (some true) else (some false)))) else (some false)))) = some r := H
         have A66 := Aside0.mk A660
         clear A660
         replace H := Option.bind_eq_some_iff.mp H
         obtain ⟨⟨t651, t652⟩, A670, H⟩ := H
         replace H : ((laws_eqGrid.f kj16 t651 t652 t620 t621).bind fun t656 => (if t656 = true then ((laws_heldGrid.f kj16 t630 t645 1).bind fun t657 => (if t657 < 0 then (some false) else (if t657 = t644 then (some true) else (some false)))) else (some false))) = some r := H
         have A67 := Aside0.mk A670
         clear A670
         replace H := Option.bind_eq_some_iff.mp H
         obtain ⟨t656, A680, H⟩ := H
         replace H : (if t656 = true then ((laws_heldGrid.f kj16 t630 t645 1).bind fun t657 => (if t657 < 0 then (some false) else (if t657 = t644 then (some true) else (some false)))) else (some false)) = some r := H
         have A68 := Aside0.mk A680
         clear A680
         by_cases c69 : t656 = true
         ·subst c69
          have H1 : ((laws_heldGrid.f kj16 t630 t645 1).bind fun t657 => (if t657 < 0 then (some false) else (if t657 = t644 then (some true) else (some false)))) = some r := by rw [if_pos rfl] at H; exact H
          clear H
          have H := H1
          clear H1
          replace H := Option.bind_eq_some_iff.mp H
          obtain ⟨t657, A700, H⟩ := H
          replace H : (if t657 < 0 then (some false) else (if t657 = t644 then (some true) else (some false))) = some r := H
          have A70 := Aside0.mk A700
          clear A700
          by_cases c71 : t657 < 0
          ·rw [if_pos c71] at H
           have c71b0 : decide (t657 < 0) = true := decide_eq_true c71
           clear c71
           obtain rfl := Option.some.inj H
           exact absurd HRT.out (by decide)
          ·rw [if_neg c71] at H
           have c71b0 : decide (t657 < 0) = false := decide_eq_false c71
           clear c71
           by_cases c72 : t657 = t644
           ·rw [if_pos c72] at H
            have c72b0 : (t657 == t644) = true := beq_iff_eq.mpr c72
            have c72b1 : (t657 != t644) = false := bne_eq_false_iff_eq.mpr c72
            clear c72
            obtain rfl := Option.some.inj H
            have hnb73 := NB634_614.out
            have hnc73 := NB614_634.out
            have hnb74 := NB634_624.out
            have hnc74 := NB624_634.out
            have hnb75 := NB634_629.out
            have hnc75 := NB629_634.out
            have hcz76_0 : wc.cell? ⟨gb634, 0, none⟩ = some (.int .i64 t630) := (blk_cell BK634.out 0).trans rfl
            have hcz76_1 : wc.cell? ⟨gb634, 1, none⟩ = some (.slice Ao42 t631.length co42) := (blk_cell BK634.out 1).trans rfl
            have hfz76_0 := blk_frozen BK634.out 0
            have hfz76_1 := blk_frozen BK634.out 1
            go_wp2_with (first | ((with_reducible refine gate_callee (f := 36) rfl ?_); refine goesL_ (some 45) rfl rfl Try.func36 (by kernel_rfl) rfl #[.agg #[.int .i64 t630, .slice Ao42 t631.length co42], .int .i64 1] rfl (by (try simp only [List.map_toArray, List.map_cons, List.map_nil]); first | done | rfl | (simp only [List.length_drop, List.length_take]; rfl)) ?_; (with_reducible refine (laws_markGrid.calls kj16 t630 (fun k_ => some k_ = (.slice Ao42 t631.length co42 : Value).ownBlock) (.slice Ao42 t631.length co42) t631 1 t644 t645 w _ ?side1 ?side2 A62.out).mono ?_); (case side1 => repeat (first | (with_reducible first | exact HB.out | apply below_alloc | apply pw_below_drewN | apply below_drew1 | refine below_set ?_ GE614.out | refine below_set ?_ GE624.out | refine below_set ?_ GE629.out | refine below_set ?_ GE634.out) | exact HB.out)); (case side2 => exact Kd.R_tight rfl HO_635001.out); rintro e w77 ⟨rfl, hy0, hb, hkp⟩; refine ⟨_, rfl, ?_⟩; have n0_ := Aside0.mk (Kd.R_mono (ok' := fun k_ => some k_ ≠ (.slice Ao35 t642.length co35 : Value).ownBlock ∧ some k_ ≠ (.slice Ao42 t631.length co42 : Value).ownBlock) (Kd.R_keptB (HO_625001.out) hkp (fun k_ hk_ hs_ => (hk_.2) hs_)) (fun k_ hk_ => ⟨hk_.1.1, hk_.1.2⟩)); have n1_ := Aside0.mk (Kd.R_mono (ok' := fun k_ => some k_ ≠ (.slice Ao28 t621.length co28 : Value).ownBlock ∧ some k_ ≠ (.slice Ao42 t631.length co42 : Value).ownBlock) (Kd.R_keptB (HO_630001.out) hkp (fun k_ hk_ hs_ => (hk_.2) hs_)) (fun k_ hk_ => ⟨hk_.1.1, hk_.1.2⟩)); have n2_ := Aside0.mk (Kd.R_reok rfl hy0 (fun k_ e_ => HO_635001.out.1 k_ e_)); have n3_ := Aside0.mk (blk_kept (bK BK614.out) hkp (fun hs_ => (fun e_ => (Kd.R_ne HO_635001.out BK614.out (by decide)) e_) hs_)); have n4_ := Aside0.mk (blk_kept (bK BK624.out) hkp (fun hs_ => (fun e_ => (Kd.R_ne HO_635001.out BK624.out (by decide)) e_) hs_)); have n5_ := Aside0.mk (blk_kept (bK BK629.out) hkp (fun hs_ => (fun e_ => (Kd.R_ne HO_635001.out BK629.out (by decide)) e_) hs_)); have n6_ := Aside0.mk (blk_kept (bK BK634.out) hkp (fun hs_ => (fun e_ => (Kd.R_ne HO_635001.out BK634.out (by decide)) e_) hs_)); have n7_ := Aside0.mk (hb); clear HO_625001; clear HO_630001; clear HO_635001; clear BK614; clear BK624; clear BK629; clear BK634; clear HB; have HO_625001 := n0_; have HO_630001 := n1_; have HO_635001 := n2_; have BK614 := n3_; have BK624 := n4_; have BK629 := n5_; have BK634 := n6_; have HB := n7_; clear n0_ n1_ n2_ n3_ n4_ n5_ n6_ n7_; (try clear hb); (try clear hkp); (try clear hy0); have hcz78_0 : w77.cell? ⟨gb634, 0, none⟩ = some (.int .i64 t630) := (blk_cell BK634.out 0).trans rfl; have hcz78_1 : w77.cell? ⟨gb634, 1, none⟩ = some (.slice Ao42 t631.length co42) := (blk_cell BK634.out 1).trans rfl; have hfz78_0 := blk_frozen BK634.out 0; have hfz78_1 := blk_frozen BK634.out 1) | ((with_reducible refine gate_callee (f := 37) rfl ?_); refine goesL_ (some 48) rfl rfl Try.func37 (by kernel_rfl) rfl #[.agg #[.int .i64 t630, .slice Ao42 t645.length co42], .int .i64 1] rfl (by (try simp only [List.map_toArray, List.map_cons, List.map_nil]); first | done | (rw [show t645.length = t631.length from (Kd.R_reads' HO_635001.out).1.symm] <;> rfl) | rfl | (simp only [List.length_drop, List.length_take]; rfl)) ?_; (with_reducible refine (laws_heldGrid.calls kj16 t630 _ _ t645 1 t646 _ ?side1 ?side2 A63.out).mono ?_); (case side1 => repeat (first | exact (Kd.R_reads' HO_635001.out).2.2 | (with_reducible refine Kd.C_alloc ?_ _) | (with_reducible refine Kd.C_drewN ?_ _) | (with_reducible refine Kd.C_drew ?_))); (case side2 => rw [show t645.length = t631.length from (Kd.R_reads' HO_635001.out).1.symm]; exact (Kd.R_reads' HO_635001.out).2.1); rintro e w79 ⟨rfl, hb⟩; refine ⟨_, rfl, ?_⟩; have n0_ := Aside0.mk (Kd.R_below (kR HO_625001.out) hb); have n1_ := Aside0.mk (Kd.R_below (kR HO_630001.out) hb); have n2_ := Aside0.mk (Kd.R_below (kR HO_635001.out) hb); have n3_ := Aside0.mk (blk_below (bK BK614.out) hb); have n4_ := Aside0.mk (blk_below (bK BK624.out) hb); have n5_ := Aside0.mk (blk_below (bK BK629.out) hb); have n6_ := Aside0.mk (blk_below (bK BK634.out) hb); have n7_ := Aside0.mk (below_step (by repeat (first | (with_reducible first | exact HB.out | apply below_alloc | apply pw_below_drewN | apply below_drew1 | refine below_set ?_ GE614.out | refine below_set ?_ GE624.out | refine below_set ?_ GE629.out | refine below_set ?_ GE634.out) | exact HB.out)) hb); clear HO_625001; clear HO_630001; clear HO_635001; clear BK614; clear BK624; clear BK629; clear BK634; clear HB; have HO_625001 := n0_; have HO_630001 := n1_; have HO_635001 := n2_; have BK614 := n3_; have BK624 := n4_; have BK629 := n5_; have BK634 := n6_; have HB := n7_; clear n0_ n1_ n2_ n3_ n4_ n5_ n6_ n7_; (try clear hb); (try clear hb2); (try clear hk); (try clear hi); have hnb80 := NB614_624.out; have hnc80 := NB624_614.out; have hnb81 := NB614_629.out; have hnc81 := NB629_614.out; have hcz82_0 : w79.cell? ⟨gb614, 0, none⟩ = some (.int .i64 a0_0) := (blk_cell BK614.out 0).trans rfl; have hcz82_1 : w79.cell? ⟨gb614, 1, none⟩ = some (.slice A0_1 l0_1.length c0_1) := (blk_cell BK614.out 1).trans rfl; have hfz82_0 := blk_frozen BK614.out 0; have hfz82_1 := blk_frozen BK614.out 1) | ((with_reducible refine gate_callee (f := 17) rfl ?_); refine goesL_ (some 55) rfl rfl Try.func17 (by kernel_rfl) rfl #[.agg #[.int .i64 a0_0, .slice A0_1 l0_1.length c0_1]] rfl (by (try simp only [List.map_toArray, List.map_cons, List.map_nil]); first | done | rfl | (simp only [List.length_drop, List.length_take]; rfl)) ?_; (with_reducible refine (laws_toGrid.calls kj16 a0_0 _ _ l0_1 t647 t648 _ ?side1 ?side2 A66.out).mono ?_); (case side1 => repeat (first | exact (Kd.C_below HR0_1.out HB.out) | (with_reducible refine Kd.C_alloc ?_ _) | (with_reducible refine Kd.C_drewN ?_ _) | (with_reducible refine Kd.C_drew ?_))); (case side2 => exact HC0_1.out); rintro e w83 ⟨v649, rfl, ho0, hb⟩; refine ⟨_, rfl, ?_⟩; have n0_ := Aside0.mk (Kd.R_elder' (kR HO_625001.out) (Kd.R_base ho0) hb); have n1_ := Aside0.mk (Kd.R_elder' (kR HO_630001.out) (Kd.R_base ho0) hb); have n2_ := Aside0.mk (Kd.R_elder' (kR HO_635001.out) (Kd.R_base ho0) hb); have n3_ := Aside0.mk (Kd.R_lower (Kd.R_new' (Kd.R_new' (Kd.R_new' ho0 (Kd.R_lt (kR HO_625001.out))) (Kd.R_lt (kR HO_630001.out))) (Kd.R_lt (kR HO_635001.out))) (below_size (by repeat (first | (with_reducible first | exact HB.out | apply below_alloc | apply pw_below_drewN | apply below_drew1 | refine below_set ?_ GE614.out | refine below_set ?_ GE624.out | refine below_set ?_ GE629.out | refine below_set ?_ GE634.out) | exact HB.out)))); have n4_ := Aside0.mk (blk_below (bK BK614.out) hb); have n5_ := Aside0.mk (blk_below (bK BK624.out) hb); have n6_ := Aside0.mk (blk_below (bK BK629.out) hb); have n7_ := Aside0.mk (blk_below (bK BK634.out) hb); have n8_ := Aside0.mk (below_step (by repeat (first | (with_reducible first | exact HB.out | apply below_alloc | apply pw_below_drewN | apply below_drew1 | refine below_set ?_ GE614.out | refine below_set ?_ GE624.out | refine below_set ?_ GE629.out | refine below_set ?_ GE634.out) | exact HB.out)) hb); clear HO_625001; clear HO_630001; clear HO_635001; clear BK614; clear BK624; clear BK629; clear BK634; clear HB; have HO_625001 := n0_; have HO_630001 := n1_; have HO_635001 := n2_; have HO650 := n3_; have BK614 := n4_; have BK624 := n5_; have BK629 := n6_; have BK634 := n7_; have HB := n8_; clear n0_ n1_ n2_ n3_ n4_ n5_ n6_ n7_ n8_; (try clear hb); (try clear hb2); (try clear hk); (try clear hi); (try clear ho0); obtain ⟨Ao84, co84, eo84⟩ := Kd.R_slice HO650.out; subst eo84) | ((with_reducible refine gate_callee (f := 45) rfl ?_); refine goesL_ (some 56) rfl rfl Try.func45 (by kernel_rfl) rfl #[.agg #[.int .i64 t647, .slice Ao84 t648.length co84]] rfl (by (try simp only [List.map_toArray, List.map_cons, List.map_nil]); first | done | rfl | (simp only [List.length_drop, List.length_take]; rfl)) ?_; (with_reducible refine (impl_GridTurn.calls t647 _ _ t648 t651 t652 _ ?side1 ?side2 A67.out).mono ?_); (case side1 => repeat (first | exact (Kd.R_reads' HO650.out).2.2 | (with_reducible refine Kd.C_alloc ?_ _) | (with_reducible refine Kd.C_drewN ?_ _) | (with_reducible refine Kd.C_drew ?_))); (case side2 => exact (Kd.R_reads' HO650.out).2.1); rintro e w85 ⟨v653, rfl, ho0, hb⟩; refine ⟨_, rfl, ?_⟩; have n0_ := Aside0.mk (Kd.R_elder' (kR HO_625001.out) (Kd.R_base ho0) hb); have n1_ := Aside0.mk (Kd.R_elder' (kR HO_630001.out) (Kd.R_base ho0) hb); have n2_ := Aside0.mk (Kd.R_elder' (kR HO_635001.out) (Kd.R_base ho0) hb); have n3_ := Aside0.mk (Kd.R_elder' (kR HO650.out) (Kd.R_base ho0) hb); have n4_ := Aside0.mk (Kd.R_lower (Kd.R_new' (Kd.R_new' (Kd.R_new' (Kd.R_new' ho0 (Kd.R_lt (kR HO_625001.out))) (Kd.R_lt (kR HO_630001.out))) (Kd.R_lt (kR HO_635001.out))) (Kd.R_lt (kR HO650.out))) (below_size (by repeat (first | (with_reducible first | exact HB.out | apply below_alloc | apply pw_below_drewN | apply below_drew1 | refine below_set ?_ GE614.out | refine below_set ?_ GE624.out | refine below_set ?_ GE629.out | refine below_set ?_ GE634.out) | exact HB.out)))); have n5_ := Aside0.mk (blk_below (bK BK614.out) hb); have n6_ := Aside0.mk (blk_below (bK BK624.out) hb); have n7_ := Aside0.mk (blk_below (bK BK629.out) hb); have n8_ := Aside0.mk (blk_below (bK BK634.out) hb); have n9_ := Aside0.mk (below_step (by repeat (first | (with_reducible first | exact HB.out | apply below_alloc | apply pw_below_drewN | apply below_drew1 | refine below_set ?_ GE614.out | refine below_set ?_ GE624.out | refine below_set ?_ GE629.out | refine below_set ?_ GE634.out) | exact HB.out)) hb); clear HO_625001; clear HO_630001; clear HO_635001; clear HO650; clear BK614; clear BK624; clear BK629; clear BK634; clear HB; have HO_625001 := n0_; have HO_630001 := n1_; have HO_635001 := n2_; have HO650 := n3_; have HO654 := n4_; have BK614 := n5_; have BK624 := n6_; have BK629 := n7_; have BK634 := n8_; have HB := n9_; clear n0_ n1_ n2_ n3_ n4_ n5_ n6_ n7_ n8_ n9_; (try clear hb); (try clear hb2); (try clear hk); (try clear hi); (try clear ho0)) | ((with_reducible refine gate_dst (N := 10) rfl ?_); refine box_event ?hg (N := 10) ?hd (cs := #[.int .i64 0, .slice none 0 0]) (t := 29) ?hr ?_; (case hd => rfl); (case hg => rfl); (case hr => first | (go_simp; done) | (go_simp; rfl)); intro gb655 hg w86 hbox hb; have n0_ := Aside0.mk (Kd.R_below (kR HO_625001.out) hb); have n1_ := Aside0.mk (Kd.R_below (kR HO_630001.out) hb); have n2_ := Aside0.mk (Kd.R_below (kR HO_635001.out) hb); have n3_ := Aside0.mk (Kd.R_below (kR HO650.out) hb); have n4_ := Aside0.mk (Kd.R_below (kR HO654.out) hb); have n5_ := Aside0.mk (blk_below (bK BK614.out) hb); have n6_ := Aside0.mk (blk_below (bK BK624.out) hb); have n7_ := Aside0.mk (blk_below (bK BK629.out) hb); have n8_ := Aside0.mk (blk_below (bK BK634.out) hb); have n9_ := Aside0.mk (below_step (by repeat (first | (with_reducible first | exact HB.out | apply below_alloc | apply pw_below_drewN | apply below_drew1 | refine below_set ?_ GE614.out | refine below_set ?_ GE624.out | refine below_set ?_ GE629.out | refine below_set ?_ GE634.out) | exact HB.out)) hb); have n10_ := Aside0.mk (hbox); have n11_ := Aside0.mk ((by rw [hg]; exact (below_size (by repeat (first | (with_reducible first | exact HB.out | apply below_alloc | apply pw_below_drewN | apply below_drew1 | refine below_set ?_ GE614.out | refine below_set ?_ GE624.out | refine below_set ?_ GE629.out | refine below_set ?_ GE634.out) | exact HB.out))) : w.heap.size ≤ gb655)); have n12_ := Aside0.mk ((by rw [hg]; exact (below_size (by repeat (first | (with_reducible first | exact HB.out | apply below_alloc | apply pw_below_drewN | apply below_drew1 | refine below_set ?_ GE614.out | refine below_set ?_ GE624.out | refine below_set ?_ GE629.out | refine below_set ?_ GE634.out) | exact HB.out))) : w.heap.size ≤ gb655)); have n13_ := Aside0.mk ((by rw [hg]; exact Nat.ne_of_lt (blk_lt (bK BK614.out)) : gb614 ≠ gb655)); have n14_ := Aside0.mk ((by rw [hg]; exact Nat.ne_of_gt (blk_lt (bK BK614.out)) : gb655 ≠ gb614)); have n15_ := Aside0.mk ((by rw [hg]; exact Nat.ne_of_lt (blk_lt (bK BK624.out)) : gb624 ≠ gb655)); have n16_ := Aside0.mk ((by rw [hg]; exact Nat.ne_of_gt (blk_lt (bK BK624.out)) : gb655 ≠ gb624)); have n17_ := Aside0.mk ((by rw [hg]; exact Nat.ne_of_lt (blk_lt (bK BK629.out)) : gb629 ≠ gb655)); have n18_ := Aside0.mk ((by rw [hg]; exact Nat.ne_of_gt (blk_lt (bK BK629.out)) : gb655 ≠ gb629)); have n19_ := Aside0.mk ((by rw [hg]; exact Nat.ne_of_lt (blk_lt (bK BK634.out)) : gb634 ≠ gb655)); have n20_ := Aside0.mk ((by rw [hg]; exact Nat.ne_of_gt (blk_lt (bK BK634.out)) : gb655 ≠ gb634)); clear HO_625001; clear HO_630001; clear HO_635001; clear HO650; clear HO654; clear BK614; clear BK624; clear BK629; clear BK634; clear HB; have HO_625001 := n0_; have HO_630001 := n1_; have HO_635001 := n2_; have HO650 := n3_; have HO654 := n4_; have BK614 := n5_; have BK624 := n6_; have BK629 := n7_; have BK634 := n8_; have HB := n9_; have BK655 := n10_; have GW655 := n11_; have GE655 := n12_; have NB614_655 := n13_; have NB655_614 := n14_; have NB624_655 := n15_; have NB655_624 := n16_; have NB629_655 := n17_; have NB655_629 := n18_; have NB634_655 := n19_; have NB655_634 := n20_; clear n0_ n1_ n2_ n3_ n4_ n5_ n6_ n7_ n8_ n9_ n10_ n11_ n12_ n13_ n14_ n15_ n16_ n17_ n18_ n19_ n20_; clear hb hbox hg; have hnb87 := NB655_614.out; have hnc87 := NB614_655.out; have hnb88 := NB655_624.out; have hnc88 := NB624_655.out; have hnb89 := NB655_629.out; have hnc89 := NB629_655.out; have hnb90 := NB655_634.out; have hnc90 := NB634_655.out; have hcz91_0 : w86.cell? ⟨gb655, 0, none⟩ = some (.int .i64 0) := (blk_cell BK655.out 0).trans rfl; have hcz91_1 : w86.cell? ⟨gb655, 1, none⟩ = some (.slice none 0 0) := (blk_cell BK655.out 1).trans rfl; have hfz91_0 := blk_frozen BK655.out 0; have hfz91_1 := blk_frozen BK655.out 1; obtain ⟨Ao92, co92, eo92⟩ := Kd.R_slice HO654.out; subst eo92; have hnb93 := NB624_629.out; have hnc93 := NB629_624.out; have hcz94_0 : w86.cell? ⟨gb624, 0, none⟩ = some (.int .i64 t620) := (blk_cell BK624.out 0).trans rfl; have hcz94_1 : w86.cell? ⟨gb624, 1, none⟩ = some (.slice Ao28 t621.length co28) := (blk_cell BK624.out 1).trans rfl; have hfz94_0 := blk_frozen BK624.out 0; have hfz94_1 := blk_frozen BK624.out 1) | ((with_reducible refine gate_callee (f := 19) rfl ?_); refine goesL_ (some 59) rfl rfl Try.func19 (by kernel_rfl) rfl #[.agg #[.int .i64 t651, .slice Ao92 t652.length co92], .agg #[.int .i64 t620, .slice Ao28 t621.length co28]] rfl (by (try simp only [List.map_toArray, List.map_cons, List.map_nil]); first | done | rfl | (simp only [List.length_drop, List.length_take]; rfl)) ?_; (with_reducible refine (laws_eqGrid.calls kj16 t651 _ _ t652 t620 _ _ t621 true _ ?side1 ?side2 ?side3 ?side4 A68.out).mono ?_); (case side1 => refine (Kd.R_reads' (e := 48) (base := w.heap.size) (ok := fun k_ => ((((True ∧ some k_ ≠ (.slice Ao28 t621.length co28 : Value).ownBlock) ∧ some k_ ≠ (.slice Ao35 t642.length co35 : Value).ownBlock) ∧ some k_ ≠ (.slice Ao42 t631.length co42 : Value).ownBlock) ∧ some k_ ≠ (.slice Ao84 t648.length co84 : Value).ownBlock)) (n := t652.length) (c := co92) ?_).2.2; exact (by (with_reducible repeat (first | apply Kd.R_alloc | apply Kd.R_drewN | apply Kd.R_drew)); exact (Kd.R_mono (Kd.R_far (p := ⟨gb655, 1, none⟩) (Kd.R_far (p := ⟨gb655, 0, none⟩) (Kd.R_types HO654.out BK655.out (by decide)) (fun _ hk => hk.2) (.int .i64 t651)) (fun _ hk => hk.2) (.slice Ao92 t652.length co92)) (fun _ h_ => h_.1)))); (case side2 => exact (Kd.R_reads' HO654.out).2.1); (case side3 => refine (Kd.R_reads' (e := 48) (base := w.heap.size) (ok := fun k_ => (((some k_ ≠ (.slice Ao35 t642.length co35 : Value).ownBlock ∧ some k_ ≠ (.slice Ao42 t631.length co42 : Value).ownBlock) ∧ some k_ ≠ (.slice Ao84 t648.length co84 : Value).ownBlock) ∧ some k_ ≠ (.slice Ao92 t652.length co92 : Value).ownBlock)) (n := t621.length) (c := co28) ?_).2.2; exact (by (with_reducible repeat (first | apply Kd.R_alloc | apply Kd.R_drewN | apply Kd.R_drew)); exact (Kd.R_mono (Kd.R_far (p := ⟨gb655, 1, none⟩) (Kd.R_far (p := ⟨gb655, 0, none⟩) (Kd.R_types HO_625001.out BK655.out (by decide)) (fun _ hk => hk.2) (.int .i64 t651)) (fun _ hk => hk.2) (.slice Ao92 t652.length co92)) (fun _ h_ => h_.1)))); (case side4 => exact (Kd.R_reads' HO_625001.out).2.1); rintro e w95 ⟨rfl, hb⟩; refine ⟨_, rfl, ?_⟩; have n0_ := Aside0.mk (Kd.R_below (by (with_reducible repeat (first | apply Kd.R_alloc | apply Kd.R_drewN | apply Kd.R_drew)); exact (Kd.R_mono (Kd.R_far (p := ⟨gb655, 1, none⟩) (Kd.R_far (p := ⟨gb655, 0, none⟩) (Kd.R_types HO_625001.out BK655.out (by decide)) (fun _ hk => hk.2) (.int .i64 t651)) (fun _ hk => hk.2) (.slice Ao92 t652.length co92)) (fun _ h_ => h_.1))) hb); have n1_ := Aside0.mk (Kd.R_below (by (with_reducible repeat (first | apply Kd.R_alloc | apply Kd.R_drewN | apply Kd.R_drew)); exact (Kd.R_mono (Kd.R_far (p := ⟨gb655, 1, none⟩) (Kd.R_far (p := ⟨gb655, 0, none⟩) (Kd.R_types HO_630001.out BK655.out (by decide)) (fun _ hk => hk.2) (.int .i64 t651)) (fun _ hk => hk.2) (.slice Ao92 t652.length co92)) (fun _ h_ => h_.1))) hb); have n2_ := Aside0.mk (Kd.R_below (by (with_reducible repeat (first | apply Kd.R_alloc | apply Kd.R_drewN | apply Kd.R_drew)); exact (Kd.R_mono (Kd.R_far (p := ⟨gb655, 1, none⟩) (Kd.R_far (p := ⟨gb655, 0, none⟩) (Kd.R_types HO_635001.out BK655.out (by decide)) (fun _ hk => hk.2) (.int .i64 t651)) (fun _ hk => hk.2) (.slice Ao92 t652.length co92)) (fun _ h_ => h_.1))) hb); have n3_ := Aside0.mk (Kd.R_below (by (with_reducible repeat (first | apply Kd.R_alloc | apply Kd.R_drewN | apply Kd.R_drew)); exact (Kd.R_mono (Kd.R_far (p := ⟨gb655, 1, none⟩) (Kd.R_far (p := ⟨gb655, 0, none⟩) (Kd.R_types HO650.out BK655.out (by decide)) (fun _ hk => hk.2) (.int .i64 t651)) (fun _ hk => hk.2) (.slice Ao92 t652.length co92)) (fun _ h_ => h_.1))) hb); have n4_ := Aside0.mk (Kd.R_below (by (with_reducible repeat (first | apply Kd.R_alloc | apply Kd.R_drewN | apply Kd.R_drew)); exact (Kd.R_mono (Kd.R_far (p := ⟨gb655, 1, none⟩) (Kd.R_far (p := ⟨gb655, 0, none⟩) (Kd.R_types HO654.out BK655.out (by decide)) (fun _ hk => hk.2) (.int .i64 t651)) (fun _ hk => hk.2) (.slice Ao92 t652.length co92)) (fun _ h_ => h_.1))) hb); have n5_ := Aside0.mk (blk_below (g := gb614) (o := .cells #[.int .i64 a0_0, .slice A0_1 l0_1.length c0_1] 24 (0, 0)) (by (with_reducible repeat (first | refine blk_drewN ?_ _ | refine blk_drew ?_ | refine blk_alloc ?_ _)); refine blk_far ?_ NB614_655.out _; (with_reducible repeat (first | refine blk_drewN ?_ _ | refine blk_drew ?_ | refine blk_alloc ?_ _)); refine blk_far ?_ NB614_655.out _; (with_reducible repeat (first | refine blk_drewN ?_ _ | refine blk_drew ?_ | refine blk_alloc ?_ _)); exact BK614.out) hb); have n6_ := Aside0.mk (blk_below (g := gb624) (o := .cells #[.int .i64 t620, .slice Ao28 t621.length co28] 29 (0, 0)) (by (with_reducible repeat (first | refine blk_drewN ?_ _ | refine blk_drew ?_ | refine blk_alloc ?_ _)); refine blk_far ?_ NB624_655.out _; (with_reducible repeat (first | refine blk_drewN ?_ _ | refine blk_drew ?_ | refine blk_alloc ?_ _)); refine blk_far ?_ NB624_655.out _; (with_reducible repeat (first | refine blk_drewN ?_ _ | refine blk_drew ?_ | refine blk_alloc ?_ _)); exact BK624.out) hb); have n7_ := Aside0.mk (blk_below (g := gb629) (o := .cells #[.int .i64 t625, .slice Ao35 t642.length co35] 29 (0, 0)) (by (with_reducible repeat (first | refine blk_drewN ?_ _ | refine blk_drew ?_ | refine blk_alloc ?_ _)); refine blk_far ?_ NB629_655.out _; (with_reducible repeat (first | refine blk_drewN ?_ _ | refine blk_drew ?_ | refine blk_alloc ?_ _)); refine blk_far ?_ NB629_655.out _; (with_reducible repeat (first | refine blk_drewN ?_ _ | refine blk_drew ?_ | refine blk_alloc ?_ _)); exact BK629.out) hb); have n8_ := Aside0.mk (blk_below (g := gb634) (o := .cells #[.int .i64 t630, .slice Ao42 t631.length co42] 29 (0, 0)) (by (with_reducible repeat (first | refine blk_drewN ?_ _ | refine blk_drew ?_ | refine blk_alloc ?_ _)); refine blk_far ?_ NB634_655.out _; (with_reducible repeat (first | refine blk_drewN ?_ _ | refine blk_drew ?_ | refine blk_alloc ?_ _)); refine blk_far ?_ NB634_655.out _; (with_reducible repeat (first | refine blk_drewN ?_ _ | refine blk_drew ?_ | refine blk_alloc ?_ _)); exact BK634.out) hb); have n9_ := Aside0.mk (blk_below (g := gb655) (o := .cells #[.int .i64 t651, .slice Ao92 t652.length co92] 29 (0, 0)) (by (with_reducible repeat (first | refine blk_drewN ?_ _ | refine blk_drew ?_ | refine blk_alloc ?_ _)); refine blk_put (cs := #[.int .i64 t651, .slice none 0 0]) ?_ 1 _ rfl; (with_reducible repeat (first | refine blk_drewN ?_ _ | refine blk_drew ?_ | refine blk_alloc ?_ _)); refine blk_put (cs := #[.int .i64 0, .slice none 0 0]) ?_ 0 _ rfl; (with_reducible repeat (first | refine blk_drewN ?_ _ | refine blk_drew ?_ | refine blk_alloc ?_ _)); exact BK655.out) hb); have n10_ := Aside0.mk (below_step (by repeat (first | (with_reducible first | exact HB.out | apply below_alloc | apply pw_below_drewN | apply below_drew1 | refine below_set ?_ GE614.out | refine below_set ?_ GE624.out | refine below_set ?_ GE629.out | refine below_set ?_ GE634.out | refine below_set ?_ GE655.out) | exact HB.out)) hb); clear HO_625001; clear HO_630001; clear HO_635001; clear HO650; clear HO654; clear BK614; clear BK624; clear BK629; clear BK634; clear BK655; clear HB; have HO_625001 := n0_; have HO_630001 := n1_; have HO_635001 := n2_; have HO650 := n3_; have HO654 := n4_; have BK614 := n5_; have BK624 := n6_; have BK629 := n7_; have BK634 := n8_; have BK655 := n9_; have HB := n10_; clear n0_ n1_ n2_ n3_ n4_ n5_ n6_ n7_ n8_ n9_ n10_; (try clear hb); (try clear hb2); (try clear hk); (try clear hi); have hcz96_0 : w95.cell? ⟨gb634, 0, none⟩ = some (.int .i64 t630) := (blk_cell BK634.out 0).trans rfl; have hcz96_1 : w95.cell? ⟨gb634, 1, none⟩ = some (.slice Ao42 t631.length co42) := (blk_cell BK634.out 1).trans rfl; have hfz96_0 := blk_frozen BK634.out 0; have hfz96_1 := blk_frozen BK634.out 1) | ((with_reducible refine gate_callee (f := 37) rfl ?_); refine goesL_ (some 63) rfl rfl Try.func37 (by kernel_rfl) rfl #[.agg #[.int .i64 t630, .slice Ao42 t645.length co42], .int .i64 1] rfl (by (try simp only [List.map_toArray, List.map_cons, List.map_nil]); first | done | (rw [show t645.length = t631.length from (Kd.R_reads' HO_635001.out).1.symm] <;> rfl) | rfl | (simp only [List.length_drop, List.length_take]; rfl)) ?_; (with_reducible refine (laws_heldGrid.calls kj16 t630 _ _ t645 1 t657 _ ?side1 ?side2 A70.out).mono ?_); (case side1 => repeat (first | exact (Kd.R_reads' HO_635001.out).2.2 | (with_reducible refine Kd.C_alloc ?_ _) | (with_reducible refine Kd.C_drewN ?_ _) | (with_reducible refine Kd.C_drew ?_))); (case side2 => rw [show t645.length = t631.length from (Kd.R_reads' HO_635001.out).1.symm]; exact (Kd.R_reads' HO_635001.out).2.1); rintro e w97 ⟨rfl, hb⟩; refine ⟨_, rfl, ?_⟩; have n0_ := Aside0.mk (Kd.R_below (kR HO_625001.out) hb); have n1_ := Aside0.mk (Kd.R_below (kR HO_630001.out) hb); have n2_ := Aside0.mk (Kd.R_below (kR HO_635001.out) hb); have n3_ := Aside0.mk (Kd.R_below (kR HO650.out) hb); have n4_ := Aside0.mk (Kd.R_below (kR HO654.out) hb); have n5_ := Aside0.mk (blk_below (bK BK614.out) hb); have n6_ := Aside0.mk (blk_below (bK BK624.out) hb); have n7_ := Aside0.mk (blk_below (bK BK629.out) hb); have n8_ := Aside0.mk (blk_below (bK BK634.out) hb); have n9_ := Aside0.mk (blk_below (bK BK655.out) hb); have n10_ := Aside0.mk (below_step (by repeat (first | (with_reducible first | exact HB.out | apply below_alloc | apply pw_below_drewN | apply below_drew1 | refine below_set ?_ GE614.out | refine below_set ?_ GE624.out | refine below_set ?_ GE629.out | refine below_set ?_ GE634.out | refine below_set ?_ GE655.out) | exact HB.out)) hb); clear HO_625001; clear HO_630001; clear HO_635001; clear HO650; clear HO654; clear BK614; clear BK624; clear BK629; clear BK634; clear BK655; clear HB; have HO_625001 := n0_; have HO_630001 := n1_; have HO_635001 := n2_; have HO650 := n3_; have HO654 := n4_; have BK614 := n5_; have BK624 := n6_; have BK629 := n7_; have BK634 := n8_; have BK655 := n9_; have HB := n10_; clear n0_ n1_ n2_ n3_ n4_ n5_ n6_ n7_ n8_ n9_ n10_; (try clear hb); (try clear hb2); (try clear hk); (try clear hi)))
            go_ret
            exact ⟨by first | rfl | (simp [errW_none, errW_some] <;> rfl) | (simp [*, errW_none, errW_some] <;> rfl) | (exfalso; simp_all; done), by repeat (first | (with_reducible first | exact HB.out | apply below_alloc | apply pw_below_drewN | apply below_drew1 | refine below_set ?_ GE614.out | refine below_set ?_ GE624.out | refine below_set ?_ GE629.out | refine below_set ?_ GE634.out | refine below_set ?_ GE655.out) | exact HB.out)⟩
           ·rw [if_neg c72] at H
            have c72b0 : (t657 == t644) = false := beq_eq_false_iff_ne.mpr c72
            have c72b1 : (t657 != t644) = true := bne_iff_ne.mpr c72
            obtain rfl := Option.some.inj H
            exact absurd HRT.out (by decide)
         ·replace c69 := Bool.eq_false_iff.mpr c69
          subst c69
          have H1 : (some false) = some r := by rw [if_neg (show ¬ (false = true) by decide)] at H; exact H
          clear H
          have H := H1
          clear H1
          obtain rfl := Option.some.inj H
          exact absurd HRT.out (by decide)
        ·rw [if_neg c65] at H
         have c65b0 : (t646 == t644) = false := beq_eq_false_iff_ne.mpr c65
         have c65b1 : (t646 != t644) = true := bne_iff_ne.mpr c65
         obtain rfl := Option.some.inj H
         exact absurd HRT.out (by decide)
   ·replace c15 := Bool.eq_false_iff.mpr c15
    subst c15
    have H1 : (some false) = some r := by rw [if_neg (show ¬ (false = true) by decide)] at H; exact H
    clear H
    have H := H1
    clear H1
    obtain rfl := Option.some.inj H
    exact absurd HRT.out (by decide)
  ·replace c12 := Bool.eq_false_iff.mpr c12
   subst c12
   have H1 : (some false) = some r := by rw [if_neg (show ¬ (false = true) by decide)] at H; exact H
   clear H
   have H := H1
   clear H1
   obtain rfl := Option.some.inj H
   exact absurd HRT.out (by decide)

end Go.Proofs.Ytniaipoelaefnaa.P
