/- PROVED: contracts of functions of the program, the reference and the statements; written by this session's driver (pk.py) through its own changed copy of the kit's print. No condition. -/
import Derived.Test.YtbnofnamkgfadaaPx0
import Derived.Test.YtbnofnamkgfadaaPx2
import Derived.Test.YtbnofnamkgfadaaPx3
import Derived.Test.YtbnofnamkgfadaaPx4
import Derived.Test.YtbnofnamkgfadaaPx5
import Derived.Test.YtbnofnamkgfadaaPx9
import Derived.Test.YtbnofnamkgfadaaPx16
namespace Go.Proofs.Ytbnofnamkgfadaa.P
open Go.RowKit Go.Proofs.YtbnofnamkgfadaaW.PrintWords Go.Proofs.YtbnofnamkgfadaaW.PrintLast Go.Proofs.YtbnofnamkgfadaaW.PrintMore
attribute [local go_sem] max2_int min2_int max_two min_two max_three min_three max_four min_four   -- for this text's walks alone
set_option linter.unusedVariables false
set_option linter.unusedSimpArgs false

/-! ### spec_DrawGridPut: function 34 -/
def spec_DrawGridPut.f (k : Nat) (l0 : List Int) : Option (Int × (List (S24)) × Int × Int × Int) := (spec_l6Open.f l0).bind fun bt472 => ((spec_l71Some.f k bt472.1 bt472.2).bind fun bt475 => ((spec_l71Cell.f k bt472.1 bt475.2.2).bind fun bt481 => ((spec_l6Rd_pick.f k bt472.1 bt481.2.2 16).bind fun bt485 => (if bt485.1 = 0 then ((spec_l71Off.f k bt472.1 bt485.2).bind fun bt487 => ((spec_l71Place.f k bt472.1 bt487.2.2 bt475.1 bt475.2.1).bind fun bt490 => (some (bt475.1, bt475.2.1, bt490.1, bt487.1, bt487.2.1)))) else ((spec_l71Place.f k bt472.1 bt485.2 bt475.1 bt475.2.1).bind fun bt492 => (some (bt475.1, bt475.2.1, bt492.1, bt481.1, bt481.2.1)))))))
def spec_DrawGridPut.T6 : Bool × List (List Nat × List Nat) := (true, [([], []), ([], []), ([], []), ([1, 2], [1, 2]), ([], []), ([0, 3, 0], [0]), ([3, 5, 0, 1, 2, 3, 5], [3]), ([4, 6, 0, 1, 2, 3, 4, 5, 6], [4])])
def spec_DrawGridPut.B6 : List Nat := [0, 0, 0, 6, 0, 15, 47, 127]
theorem spec_DrawGridPut.tab6 : rtab .any (opsOf Try.f34 6) = spec_DrawGridPut.T6 := by kernel_rfl
theorem spec_DrawGridPut.bits6 : waitsOk spec_DrawGridPut.T6.2 spec_DrawGridPut.B6 = true := by kernel_rfl
set_option maxHeartbeats 8000000 in
set_option maxRecDepth 100000 in
theorem spec_DrawGridPut.calls (k : Nat) (A0 : Option Addr) (c0 : Nat) (l0 : List Int) (r1 : Int) (r2 : List (S24)) (r3 : Int) (r4 : Int) (r5 : Int) (w : World) (hr0 : Kd.C (Kd.int .u8) w A0 l0.length l0) (hc0 : l0.length ≤ c0) (h : spec_DrawGridPut.f k l0 = some (r1, r2, r3, r4, r5)) :
  Calls Try.prog 34 #[.slice A0 l0.length c0] w fun e w' => ∃ v1_ : Value, e = .returned (.tuple #[.agg #[.int .i64 r1, v1_], .int .i64 r3, .agg #[.int .i64 r4, .int .i64 r5]]) ∧ Kd.Q k24 24 w' w.heap.size (fun _ => True) v1_ r2 ∧ Below w.heap.size w w' := by
 have hu30 := Try.underlying30
 have hu24 := Try.underlying24
 have HR0 := Aside0.mk hr0
 have HC0 := Aside0.mk hc0
 clear hr0 hc0
 have HB := Aside0.mk (Below.refl w.heap.size w)
 have H : ((spec_l6Open.f l0).bind fun bt472 => ((spec_l71Some.f k bt472.1 bt472.2).bind fun bt475 => ((spec_l71Cell.f k bt472.1 bt475.2.2).bind fun bt481 => ((spec_l6Rd_pick.f k bt472.1 bt481.2.2 16).bind fun bt485 => (if bt485.1 = 0 then ((spec_l71Off.f k bt472.1 bt485.2).bind fun bt487 => ((spec_l71Place.f k bt472.1 bt487.2.2 bt475.1 bt475.2.1).bind fun bt490 => (some (bt475.1, bt475.2.1, bt490.1, bt487.1, bt487.2.1)))) else ((spec_l71Place.f k bt472.1 bt485.2 bt475.1 bt475.2.1).bind fun bt492 => (some (bt475.1, bt475.2.1, bt492.1, bt481.1, bt481.2.1)))))))) = some (r1, r2, r3, r4, r5) := h
 clear h
 replace H := Option.bind_eq_some_iff.mp H
 obtain ⟨⟨t472, t473⟩, A20, H⟩ := H
 replace H : ((spec_l71Some.f k t472 t473).bind fun bt475 => ((spec_l71Cell.f k t472 bt475.2.2).bind fun bt481 => ((spec_l6Rd_pick.f k t472 bt481.2.2 16).bind fun bt485 => (if bt485.1 = 0 then ((spec_l71Off.f k t472 bt485.2).bind fun bt487 => ((spec_l71Place.f k t472 bt487.2.2 bt475.1 bt475.2.1).bind fun bt490 => (some (bt475.1, bt475.2.1, bt490.1, bt487.1, bt487.2.1)))) else ((spec_l71Place.f k t472 bt485.2 bt475.1 bt475.2.1).bind fun bt492 => (some (bt475.1, bt475.2.1, bt492.1, bt481.1, bt481.2.1))))))) = some (r1, r2, r3, r4, r5) := H
 have A2 := Aside0.mk A20
 clear A20
 replace H := Option.bind_eq_some_iff.mp H
 obtain ⟨⟨t475, t476, t479⟩, A30, H⟩ := H
 replace H : ((spec_l71Cell.f k t472 t479).bind fun bt481 => ((spec_l6Rd_pick.f k t472 bt481.2.2 16).bind fun bt485 => (if bt485.1 = 0 then ((spec_l71Off.f k t472 bt485.2).bind fun bt487 => ((spec_l71Place.f k t472 bt487.2.2 t475 t476).bind fun bt490 => (some (t475, t476, bt490.1, bt487.1, bt487.2.1)))) else ((spec_l71Place.f k t472 bt485.2 t475 t476).bind fun bt492 => (some (t475, t476, bt492.1, bt481.1, bt481.2.1)))))) = some (r1, r2, r3, r4, r5) := H
 have A3 := Aside0.mk A30
 clear A30
 replace H := Option.bind_eq_some_iff.mp H
 obtain ⟨⟨t481, t482, t483⟩, A40, H⟩ := H
 replace H : ((spec_l6Rd_pick.f k t472 t483 16).bind fun bt485 => (if bt485.1 = 0 then ((spec_l71Off.f k t472 bt485.2).bind fun bt487 => ((spec_l71Place.f k t472 bt487.2.2 t475 t476).bind fun bt490 => (some (t475, t476, bt490.1, bt487.1, bt487.2.1)))) else ((spec_l71Place.f k t472 bt485.2 t475 t476).bind fun bt492 => (some (t475, t476, bt492.1, t481, t482))))) = some (r1, r2, r3, r4, r5) := H
 have A4 := Aside0.mk A40
 clear A40
 replace H := Option.bind_eq_some_iff.mp H
 obtain ⟨⟨t485, t486⟩, A50, H⟩ := H
 replace H : (if t485 = 0 then ((spec_l71Off.f k t472 t486).bind fun bt487 => ((spec_l71Place.f k t472 bt487.2.2 t475 t476).bind fun bt490 => (some (t475, t476, bt490.1, bt487.1, bt487.2.1)))) else ((spec_l71Place.f k t472 t486 t475 t476).bind fun bt492 => (some (t475, t476, bt492.1, t481, t482)))) = some (r1, r2, r3, r4, r5) := H
 have A5 := Aside0.mk A50
 clear A50
 by_cases c6 : t485 = 0
 ·rw [if_pos c6] at H
  have c6b0 : (t485 == 0) = true := beq_iff_eq.mpr c6
  have c6b1 : (t485 != 0) = false := bne_eq_false_iff_eq.mpr c6
  clear c6
  replace H := Option.bind_eq_some_iff.mp H
  obtain ⟨⟨t487, t488, t489⟩, A70, H⟩ := H
  replace H : ((spec_l71Place.f k t472 t489 t475 t476).bind fun bt490 => (some (t475, t476, bt490.1, t487, t488))) = some (r1, r2, r3, r4, r5) := H
  have A7 := Aside0.mk A70
  clear A70
  replace H := Option.bind_eq_some_iff.mp H
  obtain ⟨⟨t490, t491⟩, A80, H⟩ := H
  replace H : (some (t475, t476, t490, t487, t488)) = some (r1, r2, r3, r4, r5) := H
  have A8 := Aside0.mk A80
  clear A80
  simp only [Option.some.injEq, Prod.mk.injEq] at H
  obtain ⟨rfl, rfl, rfl, rfl, rfl⟩ := H
  go_enter Try.func34, Try.ntmps34
  try go_wp2_with (first | ((with_reducible refine gate_dst (N := 2) rfl ?_); refine box_event rfl (N := 2) rfl (cs := #[.int .i64 0, .slice none 0 0]) (t := 30) ?hr ?_; (case hr => first | (go_simp; done) | (go_simp; rfl)); intro gb470 hg w9 hbox hb; have n0_ := Aside0.mk (below_step (by repeat first | exact HB.out | apply below_alloc | apply pw_below_drewN) hb); have n1_ := Aside0.mk (hbox); have n2_ := Aside0.mk ((by rw [hg]; exact (below_size (by repeat first | exact HB.out | apply below_alloc | apply pw_below_drewN)) : w.heap.size ≤ gb470)); have n3_ := Aside0.mk ((by rw [hg]; exact (below_size (by repeat first | exact HB.out | apply below_alloc | apply pw_below_drewN)) : w.heap.size ≤ gb470)); clear HB; have HB := n0_; have BK470 := n1_; have GW470 := n2_; have GE470 := n3_; clear n0_ n1_ n2_ n3_; clear hb hbox hg) | ((with_reducible refine gate_dst (N := 4) rfl ?_); refine box_event rfl (N := 4) rfl (cs := #[.int .i64 0, .int .i64 0]) (t := 24) ?hr ?_; (case hr => first | (go_simp; done) | (go_simp; rfl)); intro gb471 hg w10 hbox hb; have n0_ := Aside0.mk (blk_below (bK BK470.out) hb); have n1_ := Aside0.mk (below_step (by repeat first | exact HB.out | with_reducible refine below_setA ?_ ‹_› | apply below_alloc | apply pw_below_drewN) hb); have n2_ := Aside0.mk (hbox); have n3_ := Aside0.mk ((by rw [hg]; exact (below_size (by repeat first | exact HB.out | with_reducible refine below_setA ?_ ‹_› | apply below_alloc | apply pw_below_drewN)) : w.heap.size ≤ gb471)); have n4_ := Aside0.mk ((by rw [hg]; exact (below_size (by repeat first | exact HB.out | with_reducible refine below_setA ?_ ‹_› | apply below_alloc | apply pw_below_drewN)) : w.heap.size ≤ gb471)); have n5_ := Aside0.mk ((by rw [hg]; exact Nat.ne_of_lt (blk_lt (bK BK470.out)) : gb470 ≠ gb471)); have n6_ := Aside0.mk ((by rw [hg]; exact Nat.ne_of_gt (blk_lt (bK BK470.out)) : gb471 ≠ gb470)); clear BK470; clear HB; have BK470 := n0_; have HB := n1_; have BK471 := n2_; have GW471 := n3_; have GE471 := n4_; have NB470_471 := n5_; have NB471_470 := n6_; clear n0_ n1_ n2_ n3_ n4_ n5_ n6_; clear hb hbox hg) | ((with_reducible refine gate_callee (f := 41) rfl ?_); refine goesL_ (some 9) rfl rfl Try.func41 (by kernel_rfl) rfl #[.slice A0 l0.length c0] rfl (by first | rfl | (simp only [List.map_toArray, List.map_cons, List.map_nil, List.length_drop, List.length_take]; try rfl)) ?_; (with_reducible refine (spec_l6Open.calls _ _ l0 t472 t473 w _ ?side1 ?side2 ?side3 A2.out).mono ?_); (case side1 => repeat (first | (with_reducible first | exact HB.out | apply below_alloc | apply pw_below_drewN | apply below_drew1 | refine below_set ?_ GE470.out | refine below_set ?_ GE471.out) | exact HB.out)); (case side2 => exact HR0.out); (case side3 => exact HC0.out); rintro e w11 ⟨g474, rfl, hi, hb, hb2⟩; refine ⟨_, rfl, ?_⟩; have n0_ := Aside0.mk (blk_below (bK BK470.out) hb2); have n1_ := Aside0.mk (blk_below (bK BK471.out) hb2); have n2_ := Aside0.mk (hb); have n3_ := Aside0.mk (hi); have n4_ := Aside0.mk (IsS77.ne_blk hi (blk_below (bK BK470.out) hb2) (by decide)); have n5_ := Aside0.mk (Ne.symm (IsS77.ne_blk hi (blk_below (bK BK470.out) hb2) (by decide))); have n6_ := Aside0.mk (IsS77.ne_blk hi (blk_below (bK BK471.out) hb2) (by decide)); have n7_ := Aside0.mk (Ne.symm (IsS77.ne_blk hi (blk_below (bK BK471.out) hb2) (by decide))); clear BK470; clear BK471; clear HB; have BK470 := n0_; have BK471 := n1_; have HB := n2_; have HI474 := n3_; have NB474_470 := n4_; have NB470_474 := n5_; have NB474_471 := n6_; have NB471_474 := n7_; clear n0_ n1_ n2_ n3_ n4_ n5_ n6_ n7_; (try clear hb); (try clear hb2); (try clear hk); (try clear hi)) | ((with_reducible refine gate_callee (f := 50) rfl ?_); refine goesL_ (some 11) rfl rfl Try.func50 (by kernel_rfl) rfl #[.pointer (some ⟨g474, 0, none⟩)] rfl (by first | rfl | (simp only [List.map_toArray, List.map_cons, List.map_nil, List.length_drop, List.length_take]; try rfl)) ?_; (with_reducible refine (spec_l71Some.calls k g474 t472 t473 t475 t476 t479 w _ ?side1 ?side2 A3.out).mono ?_); (case side1 => repeat (first | (with_reducible first | exact HI474.out | apply IsS77.alloc | apply IsS77.drewN | apply IsS77.drew | apply IsS77.set_1 | refine IsS77.far ?_ NB474_470.out _ | refine IsS77.far ?_ NB474_471.out _) | exact HI474.out)); (case side2 => repeat (first | (with_reducible first | exact HB.out | apply below_alloc | apply pw_below_drewN | apply below_drew1 | refine below_set ?_ (IsS77.ge HI474.out) | refine below_set ?_ GE470.out | refine below_set ?_ GE471.out) | exact HB.out)); rintro e w12 ⟨v477, rfl, ho0, hi, hb, hk⟩; refine ⟨_, rfl, ?_⟩; have n0_ := Aside0.mk (KeepBut.blk hk (g' := gb470) (o := .cells #[.int .i64 0, .slice none 0 0] 30 (0, 0)) (bK BK470.out) NB470_474.out (by simp)); have n1_ := Aside0.mk (KeepBut.blk hk (g' := gb471) (o := .cells #[.int .i64 0, .int .i64 0] 24 (0, 0)) (bK BK471.out) NB471_474.out (by simp)); have n2_ := Aside0.mk (Kd.Q_lower (Kd.Q_newB ho0 (g := gb471) (o := .cells #[.int .i64 0, .int .i64 0] 24 (0, 0)) (bK BK471.out)) (below_size (by repeat (first | (with_reducible first | exact HB.out | apply below_alloc | apply pw_below_drewN | apply below_drew1 | refine below_set ?_ (IsS77.ge HI474.out) | refine below_set ?_ GE470.out | refine below_set ?_ GE471.out) | exact HB.out)))); have n3_ := Aside0.mk (hb); have n4_ := Aside0.mk (hi); clear BK470; clear BK471; clear HB; clear HI474; have BK470 := n0_; have BK471 := n1_; have HO478 := n2_; have HB := n3_; have HI474 := n4_; clear n0_ n1_ n2_ n3_ n4_; (try clear hb); (try clear hb2); (try clear hk); (try clear hi); (try clear ho0)) | ((with_reducible refine gate_dst (N := 6) rfl ?_); refine box_event rfl (N := 6) rfl (cs := #[.int .i64 0, .slice none 0 0]) (t := 30) ?hr ?_; (case hr => first | (go_simp; done) | (go_simp; rfl)); intro gb480 hg w13 hbox hb; have n0_ := Aside0.mk (Kd.Q_below (by (with_reducible repeat apply Kd.Q_alloc); exact HO478.out) hb); have n1_ := Aside0.mk (blk_below (bK BK470.out) hb); have n2_ := Aside0.mk (blk_below (bK BK471.out) hb); have n3_ := Aside0.mk (IsS77.below (by repeat (first | (with_reducible first | exact HI474.out | apply IsS77.alloc | apply IsS77.drewN | apply IsS77.drew | apply IsS77.set_1 | refine IsS77.far ?_ NB474_470.out _ | refine IsS77.far ?_ NB474_471.out _) | exact HI474.out)) hb); have n4_ := Aside0.mk (below_step (by repeat (first | (with_reducible first | exact HB.out | apply below_alloc | apply pw_below_drewN | apply below_drew1 | refine below_set ?_ (IsS77.ge HI474.out) | refine below_set ?_ GE470.out | refine below_set ?_ GE471.out) | exact HB.out)) hb); have n5_ := Aside0.mk (hbox); have n6_ := Aside0.mk ((by rw [hg]; exact (below_size (by repeat (first | (with_reducible first | exact HB.out | apply below_alloc | apply pw_below_drewN | apply below_drew1 | refine below_set ?_ (IsS77.ge HI474.out) | refine below_set ?_ GE470.out | refine below_set ?_ GE471.out) | exact HB.out))) : w.heap.size ≤ gb480)); have n7_ := Aside0.mk ((by rw [hg]; exact (below_size (by repeat (first | (with_reducible first | exact HB.out | apply below_alloc | apply pw_below_drewN | apply below_drew1 | refine below_set ?_ (IsS77.ge HI474.out) | refine below_set ?_ GE470.out | refine below_set ?_ GE471.out) | exact HB.out))) : w.heap.size ≤ gb480)); have n8_ := Aside0.mk ((by rw [hg]; exact Nat.ne_of_lt (blk_lt (bK BK470.out)) : gb470 ≠ gb480)); have n9_ := Aside0.mk ((by rw [hg]; exact Nat.ne_of_gt (blk_lt (bK BK470.out)) : gb480 ≠ gb470)); have n10_ := Aside0.mk ((by rw [hg]; exact Nat.ne_of_lt (blk_lt (bK BK471.out)) : gb471 ≠ gb480)); have n11_ := Aside0.mk ((by rw [hg]; exact Nat.ne_of_gt (blk_lt (bK BK471.out)) : gb480 ≠ gb471)); have n12_ := Aside0.mk ((by rw [hg]; exact Nat.ne_of_lt (IsS77.lt (show IsS77 w _ g474 t472 t479 from by repeat (first | (with_reducible first | exact HI474.out | apply IsS77.alloc | apply IsS77.drewN | apply IsS77.drew | apply IsS77.set_1 | refine IsS77.far ?_ NB474_470.out _ | refine IsS77.far ?_ NB474_471.out _) | exact HI474.out))) : g474 ≠ gb480)); have n13_ := Aside0.mk ((by rw [hg]; exact Nat.ne_of_gt (IsS77.lt (show IsS77 w _ g474 t472 t479 from by repeat (first | (with_reducible first | exact HI474.out | apply IsS77.alloc | apply IsS77.drewN | apply IsS77.drew | apply IsS77.set_1 | refine IsS77.far ?_ NB474_470.out _ | refine IsS77.far ?_ NB474_471.out _) | exact HI474.out))) : gb480 ≠ g474)); clear HO478; clear BK470; clear BK471; clear HI474; clear HB; have HO478 := n0_; have BK470 := n1_; have BK471 := n2_; have HI474 := n3_; have HB := n4_; have BK480 := n5_; have GW480 := n6_; have GE480 := n7_; have NB470_480 := n8_; have NB480_470 := n9_; have NB471_480 := n10_; have NB480_471 := n11_; have NB474_480 := n12_; have NB480_474 := n13_; clear n0_ n1_ n2_ n3_ n4_ n5_ n6_ n7_ n8_ n9_ n10_ n11_ n12_ n13_; clear hb hbox hg; have hnb14 := NB480_470.out; have hnc14 := NB470_480.out; have hnb15 := NB480_471.out; have hnc15 := NB471_480.out; have hnb16 := NB480_474.out; have hnc16 := NB474_480.out; have hcz17_0 : w13.cell? ⟨gb480, 0, none⟩ = some (.int .i64 0) := (blk_cell BK480.out 0).trans rfl; have hcz17_1 : w13.cell? ⟨gb480, 1, none⟩ = some (.slice none 0 0) := (blk_cell BK480.out 1).trans rfl; have hfz17_0 := blk_frozen BK480.out 0; have hfz17_1 := blk_frozen BK480.out 1; obtain ⟨Ao18, co18, eo18, _⟩ := Kd.Q_slice HO478.out; subst eo18) | ((with_reducible refine gate_callee (f := 44) rfl ?_); refine goesL_ (some 13) rfl rfl Try.func44 (by kernel_rfl) rfl #[.pointer (some ⟨g474, 0, none⟩)] rfl (by first | rfl | (simp only [List.map_toArray, List.map_cons, List.map_nil, List.length_drop, List.length_take]; try rfl)) ?_; (with_reducible refine (spec_l71Cell.calls k g474 t472 t479 t481 t482 t483 w _ ?side1 ?side2 A4.out).mono ?_); (case side1 => repeat (first | (with_reducible first | exact HI474.out | apply IsS77.alloc | apply IsS77.drewN | apply IsS77.drew | apply IsS77.set_1 | refine IsS77.far ?_ NB474_470.out _ | refine IsS77.far ?_ NB474_471.out _ | refine IsS77.far ?_ NB474_480.out _) | exact HI474.out)); (case side2 => repeat (first | (with_reducible first | exact HB.out | apply below_alloc | apply pw_below_drewN | apply below_drew1 | refine below_set ?_ (IsS77.ge HI474.out) | refine below_set ?_ GE470.out | refine below_set ?_ GE471.out | refine below_set ?_ GE480.out) | exact HB.out)); rintro e w19 ⟨rfl, hi, hb, hk⟩; refine ⟨_, rfl, ?_⟩; have n0_ := Aside0.mk (KeepBut.blk hk (g' := gb470) (o := .cells #[.int .i64 0, .slice none 0 0] 30 (0, 0)) (by (with_reducible repeat apply blk_alloc); refine blk_far ?_ NB470_480.out _; (with_reducible repeat apply blk_alloc); refine blk_far ?_ NB470_480.out _; (with_reducible repeat apply blk_alloc); exact BK470.out) NB470_474.out (by simp)); have n1_ := Aside0.mk (KeepBut.blk hk (g' := gb471) (o := .cells #[.int .i64 0, .int .i64 0] 24 (0, 0)) (by (with_reducible repeat apply blk_alloc); refine blk_far ?_ NB471_480.out _; (with_reducible repeat apply blk_alloc); refine blk_far ?_ NB471_480.out _; (with_reducible repeat apply blk_alloc); exact BK471.out) NB471_474.out (by simp)); have n2_ := Aside0.mk (Kd.Q_mono (Kd.Q_keep (IsS77.apartQ (show IsS77 w _ g474 t472 t479 from by repeat (first | (with_reducible first | exact HI474.out | apply IsS77.alloc | apply IsS77.drewN | apply IsS77.drew | apply IsS77.set_1 | refine IsS77.far ?_ NB474_470.out _ | refine IsS77.far ?_ NB474_471.out _ | refine IsS77.far ?_ NB474_480.out _) | exact HI474.out)) (by (with_reducible repeat apply Kd.Q_alloc); exact (Kd.Q_mono (Kd.Q_far (p := ⟨gb480, 1, none⟩) (Kd.Q_far (p := ⟨gb480, 0, none⟩) (Kd.Q_types HO478.out BK480.out (by decide)) (fun _ hk => hk.2) (.int .i64 t475)) (fun _ hk => hk.2) (.slice Ao18 t476.length co18)) (fun _ h_ => h_.1))) (by decide)) hk (fun _ h => h.2)) (fun _ h => h.1)); have n3_ := Aside0.mk (KeepBut.blk hk (g' := gb480) (o := .cells #[.int .i64 t475, .slice Ao18 t476.length co18] 30 (0, 0)) (by (with_reducible repeat apply blk_alloc); refine blk_put (cs := #[.int .i64 t475, .slice none 0 0]) ?_ 1 _ rfl; (with_reducible repeat apply blk_alloc); refine blk_put (cs := #[.int .i64 0, .slice none 0 0]) ?_ 0 _ rfl; (with_reducible repeat apply blk_alloc); exact BK480.out) NB480_474.out (by simp)); have n4_ := Aside0.mk (hb); have n5_ := Aside0.mk (hi); clear BK470; clear BK471; clear HO478; clear BK480; clear HB; clear HI474; have BK470 := n0_; have BK471 := n1_; have HO478 := n2_; have BK480 := n3_; have HB := n4_; have HI474 := n5_; clear n0_ n1_ n2_ n3_ n4_ n5_; (try clear hb); (try clear hb2); (try clear hk); (try clear hi)) | ((with_reducible refine gate_dst (N := 7) rfl ?_); refine box_event rfl (N := 7) rfl (cs := #[.int .i64 0, .int .i64 0]) (t := 24) ?hr ?_; (case hr => first | (go_simp; done) | (go_simp; rfl)); intro gb484 hg w20 hbox hb; have n0_ := Aside0.mk (Kd.Q_below (Kd.Q_elderB (by (with_reducible repeat apply Kd.Q_alloc); exact HO478.out) gb484 (Nat.le_of_eq hg.symm)) hb); have n1_ := Aside0.mk (blk_below (bK BK470.out) hb); have n2_ := Aside0.mk (blk_below (bK BK471.out) hb); have n3_ := Aside0.mk (IsS77.below (by repeat (first | (with_reducible first | exact HI474.out | apply IsS77.alloc | apply IsS77.drewN | apply IsS77.drew | apply IsS77.set_1 | refine IsS77.far ?_ NB474_470.out _ | refine IsS77.far ?_ NB474_471.out _ | refine IsS77.far ?_ NB474_480.out _) | exact HI474.out)) hb); have n4_ := Aside0.mk (blk_below (bK BK480.out) hb); have n5_ := Aside0.mk (below_step (by repeat (first | (with_reducible first | exact HB.out | apply below_alloc | apply pw_below_drewN | apply below_drew1 | refine below_set ?_ (IsS77.ge HI474.out) | refine below_set ?_ GE470.out | refine below_set ?_ GE471.out | refine below_set ?_ GE480.out) | exact HB.out)) hb); have n6_ := Aside0.mk (hbox); have n7_ := Aside0.mk ((by rw [hg]; exact (below_size (by repeat (first | (with_reducible first | exact HB.out | apply below_alloc | apply pw_below_drewN | apply below_drew1 | refine below_set ?_ (IsS77.ge HI474.out) | refine below_set ?_ GE470.out | refine below_set ?_ GE471.out | refine below_set ?_ GE480.out) | exact HB.out))) : w.heap.size ≤ gb484)); have n8_ := Aside0.mk ((by rw [hg]; exact (below_size (by repeat (first | (with_reducible first | exact HB.out | apply below_alloc | apply pw_below_drewN | apply below_drew1 | refine below_set ?_ (IsS77.ge HI474.out) | refine below_set ?_ GE470.out | refine below_set ?_ GE471.out | refine below_set ?_ GE480.out) | exact HB.out))) : w.heap.size ≤ gb484)); have n9_ := Aside0.mk ((by rw [hg]; exact Nat.ne_of_lt (blk_lt (bK BK470.out)) : gb470 ≠ gb484)); have n10_ := Aside0.mk ((by rw [hg]; exact Nat.ne_of_gt (blk_lt (bK BK470.out)) : gb484 ≠ gb470)); have n11_ := Aside0.mk ((by rw [hg]; exact Nat.ne_of_lt (blk_lt (bK BK471.out)) : gb471 ≠ gb484)); have n12_ := Aside0.mk ((by rw [hg]; exact Nat.ne_of_gt (blk_lt (bK BK471.out)) : gb484 ≠ gb471)); have n13_ := Aside0.mk ((by rw [hg]; exact Nat.ne_of_lt (blk_lt (bK BK480.out)) : gb480 ≠ gb484)); have n14_ := Aside0.mk ((by rw [hg]; exact Nat.ne_of_gt (blk_lt (bK BK480.out)) : gb484 ≠ gb480)); have n15_ := Aside0.mk ((by rw [hg]; exact Nat.ne_of_lt (IsS77.lt (show IsS77 w _ g474 t472 t483 from by repeat (first | (with_reducible first | exact HI474.out | apply IsS77.alloc | apply IsS77.drewN | apply IsS77.drew | apply IsS77.set_1 | refine IsS77.far ?_ NB474_470.out _ | refine IsS77.far ?_ NB474_471.out _ | refine IsS77.far ?_ NB474_480.out _) | exact HI474.out))) : g474 ≠ gb484)); have n16_ := Aside0.mk ((by rw [hg]; exact Nat.ne_of_gt (IsS77.lt (show IsS77 w _ g474 t472 t483 from by repeat (first | (with_reducible first | exact HI474.out | apply IsS77.alloc | apply IsS77.drewN | apply IsS77.drew | apply IsS77.set_1 | refine IsS77.far ?_ NB474_470.out _ | refine IsS77.far ?_ NB474_471.out _ | refine IsS77.far ?_ NB474_480.out _) | exact HI474.out))) : gb484 ≠ g474)); clear HO478; clear BK470; clear BK471; clear HI474; clear BK480; clear HB; have HO478 := n0_; have BK470 := n1_; have BK471 := n2_; have HI474 := n3_; have BK480 := n4_; have HB := n5_; have BK484 := n6_; have GW484 := n7_; have GE484 := n8_; have NB470_484 := n9_; have NB484_470 := n10_; have NB471_484 := n11_; have NB484_471 := n12_; have NB480_484 := n13_; have NB484_480 := n14_; have NB474_484 := n15_; have NB484_474 := n16_; clear n0_ n1_ n2_ n3_ n4_ n5_ n6_ n7_ n8_ n9_ n10_ n11_ n12_ n13_ n14_ n15_ n16_; clear hb hbox hg; have hnb21 := NB484_470.out; have hnc21 := NB470_484.out; have hnb22 := NB484_471.out; have hnc22 := NB471_484.out; have hnb23 := NB484_480.out; have hnc23 := NB480_484.out; have hnb24 := NB484_474.out; have hnc24 := NB474_484.out; have hcz25_0 : w20.cell? ⟨gb484, 0, none⟩ = some (.int .i64 0) := (blk_cell BK484.out 0).trans rfl; have hcz25_1 : w20.cell? ⟨gb484, 1, none⟩ = some (.int .i64 0) := (blk_cell BK484.out 1).trans rfl; have hfz25_0 := blk_frozen BK484.out 0; have hfz25_1 := blk_frozen BK484.out 1) | ((with_reducible refine gate_callee (f := 42) rfl ?_); refine goesL_ (some 15) rfl rfl Try.func42 (by kernel_rfl) rfl #[.pointer (some ⟨g474, 0, none⟩), .int .i64 16] rfl (by first | rfl | (simp only [List.map_toArray, List.map_cons, List.map_nil, List.length_drop, List.length_take]; try rfl)) ?_; (with_reducible refine (spec_l6Rd_pick.calls k g474 t472 t483 16 t485 t486 w _ ?side1 ?side2 A5.out).mono ?_); (case side1 => repeat (first | (with_reducible first | exact HI474.out | apply IsS77.alloc | apply IsS77.drewN | apply IsS77.drew | apply IsS77.set_1 | refine IsS77.far ?_ NB474_470.out _ | refine IsS77.far ?_ NB474_471.out _ | refine IsS77.far ?_ NB474_480.out _ | refine IsS77.far ?_ NB474_484.out _) | exact HI474.out)); (case side2 => repeat (first | (with_reducible first | exact HB.out | apply below_alloc | apply pw_below_drewN | apply below_drew1 | refine below_set ?_ (IsS77.ge HI474.out) | refine below_set ?_ GE470.out | refine below_set ?_ GE471.out | refine below_set ?_ GE480.out | refine below_set ?_ GE484.out) | exact HB.out)); rintro e w26 ⟨rfl, hi, hb, hk⟩; refine ⟨_, rfl, ?_⟩; have n0_ := Aside0.mk (KeepBut.blk hk (g' := gb470) (o := .cells #[.int .i64 0, .slice none 0 0] 30 (0, 0)) (by (with_reducible repeat apply blk_alloc); refine blk_far ?_ NB470_484.out _; (with_reducible repeat apply blk_alloc); refine blk_far ?_ NB470_484.out _; (with_reducible repeat apply blk_alloc); exact BK470.out) NB470_474.out (by simp)); have n1_ := Aside0.mk (KeepBut.blk hk (g' := gb471) (o := .cells #[.int .i64 0, .int .i64 0] 24 (0, 0)) (by (with_reducible repeat apply blk_alloc); refine blk_far ?_ NB471_484.out _; (with_reducible repeat apply blk_alloc); refine blk_far ?_ NB471_484.out _; (with_reducible repeat apply blk_alloc); exact BK471.out) NB471_474.out (by simp)); have n2_ := Aside0.mk (Kd.Q_mono (Kd.Q_keep (IsS77.apartQ (show IsS77 w _ g474 t472 t483 from by repeat (first | (with_reducible first | exact HI474.out | apply IsS77.alloc | apply IsS77.drewN | apply IsS77.drew | apply IsS77.set_1 | refine IsS77.far ?_ NB474_470.out _ | refine IsS77.far ?_ NB474_471.out _ | refine IsS77.far ?_ NB474_480.out _ | refine IsS77.far ?_ NB474_484.out _) | exact HI474.out)) (by (with_reducible repeat apply Kd.Q_alloc); exact (Kd.Q_mono (Kd.Q_far (p := ⟨gb484, 1, none⟩) (Kd.Q_far (p := ⟨gb484, 0, none⟩) (Kd.Q_mono HO478.out (fun k_ hk => (⟨hk, hk.2⟩ : _ ∧ k_ ≠ gb484))) (fun _ hk => hk.2) (.int .i64 t481)) (fun _ hk => hk.2) (.int .i64 t482)) (fun _ h_ => h_.1))) (by decide)) hk (fun _ h => h.2)) (fun _ h => h.1)); have n3_ := Aside0.mk (KeepBut.blk hk (g' := gb480) (o := .cells #[.int .i64 t475, .slice Ao18 t476.length co18] 30 (0, 0)) (by (with_reducible repeat apply blk_alloc); refine blk_far ?_ NB480_484.out _; (with_reducible repeat apply blk_alloc); refine blk_far ?_ NB480_484.out _; (with_reducible repeat apply blk_alloc); exact BK480.out) NB480_474.out (by simp)); have n4_ := Aside0.mk (KeepBut.blk hk (g' := gb484) (o := .cells #[.int .i64 t481, .int .i64 t482] 24 (0, 0)) (by (with_reducible repeat apply blk_alloc); refine blk_put (cs := #[.int .i64 t481, .int .i64 0]) ?_ 1 _ rfl; (with_reducible repeat apply blk_alloc); refine blk_put (cs := #[.int .i64 0, .int .i64 0]) ?_ 0 _ rfl; (with_reducible repeat apply blk_alloc); exact BK484.out) NB484_474.out (by simp)); have n5_ := Aside0.mk (hb); have n6_ := Aside0.mk (hi); clear BK470; clear BK471; clear HO478; clear BK480; clear BK484; clear HB; clear HI474; have BK470 := n0_; have BK471 := n1_; have HO478 := n2_; have BK480 := n3_; have BK484 := n4_; have HB := n5_; have HI474 := n6_; clear n0_ n1_ n2_ n3_ n4_ n5_ n6_; (try clear hb); (try clear hb2); (try clear hk); (try clear hi)) | ((with_reducible refine gate_callee (f := 43) rfl ?_); refine goesL_ (some 18) rfl rfl Try.func43 (by kernel_rfl) rfl #[.pointer (some ⟨g474, 0, none⟩)] rfl (by first | rfl | (simp only [List.map_toArray, List.map_cons, List.map_nil, List.length_drop, List.length_take]; try rfl)) ?_; (with_reducible refine (spec_l71Off.calls k g474 t472 t486 t487 t488 t489 w _ ?side1 ?side2 A7.out).mono ?_); (case side1 => repeat (first | (with_reducible first | exact HI474.out | apply IsS77.alloc | apply IsS77.drewN | apply IsS77.drew | apply IsS77.set_1 | refine IsS77.far ?_ NB474_470.out _ | refine IsS77.far ?_ NB474_471.out _ | refine IsS77.far ?_ NB474_480.out _ | refine IsS77.far ?_ NB474_484.out _) | exact HI474.out)); (case side2 => repeat (first | (with_reducible first | exact HB.out | apply below_alloc | apply pw_below_drewN | apply below_drew1 | refine below_set ?_ (IsS77.ge HI474.out) | refine below_set ?_ GE470.out | refine below_set ?_ GE471.out | refine below_set ?_ GE480.out | refine below_set ?_ GE484.out) | exact HB.out)); rintro e w27 ⟨rfl, hi, hb, hk⟩; refine ⟨_, rfl, ?_⟩; have n0_ := Aside0.mk (KeepBut.blk hk (g' := gb470) (o := .cells #[.int .i64 0, .slice none 0 0] 30 (0, 0)) (bK BK470.out) NB470_474.out (by simp)); have n1_ := Aside0.mk (KeepBut.blk hk (g' := gb471) (o := .cells #[.int .i64 0, .int .i64 0] 24 (0, 0)) (bK BK471.out) NB471_474.out (by simp)); have n2_ := Aside0.mk (Kd.Q_mono (Kd.Q_keep (IsS77.apartQ (show IsS77 w _ g474 t472 t486 from by repeat (first | (with_reducible first | exact HI474.out | apply IsS77.alloc | apply IsS77.drewN | apply IsS77.drew | apply IsS77.set_1 | refine IsS77.far ?_ NB474_470.out _ | refine IsS77.far ?_ NB474_471.out _ | refine IsS77.far ?_ NB474_480.out _ | refine IsS77.far ?_ NB474_484.out _) | exact HI474.out)) (by (with_reducible repeat apply Kd.Q_alloc); exact HO478.out) (by decide)) hk (fun _ h => h.2)) (fun _ h => h.1)); have n3_ := Aside0.mk (KeepBut.blk hk (g' := gb480) (o := .cells #[.int .i64 t475, .slice Ao18 t476.length co18] 30 (0, 0)) (bK BK480.out) NB480_474.out (by simp)); have n4_ := Aside0.mk (KeepBut.blk hk (g' := gb484) (o := .cells #[.int .i64 t481, .int .i64 t482] 24 (0, 0)) (bK BK484.out) NB484_474.out (by simp)); have n5_ := Aside0.mk (hb); have n6_ := Aside0.mk (hi); clear BK470; clear BK471; clear HO478; clear BK480; clear BK484; clear HB; clear HI474; have BK470 := n0_; have BK471 := n1_; have HO478 := n2_; have BK480 := n3_; have BK484 := n4_; have HB := n5_; have HI474 := n6_; clear n0_ n1_ n2_ n3_ n4_ n5_ n6_; (try clear hb); (try clear hb2); (try clear hk); (try clear hi); have hcz28_0 : w27.cell? ⟨gb484, 0, none⟩ = some (.int .i64 t481) := (blk_cell BK484.out 0).trans rfl; have hcz28_1 : w27.cell? ⟨gb484, 1, none⟩ = some (.int .i64 t482) := (blk_cell BK484.out 1).trans rfl; have hfz28_0 := blk_frozen BK484.out 0; have hfz28_1 := blk_frozen BK484.out 1))
  have n0_ : Aside0 (Kd.Q k24 24 ((w27.setCell ⟨gb484, 0, none⟩ (.int .i64 t487)).setCell ⟨gb484, 1, none⟩ (.int .i64 t488)) w.heap.size (fun k_ => k_ ≠ gb471 ∧ k_ ≠ gb484) (.slice Ao18 t476.length co18) t476) := ⟨by (with_reducible repeat apply Kd.Q_alloc); exact Kd.Q_mono (Kd.Q_far (p := ⟨gb484, 1, none⟩) (Kd.Q_far (p := ⟨gb484, 0, none⟩) (Kd.Q_mono HO478.out (fun k_ hk => (⟨hk, hk.2⟩ : _ ∧ k_ ≠ gb484))) (fun _ hk => hk.2) (.int .i64 t487)) (fun _ hk => hk.2) (.int .i64 t488)) (fun _ hk => ⟨hk.1.1.2, hk.1.2⟩)⟩
  have n1_ : Aside0 (((w27.setCell ⟨gb484, 0, none⟩ (.int .i64 t487)).setCell ⟨gb484, 1, none⟩ (.int .i64 t488)).heap[gb470]? = some (.cells #[.int .i64 0, .slice none 0 0] 30 (0, 0))) := ⟨by (with_reducible repeat apply blk_alloc); refine blk_far ?_ NB470_484.out _; (with_reducible repeat apply blk_alloc); refine blk_far ?_ NB470_484.out _; (with_reducible repeat apply blk_alloc); exact BK470.out⟩
  have n2_ : Aside0 (((w27.setCell ⟨gb484, 0, none⟩ (.int .i64 t487)).setCell ⟨gb484, 1, none⟩ (.int .i64 t488)).heap[gb471]? = some (.cells #[.int .i64 0, .int .i64 0] 24 (0, 0))) := ⟨by (with_reducible repeat apply blk_alloc); refine blk_far ?_ NB471_484.out _; (with_reducible repeat apply blk_alloc); refine blk_far ?_ NB471_484.out _; (with_reducible repeat apply blk_alloc); exact BK471.out⟩
  have n3_ : Aside0 (((w27.setCell ⟨gb484, 0, none⟩ (.int .i64 t487)).setCell ⟨gb484, 1, none⟩ (.int .i64 t488)).heap[gb480]? = some (.cells #[.int .i64 t475, .slice Ao18 t476.length co18] 30 (0, 0))) := ⟨by (with_reducible repeat apply blk_alloc); refine blk_far ?_ NB480_484.out _; (with_reducible repeat apply blk_alloc); refine blk_far ?_ NB480_484.out _; (with_reducible repeat apply blk_alloc); exact BK480.out⟩
  have n4_ : Aside0 (((w27.setCell ⟨gb484, 0, none⟩ (.int .i64 t487)).setCell ⟨gb484, 1, none⟩ (.int .i64 t488)).heap[gb484]? = some (.cells #[.int .i64 t487, .int .i64 t488] 24 (0, 0))) := ⟨by (with_reducible repeat apply blk_alloc); refine blk_put (cs := #[.int .i64 t487, .int .i64 t482]) ?_ 1 _ rfl; (with_reducible repeat apply blk_alloc); refine blk_put (cs := #[.int .i64 t481, .int .i64 t482]) ?_ 0 _ rfl; (with_reducible repeat apply blk_alloc); exact BK484.out⟩
  have n5_ : Aside0 (IsS77 w ((w27.setCell ⟨gb484, 0, none⟩ (.int .i64 t487)).setCell ⟨gb484, 1, none⟩ (.int .i64 t488)) g474 t472 t489) := ⟨by repeat (first | (with_reducible first | exact HI474.out | apply IsS77.alloc | apply IsS77.drewN | apply IsS77.drew | apply IsS77.set_1 | refine IsS77.far ?_ NB474_470.out _ | refine IsS77.far ?_ NB474_471.out _ | refine IsS77.far ?_ NB474_480.out _ | refine IsS77.far ?_ NB474_484.out _) | exact HI474.out)⟩
  have n6_ : Aside0 (Below w.heap.size w ((w27.setCell ⟨gb484, 0, none⟩ (.int .i64 t487)).setCell ⟨gb484, 1, none⟩ (.int .i64 t488))) := ⟨by repeat (first | (with_reducible first | exact HB.out | apply below_alloc | apply pw_below_drewN | apply below_drew1 | refine below_set ?_ (IsS77.ge HI474.out) | refine below_set ?_ GE470.out | refine below_set ?_ GE471.out | refine below_set ?_ GE480.out | refine below_set ?_ GE484.out) | exact HB.out)⟩
  (try clear HO478)
  (try clear BK470)
  (try clear BK471)
  (try clear BK480)
  (try clear BK484)
  (try clear HI474)
  (try clear HB)
  generalize ((w27.setCell ⟨gb484, 0, none⟩ (.int .i64 t487)).setCell ⟨gb484, 1, none⟩ (.int .i64 t488)) = w29 at n0_ n1_ n2_ n3_ n4_ n5_ n6_ ⊢
  have HO478 := n0_
  have BK470 := n1_
  have BK471 := n2_
  have BK480 := n3_
  have BK484 := n4_
  have HI474 := n5_
  have HB := n6_
  clear n0_ n1_ n2_ n3_ n4_ n5_ n6_
  have n0_ := Aside0.mk (Kd.Q_drew HO478.out)
  have n1_ := Aside0.mk (blk_drew BK470.out)
  have n2_ := Aside0.mk (blk_drew BK471.out)
  have n3_ := Aside0.mk (blk_drew BK480.out)
  have n4_ := Aside0.mk (blk_drew BK484.out)
  have n5_ := Aside0.mk (IsS77.drew HI474.out)
  have n6_ := Aside0.mk (below_drew1 HB.out)
  clear HO478
  clear BK470
  clear BK471
  clear BK480
  clear BK484
  clear HI474
  clear HB
  have HO478 := n0_
  have BK470 := n1_
  have BK471 := n2_
  have BK480 := n3_
  have BK484 := n4_
  have HI474 := n5_
  have HB := n6_
  clear n0_ n1_ n2_ n3_ n4_ n5_ n6_
  refine start_ (n := 8) (S := fun w' => w'.cell? ⟨gb480, 0, none⟩ = some (.int .i64 t475) ∧ w'.cell? ⟨gb480, 1, none⟩ = some (.slice Ao18 t476.length co18) ∧ w'.cell? ⟨gb484, 0, none⟩ = some (.int .i64 t487) ∧ w'.cell? ⟨gb484, 1, none⟩ = some (.int .i64 t488)) (ds := []) #[false, false, false, false, false, false, false, false] (by kernel_rfl) rfl rfl ⟨(blk_cell BK480.out 0).trans rfl, (blk_cell BK480.out 1).trans rfl, (blk_cell BK484.out 0).trans rfl, (blk_cell BK484.out 1).trans rfl⟩ (fun hHeld => ?_); refine with_tabW spec_DrawGridPut.tab6 spec_DrawGridPut.bits6 (fun HT_ HW_ => ?_)
  generalize w29.drew = w30 at HO478 BK470 BK471 BK480 BK484 HI474 HB hHeld ⊢
  refine pure_ (i := 1) (N := some 20) (v := ?_) (a' := ?_) #[false, true, false, false, false, false, false, false] rfl rfl (any_of HT_.out (by kernel_rfl)) (fun _ _ _ h => h) (Or.inl ⟨by rfl, ?_⟩) ?_ ?_
  rotate_left
  ·intro w'
   go_simp
   with_reducible rfl
  rotate_left
  ·simp only [Act.put, List.setIfInBounds_toArray, List.set_cons_zero, List.set_cons_succ, i64_w, i32_w]
   rfl
  refine take_ (i := 0) (N := some 19) (v := ?_) (a' := ?_) #[true, true, false, false, false, false, false, false] rfl rfl (take_ofW HT_.out HW_.out (by kernel_rfl)) (fun _ _ _ h => h) (Or.inl ⟨by rfl, ?_⟩) hHeld ?_ ?_
  rotate_left
  ·rintro w' ⟨s0, s1, s2, s3⟩
   go_simp
   with_reducible rfl
  rotate_left
  ·simp only [Act.put, List.setIfInBounds_toArray, List.set_cons_zero, List.set_cons_succ, i64_w, i32_w]
   rfl
  refine take_ (i := 2) (N := some 21) (v := ?_) (a' := ?_) #[true, true, true, false, false, false, false, false] rfl rfl (take_ofW HT_.out HW_.out (by kernel_rfl)) (fun _ _ _ h => h) (Or.inl ⟨by rfl, ?_⟩) hHeld ?_ ?_
  rotate_left
  ·rintro w' ⟨s0, s1, s2, s3⟩
   go_simp
   with_reducible rfl
  rotate_left
  ·simp only [Act.put, List.setIfInBounds_toArray, List.set_cons_zero, List.set_cons_succ, i64_w, i32_w]
   rfl
  refine take_ (i := 4) (N := some 23) (v := ?_) (a' := ?_) #[true, true, true, false, true, false, false, false] rfl rfl (take_ofW HT_.out HW_.out (by kernel_rfl)) (fun _ _ _ h => h) (Or.inl ⟨by rfl, ?_⟩) hHeld ?_ ?_
  rotate_left
  ·rintro w' ⟨s0, s1, s2, s3⟩
   go_simp
   with_reducible rfl
  rotate_left
  ·simp only [Act.put, List.setIfInBounds_toArray, List.set_cons_zero, List.set_cons_succ, i64_w, i32_w]
   rfl
  refine one_ (i := 3) (N := some 22) #[true, true, true, true, true, false, false, false] rfl rfl (one_of HT_.out (by kernel_rfl)) (by decide) (fun K hK => ?_)
  refine goes_ Try.func60 (by kernel_rfl) rfl #[.pointer (some ⟨g474, 0, none⟩), .agg #[.int .i64 t475, .slice Ao18 t476.length co18]] (by rfl) rfl rfl (by first | rfl | (simp only [List.map_toArray, List.map_cons, List.map_nil, List.length_drop, List.length_take]; try rfl)) ?_
  with_reducible refine (spec_l71Place.calls k g474 t472 t489 t475 _ _ t476 t490 t491 w _ ?side1 ?side2 ?side3 ?side4 A8.out).mono ?_
  (case side1 => repeat (first | (with_reducible first | exact HI474.out | apply IsS77.alloc | apply IsS77.drewN | apply IsS77.drew | apply IsS77.set_1 | refine IsS77.far ?_ NB474_470.out _ | refine IsS77.far ?_ NB474_471.out _ | refine IsS77.far ?_ NB474_480.out _ | refine IsS77.far ?_ NB474_484.out _) | exact HI474.out))
  (case side2 => repeat (first | (with_reducible first | exact HB.out | apply below_alloc | apply pw_below_drewN | apply below_drew1 | refine below_set ?_ (IsS77.ge HI474.out) | refine below_set ?_ GE470.out | refine below_set ?_ GE471.out | refine below_set ?_ GE480.out | refine below_set ?_ GE484.out) | exact HB.out))
  (case side3 => exact Kd.C_foot_ownQ (IsS77.apartQ (show IsS77 w _ g474 t472 t489 from by repeat (first | (with_reducible first | exact HI474.out | apply IsS77.alloc | apply IsS77.drewN | apply IsS77.drew | apply IsS77.set_1 | refine IsS77.far ?_ NB474_470.out _ | refine IsS77.far ?_ NB474_471.out _ | refine IsS77.far ?_ NB474_480.out _ | refine IsS77.far ?_ NB474_484.out _) | exact HI474.out)) (by (with_reducible repeat apply Kd.Q_alloc); exact HO478.out) (by decide)) (fun _ h_ => h_.2))
  (case side4 => exact (Kd.Q_reads' HO478.out).2.1)
  rintro e w31 ⟨rfl, hi, hb, hk⟩
  refine ⟨_, rfl, ?_⟩
  have n0_ := Aside0.mk (KeepBut.blk hk (g' := gb470) (o := .cells #[.int .i64 0, .slice none 0 0] 30 (0, 0)) (bK BK470.out) NB470_474.out (by simp))
  have n1_ := Aside0.mk (KeepBut.blk hk (g' := gb471) (o := .cells #[.int .i64 0, .int .i64 0] 24 (0, 0)) (bK BK471.out) NB471_474.out (by simp))
  have n2_ := Aside0.mk (Kd.Q_mono (Kd.Q_keep (IsS77.apartQ (show IsS77 w _ g474 t472 t489 from by repeat (first | (with_reducible first | exact HI474.out | apply IsS77.alloc | apply IsS77.drewN | apply IsS77.drew | apply IsS77.set_1 | refine IsS77.far ?_ NB474_470.out _ | refine IsS77.far ?_ NB474_471.out _ | refine IsS77.far ?_ NB474_480.out _ | refine IsS77.far ?_ NB474_484.out _) | exact HI474.out)) (by (with_reducible repeat apply Kd.Q_alloc); exact HO478.out) (by decide)) hk (fun _ h => h.2)) (fun _ h => h.1))
  have n3_ := Aside0.mk (KeepBut.blk hk (g' := gb480) (o := .cells #[.int .i64 t475, .slice Ao18 t476.length co18] 30 (0, 0)) (bK BK480.out) NB480_474.out (by simp))
  have n4_ := Aside0.mk (KeepBut.blk hk (g' := gb484) (o := .cells #[.int .i64 t487, .int .i64 t488] 24 (0, 0)) (bK BK484.out) NB484_474.out (by simp))
  have n5_ := Aside0.mk (hb)
  have n6_ := Aside0.mk (hi)
  clear BK470
  clear BK471
  clear HO478
  clear BK480
  clear BK484
  clear HB
  clear HI474
  have BK470 := n0_
  have BK471 := n1_
  have HO478 := n2_
  have BK480 := n3_
  have BK484 := n4_
  have HB := n5_
  have HI474 := n6_
  clear n0_ n1_ n2_ n3_ n4_ n5_ n6_
  (try clear hb)
  (try clear hb2)
  (try clear hk)
  (try clear hi)
  refine hK.out _ _ ⟨(blk_cell BK480.out 0).trans rfl, (blk_cell BK480.out 1).trans rfl, (blk_cell BK484.out 0).trans rfl, (blk_cell BK484.out 1).trans rfl⟩ (fun hHeld => ?_)
  clear hK K
  refine norm_ (a' := ?_) ?_ ?_
  rotate_left
  ·show Act.put _ (some 22) _ = _
   simp only [Act.put, List.setIfInBounds_toArray, List.set_cons_zero, List.set_cons_succ, i64_w, i32_w]
   rfl
  refine one_ (i := 5) (N := none) #[true, true, true, true, true, true, false, false] rfl rfl (one_of HT_.out (by kernel_rfl)) (by decide) (fun K hK => ?_)
  have hs32 : w31.cell? ⟨gb470, 0, none⟩ = some (.int .i64 0) := (blk_cell BK470.out 0).trans rfl
  have hfs32 := blk_frozen BK470.out 0
  have hns32_1 := NB471_470.out
  have hns32_2 := NB480_470.out
  have hns32_3 := NB484_470.out
  have hms32_1 := NB470_471.out
  have hms32_2 := NB470_480.out
  have hms32_3 := NB470_484.out
  have hs33 : w31.cell? ⟨gb470, 1, none⟩ = some (.slice none 0 0) := (blk_cell BK470.out 1).trans rfl
  have hfs33 := blk_frozen BK470.out 1
  have hns33_1 := NB471_470.out
  have hns33_2 := NB480_470.out
  have hns33_3 := NB484_470.out
  have hms33_1 := NB470_471.out
  have hms33_2 := NB470_480.out
  have hms33_3 := NB470_484.out
  refine skip_ (w1 := ?_) (by rfl) rfl ?_ ?_
  rotate_left
  ·go_simp
   rfl
  refine hK.out _ _ ⟨((cell_far (p := ⟨gb470, _, none⟩) NB480_470.out _).trans (((cell_far (p := ⟨gb470, _, none⟩) NB480_470.out _).trans (hHeld.1)))), ((cell_far (p := ⟨gb470, _, none⟩) NB480_470.out _).trans (((cell_far (p := ⟨gb470, _, none⟩) NB480_470.out _).trans (hHeld.2.1)))), ((cell_far (p := ⟨gb470, _, none⟩) NB484_470.out _).trans (((cell_far (p := ⟨gb470, _, none⟩) NB484_470.out _).trans (hHeld.2.2.1)))), ((cell_far (p := ⟨gb470, _, none⟩) NB484_470.out _).trans (((cell_far (p := ⟨gb470, _, none⟩) NB484_470.out _).trans (hHeld.2.2.2))))⟩ (fun hHeld => ?_)
  clear hK K
  refine pure_ (i := 6) (N := some 3) (v := ?_) (a' := ?_) #[true, true, true, true, true, true, true, false] rfl rfl (any_of HT_.out (by kernel_rfl)) (fun _ _ _ h => h) (Or.inl ⟨by rfl, ?_⟩) ?_ ?_
  rotate_left
  ·intro w'
   go_simp
   with_reducible rfl
  rotate_left
  ·simp only [Act.put, List.setIfInBounds_toArray, List.set_cons_zero, List.set_cons_succ, i64_w, i32_w]
   rfl
  refine one_ (i := 7) (N := none) #[true, true, true, true, true, true, true, true] rfl rfl (one_of HT_.out (by kernel_rfl)) (by decide) (fun K hK => ?_)
  have hs34 : w31.cell? ⟨gb471, 0, none⟩ = some (.int .i64 0) := (blk_cell BK471.out 0).trans rfl
  have hfs34 := blk_frozen BK471.out 0
  have hns34_0 := NB470_471.out
  have hns34_2 := NB480_471.out
  have hns34_3 := NB484_471.out
  have hms34_0 := NB471_470.out
  have hms34_2 := NB471_480.out
  have hms34_3 := NB471_484.out
  have hs35 : w31.cell? ⟨gb471, 1, none⟩ = some (.int .i64 0) := (blk_cell BK471.out 1).trans rfl
  have hfs35 := blk_frozen BK471.out 1
  have hns35_0 := NB470_471.out
  have hns35_2 := NB480_471.out
  have hns35_3 := NB484_471.out
  have hms35_0 := NB471_470.out
  have hms35_2 := NB471_480.out
  have hms35_3 := NB471_484.out
  refine skip_ (w1 := ?_) (by rfl) rfl ?_ ?_
  rotate_left
  ·go_simp
   rfl
  refine hK.out _ _ ⟨((cell_far (p := ⟨gb471, _, none⟩) NB480_471.out _).trans (((cell_far (p := ⟨gb471, _, none⟩) NB480_471.out _).trans (hHeld.1)))), ((cell_far (p := ⟨gb471, _, none⟩) NB480_471.out _).trans (((cell_far (p := ⟨gb471, _, none⟩) NB480_471.out _).trans (hHeld.2.1)))), ((cell_far (p := ⟨gb471, _, none⟩) NB484_471.out _).trans (((cell_far (p := ⟨gb471, _, none⟩) NB484_471.out _).trans (hHeld.2.2.1)))), ((cell_far (p := ⟨gb471, _, none⟩) NB484_471.out _).trans (((cell_far (p := ⟨gb471, _, none⟩) NB484_471.out _).trans (hHeld.2.2.2))))⟩ (fun hHeld => ?_)
  clear hK K
  refine done_ (done_of HT_.out (by kernel_rfl)) ?_
  try go_wp2
  refine bodyPost_ret (results_list (rs := [.cell 2 30, .tmp 3, .cell 4 24]) rfl (by simp) (.cell gb470 30 #[.int .i64 t475, .slice Ao18 t476.length co18] (0, 0) _ rfl (by (with_reducible repeat apply blk_alloc); refine blk_far ?_ NB470_471.out _; (with_reducible repeat apply blk_alloc); refine blk_far ?_ NB470_471.out _; (with_reducible repeat apply blk_alloc); refine blk_put (cs := #[.int .i64 t475, .slice none 0 0]) ?_ 1 _ rfl; (with_reducible repeat apply blk_alloc); refine blk_put (cs := #[.int .i64 0, .slice none 0 0]) ?_ 0 _ rfl; (with_reducible repeat apply blk_alloc); exact BK470.out) Try.underlying30 rfl (by kernel_rfl) (.tmp (.cell gb471 24 #[.int .i64 t487, .int .i64 t488] (0, 0) _ rfl (by (with_reducible repeat apply blk_alloc); refine blk_put (cs := #[.int .i64 t487, .int .i64 0]) ?_ 1 _ rfl; (with_reducible repeat apply blk_alloc); refine blk_put (cs := #[.int .i64 0, .int .i64 0]) ?_ 0 _ rfl; (with_reducible repeat apply blk_alloc); refine blk_far ?_ NB471_470.out _; (with_reducible repeat apply blk_alloc); refine blk_far ?_ NB471_470.out _; (with_reducible repeat apply blk_alloc); exact BK471.out) Try.underlying24 rfl (by kernel_rfl) .nil)))) rfl ?_
  exact ⟨_, by first | rfl | (simp [errW_none, errW_some] <;> rfl) | (simp [*, errW_none, errW_some] <;> rfl) | (exfalso; simp_all; done), by (with_reducible repeat apply Kd.Q_alloc); exact Kd.Q_mono (Kd.Q_far (p := ⟨gb471, 1, none⟩) (Kd.Q_far (p := ⟨gb471, 0, none⟩) (Kd.Q_far (p := ⟨gb470, 1, none⟩) (Kd.Q_far (p := ⟨gb470, 0, none⟩) (Kd.Q_mono (Kd.Q_types HO478.out BK470.out (by decide)) (fun k_ hk => (⟨hk, hk.1.1⟩ : _ ∧ k_ ≠ gb471))) (fun _ hk => hk.1.2) (.int .i64 t475)) (fun _ hk => hk.1.2) (.slice Ao18 t476.length co18)) (fun _ hk => hk.2) (.int .i64 t487)) (fun _ hk => hk.2) (.int .i64 t488)) (fun _ hk => trivial), by repeat (first | (with_reducible first | exact HB.out | apply below_alloc | apply pw_below_drewN | apply below_drew1 | refine below_set ?_ (IsS77.ge HI474.out) | refine below_set ?_ GE470.out | refine below_set ?_ GE471.out | refine below_set ?_ GE480.out | refine below_set ?_ GE484.out) | exact HB.out)⟩
 ·rw [if_neg c6] at H
  have c6b0 : (t485 == 0) = false := beq_eq_false_iff_ne.mpr c6
  have c6b1 : (t485 != 0) = true := bne_iff_ne.mpr c6
  replace H := Option.bind_eq_some_iff.mp H
  obtain ⟨⟨t492, t493⟩, A360, H⟩ := H
  replace H : (some (t475, t476, t492, t481, t482)) = some (r1, r2, r3, r4, r5) := H
  have A36 := Aside0.mk A360
  clear A360
  simp only [Option.some.injEq, Prod.mk.injEq] at H
  obtain ⟨rfl, rfl, rfl, rfl, rfl⟩ := H
  go_enter Try.func34, Try.ntmps34
  try go_wp2_with (first | ((with_reducible refine gate_dst (N := 2) rfl ?_); refine box_event rfl (N := 2) rfl (cs := #[.int .i64 0, .slice none 0 0]) (t := 30) ?hr ?_; (case hr => first | (go_simp; done) | (go_simp; rfl)); intro gb470 hg w37 hbox hb; have n0_ := Aside0.mk (below_step (by repeat first | exact HB.out | apply below_alloc | apply pw_below_drewN) hb); have n1_ := Aside0.mk (hbox); have n2_ := Aside0.mk ((by rw [hg]; exact (below_size (by repeat first | exact HB.out | apply below_alloc | apply pw_below_drewN)) : w.heap.size ≤ gb470)); have n3_ := Aside0.mk ((by rw [hg]; exact (below_size (by repeat first | exact HB.out | apply below_alloc | apply pw_below_drewN)) : w.heap.size ≤ gb470)); clear HB; have HB := n0_; have BK470 := n1_; have GW470 := n2_; have GE470 := n3_; clear n0_ n1_ n2_ n3_; clear hb hbox hg) | ((with_reducible refine gate_dst (N := 4) rfl ?_); refine box_event rfl (N := 4) rfl (cs := #[.int .i64 0, .int .i64 0]) (t := 24) ?hr ?_; (case hr => first | (go_simp; done) | (go_simp; rfl)); intro gb471 hg w38 hbox hb; have n0_ := Aside0.mk (blk_below (bK BK470.out) hb); have n1_ := Aside0.mk (below_step (by repeat first | exact HB.out | with_reducible refine below_setA ?_ ‹_› | apply below_alloc | apply pw_below_drewN) hb); have n2_ := Aside0.mk (hbox); have n3_ := Aside0.mk ((by rw [hg]; exact (below_size (by repeat first | exact HB.out | with_reducible refine below_setA ?_ ‹_› | apply below_alloc | apply pw_below_drewN)) : w.heap.size ≤ gb471)); have n4_ := Aside0.mk ((by rw [hg]; exact (below_size (by repeat first | exact HB.out | with_reducible refine below_setA ?_ ‹_› | apply below_alloc | apply pw_below_drewN)) : w.heap.size ≤ gb471)); have n5_ := Aside0.mk ((by rw [hg]; exact Nat.ne_of_lt (blk_lt (bK BK470.out)) : gb470 ≠ gb471)); have n6_ := Aside0.mk ((by rw [hg]; exact Nat.ne_of_gt (blk_lt (bK BK470.out)) : gb471 ≠ gb470)); clear BK470; clear HB; have BK470 := n0_; have HB := n1_; have BK471 := n2_; have GW471 := n3_; have GE471 := n4_; have NB470_471 := n5_; have NB471_470 := n6_; clear n0_ n1_ n2_ n3_ n4_ n5_ n6_; clear hb hbox hg) | ((with_reducible refine gate_callee (f := 41) rfl ?_); refine goesL_ (some 9) rfl rfl Try.func41 (by kernel_rfl) rfl #[.slice A0 l0.length c0] rfl (by first | rfl | (simp only [List.map_toArray, List.map_cons, List.map_nil, List.length_drop, List.length_take]; try rfl)) ?_; (with_reducible refine (spec_l6Open.calls _ _ l0 t472 t473 w _ ?side1 ?side2 ?side3 A2.out).mono ?_); (case side1 => repeat (first | (with_reducible first | exact HB.out | apply below_alloc | apply pw_below_drewN | apply below_drew1 | refine below_set ?_ GE470.out | refine below_set ?_ GE471.out) | exact HB.out)); (case side2 => exact HR0.out); (case side3 => exact HC0.out); rintro e w39 ⟨g474, rfl, hi, hb, hb2⟩; refine ⟨_, rfl, ?_⟩; have n0_ := Aside0.mk (blk_below (bK BK470.out) hb2); have n1_ := Aside0.mk (blk_below (bK BK471.out) hb2); have n2_ := Aside0.mk (hb); have n3_ := Aside0.mk (hi); have n4_ := Aside0.mk (IsS77.ne_blk hi (blk_below (bK BK470.out) hb2) (by decide)); have n5_ := Aside0.mk (Ne.symm (IsS77.ne_blk hi (blk_below (bK BK470.out) hb2) (by decide))); have n6_ := Aside0.mk (IsS77.ne_blk hi (blk_below (bK BK471.out) hb2) (by decide)); have n7_ := Aside0.mk (Ne.symm (IsS77.ne_blk hi (blk_below (bK BK471.out) hb2) (by decide))); clear BK470; clear BK471; clear HB; have BK470 := n0_; have BK471 := n1_; have HB := n2_; have HI474 := n3_; have NB474_470 := n4_; have NB470_474 := n5_; have NB474_471 := n6_; have NB471_474 := n7_; clear n0_ n1_ n2_ n3_ n4_ n5_ n6_ n7_; (try clear hb); (try clear hb2); (try clear hk); (try clear hi)) | ((with_reducible refine gate_callee (f := 50) rfl ?_); refine goesL_ (some 11) rfl rfl Try.func50 (by kernel_rfl) rfl #[.pointer (some ⟨g474, 0, none⟩)] rfl (by first | rfl | (simp only [List.map_toArray, List.map_cons, List.map_nil, List.length_drop, List.length_take]; try rfl)) ?_; (with_reducible refine (spec_l71Some.calls k g474 t472 t473 t475 t476 t479 w _ ?side1 ?side2 A3.out).mono ?_); (case side1 => repeat (first | (with_reducible first | exact HI474.out | apply IsS77.alloc | apply IsS77.drewN | apply IsS77.drew | apply IsS77.set_1 | refine IsS77.far ?_ NB474_470.out _ | refine IsS77.far ?_ NB474_471.out _) | exact HI474.out)); (case side2 => repeat (first | (with_reducible first | exact HB.out | apply below_alloc | apply pw_below_drewN | apply below_drew1 | refine below_set ?_ (IsS77.ge HI474.out) | refine below_set ?_ GE470.out | refine below_set ?_ GE471.out) | exact HB.out)); rintro e w40 ⟨v477, rfl, ho0, hi, hb, hk⟩; refine ⟨_, rfl, ?_⟩; have n0_ := Aside0.mk (KeepBut.blk hk (g' := gb470) (o := .cells #[.int .i64 0, .slice none 0 0] 30 (0, 0)) (bK BK470.out) NB470_474.out (by simp)); have n1_ := Aside0.mk (KeepBut.blk hk (g' := gb471) (o := .cells #[.int .i64 0, .int .i64 0] 24 (0, 0)) (bK BK471.out) NB471_474.out (by simp)); have n2_ := Aside0.mk (Kd.Q_lower (Kd.Q_newB ho0 (g := gb471) (o := .cells #[.int .i64 0, .int .i64 0] 24 (0, 0)) (bK BK471.out)) (below_size (by repeat (first | (with_reducible first | exact HB.out | apply below_alloc | apply pw_below_drewN | apply below_drew1 | refine below_set ?_ (IsS77.ge HI474.out) | refine below_set ?_ GE470.out | refine below_set ?_ GE471.out) | exact HB.out)))); have n3_ := Aside0.mk (hb); have n4_ := Aside0.mk (hi); clear BK470; clear BK471; clear HB; clear HI474; have BK470 := n0_; have BK471 := n1_; have HO478 := n2_; have HB := n3_; have HI474 := n4_; clear n0_ n1_ n2_ n3_ n4_; (try clear hb); (try clear hb2); (try clear hk); (try clear hi); (try clear ho0)) | ((with_reducible refine gate_dst (N := 6) rfl ?_); refine box_event rfl (N := 6) rfl (cs := #[.int .i64 0, .slice none 0 0]) (t := 30) ?hr ?_; (case hr => first | (go_simp; done) | (go_simp; rfl)); intro gb480 hg w41 hbox hb; have n0_ := Aside0.mk (Kd.Q_below (by (with_reducible repeat apply Kd.Q_alloc); exact HO478.out) hb); have n1_ := Aside0.mk (blk_below (bK BK470.out) hb); have n2_ := Aside0.mk (blk_below (bK BK471.out) hb); have n3_ := Aside0.mk (IsS77.below (by repeat (first | (with_reducible first | exact HI474.out | apply IsS77.alloc | apply IsS77.drewN | apply IsS77.drew | apply IsS77.set_1 | refine IsS77.far ?_ NB474_470.out _ | refine IsS77.far ?_ NB474_471.out _) | exact HI474.out)) hb); have n4_ := Aside0.mk (below_step (by repeat (first | (with_reducible first | exact HB.out | apply below_alloc | apply pw_below_drewN | apply below_drew1 | refine below_set ?_ (IsS77.ge HI474.out) | refine below_set ?_ GE470.out | refine below_set ?_ GE471.out) | exact HB.out)) hb); have n5_ := Aside0.mk (hbox); have n6_ := Aside0.mk ((by rw [hg]; exact (below_size (by repeat (first | (with_reducible first | exact HB.out | apply below_alloc | apply pw_below_drewN | apply below_drew1 | refine below_set ?_ (IsS77.ge HI474.out) | refine below_set ?_ GE470.out | refine below_set ?_ GE471.out) | exact HB.out))) : w.heap.size ≤ gb480)); have n7_ := Aside0.mk ((by rw [hg]; exact (below_size (by repeat (first | (with_reducible first | exact HB.out | apply below_alloc | apply pw_below_drewN | apply below_drew1 | refine below_set ?_ (IsS77.ge HI474.out) | refine below_set ?_ GE470.out | refine below_set ?_ GE471.out) | exact HB.out))) : w.heap.size ≤ gb480)); have n8_ := Aside0.mk ((by rw [hg]; exact Nat.ne_of_lt (blk_lt (bK BK470.out)) : gb470 ≠ gb480)); have n9_ := Aside0.mk ((by rw [hg]; exact Nat.ne_of_gt (blk_lt (bK BK470.out)) : gb480 ≠ gb470)); have n10_ := Aside0.mk ((by rw [hg]; exact Nat.ne_of_lt (blk_lt (bK BK471.out)) : gb471 ≠ gb480)); have n11_ := Aside0.mk ((by rw [hg]; exact Nat.ne_of_gt (blk_lt (bK BK471.out)) : gb480 ≠ gb471)); have n12_ := Aside0.mk ((by rw [hg]; exact Nat.ne_of_lt (IsS77.lt (show IsS77 w _ g474 t472 t479 from by repeat (first | (with_reducible first | exact HI474.out | apply IsS77.alloc | apply IsS77.drewN | apply IsS77.drew | apply IsS77.set_1 | refine IsS77.far ?_ NB474_470.out _ | refine IsS77.far ?_ NB474_471.out _) | exact HI474.out))) : g474 ≠ gb480)); have n13_ := Aside0.mk ((by rw [hg]; exact Nat.ne_of_gt (IsS77.lt (show IsS77 w _ g474 t472 t479 from by repeat (first | (with_reducible first | exact HI474.out | apply IsS77.alloc | apply IsS77.drewN | apply IsS77.drew | apply IsS77.set_1 | refine IsS77.far ?_ NB474_470.out _ | refine IsS77.far ?_ NB474_471.out _) | exact HI474.out))) : gb480 ≠ g474)); clear HO478; clear BK470; clear BK471; clear HI474; clear HB; have HO478 := n0_; have BK470 := n1_; have BK471 := n2_; have HI474 := n3_; have HB := n4_; have BK480 := n5_; have GW480 := n6_; have GE480 := n7_; have NB470_480 := n8_; have NB480_470 := n9_; have NB471_480 := n10_; have NB480_471 := n11_; have NB474_480 := n12_; have NB480_474 := n13_; clear n0_ n1_ n2_ n3_ n4_ n5_ n6_ n7_ n8_ n9_ n10_ n11_ n12_ n13_; clear hb hbox hg; have hnb42 := NB480_470.out; have hnc42 := NB470_480.out; have hnb43 := NB480_471.out; have hnc43 := NB471_480.out; have hnb44 := NB480_474.out; have hnc44 := NB474_480.out; have hcz45_0 : w41.cell? ⟨gb480, 0, none⟩ = some (.int .i64 0) := (blk_cell BK480.out 0).trans rfl; have hcz45_1 : w41.cell? ⟨gb480, 1, none⟩ = some (.slice none 0 0) := (blk_cell BK480.out 1).trans rfl; have hfz45_0 := blk_frozen BK480.out 0; have hfz45_1 := blk_frozen BK480.out 1; obtain ⟨Ao46, co46, eo46, _⟩ := Kd.Q_slice HO478.out; subst eo46) | ((with_reducible refine gate_callee (f := 44) rfl ?_); refine goesL_ (some 13) rfl rfl Try.func44 (by kernel_rfl) rfl #[.pointer (some ⟨g474, 0, none⟩)] rfl (by first | rfl | (simp only [List.map_toArray, List.map_cons, List.map_nil, List.length_drop, List.length_take]; try rfl)) ?_; (with_reducible refine (spec_l71Cell.calls k g474 t472 t479 t481 t482 t483 w _ ?side1 ?side2 A4.out).mono ?_); (case side1 => repeat (first | (with_reducible first | exact HI474.out | apply IsS77.alloc | apply IsS77.drewN | apply IsS77.drew | apply IsS77.set_1 | refine IsS77.far ?_ NB474_470.out _ | refine IsS77.far ?_ NB474_471.out _ | refine IsS77.far ?_ NB474_480.out _) | exact HI474.out)); (case side2 => repeat (first | (with_reducible first | exact HB.out | apply below_alloc | apply pw_below_drewN | apply below_drew1 | refine below_set ?_ (IsS77.ge HI474.out) | refine below_set ?_ GE470.out | refine below_set ?_ GE471.out | refine below_set ?_ GE480.out) | exact HB.out)); rintro e w47 ⟨rfl, hi, hb, hk⟩; refine ⟨_, rfl, ?_⟩; have n0_ := Aside0.mk (KeepBut.blk hk (g' := gb470) (o := .cells #[.int .i64 0, .slice none 0 0] 30 (0, 0)) (by (with_reducible repeat apply blk_alloc); refine blk_far ?_ NB470_480.out _; (with_reducible repeat apply blk_alloc); refine blk_far ?_ NB470_480.out _; (with_reducible repeat apply blk_alloc); exact BK470.out) NB470_474.out (by simp)); have n1_ := Aside0.mk (KeepBut.blk hk (g' := gb471) (o := .cells #[.int .i64 0, .int .i64 0] 24 (0, 0)) (by (with_reducible repeat apply blk_alloc); refine blk_far ?_ NB471_480.out _; (with_reducible repeat apply blk_alloc); refine blk_far ?_ NB471_480.out _; (with_reducible repeat apply blk_alloc); exact BK471.out) NB471_474.out (by simp)); have n2_ := Aside0.mk (Kd.Q_mono (Kd.Q_keep (IsS77.apartQ (show IsS77 w _ g474 t472 t479 from by repeat (first | (with_reducible first | exact HI474.out | apply IsS77.alloc | apply IsS77.drewN | apply IsS77.drew | apply IsS77.set_1 | refine IsS77.far ?_ NB474_470.out _ | refine IsS77.far ?_ NB474_471.out _ | refine IsS77.far ?_ NB474_480.out _) | exact HI474.out)) (by (with_reducible repeat apply Kd.Q_alloc); exact (Kd.Q_mono (Kd.Q_far (p := ⟨gb480, 1, none⟩) (Kd.Q_far (p := ⟨gb480, 0, none⟩) (Kd.Q_types HO478.out BK480.out (by decide)) (fun _ hk => hk.2) (.int .i64 t475)) (fun _ hk => hk.2) (.slice Ao46 t476.length co46)) (fun _ h_ => h_.1))) (by decide)) hk (fun _ h => h.2)) (fun _ h => h.1)); have n3_ := Aside0.mk (KeepBut.blk hk (g' := gb480) (o := .cells #[.int .i64 t475, .slice Ao46 t476.length co46] 30 (0, 0)) (by (with_reducible repeat apply blk_alloc); refine blk_put (cs := #[.int .i64 t475, .slice none 0 0]) ?_ 1 _ rfl; (with_reducible repeat apply blk_alloc); refine blk_put (cs := #[.int .i64 0, .slice none 0 0]) ?_ 0 _ rfl; (with_reducible repeat apply blk_alloc); exact BK480.out) NB480_474.out (by simp)); have n4_ := Aside0.mk (hb); have n5_ := Aside0.mk (hi); clear BK470; clear BK471; clear HO478; clear BK480; clear HB; clear HI474; have BK470 := n0_; have BK471 := n1_; have HO478 := n2_; have BK480 := n3_; have HB := n4_; have HI474 := n5_; clear n0_ n1_ n2_ n3_ n4_ n5_; (try clear hb); (try clear hb2); (try clear hk); (try clear hi)) | ((with_reducible refine gate_dst (N := 7) rfl ?_); refine box_event rfl (N := 7) rfl (cs := #[.int .i64 0, .int .i64 0]) (t := 24) ?hr ?_; (case hr => first | (go_simp; done) | (go_simp; rfl)); intro gb484 hg w48 hbox hb; have n0_ := Aside0.mk (Kd.Q_below (Kd.Q_elderB (by (with_reducible repeat apply Kd.Q_alloc); exact HO478.out) gb484 (Nat.le_of_eq hg.symm)) hb); have n1_ := Aside0.mk (blk_below (bK BK470.out) hb); have n2_ := Aside0.mk (blk_below (bK BK471.out) hb); have n3_ := Aside0.mk (IsS77.below (by repeat (first | (with_reducible first | exact HI474.out | apply IsS77.alloc | apply IsS77.drewN | apply IsS77.drew | apply IsS77.set_1 | refine IsS77.far ?_ NB474_470.out _ | refine IsS77.far ?_ NB474_471.out _ | refine IsS77.far ?_ NB474_480.out _) | exact HI474.out)) hb); have n4_ := Aside0.mk (blk_below (bK BK480.out) hb); have n5_ := Aside0.mk (below_step (by repeat (first | (with_reducible first | exact HB.out | apply below_alloc | apply pw_below_drewN | apply below_drew1 | refine below_set ?_ (IsS77.ge HI474.out) | refine below_set ?_ GE470.out | refine below_set ?_ GE471.out | refine below_set ?_ GE480.out) | exact HB.out)) hb); have n6_ := Aside0.mk (hbox); have n7_ := Aside0.mk ((by rw [hg]; exact (below_size (by repeat (first | (with_reducible first | exact HB.out | apply below_alloc | apply pw_below_drewN | apply below_drew1 | refine below_set ?_ (IsS77.ge HI474.out) | refine below_set ?_ GE470.out | refine below_set ?_ GE471.out | refine below_set ?_ GE480.out) | exact HB.out))) : w.heap.size ≤ gb484)); have n8_ := Aside0.mk ((by rw [hg]; exact (below_size (by repeat (first | (with_reducible first | exact HB.out | apply below_alloc | apply pw_below_drewN | apply below_drew1 | refine below_set ?_ (IsS77.ge HI474.out) | refine below_set ?_ GE470.out | refine below_set ?_ GE471.out | refine below_set ?_ GE480.out) | exact HB.out))) : w.heap.size ≤ gb484)); have n9_ := Aside0.mk ((by rw [hg]; exact Nat.ne_of_lt (blk_lt (bK BK470.out)) : gb470 ≠ gb484)); have n10_ := Aside0.mk ((by rw [hg]; exact Nat.ne_of_gt (blk_lt (bK BK470.out)) : gb484 ≠ gb470)); have n11_ := Aside0.mk ((by rw [hg]; exact Nat.ne_of_lt (blk_lt (bK BK471.out)) : gb471 ≠ gb484)); have n12_ := Aside0.mk ((by rw [hg]; exact Nat.ne_of_gt (blk_lt (bK BK471.out)) : gb484 ≠ gb471)); have n13_ := Aside0.mk ((by rw [hg]; exact Nat.ne_of_lt (blk_lt (bK BK480.out)) : gb480 ≠ gb484)); have n14_ := Aside0.mk ((by rw [hg]; exact Nat.ne_of_gt (blk_lt (bK BK480.out)) : gb484 ≠ gb480)); have n15_ := Aside0.mk ((by rw [hg]; exact Nat.ne_of_lt (IsS77.lt (show IsS77 w _ g474 t472 t483 from by repeat (first | (with_reducible first | exact HI474.out | apply IsS77.alloc | apply IsS77.drewN | apply IsS77.drew | apply IsS77.set_1 | refine IsS77.far ?_ NB474_470.out _ | refine IsS77.far ?_ NB474_471.out _ | refine IsS77.far ?_ NB474_480.out _) | exact HI474.out))) : g474 ≠ gb484)); have n16_ := Aside0.mk ((by rw [hg]; exact Nat.ne_of_gt (IsS77.lt (show IsS77 w _ g474 t472 t483 from by repeat (first | (with_reducible first | exact HI474.out | apply IsS77.alloc | apply IsS77.drewN | apply IsS77.drew | apply IsS77.set_1 | refine IsS77.far ?_ NB474_470.out _ | refine IsS77.far ?_ NB474_471.out _ | refine IsS77.far ?_ NB474_480.out _) | exact HI474.out))) : gb484 ≠ g474)); clear HO478; clear BK470; clear BK471; clear HI474; clear BK480; clear HB; have HO478 := n0_; have BK470 := n1_; have BK471 := n2_; have HI474 := n3_; have BK480 := n4_; have HB := n5_; have BK484 := n6_; have GW484 := n7_; have GE484 := n8_; have NB470_484 := n9_; have NB484_470 := n10_; have NB471_484 := n11_; have NB484_471 := n12_; have NB480_484 := n13_; have NB484_480 := n14_; have NB474_484 := n15_; have NB484_474 := n16_; clear n0_ n1_ n2_ n3_ n4_ n5_ n6_ n7_ n8_ n9_ n10_ n11_ n12_ n13_ n14_ n15_ n16_; clear hb hbox hg; have hnb49 := NB484_470.out; have hnc49 := NB470_484.out; have hnb50 := NB484_471.out; have hnc50 := NB471_484.out; have hnb51 := NB484_480.out; have hnc51 := NB480_484.out; have hnb52 := NB484_474.out; have hnc52 := NB474_484.out; have hcz53_0 : w48.cell? ⟨gb484, 0, none⟩ = some (.int .i64 0) := (blk_cell BK484.out 0).trans rfl; have hcz53_1 : w48.cell? ⟨gb484, 1, none⟩ = some (.int .i64 0) := (blk_cell BK484.out 1).trans rfl; have hfz53_0 := blk_frozen BK484.out 0; have hfz53_1 := blk_frozen BK484.out 1) | ((with_reducible refine gate_callee (f := 42) rfl ?_); refine goesL_ (some 15) rfl rfl Try.func42 (by kernel_rfl) rfl #[.pointer (some ⟨g474, 0, none⟩), .int .i64 16] rfl (by first | rfl | (simp only [List.map_toArray, List.map_cons, List.map_nil, List.length_drop, List.length_take]; try rfl)) ?_; (with_reducible refine (spec_l6Rd_pick.calls k g474 t472 t483 16 t485 t486 w _ ?side1 ?side2 A5.out).mono ?_); (case side1 => repeat (first | (with_reducible first | exact HI474.out | apply IsS77.alloc | apply IsS77.drewN | apply IsS77.drew | apply IsS77.set_1 | refine IsS77.far ?_ NB474_470.out _ | refine IsS77.far ?_ NB474_471.out _ | refine IsS77.far ?_ NB474_480.out _ | refine IsS77.far ?_ NB474_484.out _) | exact HI474.out)); (case side2 => repeat (first | (with_reducible first | exact HB.out | apply below_alloc | apply pw_below_drewN | apply below_drew1 | refine below_set ?_ (IsS77.ge HI474.out) | refine below_set ?_ GE470.out | refine below_set ?_ GE471.out | refine below_set ?_ GE480.out | refine below_set ?_ GE484.out) | exact HB.out)); rintro e w54 ⟨rfl, hi, hb, hk⟩; refine ⟨_, rfl, ?_⟩; have n0_ := Aside0.mk (KeepBut.blk hk (g' := gb470) (o := .cells #[.int .i64 0, .slice none 0 0] 30 (0, 0)) (by (with_reducible repeat apply blk_alloc); refine blk_far ?_ NB470_484.out _; (with_reducible repeat apply blk_alloc); refine blk_far ?_ NB470_484.out _; (with_reducible repeat apply blk_alloc); exact BK470.out) NB470_474.out (by simp)); have n1_ := Aside0.mk (KeepBut.blk hk (g' := gb471) (o := .cells #[.int .i64 0, .int .i64 0] 24 (0, 0)) (by (with_reducible repeat apply blk_alloc); refine blk_far ?_ NB471_484.out _; (with_reducible repeat apply blk_alloc); refine blk_far ?_ NB471_484.out _; (with_reducible repeat apply blk_alloc); exact BK471.out) NB471_474.out (by simp)); have n2_ := Aside0.mk (Kd.Q_mono (Kd.Q_keep (IsS77.apartQ (show IsS77 w _ g474 t472 t483 from by repeat (first | (with_reducible first | exact HI474.out | apply IsS77.alloc | apply IsS77.drewN | apply IsS77.drew | apply IsS77.set_1 | refine IsS77.far ?_ NB474_470.out _ | refine IsS77.far ?_ NB474_471.out _ | refine IsS77.far ?_ NB474_480.out _ | refine IsS77.far ?_ NB474_484.out _) | exact HI474.out)) (by (with_reducible repeat apply Kd.Q_alloc); exact (Kd.Q_mono (Kd.Q_far (p := ⟨gb484, 1, none⟩) (Kd.Q_far (p := ⟨gb484, 0, none⟩) (Kd.Q_mono HO478.out (fun k_ hk => (⟨hk, hk.2⟩ : _ ∧ k_ ≠ gb484))) (fun _ hk => hk.2) (.int .i64 t481)) (fun _ hk => hk.2) (.int .i64 t482)) (fun _ h_ => h_.1))) (by decide)) hk (fun _ h => h.2)) (fun _ h => h.1)); have n3_ := Aside0.mk (KeepBut.blk hk (g' := gb480) (o := .cells #[.int .i64 t475, .slice Ao46 t476.length co46] 30 (0, 0)) (by (with_reducible repeat apply blk_alloc); refine blk_far ?_ NB480_484.out _; (with_reducible repeat apply blk_alloc); refine blk_far ?_ NB480_484.out _; (with_reducible repeat apply blk_alloc); exact BK480.out) NB480_474.out (by simp)); have n4_ := Aside0.mk (KeepBut.blk hk (g' := gb484) (o := .cells #[.int .i64 t481, .int .i64 t482] 24 (0, 0)) (by (with_reducible repeat apply blk_alloc); refine blk_put (cs := #[.int .i64 t481, .int .i64 0]) ?_ 1 _ rfl; (with_reducible repeat apply blk_alloc); refine blk_put (cs := #[.int .i64 0, .int .i64 0]) ?_ 0 _ rfl; (with_reducible repeat apply blk_alloc); exact BK484.out) NB484_474.out (by simp)); have n5_ := Aside0.mk (hb); have n6_ := Aside0.mk (hi); clear BK470; clear BK471; clear HO478; clear BK480; clear BK484; clear HB; clear HI474; have BK470 := n0_; have BK471 := n1_; have HO478 := n2_; have BK480 := n3_; have BK484 := n4_; have HB := n5_; have HI474 := n6_; clear n0_ n1_ n2_ n3_ n4_ n5_ n6_; (try clear hb); (try clear hb2); (try clear hk); (try clear hi)))
  have n0_ := Aside0.mk (Kd.Q_drew HO478.out)
  have n1_ := Aside0.mk (blk_drew BK470.out)
  have n2_ := Aside0.mk (blk_drew BK471.out)
  have n3_ := Aside0.mk (blk_drew BK480.out)
  have n4_ := Aside0.mk (blk_drew BK484.out)
  have n5_ := Aside0.mk (IsS77.drew HI474.out)
  have n6_ := Aside0.mk (below_drew1 HB.out)
  clear HO478
  clear BK470
  clear BK471
  clear BK480
  clear BK484
  clear HI474
  clear HB
  have HO478 := n0_
  have BK470 := n1_
  have BK471 := n2_
  have BK480 := n3_
  have BK484 := n4_
  have HI474 := n5_
  have HB := n6_
  clear n0_ n1_ n2_ n3_ n4_ n5_ n6_
  refine start_ (n := 8) (S := fun w' => w'.cell? ⟨gb480, 0, none⟩ = some (.int .i64 t475) ∧ w'.cell? ⟨gb480, 1, none⟩ = some (.slice Ao46 t476.length co46) ∧ w'.cell? ⟨gb484, 0, none⟩ = some (.int .i64 t481) ∧ w'.cell? ⟨gb484, 1, none⟩ = some (.int .i64 t482)) (ds := []) #[false, false, false, false, false, false, false, false] (by kernel_rfl) rfl rfl ⟨(blk_cell BK480.out 0).trans rfl, (blk_cell BK480.out 1).trans rfl, (blk_cell BK484.out 0).trans rfl, (blk_cell BK484.out 1).trans rfl⟩ (fun hHeld => ?_); refine with_tabW spec_DrawGridPut.tab6 spec_DrawGridPut.bits6 (fun HT_ HW_ => ?_)
  generalize w54.drew = w55 at HO478 BK470 BK471 BK480 BK484 HI474 HB hHeld ⊢
  refine pure_ (i := 1) (N := some 20) (v := ?_) (a' := ?_) #[false, true, false, false, false, false, false, false] rfl rfl (any_of HT_.out (by kernel_rfl)) (fun _ _ _ h => h) (Or.inl ⟨by rfl, ?_⟩) ?_ ?_
  rotate_left
  ·intro w'
   go_simp
   with_reducible rfl
  rotate_left
  ·simp only [Act.put, List.setIfInBounds_toArray, List.set_cons_zero, List.set_cons_succ, i64_w, i32_w]
   rfl
  refine take_ (i := 0) (N := some 19) (v := ?_) (a' := ?_) #[true, true, false, false, false, false, false, false] rfl rfl (take_ofW HT_.out HW_.out (by kernel_rfl)) (fun _ _ _ h => h) (Or.inl ⟨by rfl, ?_⟩) hHeld ?_ ?_
  rotate_left
  ·rintro w' ⟨s0, s1, s2, s3⟩
   go_simp
   with_reducible rfl
  rotate_left
  ·simp only [Act.put, List.setIfInBounds_toArray, List.set_cons_zero, List.set_cons_succ, i64_w, i32_w]
   rfl
  refine take_ (i := 2) (N := some 21) (v := ?_) (a' := ?_) #[true, true, true, false, false, false, false, false] rfl rfl (take_ofW HT_.out HW_.out (by kernel_rfl)) (fun _ _ _ h => h) (Or.inl ⟨by rfl, ?_⟩) hHeld ?_ ?_
  rotate_left
  ·rintro w' ⟨s0, s1, s2, s3⟩
   go_simp
   with_reducible rfl
  rotate_left
  ·simp only [Act.put, List.setIfInBounds_toArray, List.set_cons_zero, List.set_cons_succ, i64_w, i32_w]
   rfl
  refine take_ (i := 4) (N := some 23) (v := ?_) (a' := ?_) #[true, true, true, false, true, false, false, false] rfl rfl (take_ofW HT_.out HW_.out (by kernel_rfl)) (fun _ _ _ h => h) (Or.inl ⟨by rfl, ?_⟩) hHeld ?_ ?_
  rotate_left
  ·rintro w' ⟨s0, s1, s2, s3⟩
   go_simp
   with_reducible rfl
  rotate_left
  ·simp only [Act.put, List.setIfInBounds_toArray, List.set_cons_zero, List.set_cons_succ, i64_w, i32_w]
   rfl
  refine one_ (i := 3) (N := some 22) #[true, true, true, true, true, false, false, false] rfl rfl (one_of HT_.out (by kernel_rfl)) (by decide) (fun K hK => ?_)
  refine goes_ Try.func60 (by kernel_rfl) rfl #[.pointer (some ⟨g474, 0, none⟩), .agg #[.int .i64 t475, .slice Ao46 t476.length co46]] (by rfl) rfl rfl (by first | rfl | (simp only [List.map_toArray, List.map_cons, List.map_nil, List.length_drop, List.length_take]; try rfl)) ?_
  with_reducible refine (spec_l71Place.calls k g474 t472 t486 t475 _ _ t476 t492 t493 w _ ?side1 ?side2 ?side3 ?side4 A36.out).mono ?_
  (case side1 => repeat (first | (with_reducible first | exact HI474.out | apply IsS77.alloc | apply IsS77.drewN | apply IsS77.drew | apply IsS77.set_1 | refine IsS77.far ?_ NB474_470.out _ | refine IsS77.far ?_ NB474_471.out _ | refine IsS77.far ?_ NB474_480.out _ | refine IsS77.far ?_ NB474_484.out _) | exact HI474.out))
  (case side2 => repeat (first | (with_reducible first | exact HB.out | apply below_alloc | apply pw_below_drewN | apply below_drew1 | refine below_set ?_ (IsS77.ge HI474.out) | refine below_set ?_ GE470.out | refine below_set ?_ GE471.out | refine below_set ?_ GE480.out | refine below_set ?_ GE484.out) | exact HB.out))
  (case side3 => exact Kd.C_foot_ownQ (IsS77.apartQ (show IsS77 w _ g474 t472 t486 from by repeat (first | (with_reducible first | exact HI474.out | apply IsS77.alloc | apply IsS77.drewN | apply IsS77.drew | apply IsS77.set_1 | refine IsS77.far ?_ NB474_470.out _ | refine IsS77.far ?_ NB474_471.out _ | refine IsS77.far ?_ NB474_480.out _ | refine IsS77.far ?_ NB474_484.out _) | exact HI474.out)) (by (with_reducible repeat apply Kd.Q_alloc); exact HO478.out) (by decide)) (fun _ h_ => h_.2))
  (case side4 => exact (Kd.Q_reads' HO478.out).2.1)
  rintro e w56 ⟨rfl, hi, hb, hk⟩
  refine ⟨_, rfl, ?_⟩
  have n0_ := Aside0.mk (KeepBut.blk hk (g' := gb470) (o := .cells #[.int .i64 0, .slice none 0 0] 30 (0, 0)) (bK BK470.out) NB470_474.out (by simp))
  have n1_ := Aside0.mk (KeepBut.blk hk (g' := gb471) (o := .cells #[.int .i64 0, .int .i64 0] 24 (0, 0)) (bK BK471.out) NB471_474.out (by simp))
  have n2_ := Aside0.mk (Kd.Q_mono (Kd.Q_keep (IsS77.apartQ (show IsS77 w _ g474 t472 t486 from by repeat (first | (with_reducible first | exact HI474.out | apply IsS77.alloc | apply IsS77.drewN | apply IsS77.drew | apply IsS77.set_1 | refine IsS77.far ?_ NB474_470.out _ | refine IsS77.far ?_ NB474_471.out _ | refine IsS77.far ?_ NB474_480.out _ | refine IsS77.far ?_ NB474_484.out _) | exact HI474.out)) (by (with_reducible repeat apply Kd.Q_alloc); exact HO478.out) (by decide)) hk (fun _ h => h.2)) (fun _ h => h.1))
  have n3_ := Aside0.mk (KeepBut.blk hk (g' := gb480) (o := .cells #[.int .i64 t475, .slice Ao46 t476.length co46] 30 (0, 0)) (bK BK480.out) NB480_474.out (by simp))
  have n4_ := Aside0.mk (KeepBut.blk hk (g' := gb484) (o := .cells #[.int .i64 t481, .int .i64 t482] 24 (0, 0)) (bK BK484.out) NB484_474.out (by simp))
  have n5_ := Aside0.mk (hb)
  have n6_ := Aside0.mk (hi)
  clear BK470
  clear BK471
  clear HO478
  clear BK480
  clear BK484
  clear HB
  clear HI474
  have BK470 := n0_
  have BK471 := n1_
  have HO478 := n2_
  have BK480 := n3_
  have BK484 := n4_
  have HB := n5_
  have HI474 := n6_
  clear n0_ n1_ n2_ n3_ n4_ n5_ n6_
  (try clear hb)
  (try clear hb2)
  (try clear hk)
  (try clear hi)
  refine hK.out _ _ ⟨(blk_cell BK480.out 0).trans rfl, (blk_cell BK480.out 1).trans rfl, (blk_cell BK484.out 0).trans rfl, (blk_cell BK484.out 1).trans rfl⟩ (fun hHeld => ?_)
  clear hK K
  refine norm_ (a' := ?_) ?_ ?_
  rotate_left
  ·show Act.put _ (some 22) _ = _
   simp only [Act.put, List.setIfInBounds_toArray, List.set_cons_zero, List.set_cons_succ, i64_w, i32_w]
   rfl
  refine one_ (i := 5) (N := none) #[true, true, true, true, true, true, false, false] rfl rfl (one_of HT_.out (by kernel_rfl)) (by decide) (fun K hK => ?_)
  have hs57 : w56.cell? ⟨gb470, 0, none⟩ = some (.int .i64 0) := (blk_cell BK470.out 0).trans rfl
  have hfs57 := blk_frozen BK470.out 0
  have hns57_1 := NB471_470.out
  have hns57_2 := NB480_470.out
  have hns57_3 := NB484_470.out
  have hms57_1 := NB470_471.out
  have hms57_2 := NB470_480.out
  have hms57_3 := NB470_484.out
  have hs58 : w56.cell? ⟨gb470, 1, none⟩ = some (.slice none 0 0) := (blk_cell BK470.out 1).trans rfl
  have hfs58 := blk_frozen BK470.out 1
  have hns58_1 := NB471_470.out
  have hns58_2 := NB480_470.out
  have hns58_3 := NB484_470.out
  have hms58_1 := NB470_471.out
  have hms58_2 := NB470_480.out
  have hms58_3 := NB470_484.out
  refine skip_ (w1 := ?_) (by rfl) rfl ?_ ?_
  rotate_left
  ·go_simp
   rfl
  refine hK.out _ _ ⟨((cell_far (p := ⟨gb470, _, none⟩) NB480_470.out _).trans (((cell_far (p := ⟨gb470, _, none⟩) NB480_470.out _).trans (hHeld.1)))), ((cell_far (p := ⟨gb470, _, none⟩) NB480_470.out _).trans (((cell_far (p := ⟨gb470, _, none⟩) NB480_470.out _).trans (hHeld.2.1)))), ((cell_far (p := ⟨gb470, _, none⟩) NB484_470.out _).trans (((cell_far (p := ⟨gb470, _, none⟩) NB484_470.out _).trans (hHeld.2.2.1)))), ((cell_far (p := ⟨gb470, _, none⟩) NB484_470.out _).trans (((cell_far (p := ⟨gb470, _, none⟩) NB484_470.out _).trans (hHeld.2.2.2))))⟩ (fun hHeld => ?_)
  clear hK K
  refine pure_ (i := 6) (N := some 3) (v := ?_) (a' := ?_) #[true, true, true, true, true, true, true, false] rfl rfl (any_of HT_.out (by kernel_rfl)) (fun _ _ _ h => h) (Or.inl ⟨by rfl, ?_⟩) ?_ ?_
  rotate_left
  ·intro w'
   go_simp
   with_reducible rfl
  rotate_left
  ·simp only [Act.put, List.setIfInBounds_toArray, List.set_cons_zero, List.set_cons_succ, i64_w, i32_w]
   rfl
  refine one_ (i := 7) (N := none) #[true, true, true, true, true, true, true, true] rfl rfl (one_of HT_.out (by kernel_rfl)) (by decide) (fun K hK => ?_)
  have hs59 : w56.cell? ⟨gb471, 0, none⟩ = some (.int .i64 0) := (blk_cell BK471.out 0).trans rfl
  have hfs59 := blk_frozen BK471.out 0
  have hns59_0 := NB470_471.out
  have hns59_2 := NB480_471.out
  have hns59_3 := NB484_471.out
  have hms59_0 := NB471_470.out
  have hms59_2 := NB471_480.out
  have hms59_3 := NB471_484.out
  have hs60 : w56.cell? ⟨gb471, 1, none⟩ = some (.int .i64 0) := (blk_cell BK471.out 1).trans rfl
  have hfs60 := blk_frozen BK471.out 1
  have hns60_0 := NB470_471.out
  have hns60_2 := NB480_471.out
  have hns60_3 := NB484_471.out
  have hms60_0 := NB471_470.out
  have hms60_2 := NB471_480.out
  have hms60_3 := NB471_484.out
  refine skip_ (w1 := ?_) (by rfl) rfl ?_ ?_
  rotate_left
  ·go_simp
   rfl
  refine hK.out _ _ ⟨((cell_far (p := ⟨gb471, _, none⟩) NB480_471.out _).trans (((cell_far (p := ⟨gb471, _, none⟩) NB480_471.out _).trans (hHeld.1)))), ((cell_far (p := ⟨gb471, _, none⟩) NB480_471.out _).trans (((cell_far (p := ⟨gb471, _, none⟩) NB480_471.out _).trans (hHeld.2.1)))), ((cell_far (p := ⟨gb471, _, none⟩) NB484_471.out _).trans (((cell_far (p := ⟨gb471, _, none⟩) NB484_471.out _).trans (hHeld.2.2.1)))), ((cell_far (p := ⟨gb471, _, none⟩) NB484_471.out _).trans (((cell_far (p := ⟨gb471, _, none⟩) NB484_471.out _).trans (hHeld.2.2.2))))⟩ (fun hHeld => ?_)
  clear hK K
  refine done_ (done_of HT_.out (by kernel_rfl)) ?_
  try go_wp2
  refine bodyPost_ret (results_list (rs := [.cell 2 30, .tmp 3, .cell 4 24]) rfl (by simp) (.cell gb470 30 #[.int .i64 t475, .slice Ao46 t476.length co46] (0, 0) _ rfl (by (with_reducible repeat apply blk_alloc); refine blk_far ?_ NB470_471.out _; (with_reducible repeat apply blk_alloc); refine blk_far ?_ NB470_471.out _; (with_reducible repeat apply blk_alloc); refine blk_put (cs := #[.int .i64 t475, .slice none 0 0]) ?_ 1 _ rfl; (with_reducible repeat apply blk_alloc); refine blk_put (cs := #[.int .i64 0, .slice none 0 0]) ?_ 0 _ rfl; (with_reducible repeat apply blk_alloc); exact BK470.out) Try.underlying30 rfl (by kernel_rfl) (.tmp (.cell gb471 24 #[.int .i64 t481, .int .i64 t482] (0, 0) _ rfl (by (with_reducible repeat apply blk_alloc); refine blk_put (cs := #[.int .i64 t481, .int .i64 0]) ?_ 1 _ rfl; (with_reducible repeat apply blk_alloc); refine blk_put (cs := #[.int .i64 0, .int .i64 0]) ?_ 0 _ rfl; (with_reducible repeat apply blk_alloc); refine blk_far ?_ NB471_470.out _; (with_reducible repeat apply blk_alloc); refine blk_far ?_ NB471_470.out _; (with_reducible repeat apply blk_alloc); exact BK471.out) Try.underlying24 rfl (by kernel_rfl) .nil)))) rfl ?_
  exact ⟨_, by first | rfl | (simp [errW_none, errW_some] <;> rfl) | (simp [*, errW_none, errW_some] <;> rfl) | (exfalso; simp_all; done), by (with_reducible repeat apply Kd.Q_alloc); exact Kd.Q_mono (Kd.Q_far (p := ⟨gb471, 1, none⟩) (Kd.Q_far (p := ⟨gb471, 0, none⟩) (Kd.Q_far (p := ⟨gb470, 1, none⟩) (Kd.Q_far (p := ⟨gb470, 0, none⟩) (Kd.Q_mono (Kd.Q_types HO478.out BK470.out (by decide)) (fun k_ hk => (⟨hk, hk.1.1.2⟩ : _ ∧ k_ ≠ gb471))) (fun _ hk => hk.1.2) (.int .i64 t475)) (fun _ hk => hk.1.2) (.slice Ao46 t476.length co46)) (fun _ hk => hk.2) (.int .i64 t481)) (fun _ hk => hk.2) (.int .i64 t482)) (fun _ hk => trivial), by repeat (first | (with_reducible first | exact HB.out | apply below_alloc | apply pw_below_drewN | apply below_drew1 | refine below_set ?_ (IsS77.ge HI474.out) | refine below_set ?_ GE470.out | refine below_set ?_ GE471.out | refine below_set ?_ GE480.out | refine below_set ?_ GE484.out) | exact HB.out)⟩

end Go.Proofs.Ytbnofnamkgfadaa.P
