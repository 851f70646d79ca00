/- PROVED: contracts of functions of the program, the reference and the statements; written by this session's driver (pk.py) through its own changed copy of the kit's print. No condition. -/
import Derived.Test.YtbomeogcgefddaaPx0
import Derived.Test.YtbomeogcgefddaaPx3
import Derived.Test.YtbomeogcgefddaaPx4
import Derived.Test.YtbomeogcgefddaaPx5
import Derived.Test.YtbomeogcgefddaaPx7
import Derived.Test.YtbomeogcgefddaaPx8
import Derived.Test.YtbomeogcgefddaaPx9
namespace Go.Proofs.Ytbomeogcgefddaa.P
open Go.RowKit Go.Proofs.YtbomeogcgefddaaW.PrintWords Go.Proofs.YtbomeogcgefddaaW.PrintLast Go.Proofs.YtbomeogcgefddaaW.PrintMore
attribute [local go_sem] max2_int min2_int max_two min_two max_three min_three max_four min_four   -- for this text's walks alone
set_option linter.unusedVariables false
set_option linter.unusedSimpArgs false

/-! ### spec_DrawGridPut: function 25 -/
def spec_DrawGridPut.f (k : Nat) (l0 : List Int) : Option (Int × (List (S42)) × Int × Int × Int) := (spec_l6Open.f l0).bind fun bt501 => ((spec_l71Some.f k bt501.1 bt501.2).bind fun bt504 => ((spec_l71Cell.f k bt501.1 bt504.2.2).bind fun bt510 => ((spec_l6Rd_pick.f k bt501.1 bt510.2.2 16).bind fun bt514 => (if bt514.1 = 0 then ((spec_l71Off.f k bt501.1 bt514.2).bind fun bt516 => ((spec_l71Place.f k bt501.1 bt516.2.2 bt504.1 bt504.2.1).bind fun bt519 => (some (bt504.1, bt504.2.1, bt519.1, bt516.1, bt516.2.1)))) else ((spec_l71Place.f k bt501.1 bt514.2 bt504.1 bt504.2.1).bind fun bt521 => (some (bt504.1, bt504.2.1, bt521.1, bt510.1, bt510.2.1)))))))
theorem spec_DrawGridPut.mono : ∀ a0 k, LeO (spec_DrawGridPut.f k a0) (spec_DrawGridPut.f (k + 1) a0) := by
 intro a0 k
 unfold spec_DrawGridPut.f
 repeat' first
   | (with_reducible exact spec_l6Rd_pick.mono _ _ _ _)
   | (with_reducible exact spec_l71Cell.mono _ _ _)
   | (with_reducible exact spec_l71Off.mono _ _ _)
   | (with_reducible exact spec_l71Place.mono _ _ _ _ _)
   | (with_reducible exact spec_l71Some.mono _ _ _)
   | (with_reducible exact LeO.refl _)
   | (with_reducible exact LeO.none _)
   | (with_reducible refine LeO.ite ?_ ?_)
   | (with_reducible refine LeO.bind ?_ (fun _ => ?_))
   | exact spec_l6Rd_pick.mono _ _ _ _
   | exact spec_l71Cell.mono _ _ _
   | exact spec_l71Off.mono _ _ _
   | exact spec_l71Place.mono _ _ _ _ _
   | exact spec_l71Some.mono _ _ _
   | exact LeO.none _
   | refine LeO.ite ?_ ?_
   | refine LeO.bind ?_ (fun _ => ?_)
def spec_DrawGridPut.T6 : Bool × List (List Nat × List Nat) := (true, [([], []), ([], []), ([], []), ([1, 2], [1, 2]), ([], []), ([0, 3, 0], [0]), ([3, 5, 0, 1, 2, 3, 5], [3]), ([4, 6, 0, 1, 2, 3, 4, 5, 6], [4])])
def spec_DrawGridPut.B6 : List Nat := [0, 0, 0, 6, 0, 15, 47, 127]
theorem spec_DrawGridPut.tab6 : rtab .any (opsOf Try.f25 6) = spec_DrawGridPut.T6 := by kernel_rfl
theorem spec_DrawGridPut.bits6 : waitsOk spec_DrawGridPut.T6.2 spec_DrawGridPut.B6 = true := by kernel_rfl
set_option maxHeartbeats 8000000 in
set_option maxRecDepth 100000 in
theorem spec_DrawGridPut.calls (k : Nat) (A0 : Option Addr) (c0 : Nat) (l0 : List Int) (r1 : Int) (r2 : List (S42)) (r3 : Int) (r4 : Int) (r5 : Int) (w : World) (hr0 : Kd.C (Kd.int .u8) w A0 l0.length l0) (hc0 : l0.length ≤ c0) (h : spec_DrawGridPut.f k l0 = some (r1, r2, r3, r4, r5)) :
  Calls Try.prog 25 #[.slice A0 l0.length c0] w fun e w' => ∃ v1_ : Value, e = .returned (.tuple #[.agg #[.int .i64 r1, v1_], .int .i64 r3, .agg #[.int .i64 r4, .int .i64 r5]]) ∧ Kd.Q k42 42 w' w.heap.size (fun _ => True) v1_ r2 ∧ Below w.heap.size w w' := by
 have hu25 := Try.underlying25
 have hu42 := Try.underlying42
 have HR0 := Aside0.mk hr0
 have HC0 := Aside0.mk hc0
 clear hr0 hc0
 have HB := Aside0.mk (Below.refl w.heap.size w)
 have H : ((spec_l6Open.f l0).bind fun bt501 => ((spec_l71Some.f k bt501.1 bt501.2).bind fun bt504 => ((spec_l71Cell.f k bt501.1 bt504.2.2).bind fun bt510 => ((spec_l6Rd_pick.f k bt501.1 bt510.2.2 16).bind fun bt514 => (if bt514.1 = 0 then ((spec_l71Off.f k bt501.1 bt514.2).bind fun bt516 => ((spec_l71Place.f k bt501.1 bt516.2.2 bt504.1 bt504.2.1).bind fun bt519 => (some (bt504.1, bt504.2.1, bt519.1, bt516.1, bt516.2.1)))) else ((spec_l71Place.f k bt501.1 bt514.2 bt504.1 bt504.2.1).bind fun bt521 => (some (bt504.1, bt504.2.1, bt521.1, bt510.1, bt510.2.1)))))))) = some (r1, r2, r3, r4, r5) := h
 clear h
 replace H := Option.bind_eq_some_iff.mp H
 obtain ⟨⟨t501, t502⟩, A20, H⟩ := H
 replace H : ((spec_l71Some.f k t501 t502).bind fun bt504 => ((spec_l71Cell.f k t501 bt504.2.2).bind fun bt510 => ((spec_l6Rd_pick.f k t501 bt510.2.2 16).bind fun bt514 => (if bt514.1 = 0 then ((spec_l71Off.f k t501 bt514.2).bind fun bt516 => ((spec_l71Place.f k t501 bt516.2.2 bt504.1 bt504.2.1).bind fun bt519 => (some (bt504.1, bt504.2.1, bt519.1, bt516.1, bt516.2.1)))) else ((spec_l71Place.f k t501 bt514.2 bt504.1 bt504.2.1).bind fun bt521 => (some (bt504.1, bt504.2.1, bt521.1, bt510.1, bt510.2.1))))))) = some (r1, r2, r3, r4, r5) := H
 have A2 := Aside0.mk A20
 clear A20
 replace H := Option.bind_eq_some_iff.mp H
 obtain ⟨⟨t504, t505, t508⟩, A30, H⟩ := H
 replace H : ((spec_l71Cell.f k t501 t508).bind fun bt510 => ((spec_l6Rd_pick.f k t501 bt510.2.2 16).bind fun bt514 => (if bt514.1 = 0 then ((spec_l71Off.f k t501 bt514.2).bind fun bt516 => ((spec_l71Place.f k t501 bt516.2.2 t504 t505).bind fun bt519 => (some (t504, t505, bt519.1, bt516.1, bt516.2.1)))) else ((spec_l71Place.f k t501 bt514.2 t504 t505).bind fun bt521 => (some (t504, t505, bt521.1, bt510.1, bt510.2.1)))))) = some (r1, r2, r3, r4, r5) := H
 have A3 := Aside0.mk A30
 clear A30
 replace H := Option.bind_eq_some_iff.mp H
 obtain ⟨⟨t510, t511, t512⟩, A40, H⟩ := H
 replace H : ((spec_l6Rd_pick.f k t501 t512 16).bind fun bt514 => (if bt514.1 = 0 then ((spec_l71Off.f k t501 bt514.2).bind fun bt516 => ((spec_l71Place.f k t501 bt516.2.2 t504 t505).bind fun bt519 => (some (t504, t505, bt519.1, bt516.1, bt516.2.1)))) else ((spec_l71Place.f k t501 bt514.2 t504 t505).bind fun bt521 => (some (t504, t505, bt521.1, t510, t511))))) = some (r1, r2, r3, r4, r5) := H
 have A4 := Aside0.mk A40
 clear A40
 replace H := Option.bind_eq_some_iff.mp H
 obtain ⟨⟨t514, t515⟩, A50, H⟩ := H
 replace H : (if t514 = 0 then ((spec_l71Off.f k t501 t515).bind fun bt516 => ((spec_l71Place.f k t501 bt516.2.2 t504 t505).bind fun bt519 => (some (t504, t505, bt519.1, bt516.1, bt516.2.1)))) else ((spec_l71Place.f k t501 t515 t504 t505).bind fun bt521 => (some (t504, t505, bt521.1, t510, t511)))) = some (r1, r2, r3, r4, r5) := H
 have A5 := Aside0.mk A50
 clear A50
 by_cases c6 : t514 = 0
 ·rw [if_pos c6] at H
  have c6b0 : (t514 == 0) = true := beq_iff_eq.mpr c6
  have c6b1 : (t514 != 0) = false := bne_eq_false_iff_eq.mpr c6
  clear c6
  replace H := Option.bind_eq_some_iff.mp H
  obtain ⟨⟨t516, t517, t518⟩, A70, H⟩ := H
  replace H : ((spec_l71Place.f k t501 t518 t504 t505).bind fun bt519 => (some (t504, t505, bt519.1, t516, t517))) = some (r1, r2, r3, r4, r5) := H
  have A7 := Aside0.mk A70
  clear A70
  replace H := Option.bind_eq_some_iff.mp H
  obtain ⟨⟨t519, t520⟩, A80, H⟩ := H
  replace H : (some (t504, t505, t519, t516, t517)) = some (r1, r2, r3, r4, r5) := H
  have A8 := Aside0.mk A80
  clear A80
  simp only [Option.some.injEq, Prod.mk.injEq] at H
  obtain ⟨rfl, rfl, rfl, rfl, rfl⟩ := H
  go_enter Try.func25, Try.ntmps25
  try go_wp2_with (first | ((with_reducible refine gate_dst (N := 2) rfl ?_); refine box_event ?hg (N := 2) ?hd (cs := #[.int .i64 0, .slice none 0 0]) (t := 25) ?hr ?_; (case hd => rfl); (case hg => rfl); (case hr => first | (go_simp; done) | (go_simp; rfl)); intro gb499 hg w9 hbox hb; have n0_ := Aside0.mk (below_step (by repeat (first | (with_reducible first | exact HB.out | apply below_alloc | apply pw_below_drewN | apply below_drew1) | exact HB.out)) hb); have n1_ := Aside0.mk (hbox); have n2_ := Aside0.mk ((by rw [hg]; exact (below_size (by repeat (first | (with_reducible first | exact HB.out | apply below_alloc | apply pw_below_drewN | apply below_drew1) | exact HB.out))) : w.heap.size ≤ gb499)); have n3_ := Aside0.mk ((by rw [hg]; exact (below_size (by repeat (first | (with_reducible first | exact HB.out | apply below_alloc | apply pw_below_drewN | apply below_drew1) | exact HB.out))) : w.heap.size ≤ gb499)); clear HB; have HB := n0_; have BK499 := n1_; have GW499 := n2_; have GE499 := n3_; clear n0_ n1_ n2_ n3_; clear hb hbox hg) | ((with_reducible refine gate_dst (N := 4) rfl ?_); refine box_event ?hg (N := 4) ?hd (cs := #[.int .i64 0, .int .i64 0]) (t := 42) ?hr ?_; (case hd => rfl); (case hg => rfl); (case hr => first | (go_simp; done) | (go_simp; rfl)); intro gb500 hg w10 hbox hb; have n0_ := Aside0.mk (blk_below (bK BK499.out) hb); have n1_ := Aside0.mk (below_step (by repeat (first | (with_reducible first | exact HB.out | apply below_alloc | apply pw_below_drewN | apply below_drew1 | refine below_set ?_ GE499.out) | exact HB.out)) hb); have n2_ := Aside0.mk (hbox); have n3_ := Aside0.mk ((by rw [hg]; exact (below_size (by repeat (first | (with_reducible first | exact HB.out | apply below_alloc | apply pw_below_drewN | apply below_drew1 | refine below_set ?_ GE499.out) | exact HB.out))) : w.heap.size ≤ gb500)); have n4_ := Aside0.mk ((by rw [hg]; exact (below_size (by repeat (first | (with_reducible first | exact HB.out | apply below_alloc | apply pw_below_drewN | apply below_drew1 | refine below_set ?_ GE499.out) | exact HB.out))) : w.heap.size ≤ gb500)); have n5_ := Aside0.mk ((by rw [hg]; exact Nat.ne_of_lt (blk_lt (bK BK499.out)) : gb499 ≠ gb500)); have n6_ := Aside0.mk ((by rw [hg]; exact Nat.ne_of_gt (blk_lt (bK BK499.out)) : gb500 ≠ gb499)); clear BK499; clear HB; have BK499 := n0_; have HB := n1_; have BK500 := n2_; have GW500 := n3_; have GE500 := n4_; have NB499_500 := n5_; have NB500_499 := n6_; clear n0_ n1_ n2_ n3_ n4_ n5_ n6_; clear hb hbox hg) | ((with_reducible refine gate_callee (f := 31) rfl ?_); refine goesL_ (some 9) rfl rfl Try.func31 (by kernel_rfl) rfl #[.slice A0 l0.length c0] rfl (by (try simp only [List.map_toArray, List.map_cons, List.map_nil]); first | done | rfl | (simp only [List.length_drop, List.length_take]; rfl)) ?_; (with_reducible refine (spec_l6Open.calls _ _ l0 t501 t502 w _ ?side1 ?side2 ?side3 A2.out).mono ?_); (case side1 => repeat (first | (with_reducible first | exact HB.out | apply below_alloc | apply pw_below_drewN | apply below_drew1 | refine below_set ?_ GE499.out | refine below_set ?_ GE500.out) | exact HB.out)); (case side2 => exact HR0.out); (case side3 => exact HC0.out); rintro e w11 ⟨g503, rfl, hi, hb, hb2⟩; refine ⟨_, rfl, ?_⟩; have n0_ := Aside0.mk (blk_below (bK BK499.out) hb2); have n1_ := Aside0.mk (blk_below (bK BK500.out) hb2); have n2_ := Aside0.mk (hb); have n3_ := Aside0.mk (hi); have n4_ := Aside0.mk (IsS67.ne_blk hi (blk_below (bK BK499.out) hb2) (by decide)); have n5_ := Aside0.mk (Ne.symm (IsS67.ne_blk hi (blk_below (bK BK499.out) hb2) (by decide))); have n6_ := Aside0.mk (IsS67.ne_blk hi (blk_below (bK BK500.out) hb2) (by decide)); have n7_ := Aside0.mk (Ne.symm (IsS67.ne_blk hi (blk_below (bK BK500.out) hb2) (by decide))); clear BK499; clear BK500; clear HB; have BK499 := n0_; have BK500 := n1_; have HB := n2_; have HI503 := n3_; have NB503_499 := n4_; have NB499_503 := n5_; have NB503_500 := n6_; have NB500_503 := n7_; clear n0_ n1_ n2_ n3_ n4_ n5_ n6_ n7_; (try clear hb); (try clear hb2); (try clear hk); (try clear hi)) | ((with_reducible refine gate_callee (f := 30) rfl ?_); refine goesL_ (some 11) rfl rfl Try.func30 (by kernel_rfl) rfl #[.pointer (some ⟨g503, 0, none⟩)] rfl (by (try simp only [List.map_toArray, List.map_cons, List.map_nil]); first | done | rfl | (simp only [List.length_drop, List.length_take]; rfl)) ?_; (with_reducible refine (spec_l71Some.calls k g503 t501 t502 t504 t505 t508 w _ ?side1 ?side2 A3.out).mono ?_); (case side1 => repeat (first | (with_reducible first | exact HI503.out | apply IsS67.alloc | apply IsS67.drewN | apply IsS67.drew | apply IsS67.set_1 | refine IsS67.far ?_ NB503_499.out _ | refine IsS67.far ?_ NB503_500.out _) | exact HI503.out)); (case side2 => repeat (first | (with_reducible first | exact HB.out | apply below_alloc | apply pw_below_drewN | apply below_drew1 | refine below_set ?_ (IsS67.ge HI503.out) | refine below_set ?_ GE499.out | refine below_set ?_ GE500.out) | exact HB.out)); rintro e w12 ⟨v506, rfl, ho0, hi, hb, hk⟩; refine ⟨_, rfl, ?_⟩; have n0_ := Aside0.mk (KeepBut.blk hk (g' := gb499) (o := .cells #[.int .i64 0, .slice none 0 0] 25 (0, 0)) (bK BK499.out) NB499_503.out (by simp)); have n1_ := Aside0.mk (KeepBut.blk hk (g' := gb500) (o := .cells #[.int .i64 0, .int .i64 0] 42 (0, 0)) (bK BK500.out) NB500_503.out (by simp)); have n2_ := Aside0.mk (Kd.Q_lower (Kd.Q_newB ho0 (g := gb500) (o := .cells #[.int .i64 0, .int .i64 0] 42 (0, 0)) (bK BK500.out)) (below_size (by repeat (first | (with_reducible first | exact HB.out | apply below_alloc | apply pw_below_drewN | apply below_drew1 | refine below_set ?_ (IsS67.ge HI503.out) | refine below_set ?_ GE499.out | refine below_set ?_ GE500.out) | exact HB.out)))); have n3_ := Aside0.mk (hb); have n4_ := Aside0.mk (hi); clear BK499; clear BK500; clear HB; clear HI503; have BK499 := n0_; have BK500 := n1_; have HO507 := n2_; have HB := n3_; have HI503 := n4_; clear n0_ n1_ n2_ n3_ n4_; (try clear hb); (try clear hb2); (try clear hk); (try clear hi); (try clear ho0)) | ((with_reducible refine gate_dst (N := 6) rfl ?_); refine box_event ?hg (N := 6) ?hd (cs := #[.int .i64 0, .slice none 0 0]) (t := 25) ?hr ?_; (case hd => rfl); (case hg => rfl); (case hr => first | (go_simp; done) | (go_simp; rfl)); intro gb509 hg w13 hbox hb; have n0_ := Aside0.mk (Kd.Q_below (by (with_reducible repeat (first | apply Kd.Q_alloc | apply Kd.Q_drewN | apply Kd.Q_drew)); exact HO507.out) hb); have n1_ := Aside0.mk (blk_below (bK BK499.out) hb); have n2_ := Aside0.mk (blk_below (bK BK500.out) hb); have n3_ := Aside0.mk (IsS67.below (by repeat (first | (with_reducible first | exact HI503.out | apply IsS67.alloc | apply IsS67.drewN | apply IsS67.drew | apply IsS67.set_1 | refine IsS67.far ?_ NB503_499.out _ | refine IsS67.far ?_ NB503_500.out _) | exact HI503.out)) hb); have n4_ := Aside0.mk (below_step (by repeat (first | (with_reducible first | exact HB.out | apply below_alloc | apply pw_below_drewN | apply below_drew1 | refine below_set ?_ (IsS67.ge HI503.out) | refine below_set ?_ GE499.out | refine below_set ?_ GE500.out) | exact HB.out)) hb); have n5_ := Aside0.mk (hbox); have n6_ := Aside0.mk ((by rw [hg]; exact (below_size (by repeat (first | (with_reducible first | exact HB.out | apply below_alloc | apply pw_below_drewN | apply below_drew1 | refine below_set ?_ (IsS67.ge HI503.out) | refine below_set ?_ GE499.out | refine below_set ?_ GE500.out) | exact HB.out))) : w.heap.size ≤ gb509)); have n7_ := Aside0.mk ((by rw [hg]; exact (below_size (by repeat (first | (with_reducible first | exact HB.out | apply below_alloc | apply pw_below_drewN | apply below_drew1 | refine below_set ?_ (IsS67.ge HI503.out) | refine below_set ?_ GE499.out | refine below_set ?_ GE500.out) | exact HB.out))) : w.heap.size ≤ gb509)); have n8_ := Aside0.mk ((by rw [hg]; exact Nat.ne_of_lt (blk_lt (bK BK499.out)) : gb499 ≠ gb509)); have n9_ := Aside0.mk ((by rw [hg]; exact Nat.ne_of_gt (blk_lt (bK BK499.out)) : gb509 ≠ gb499)); have n10_ := Aside0.mk ((by rw [hg]; exact Nat.ne_of_lt (blk_lt (bK BK500.out)) : gb500 ≠ gb509)); have n11_ := Aside0.mk ((by rw [hg]; exact Nat.ne_of_gt (blk_lt (bK BK500.out)) : gb509 ≠ gb500)); have n12_ := Aside0.mk ((by rw [hg]; exact Nat.ne_of_lt (IsS67.lt (show IsS67 w _ g503 t501 t508 from by repeat (first | (with_reducible first | exact HI503.out | apply IsS67.alloc | apply IsS67.drewN | apply IsS67.drew | apply IsS67.set_1 | refine IsS67.far ?_ NB503_499.out _ | refine IsS67.far ?_ NB503_500.out _) | exact HI503.out))) : g503 ≠ gb509)); have n13_ := Aside0.mk ((by rw [hg]; exact Nat.ne_of_gt (IsS67.lt (show IsS67 w _ g503 t501 t508 from by repeat (first | (with_reducible first | exact HI503.out | apply IsS67.alloc | apply IsS67.drewN | apply IsS67.drew | apply IsS67.set_1 | refine IsS67.far ?_ NB503_499.out _ | refine IsS67.far ?_ NB503_500.out _) | exact HI503.out))) : gb509 ≠ g503)); clear HO507; clear BK499; clear BK500; clear HI503; clear HB; have HO507 := n0_; have BK499 := n1_; have BK500 := n2_; have HI503 := n3_; have HB := n4_; have BK509 := n5_; have GW509 := n6_; have GE509 := n7_; have NB499_509 := n8_; have NB509_499 := n9_; have NB500_509 := n10_; have NB509_500 := n11_; have NB503_509 := n12_; have NB509_503 := n13_; clear n0_ n1_ n2_ n3_ n4_ n5_ n6_ n7_ n8_ n9_ n10_ n11_ n12_ n13_; clear hb hbox hg; have hnb14 := NB509_499.out; have hnc14 := NB499_509.out; have hnb15 := NB509_500.out; have hnc15 := NB500_509.out; have hnb16 := NB509_503.out; have hnc16 := NB503_509.out; have hcz17_0 : w13.cell? ⟨gb509, 0, none⟩ = some (.int .i64 0) := (blk_cell BK509.out 0).trans rfl; have hcz17_1 : w13.cell? ⟨gb509, 1, none⟩ = some (.slice none 0 0) := (blk_cell BK509.out 1).trans rfl; have hfz17_0 := blk_frozen BK509.out 0; have hfz17_1 := blk_frozen BK509.out 1; obtain ⟨Ao18, co18, eo18, _⟩ := Kd.Q_slice HO507.out; subst eo18) | ((with_reducible refine gate_callee (f := 50) rfl ?_); refine goesL_ (some 13) rfl rfl Try.func50 (by kernel_rfl) rfl #[.pointer (some ⟨g503, 0, none⟩)] rfl (by (try simp only [List.map_toArray, List.map_cons, List.map_nil]); first | done | rfl | (simp only [List.length_drop, List.length_take]; rfl)) ?_; (with_reducible refine (spec_l71Cell.calls k g503 t501 t508 t510 t511 t512 w _ ?side1 ?side2 A4.out).mono ?_); (case side1 => repeat (first | (with_reducible first | exact HI503.out | apply IsS67.alloc | apply IsS67.drewN | apply IsS67.drew | apply IsS67.set_1 | refine IsS67.far ?_ NB503_499.out _ | refine IsS67.far ?_ NB503_500.out _ | refine IsS67.far ?_ NB503_509.out _) | exact HI503.out)); (case side2 => repeat (first | (with_reducible first | exact HB.out | apply below_alloc | apply pw_below_drewN | apply below_drew1 | refine below_set ?_ (IsS67.ge HI503.out) | refine below_set ?_ GE499.out | refine below_set ?_ GE500.out | refine below_set ?_ GE509.out) | exact HB.out)); rintro e w19 ⟨rfl, hi, hb, hk⟩; refine ⟨_, rfl, ?_⟩; have n0_ := Aside0.mk (KeepBut.blk hk (g' := gb499) (o := .cells #[.int .i64 0, .slice none 0 0] 25 (0, 0)) (by (with_reducible repeat (first | refine blk_drewN ?_ _ | refine blk_drew ?_ | refine blk_alloc ?_ _)); refine blk_far ?_ NB499_509.out _; (with_reducible repeat (first | refine blk_drewN ?_ _ | refine blk_drew ?_ | refine blk_alloc ?_ _)); refine blk_far ?_ NB499_509.out _; (with_reducible repeat (first | refine blk_drewN ?_ _ | refine blk_drew ?_ | refine blk_alloc ?_ _)); exact BK499.out) NB499_503.out (by simp)); have n1_ := Aside0.mk (KeepBut.blk hk (g' := gb500) (o := .cells #[.int .i64 0, .int .i64 0] 42 (0, 0)) (by (with_reducible repeat (first | refine blk_drewN ?_ _ | refine blk_drew ?_ | refine blk_alloc ?_ _)); refine blk_far ?_ NB500_509.out _; (with_reducible repeat (first | refine blk_drewN ?_ _ | refine blk_drew ?_ | refine blk_alloc ?_ _)); refine blk_far ?_ NB500_509.out _; (with_reducible repeat (first | refine blk_drewN ?_ _ | refine blk_drew ?_ | refine blk_alloc ?_ _)); exact BK500.out) NB500_503.out (by simp)); have n2_ := Aside0.mk (Kd.Q_mono (Kd.Q_keep (IsS67.apartQ (show IsS67 w _ g503 t501 t508 from by repeat (first | (with_reducible first | exact HI503.out | apply IsS67.alloc | apply IsS67.drewN | apply IsS67.drew | apply IsS67.set_1 | refine IsS67.far ?_ NB503_499.out _ | refine IsS67.far ?_ NB503_500.out _ | refine IsS67.far ?_ NB503_509.out _) | exact HI503.out)) (by (with_reducible repeat (first | apply Kd.Q_alloc | apply Kd.Q_drewN | apply Kd.Q_drew)); exact (Kd.Q_mono (Kd.Q_far (p := ⟨gb509, 1, none⟩) (Kd.Q_far (p := ⟨gb509, 0, none⟩) (Kd.Q_types HO507.out BK509.out (by decide)) (fun _ hk => hk.2) (.int .i64 t504)) (fun _ hk => hk.2) (.slice Ao18 t505.length co18)) (fun _ h_ => h_.1))) (by decide)) hk (fun _ h => h.2)) (fun _ h => h.1)); have n3_ := Aside0.mk (KeepBut.blk hk (g' := gb509) (o := .cells #[.int .i64 t504, .slice Ao18 t505.length co18] 25 (0, 0)) (by (with_reducible repeat (first | refine blk_drewN ?_ _ | refine blk_drew ?_ | refine blk_alloc ?_ _)); refine blk_put (cs := #[.int .i64 t504, .slice none 0 0]) ?_ 1 _ rfl; (with_reducible repeat (first | refine blk_drewN ?_ _ | refine blk_drew ?_ | refine blk_alloc ?_ _)); refine blk_put (cs := #[.int .i64 0, .slice none 0 0]) ?_ 0 _ rfl; (with_reducible repeat (first | refine blk_drewN ?_ _ | refine blk_drew ?_ | refine blk_alloc ?_ _)); exact BK509.out) NB509_503.out (by simp)); have n4_ := Aside0.mk (hb); have n5_ := Aside0.mk (hi); clear BK499; clear BK500; clear HO507; clear BK509; clear HB; clear HI503; have BK499 := n0_; have BK500 := n1_; have HO507 := n2_; have BK509 := n3_; have HB := n4_; have HI503 := n5_; clear n0_ n1_ n2_ n3_ n4_ n5_; (try clear hb); (try clear hb2); (try clear hk); (try clear hi)) | ((with_reducible refine gate_dst (N := 7) rfl ?_); refine box_event ?hg (N := 7) ?hd (cs := #[.int .i64 0, .int .i64 0]) (t := 42) ?hr ?_; (case hd => rfl); (case hg => rfl); (case hr => first | (go_simp; done) | (go_simp; rfl)); intro gb513 hg w20 hbox hb; have n0_ := Aside0.mk (Kd.Q_below (Kd.Q_elderB (by (with_reducible repeat (first | apply Kd.Q_alloc | apply Kd.Q_drewN | apply Kd.Q_drew)); exact HO507.out) gb513 (Nat.le_of_eq hg.symm)) hb); have n1_ := Aside0.mk (blk_below (bK BK499.out) hb); have n2_ := Aside0.mk (blk_below (bK BK500.out) hb); have n3_ := Aside0.mk (IsS67.below (by repeat (first | (with_reducible first | exact HI503.out | apply IsS67.alloc | apply IsS67.drewN | apply IsS67.drew | apply IsS67.set_1 | refine IsS67.far ?_ NB503_499.out _ | refine IsS67.far ?_ NB503_500.out _ | refine IsS67.far ?_ NB503_509.out _) | exact HI503.out)) hb); have n4_ := Aside0.mk (blk_below (bK BK509.out) hb); have n5_ := Aside0.mk (below_step (by repeat (first | (with_reducible first | exact HB.out | apply below_alloc | apply pw_below_drewN | apply below_drew1 | refine below_set ?_ (IsS67.ge HI503.out) | refine below_set ?_ GE499.out | refine below_set ?_ GE500.out | refine below_set ?_ GE509.out) | exact HB.out)) hb); have n6_ := Aside0.mk (hbox); have n7_ := Aside0.mk ((by rw [hg]; exact (below_size (by repeat (first | (with_reducible first | exact HB.out | apply below_alloc | apply pw_below_drewN | apply below_drew1 | refine below_set ?_ (IsS67.ge HI503.out) | refine below_set ?_ GE499.out | refine below_set ?_ GE500.out | refine below_set ?_ GE509.out) | exact HB.out))) : w.heap.size ≤ gb513)); have n8_ := Aside0.mk ((by rw [hg]; exact (below_size (by repeat (first | (with_reducible first | exact HB.out | apply below_alloc | apply pw_below_drewN | apply below_drew1 | refine below_set ?_ (IsS67.ge HI503.out) | refine below_set ?_ GE499.out | refine below_set ?_ GE500.out | refine below_set ?_ GE509.out) | exact HB.out))) : w.heap.size ≤ gb513)); have n9_ := Aside0.mk ((by rw [hg]; exact Nat.ne_of_lt (blk_lt (bK BK499.out)) : gb499 ≠ gb513)); have n10_ := Aside0.mk ((by rw [hg]; exact Nat.ne_of_gt (blk_lt (bK BK499.out)) : gb513 ≠ gb499)); have n11_ := Aside0.mk ((by rw [hg]; exact Nat.ne_of_lt (blk_lt (bK BK500.out)) : gb500 ≠ gb513)); have n12_ := Aside0.mk ((by rw [hg]; exact Nat.ne_of_gt (blk_lt (bK BK500.out)) : gb513 ≠ gb500)); have n13_ := Aside0.mk ((by rw [hg]; exact Nat.ne_of_lt (blk_lt (bK BK509.out)) : gb509 ≠ gb513)); have n14_ := Aside0.mk ((by rw [hg]; exact Nat.ne_of_gt (blk_lt (bK BK509.out)) : gb513 ≠ gb509)); have n15_ := Aside0.mk ((by rw [hg]; exact Nat.ne_of_lt (IsS67.lt (show IsS67 w _ g503 t501 t512 from by repeat (first | (with_reducible first | exact HI503.out | apply IsS67.alloc | apply IsS67.drewN | apply IsS67.drew | apply IsS67.set_1 | refine IsS67.far ?_ NB503_499.out _ | refine IsS67.far ?_ NB503_500.out _ | refine IsS67.far ?_ NB503_509.out _) | exact HI503.out))) : g503 ≠ gb513)); have n16_ := Aside0.mk ((by rw [hg]; exact Nat.ne_of_gt (IsS67.lt (show IsS67 w _ g503 t501 t512 from by repeat (first | (with_reducible first | exact HI503.out | apply IsS67.alloc | apply IsS67.drewN | apply IsS67.drew | apply IsS67.set_1 | refine IsS67.far ?_ NB503_499.out _ | refine IsS67.far ?_ NB503_500.out _ | refine IsS67.far ?_ NB503_509.out _) | exact HI503.out))) : gb513 ≠ g503)); clear HO507; clear BK499; clear BK500; clear HI503; clear BK509; clear HB; have HO507 := n0_; have BK499 := n1_; have BK500 := n2_; have HI503 := n3_; have BK509 := n4_; have HB := n5_; have BK513 := n6_; have GW513 := n7_; have GE513 := n8_; have NB499_513 := n9_; have NB513_499 := n10_; have NB500_513 := n11_; have NB513_500 := n12_; have NB509_513 := n13_; have NB513_509 := n14_; have NB503_513 := n15_; have NB513_503 := n16_; clear n0_ n1_ n2_ n3_ n4_ n5_ n6_ n7_ n8_ n9_ n10_ n11_ n12_ n13_ n14_ n15_ n16_; clear hb hbox hg; have hnb21 := NB513_499.out; have hnc21 := NB499_513.out; have hnb22 := NB513_500.out; have hnc22 := NB500_513.out; have hnb23 := NB513_509.out; have hnc23 := NB509_513.out; have hnb24 := NB513_503.out; have hnc24 := NB503_513.out; have hcz25_0 : w20.cell? ⟨gb513, 0, none⟩ = some (.int .i64 0) := (blk_cell BK513.out 0).trans rfl; have hcz25_1 : w20.cell? ⟨gb513, 1, none⟩ = some (.int .i64 0) := (blk_cell BK513.out 1).trans rfl; have hfz25_0 := blk_frozen BK513.out 0; have hfz25_1 := blk_frozen BK513.out 1) | ((with_reducible refine gate_callee (f := 37) rfl ?_); refine goesL_ (some 15) rfl rfl Try.func37 (by kernel_rfl) rfl #[.pointer (some ⟨g503, 0, none⟩), .int .i64 16] rfl (by (try simp only [List.map_toArray, List.map_cons, List.map_nil]); first | done | rfl | (simp only [List.length_drop, List.length_take]; rfl)) ?_; (with_reducible refine (spec_l6Rd_pick.calls k g503 t501 t512 16 t514 t515 w _ ?side1 ?side2 A5.out).mono ?_); (case side1 => repeat (first | (with_reducible first | exact HI503.out | apply IsS67.alloc | apply IsS67.drewN | apply IsS67.drew | apply IsS67.set_1 | refine IsS67.far ?_ NB503_499.out _ | refine IsS67.far ?_ NB503_500.out _ | refine IsS67.far ?_ NB503_509.out _ | refine IsS67.far ?_ NB503_513.out _) | exact HI503.out)); (case side2 => repeat (first | (with_reducible first | exact HB.out | apply below_alloc | apply pw_below_drewN | apply below_drew1 | refine below_set ?_ (IsS67.ge HI503.out) | refine below_set ?_ GE499.out | refine below_set ?_ GE500.out | refine below_set ?_ GE509.out | refine below_set ?_ GE513.out) | exact HB.out)); rintro e w26 ⟨rfl, hi, hb, hk⟩; refine ⟨_, rfl, ?_⟩; have n0_ := Aside0.mk (KeepBut.blk hk (g' := gb499) (o := .cells #[.int .i64 0, .slice none 0 0] 25 (0, 0)) (by (with_reducible repeat (first | refine blk_drewN ?_ _ | refine blk_drew ?_ | refine blk_alloc ?_ _)); refine blk_far ?_ NB499_513.out _; (with_reducible repeat (first | refine blk_drewN ?_ _ | refine blk_drew ?_ | refine blk_alloc ?_ _)); refine blk_far ?_ NB499_513.out _; (with_reducible repeat (first | refine blk_drewN ?_ _ | refine blk_drew ?_ | refine blk_alloc ?_ _)); exact BK499.out) NB499_503.out (by simp)); have n1_ := Aside0.mk (KeepBut.blk hk (g' := gb500) (o := .cells #[.int .i64 0, .int .i64 0] 42 (0, 0)) (by (with_reducible repeat (first | refine blk_drewN ?_ _ | refine blk_drew ?_ | refine blk_alloc ?_ _)); refine blk_far ?_ NB500_513.out _; (with_reducible repeat (first | refine blk_drewN ?_ _ | refine blk_drew ?_ | refine blk_alloc ?_ _)); refine blk_far ?_ NB500_513.out _; (with_reducible repeat (first | refine blk_drewN ?_ _ | refine blk_drew ?_ | refine blk_alloc ?_ _)); exact BK500.out) NB500_503.out (by simp)); have n2_ := Aside0.mk (Kd.Q_mono (Kd.Q_keep (IsS67.apartQ (show IsS67 w _ g503 t501 t512 from by repeat (first | (with_reducible first | exact HI503.out | apply IsS67.alloc | apply IsS67.drewN | apply IsS67.drew | apply IsS67.set_1 | refine IsS67.far ?_ NB503_499.out _ | refine IsS67.far ?_ NB503_500.out _ | refine IsS67.far ?_ NB503_509.out _ | refine IsS67.far ?_ NB503_513.out _) | exact HI503.out)) (by (with_reducible repeat (first | apply Kd.Q_alloc | apply Kd.Q_drewN | apply Kd.Q_drew)); exact (Kd.Q_mono (Kd.Q_far (p := ⟨gb513, 1, none⟩) (Kd.Q_far (p := ⟨gb513, 0, none⟩) (Kd.Q_mono HO507.out (fun k_ hk => (⟨hk, hk.2⟩ : _ ∧ k_ ≠ gb513))) (fun _ hk => hk.2) (.int .i64 t510)) (fun _ hk => hk.2) (.int .i64 t511)) (fun _ h_ => h_.1))) (by decide)) hk (fun _ h => h.2)) (fun _ h => h.1)); have n3_ := Aside0.mk (KeepBut.blk hk (g' := gb509) (o := .cells #[.int .i64 t504, .slice Ao18 t505.length co18] 25 (0, 0)) (by (with_reducible repeat (first | refine blk_drewN ?_ _ | refine blk_drew ?_ | refine blk_alloc ?_ _)); refine blk_far ?_ NB509_513.out _; (with_reducible repeat (first | refine blk_drewN ?_ _ | refine blk_drew ?_ | refine blk_alloc ?_ _)); refine blk_far ?_ NB509_513.out _; (with_reducible repeat (first | refine blk_drewN ?_ _ | refine blk_drew ?_ | refine blk_alloc ?_ _)); exact BK509.out) NB509_503.out (by simp)); have n4_ := Aside0.mk (KeepBut.blk hk (g' := gb513) (o := .cells #[.int .i64 t510, .int .i64 t511] 42 (0, 0)) (by (with_reducible repeat (first | refine blk_drewN ?_ _ | refine blk_drew ?_ | refine blk_alloc ?_ _)); refine blk_put (cs := #[.int .i64 t510, .int .i64 0]) ?_ 1 _ rfl; (with_reducible repeat (first | refine blk_drewN ?_ _ | refine blk_drew ?_ | refine blk_alloc ?_ _)); refine blk_put (cs := #[.int .i64 0, .int .i64 0]) ?_ 0 _ rfl; (with_reducible repeat (first | refine blk_drewN ?_ _ | refine blk_drew ?_ | refine blk_alloc ?_ _)); exact BK513.out) NB513_503.out (by simp)); have n5_ := Aside0.mk (hb); have n6_ := Aside0.mk (hi); clear BK499; clear BK500; clear HO507; clear BK509; clear BK513; clear HB; clear HI503; have BK499 := n0_; have BK500 := n1_; have HO507 := n2_; have BK509 := n3_; have BK513 := n4_; have HB := n5_; have HI503 := n6_; clear n0_ n1_ n2_ n3_ n4_ n5_ n6_; (try clear hb); (try clear hb2); (try clear hk); (try clear hi)) | ((with_reducible refine gate_callee (f := 51) rfl ?_); refine goesL_ (some 18) rfl rfl Try.func51 (by kernel_rfl) rfl #[.pointer (some ⟨g503, 0, none⟩)] rfl (by (try simp only [List.map_toArray, List.map_cons, List.map_nil]); first | done | rfl | (simp only [List.length_drop, List.length_take]; rfl)) ?_; (with_reducible refine (spec_l71Off.calls k g503 t501 t515 t516 t517 t518 w _ ?side1 ?side2 A7.out).mono ?_); (case side1 => repeat (first | (with_reducible first | exact HI503.out | apply IsS67.alloc | apply IsS67.drewN | apply IsS67.drew | apply IsS67.set_1 | refine IsS67.far ?_ NB503_499.out _ | refine IsS67.far ?_ NB503_500.out _ | refine IsS67.far ?_ NB503_509.out _ | refine IsS67.far ?_ NB503_513.out _) | exact HI503.out)); (case side2 => repeat (first | (with_reducible first | exact HB.out | apply below_alloc | apply pw_below_drewN | apply below_drew1 | refine below_set ?_ (IsS67.ge HI503.out) | refine below_set ?_ GE499.out | refine below_set ?_ GE500.out | refine below_set ?_ GE509.out | refine below_set ?_ GE513.out) | exact HB.out)); rintro e w27 ⟨rfl, hi, hb, hk⟩; refine ⟨_, rfl, ?_⟩; have n0_ := Aside0.mk (KeepBut.blk hk (g' := gb499) (o := .cells #[.int .i64 0, .slice none 0 0] 25 (0, 0)) (bK BK499.out) NB499_503.out (by simp)); have n1_ := Aside0.mk (KeepBut.blk hk (g' := gb500) (o := .cells #[.int .i64 0, .int .i64 0] 42 (0, 0)) (bK BK500.out) NB500_503.out (by simp)); have n2_ := Aside0.mk (Kd.Q_mono (Kd.Q_keep (IsS67.apartQ (show IsS67 w _ g503 t501 t515 from by repeat (first | (with_reducible first | exact HI503.out | apply IsS67.alloc | apply IsS67.drewN | apply IsS67.drew | apply IsS67.set_1 | refine IsS67.far ?_ NB503_499.out _ | refine IsS67.far ?_ NB503_500.out _ | refine IsS67.far ?_ NB503_509.out _ | refine IsS67.far ?_ NB503_513.out _) | exact HI503.out)) (by (with_reducible repeat (first | apply Kd.Q_alloc | apply Kd.Q_drewN | apply Kd.Q_drew)); exact HO507.out) (by decide)) hk (fun _ h => h.2)) (fun _ h => h.1)); have n3_ := Aside0.mk (KeepBut.blk hk (g' := gb509) (o := .cells #[.int .i64 t504, .slice Ao18 t505.length co18] 25 (0, 0)) (bK BK509.out) NB509_503.out (by simp)); have n4_ := Aside0.mk (KeepBut.blk hk (g' := gb513) (o := .cells #[.int .i64 t510, .int .i64 t511] 42 (0, 0)) (bK BK513.out) NB513_503.out (by simp)); have n5_ := Aside0.mk (hb); have n6_ := Aside0.mk (hi); clear BK499; clear BK500; clear HO507; clear BK509; clear BK513; clear HB; clear HI503; have BK499 := n0_; have BK500 := n1_; have HO507 := n2_; have BK509 := n3_; have BK513 := n4_; have HB := n5_; have HI503 := n6_; clear n0_ n1_ n2_ n3_ n4_ n5_ n6_; (try clear hb); (try clear hb2); (try clear hk); (try clear hi); have hcz28_0 : w27.cell? ⟨gb513, 0, none⟩ = some (.int .i64 t510) := (blk_cell BK513.out 0).trans rfl; have hcz28_1 : w27.cell? ⟨gb513, 1, none⟩ = some (.int .i64 t511) := (blk_cell BK513.out 1).trans rfl; have hfz28_0 := blk_frozen BK513.out 0; have hfz28_1 := blk_frozen BK513.out 1))
  have n0_ : Aside0 (Kd.Q k42 42 ((w27.setCell ⟨gb513, 0, none⟩ (.int .i64 t516)).setCell ⟨gb513, 1, none⟩ (.int .i64 t517)) w.heap.size (fun k_ => k_ ≠ gb500 ∧ k_ ≠ gb513) (.slice Ao18 t505.length co18) t505) := ⟨by (with_reducible repeat (first | apply Kd.Q_alloc | apply Kd.Q_drewN | apply Kd.Q_drew)); exact Kd.Q_mono (Kd.Q_far (p := ⟨gb513, 1, none⟩) (Kd.Q_far (p := ⟨gb513, 0, none⟩) (Kd.Q_mono HO507.out (fun k_ hk => (⟨hk, hk.2⟩ : _ ∧ k_ ≠ gb513))) (fun _ hk => hk.2) (.int .i64 t516)) (fun _ hk => hk.2) (.int .i64 t517)) (fun _ hk => ⟨hk.1.1.2, hk.1.2⟩)⟩
  have n1_ : Aside0 (((w27.setCell ⟨gb513, 0, none⟩ (.int .i64 t516)).setCell ⟨gb513, 1, none⟩ (.int .i64 t517)).heap[gb499]? = some (.cells #[.int .i64 0, .slice none 0 0] 25 (0, 0))) := ⟨by (with_reducible repeat (first | refine blk_drewN ?_ _ | refine blk_drew ?_ | refine blk_alloc ?_ _)); refine blk_far ?_ NB499_513.out _; (with_reducible repeat (first | refine blk_drewN ?_ _ | refine blk_drew ?_ | refine blk_alloc ?_ _)); refine blk_far ?_ NB499_513.out _; (with_reducible repeat (first | refine blk_drewN ?_ _ | refine blk_drew ?_ | refine blk_alloc ?_ _)); exact BK499.out⟩
  have n2_ : Aside0 (((w27.setCell ⟨gb513, 0, none⟩ (.int .i64 t516)).setCell ⟨gb513, 1, none⟩ (.int .i64 t517)).heap[gb500]? = some (.cells #[.int .i64 0, .int .i64 0] 42 (0, 0))) := ⟨by (with_reducible repeat (first | refine blk_drewN ?_ _ | refine blk_drew ?_ | refine blk_alloc ?_ _)); refine blk_far ?_ NB500_513.out _; (with_reducible repeat (first | refine blk_drewN ?_ _ | refine blk_drew ?_ | refine blk_alloc ?_ _)); refine blk_far ?_ NB500_513.out _; (with_reducible repeat (first | refine blk_drewN ?_ _ | refine blk_drew ?_ | refine blk_alloc ?_ _)); exact BK500.out⟩
  have n3_ : Aside0 (((w27.setCell ⟨gb513, 0, none⟩ (.int .i64 t516)).setCell ⟨gb513, 1, none⟩ (.int .i64 t517)).heap[gb509]? = some (.cells #[.int .i64 t504, .slice Ao18 t505.length co18] 25 (0, 0))) := ⟨by (with_reducible repeat (first | refine blk_drewN ?_ _ | refine blk_drew ?_ | refine blk_alloc ?_ _)); refine blk_far ?_ NB509_513.out _; (with_reducible repeat (first | refine blk_drewN ?_ _ | refine blk_drew ?_ | refine blk_alloc ?_ _)); refine blk_far ?_ NB509_513.out _; (with_reducible repeat (first | refine blk_drewN ?_ _ | refine blk_drew ?_ | refine blk_alloc ?_ _)); exact BK509.out⟩
  have n4_ : Aside0 (((w27.setCell ⟨gb513, 0, none⟩ (.int .i64 t516)).setCell ⟨gb513, 1, none⟩ (.int .i64 t517)).heap[gb513]? = some (.cells #[.int .i64 t516, .int .i64 t517] 42 (0, 0))) := ⟨by (with_reducible repeat (first | refine blk_drewN ?_ _ | refine blk_drew ?_ | refine blk_alloc ?_ _)); refine blk_put (cs := #[.int .i64 t516, .int .i64 t511]) ?_ 1 _ rfl; (with_reducible repeat (first | refine blk_drewN ?_ _ | refine blk_drew ?_ | refine blk_alloc ?_ _)); refine blk_put (cs := #[.int .i64 t510, .int .i64 t511]) ?_ 0 _ rfl; (with_reducible repeat (first | refine blk_drewN ?_ _ | refine blk_drew ?_ | refine blk_alloc ?_ _)); exact BK513.out⟩
  have n5_ : Aside0 (IsS67 w ((w27.setCell ⟨gb513, 0, none⟩ (.int .i64 t516)).setCell ⟨gb513, 1, none⟩ (.int .i64 t517)) g503 t501 t518) := ⟨by repeat (first | (with_reducible first | exact HI503.out | apply IsS67.alloc | apply IsS67.drewN | apply IsS67.drew | apply IsS67.set_1 | refine IsS67.far ?_ NB503_499.out _ | refine IsS67.far ?_ NB503_500.out _ | refine IsS67.far ?_ NB503_509.out _ | refine IsS67.far ?_ NB503_513.out _) | exact HI503.out)⟩
  have n6_ : Aside0 (Below w.heap.size w ((w27.setCell ⟨gb513, 0, none⟩ (.int .i64 t516)).setCell ⟨gb513, 1, none⟩ (.int .i64 t517))) := ⟨by repeat (first | (with_reducible first | exact HB.out | apply below_alloc | apply pw_below_drewN | apply below_drew1 | refine below_set ?_ (IsS67.ge HI503.out) | refine below_set ?_ GE499.out | refine below_set ?_ GE500.out | refine below_set ?_ GE509.out | refine below_set ?_ GE513.out) | exact HB.out)⟩
  (try clear HO507)
  (try clear BK499)
  (try clear BK500)
  (try clear BK509)
  (try clear BK513)
  (try clear HI503)
  (try clear HB)
  generalize ((w27.setCell ⟨gb513, 0, none⟩ (.int .i64 t516)).setCell ⟨gb513, 1, none⟩ (.int .i64 t517)) = w29 at n0_ n1_ n2_ n3_ n4_ n5_ n6_ ⊢
  have HO507 := n0_
  have BK499 := n1_
  have BK500 := n2_
  have BK509 := n3_
  have BK513 := n4_
  have HI503 := n5_
  have HB := n6_
  clear n0_ n1_ n2_ n3_ n4_ n5_ n6_
  have n0_ := Aside0.mk (Kd.Q_drew HO507.out)
  have n1_ := Aside0.mk (blk_drew BK499.out)
  have n2_ := Aside0.mk (blk_drew BK500.out)
  have n3_ := Aside0.mk (blk_drew BK509.out)
  have n4_ := Aside0.mk (blk_drew BK513.out)
  have n5_ := Aside0.mk (IsS67.drew HI503.out)
  have n6_ := Aside0.mk (below_drew1 HB.out)
  clear HO507
  clear BK499
  clear BK500
  clear BK509
  clear BK513
  clear HI503
  clear HB
  have HO507 := n0_
  have BK499 := n1_
  have BK500 := n2_
  have BK509 := n3_
  have BK513 := n4_
  have HI503 := n5_
  have HB := n6_
  clear n0_ n1_ n2_ n3_ n4_ n5_ n6_
  refine start_ (n := 8) (S := fun w' => w'.cell? ⟨gb509, 0, none⟩ = some (.int .i64 t504) ∧ w'.cell? ⟨gb509, 1, none⟩ = some (.slice Ao18 t505.length co18) ∧ w'.cell? ⟨gb513, 0, none⟩ = some (.int .i64 t516) ∧ w'.cell? ⟨gb513, 1, none⟩ = some (.int .i64 t517)) (ds := []) #[false, false, false, false, false, false, false, false] (by kernel_rfl) rfl rfl ⟨(blk_cell BK509.out 0).trans rfl, (blk_cell BK509.out 1).trans rfl, (blk_cell BK513.out 0).trans rfl, (blk_cell BK513.out 1).trans rfl⟩ (fun hHeld => ?_); refine with_tabW spec_DrawGridPut.tab6 spec_DrawGridPut.bits6 (fun HT_ HW_ => ?_)
  generalize w29.drew = w30 at HO507 BK499 BK500 BK509 BK513 HI503 HB hHeld ⊢
  refine pure_ (i := 1) (N := some 20) (v := ?_) (a' := ?_) #[false, true, false, false, false, false, false, false] rfl rfl (any_of HT_.out (by kernel_rfl)) (fun _ _ _ h => h) (Or.inl ⟨by rfl, ?_⟩) ?_ ?_
  rotate_left
  ·intro w'
   go_simp
   with_reducible rfl
  rotate_left
  ·simp only [Act.put, List.setIfInBounds_toArray, List.set_cons_zero, List.set_cons_succ, i64_w, i32_w]
   rfl
  refine take_ (i := 0) (N := some 19) (v := ?_) (a' := ?_) #[true, true, false, false, false, false, false, false] rfl rfl (take_ofW HT_.out HW_.out (by kernel_rfl)) (fun _ _ _ h => h) (Or.inl ⟨by rfl, ?_⟩) hHeld ?_ ?_
  rotate_left
  ·rintro w' ⟨s0, s1, s2, s3⟩
   go_simp
   with_reducible rfl
  rotate_left
  ·simp only [Act.put, List.setIfInBounds_toArray, List.set_cons_zero, List.set_cons_succ, i64_w, i32_w]
   rfl
  refine take_ (i := 2) (N := some 21) (v := ?_) (a' := ?_) #[true, true, true, false, false, false, false, false] rfl rfl (take_ofW HT_.out HW_.out (by kernel_rfl)) (fun _ _ _ h => h) (Or.inl ⟨by rfl, ?_⟩) hHeld ?_ ?_
  rotate_left
  ·rintro w' ⟨s0, s1, s2, s3⟩
   go_simp
   with_reducible rfl
  rotate_left
  ·simp only [Act.put, List.setIfInBounds_toArray, List.set_cons_zero, List.set_cons_succ, i64_w, i32_w]
   rfl
  refine take_ (i := 4) (N := some 23) (v := ?_) (a' := ?_) #[true, true, true, false, true, false, false, false] rfl rfl (take_ofW HT_.out HW_.out (by kernel_rfl)) (fun _ _ _ h => h) (Or.inl ⟨by rfl, ?_⟩) hHeld ?_ ?_
  rotate_left
  ·rintro w' ⟨s0, s1, s2, s3⟩
   go_simp
   with_reducible rfl
  rotate_left
  ·simp only [Act.put, List.setIfInBounds_toArray, List.set_cons_zero, List.set_cons_succ, i64_w, i32_w]
   rfl
  refine one_ (i := 3) (N := some 22) #[true, true, true, true, true, false, false, false] rfl rfl (one_of HT_.out (by kernel_rfl)) (by decide) (fun K hK => ?_)
  refine goes_ Try.func36 (by kernel_rfl) rfl #[.pointer (some ⟨g503, 0, none⟩), .agg #[.int .i64 t504, .slice Ao18 t505.length co18]] (by rfl) rfl rfl (by (try simp only [List.map_toArray, List.map_cons, List.map_nil]); first | done | rfl | (simp only [List.length_drop, List.length_take]; rfl)) ?_
  with_reducible refine (spec_l71Place.calls k g503 t501 t518 t504 _ _ t505 t519 t520 w _ ?side1 ?side2 ?side3 ?side4 A8.out).mono ?_
  (case side1 => repeat (first | (with_reducible first | exact HI503.out | apply IsS67.alloc | apply IsS67.drewN | apply IsS67.drew | apply IsS67.set_1 | refine IsS67.far ?_ NB503_499.out _ | refine IsS67.far ?_ NB503_500.out _ | refine IsS67.far ?_ NB503_509.out _ | refine IsS67.far ?_ NB503_513.out _) | exact HI503.out))
  (case side2 => repeat (first | (with_reducible first | exact HB.out | apply below_alloc | apply pw_below_drewN | apply below_drew1 | refine below_set ?_ (IsS67.ge HI503.out) | refine below_set ?_ GE499.out | refine below_set ?_ GE500.out | refine below_set ?_ GE509.out | refine below_set ?_ GE513.out) | exact HB.out))
  (case side3 => exact Kd.C_foot_ownQ (IsS67.apartQ (show IsS67 w _ g503 t501 t518 from by repeat (first | (with_reducible first | exact HI503.out | apply IsS67.alloc | apply IsS67.drewN | apply IsS67.drew | apply IsS67.set_1 | refine IsS67.far ?_ NB503_499.out _ | refine IsS67.far ?_ NB503_500.out _ | refine IsS67.far ?_ NB503_509.out _ | refine IsS67.far ?_ NB503_513.out _) | exact HI503.out)) (by (with_reducible repeat (first | apply Kd.Q_alloc | apply Kd.Q_drewN | apply Kd.Q_drew)); exact HO507.out) (by decide)) (fun _ h_ => h_.2))
  (case side4 => exact (Kd.Q_reads' HO507.out).2.1)
  rintro e w31 ⟨rfl, hi, hb, hk⟩
  refine ⟨_, rfl, ?_⟩
  have n0_ := Aside0.mk (KeepBut.blk hk (g' := gb499) (o := .cells #[.int .i64 0, .slice none 0 0] 25 (0, 0)) (bK BK499.out) NB499_503.out (by simp))
  have n1_ := Aside0.mk (KeepBut.blk hk (g' := gb500) (o := .cells #[.int .i64 0, .int .i64 0] 42 (0, 0)) (bK BK500.out) NB500_503.out (by simp))
  have n2_ := Aside0.mk (Kd.Q_mono (Kd.Q_keep (IsS67.apartQ (show IsS67 w _ g503 t501 t518 from by repeat (first | (with_reducible first | exact HI503.out | apply IsS67.alloc | apply IsS67.drewN | apply IsS67.drew | apply IsS67.set_1 | refine IsS67.far ?_ NB503_499.out _ | refine IsS67.far ?_ NB503_500.out _ | refine IsS67.far ?_ NB503_509.out _ | refine IsS67.far ?_ NB503_513.out _) | exact HI503.out)) (by (with_reducible repeat (first | apply Kd.Q_alloc | apply Kd.Q_drewN | apply Kd.Q_drew)); exact HO507.out) (by decide)) hk (fun _ h => h.2)) (fun _ h => h.1))
  have n3_ := Aside0.mk (KeepBut.blk hk (g' := gb509) (o := .cells #[.int .i64 t504, .slice Ao18 t505.length co18] 25 (0, 0)) (bK BK509.out) NB509_503.out (by simp))
  have n4_ := Aside0.mk (KeepBut.blk hk (g' := gb513) (o := .cells #[.int .i64 t516, .int .i64 t517] 42 (0, 0)) (bK BK513.out) NB513_503.out (by simp))
  have n5_ := Aside0.mk (hb)
  have n6_ := Aside0.mk (hi)
  clear BK499
  clear BK500
  clear HO507
  clear BK509
  clear BK513
  clear HB
  clear HI503
  have BK499 := n0_
  have BK500 := n1_
  have HO507 := n2_
  have BK509 := n3_
  have BK513 := n4_
  have HB := n5_
  have HI503 := n6_
  clear n0_ n1_ n2_ n3_ n4_ n5_ n6_
  (try clear hb)
  (try clear hb2)
  (try clear hk)
  (try clear hi)
  refine hK.out _ _ ⟨(blk_cell BK509.out 0).trans rfl, (blk_cell BK509.out 1).trans rfl, (blk_cell BK513.out 0).trans rfl, (blk_cell BK513.out 1).trans rfl⟩ (fun hHeld => ?_)
  clear hK K
  refine norm_ (a' := ?_) ?_ ?_
  rotate_left
  ·show Act.put _ (some 22) _ = _
   simp only [Act.put, List.setIfInBounds_toArray, List.set_cons_zero, List.set_cons_succ, i64_w, i32_w]
   rfl
  refine one_ (i := 5) (N := none) #[true, true, true, true, true, true, false, false] rfl rfl (one_of HT_.out (by kernel_rfl)) (by decide) (fun K hK => ?_)
  have hs32 : w31.cell? ⟨gb499, 0, none⟩ = some (.int .i64 0) := (blk_cell BK499.out 0).trans rfl
  have hfs32 := blk_frozen BK499.out 0
  have hns32_1 := NB500_499.out
  have hns32_2 := NB509_499.out
  have hns32_3 := NB513_499.out
  have hms32_1 := NB499_500.out
  have hms32_2 := NB499_509.out
  have hms32_3 := NB499_513.out
  have hs33 : w31.cell? ⟨gb499, 1, none⟩ = some (.slice none 0 0) := (blk_cell BK499.out 1).trans rfl
  have hfs33 := blk_frozen BK499.out 1
  have hns33_1 := NB500_499.out
  have hns33_2 := NB509_499.out
  have hns33_3 := NB513_499.out
  have hms33_1 := NB499_500.out
  have hms33_2 := NB499_509.out
  have hms33_3 := NB499_513.out
  refine skip_ (w1 := ?_) (by rfl) rfl ?_ ?_
  rotate_left
  ·go_simp
   rfl
  refine hK.out _ _ ⟨((cell_far (p := ⟨gb499, _, none⟩) NB509_499.out _).trans (((cell_far (p := ⟨gb499, _, none⟩) NB509_499.out _).trans (hHeld.1)))), ((cell_far (p := ⟨gb499, _, none⟩) NB509_499.out _).trans (((cell_far (p := ⟨gb499, _, none⟩) NB509_499.out _).trans (hHeld.2.1)))), ((cell_far (p := ⟨gb499, _, none⟩) NB513_499.out _).trans (((cell_far (p := ⟨gb499, _, none⟩) NB513_499.out _).trans (hHeld.2.2.1)))), ((cell_far (p := ⟨gb499, _, none⟩) NB513_499.out _).trans (((cell_far (p := ⟨gb499, _, none⟩) NB513_499.out _).trans (hHeld.2.2.2))))⟩ (fun hHeld => ?_)
  clear hK K
  refine pure_ (i := 6) (N := some 3) (v := ?_) (a' := ?_) #[true, true, true, true, true, true, true, false] rfl rfl (any_of HT_.out (by kernel_rfl)) (fun _ _ _ h => h) (Or.inl ⟨by rfl, ?_⟩) ?_ ?_
  rotate_left
  ·intro w'
   go_simp
   with_reducible rfl
  rotate_left
  ·simp only [Act.put, List.setIfInBounds_toArray, List.set_cons_zero, List.set_cons_succ, i64_w, i32_w]
   rfl
  refine one_ (i := 7) (N := none) #[true, true, true, true, true, true, true, true] rfl rfl (one_of HT_.out (by kernel_rfl)) (by decide) (fun K hK => ?_)
  have hs34 : w31.cell? ⟨gb500, 0, none⟩ = some (.int .i64 0) := (blk_cell BK500.out 0).trans rfl
  have hfs34 := blk_frozen BK500.out 0
  have hns34_0 := NB499_500.out
  have hns34_2 := NB509_500.out
  have hns34_3 := NB513_500.out
  have hms34_0 := NB500_499.out
  have hms34_2 := NB500_509.out
  have hms34_3 := NB500_513.out
  have hs35 : w31.cell? ⟨gb500, 1, none⟩ = some (.int .i64 0) := (blk_cell BK500.out 1).trans rfl
  have hfs35 := blk_frozen BK500.out 1
  have hns35_0 := NB499_500.out
  have hns35_2 := NB509_500.out
  have hns35_3 := NB513_500.out
  have hms35_0 := NB500_499.out
  have hms35_2 := NB500_509.out
  have hms35_3 := NB500_513.out
  refine skip_ (w1 := ?_) (by rfl) rfl ?_ ?_
  rotate_left
  ·go_simp
   rfl
  refine hK.out _ _ ⟨((cell_far (p := ⟨gb500, _, none⟩) NB509_500.out _).trans (((cell_far (p := ⟨gb500, _, none⟩) NB509_500.out _).trans (hHeld.1)))), ((cell_far (p := ⟨gb500, _, none⟩) NB509_500.out _).trans (((cell_far (p := ⟨gb500, _, none⟩) NB509_500.out _).trans (hHeld.2.1)))), ((cell_far (p := ⟨gb500, _, none⟩) NB513_500.out _).trans (((cell_far (p := ⟨gb500, _, none⟩) NB513_500.out _).trans (hHeld.2.2.1)))), ((cell_far (p := ⟨gb500, _, none⟩) NB513_500.out _).trans (((cell_far (p := ⟨gb500, _, none⟩) NB513_500.out _).trans (hHeld.2.2.2))))⟩ (fun hHeld => ?_)
  clear hK K
  refine done_ (done_of HT_.out (by kernel_rfl)) ?_
  try go_wp2
  refine bodyPost_ret (results_list (rs := [.cell 2 25, .tmp 3, .cell 4 42]) rfl (by simp) (.cell gb499 25 #[.int .i64 t504, .slice Ao18 t505.length co18] (0, 0) _ rfl (by (with_reducible repeat (first | refine blk_drewN ?_ _ | refine blk_drew ?_ | refine blk_alloc ?_ _)); refine blk_far ?_ NB499_500.out _; (with_reducible repeat (first | refine blk_drewN ?_ _ | refine blk_drew ?_ | refine blk_alloc ?_ _)); refine blk_far ?_ NB499_500.out _; (with_reducible repeat (first | refine blk_drewN ?_ _ | refine blk_drew ?_ | refine blk_alloc ?_ _)); refine blk_put (cs := #[.int .i64 t504, .slice none 0 0]) ?_ 1 _ rfl; (with_reducible repeat (first | refine blk_drewN ?_ _ | refine blk_drew ?_ | refine blk_alloc ?_ _)); refine blk_put (cs := #[.int .i64 0, .slice none 0 0]) ?_ 0 _ rfl; (with_reducible repeat (first | refine blk_drewN ?_ _ | refine blk_drew ?_ | refine blk_alloc ?_ _)); exact BK499.out) Try.underlying25 rfl (by kernel_rfl) (.tmp (.cell gb500 42 #[.int .i64 t516, .int .i64 t517] (0, 0) _ rfl (by (with_reducible repeat (first | refine blk_drewN ?_ _ | refine blk_drew ?_ | refine blk_alloc ?_ _)); refine blk_put (cs := #[.int .i64 t516, .int .i64 0]) ?_ 1 _ rfl; (with_reducible repeat (first | refine blk_drewN ?_ _ | refine blk_drew ?_ | refine blk_alloc ?_ _)); refine blk_put (cs := #[.int .i64 0, .int .i64 0]) ?_ 0 _ rfl; (with_reducible repeat (first | refine blk_drewN ?_ _ | refine blk_drew ?_ | refine blk_alloc ?_ _)); refine blk_far ?_ NB500_499.out _; (with_reducible repeat (first | refine blk_drewN ?_ _ | refine blk_drew ?_ | refine blk_alloc ?_ _)); refine blk_far ?_ NB500_499.out _; (with_reducible repeat (first | refine blk_drewN ?_ _ | refine blk_drew ?_ | refine blk_alloc ?_ _)); exact BK500.out) Try.underlying42 rfl (by kernel_rfl) .nil)))) rfl ?_
  exact ⟨_, by first | rfl | (simp [errW_none, errW_some] <;> rfl) | (simp [*, errW_none, errW_some] <;> rfl) | (exfalso; simp_all; done), by (with_reducible repeat (first | apply Kd.Q_alloc | apply Kd.Q_drewN | apply Kd.Q_drew)); exact Kd.Q_mono (Kd.Q_far (p := ⟨gb500, 1, none⟩) (Kd.Q_far (p := ⟨gb500, 0, none⟩) (Kd.Q_far (p := ⟨gb499, 1, none⟩) (Kd.Q_far (p := ⟨gb499, 0, none⟩) (Kd.Q_mono (Kd.Q_types HO507.out BK499.out (by decide)) (fun k_ hk => (⟨hk, hk.1.1⟩ : _ ∧ k_ ≠ gb500))) (fun _ hk => hk.1.2) (.int .i64 t504)) (fun _ hk => hk.1.2) (.slice Ao18 t505.length co18)) (fun _ hk => hk.2) (.int .i64 t516)) (fun _ hk => hk.2) (.int .i64 t517)) (fun _ hk => trivial), by repeat (first | (with_reducible first | exact HB.out | apply below_alloc | apply pw_below_drewN | apply below_drew1 | refine below_set ?_ (IsS67.ge HI503.out) | refine below_set ?_ GE499.out | refine below_set ?_ GE500.out | refine below_set ?_ GE509.out | refine below_set ?_ GE513.out) | exact HB.out)⟩
 ·rw [if_neg c6] at H
  have c6b0 : (t514 == 0) = false := beq_eq_false_iff_ne.mpr c6
  have c6b1 : (t514 != 0) = true := bne_iff_ne.mpr c6
  replace H := Option.bind_eq_some_iff.mp H
  obtain ⟨⟨t521, t522⟩, A360, H⟩ := H
  replace H : (some (t504, t505, t521, t510, t511)) = some (r1, r2, r3, r4, r5) := H
  have A36 := Aside0.mk A360
  clear A360
  simp only [Option.some.injEq, Prod.mk.injEq] at H
  obtain ⟨rfl, rfl, rfl, rfl, rfl⟩ := H
  go_enter Try.func25, Try.ntmps25
  try go_wp2_with (first | ((with_reducible refine gate_dst (N := 2) rfl ?_); refine box_event ?hg (N := 2) ?hd (cs := #[.int .i64 0, .slice none 0 0]) (t := 25) ?hr ?_; (case hd => rfl); (case hg => rfl); (case hr => first | (go_simp; done) | (go_simp; rfl)); intro gb499 hg w37 hbox hb; have n0_ := Aside0.mk (below_step (by repeat (first | (with_reducible first | exact HB.out | apply below_alloc | apply pw_below_drewN | apply below_drew1) | exact HB.out)) hb); have n1_ := Aside0.mk (hbox); have n2_ := Aside0.mk ((by rw [hg]; exact (below_size (by repeat (first | (with_reducible first | exact HB.out | apply below_alloc | apply pw_below_drewN | apply below_drew1) | exact HB.out))) : w.heap.size ≤ gb499)); have n3_ := Aside0.mk ((by rw [hg]; exact (below_size (by repeat (first | (with_reducible first | exact HB.out | apply below_alloc | apply pw_below_drewN | apply below_drew1) | exact HB.out))) : w.heap.size ≤ gb499)); clear HB; have HB := n0_; have BK499 := n1_; have GW499 := n2_; have GE499 := n3_; clear n0_ n1_ n2_ n3_; clear hb hbox hg) | ((with_reducible refine gate_dst (N := 4) rfl ?_); refine box_event ?hg (N := 4) ?hd (cs := #[.int .i64 0, .int .i64 0]) (t := 42) ?hr ?_; (case hd => rfl); (case hg => rfl); (case hr => first | (go_simp; done) | (go_simp; rfl)); intro gb500 hg w38 hbox hb; have n0_ := Aside0.mk (blk_below (bK BK499.out) hb); have n1_ := Aside0.mk (below_step (by repeat (first | (with_reducible first | exact HB.out | apply below_alloc | apply pw_below_drewN | apply below_drew1 | refine below_set ?_ GE499.out) | exact HB.out)) hb); have n2_ := Aside0.mk (hbox); have n3_ := Aside0.mk ((by rw [hg]; exact (below_size (by repeat (first | (with_reducible first | exact HB.out | apply below_alloc | apply pw_below_drewN | apply below_drew1 | refine below_set ?_ GE499.out) | exact HB.out))) : w.heap.size ≤ gb500)); have n4_ := Aside0.mk ((by rw [hg]; exact (below_size (by repeat (first | (with_reducible first | exact HB.out | apply below_alloc | apply pw_below_drewN | apply below_drew1 | refine below_set ?_ GE499.out) | exact HB.out))) : w.heap.size ≤ gb500)); have n5_ := Aside0.mk ((by rw [hg]; exact Nat.ne_of_lt (blk_lt (bK BK499.out)) : gb499 ≠ gb500)); have n6_ := Aside0.mk ((by rw [hg]; exact Nat.ne_of_gt (blk_lt (bK BK499.out)) : gb500 ≠ gb499)); clear BK499; clear HB; have BK499 := n0_; have HB := n1_; have BK500 := n2_; have GW500 := n3_; have GE500 := n4_; have NB499_500 := n5_; have NB500_499 := n6_; clear n0_ n1_ n2_ n3_ n4_ n5_ n6_; clear hb hbox hg) | ((with_reducible refine gate_callee (f := 31) rfl ?_); refine goesL_ (some 9) rfl rfl Try.func31 (by kernel_rfl) rfl #[.slice A0 l0.length c0] rfl (by (try simp only [List.map_toArray, List.map_cons, List.map_nil]); first | done | rfl | (simp only [List.length_drop, List.length_take]; rfl)) ?_; (with_reducible refine (spec_l6Open.calls _ _ l0 t501 t502 w _ ?side1 ?side2 ?side3 A2.out).mono ?_); (case side1 => repeat (first | (with_reducible first | exact HB.out | apply below_alloc | apply pw_below_drewN | apply below_drew1 | refine below_set ?_ GE499.out | refine below_set ?_ GE500.out) | exact HB.out)); (case side2 => exact HR0.out); (case side3 => exact HC0.out); rintro e w39 ⟨g503, rfl, hi, hb, hb2⟩; refine ⟨_, rfl, ?_⟩; have n0_ := Aside0.mk (blk_below (bK BK499.out) hb2); have n1_ := Aside0.mk (blk_below (bK BK500.out) hb2); have n2_ := Aside0.mk (hb); have n3_ := Aside0.mk (hi); have n4_ := Aside0.mk (IsS67.ne_blk hi (blk_below (bK BK499.out) hb2) (by decide)); have n5_ := Aside0.mk (Ne.symm (IsS67.ne_blk hi (blk_below (bK BK499.out) hb2) (by decide))); have n6_ := Aside0.mk (IsS67.ne_blk hi (blk_below (bK BK500.out) hb2) (by decide)); have n7_ := Aside0.mk (Ne.symm (IsS67.ne_blk hi (blk_below (bK BK500.out) hb2) (by decide))); clear BK499; clear BK500; clear HB; have BK499 := n0_; have BK500 := n1_; have HB := n2_; have HI503 := n3_; have NB503_499 := n4_; have NB499_503 := n5_; have NB503_500 := n6_; have NB500_503 := n7_; clear n0_ n1_ n2_ n3_ n4_ n5_ n6_ n7_; (try clear hb); (try clear hb2); (try clear hk); (try clear hi)) | ((with_reducible refine gate_callee (f := 30) rfl ?_); refine goesL_ (some 11) rfl rfl Try.func30 (by kernel_rfl) rfl #[.pointer (some ⟨g503, 0, none⟩)] rfl (by (try simp only [List.map_toArray, List.map_cons, List.map_nil]); first | done | rfl | (simp only [List.length_drop, List.length_take]; rfl)) ?_; (with_reducible refine (spec_l71Some.calls k g503 t501 t502 t504 t505 t508 w _ ?side1 ?side2 A3.out).mono ?_); (case side1 => repeat (first | (with_reducible first | exact HI503.out | apply IsS67.alloc | apply IsS67.drewN | apply IsS67.drew | apply IsS67.set_1 | refine IsS67.far ?_ NB503_499.out _ | refine IsS67.far ?_ NB503_500.out _) | exact HI503.out)); (case side2 => repeat (first | (with_reducible first | exact HB.out | apply below_alloc | apply pw_below_drewN | apply below_drew1 | refine below_set ?_ (IsS67.ge HI503.out) | refine below_set ?_ GE499.out | refine below_set ?_ GE500.out) | exact HB.out)); rintro e w40 ⟨v506, rfl, ho0, hi, hb, hk⟩; refine ⟨_, rfl, ?_⟩; have n0_ := Aside0.mk (KeepBut.blk hk (g' := gb499) (o := .cells #[.int .i64 0, .slice none 0 0] 25 (0, 0)) (bK BK499.out) NB499_503.out (by simp)); have n1_ := Aside0.mk (KeepBut.blk hk (g' := gb500) (o := .cells #[.int .i64 0, .int .i64 0] 42 (0, 0)) (bK BK500.out) NB500_503.out (by simp)); have n2_ := Aside0.mk (Kd.Q_lower (Kd.Q_newB ho0 (g := gb500) (o := .cells #[.int .i64 0, .int .i64 0] 42 (0, 0)) (bK BK500.out)) (below_size (by repeat (first | (with_reducible first | exact HB.out | apply below_alloc | apply pw_below_drewN | apply below_drew1 | refine below_set ?_ (IsS67.ge HI503.out) | refine below_set ?_ GE499.out | refine below_set ?_ GE500.out) | exact HB.out)))); have n3_ := Aside0.mk (hb); have n4_ := Aside0.mk (hi); clear BK499; clear BK500; clear HB; clear HI503; have BK499 := n0_; have BK500 := n1_; have HO507 := n2_; have HB := n3_; have HI503 := n4_; clear n0_ n1_ n2_ n3_ n4_; (try clear hb); (try clear hb2); (try clear hk); (try clear hi); (try clear ho0)) | ((with_reducible refine gate_dst (N := 6) rfl ?_); refine box_event ?hg (N := 6) ?hd (cs := #[.int .i64 0, .slice none 0 0]) (t := 25) ?hr ?_; (case hd => rfl); (case hg => rfl); (case hr => first | (go_simp; done) | (go_simp; rfl)); intro gb509 hg w41 hbox hb; have n0_ := Aside0.mk (Kd.Q_below (by (with_reducible repeat (first | apply Kd.Q_alloc | apply Kd.Q_drewN | apply Kd.Q_drew)); exact HO507.out) hb); have n1_ := Aside0.mk (blk_below (bK BK499.out) hb); have n2_ := Aside0.mk (blk_below (bK BK500.out) hb); have n3_ := Aside0.mk (IsS67.below (by repeat (first | (with_reducible first | exact HI503.out | apply IsS67.alloc | apply IsS67.drewN | apply IsS67.drew | apply IsS67.set_1 | refine IsS67.far ?_ NB503_499.out _ | refine IsS67.far ?_ NB503_500.out _) | exact HI503.out)) hb); have n4_ := Aside0.mk (below_step (by repeat (first | (with_reducible first | exact HB.out | apply below_alloc | apply pw_below_drewN | apply below_drew1 | refine below_set ?_ (IsS67.ge HI503.out) | refine below_set ?_ GE499.out | refine below_set ?_ GE500.out) | exact HB.out)) hb); have n5_ := Aside0.mk (hbox); have n6_ := Aside0.mk ((by rw [hg]; exact (below_size (by repeat (first | (with_reducible first | exact HB.out | apply below_alloc | apply pw_below_drewN | apply below_drew1 | refine below_set ?_ (IsS67.ge HI503.out) | refine below_set ?_ GE499.out | refine below_set ?_ GE500.out) | exact HB.out))) : w.heap.size ≤ gb509)); have n7_ := Aside0.mk ((by rw [hg]; exact (below_size (by repeat (first | (with_reducible first | exact HB.out | apply below_alloc | apply pw_below_drewN | apply below_drew1 | refine below_set ?_ (IsS67.ge HI503.out) | refine below_set ?_ GE499.out | refine below_set ?_ GE500.out) | exact HB.out))) : w.heap.size ≤ gb509)); have n8_ := Aside0.mk ((by rw [hg]; exact Nat.ne_of_lt (blk_lt (bK BK499.out)) : gb499 ≠ gb509)); have n9_ := Aside0.mk ((by rw [hg]; exact Nat.ne_of_gt (blk_lt (bK BK499.out)) : gb509 ≠ gb499)); have n10_ := Aside0.mk ((by rw [hg]; exact Nat.ne_of_lt (blk_lt (bK BK500.out)) : gb500 ≠ gb509)); have n11_ := Aside0.mk ((by rw [hg]; exact Nat.ne_of_gt (blk_lt (bK BK500.out)) : gb509 ≠ gb500)); have n12_ := Aside0.mk ((by rw [hg]; exact Nat.ne_of_lt (IsS67.lt (show IsS67 w _ g503 t501 t508 from by repeat (first | (with_reducible first | exact HI503.out | apply IsS67.alloc | apply IsS67.drewN | apply IsS67.drew | apply IsS67.set_1 | refine IsS67.far ?_ NB503_499.out _ | refine IsS67.far ?_ NB503_500.out _) | exact HI503.out))) : g503 ≠ gb509)); have n13_ := Aside0.mk ((by rw [hg]; exact Nat.ne_of_gt (IsS67.lt (show IsS67 w _ g503 t501 t508 from by repeat (first | (with_reducible first | exact HI503.out | apply IsS67.alloc | apply IsS67.drewN | apply IsS67.drew | apply IsS67.set_1 | refine IsS67.far ?_ NB503_499.out _ | refine IsS67.far ?_ NB503_500.out _) | exact HI503.out))) : gb509 ≠ g503)); clear HO507; clear BK499; clear BK500; clear HI503; clear HB; have HO507 := n0_; have BK499 := n1_; have BK500 := n2_; have HI503 := n3_; have HB := n4_; have BK509 := n5_; have GW509 := n6_; have GE509 := n7_; have NB499_509 := n8_; have NB509_499 := n9_; have NB500_509 := n10_; have NB509_500 := n11_; have NB503_509 := n12_; have NB509_503 := n13_; clear n0_ n1_ n2_ n3_ n4_ n5_ n6_ n7_ n8_ n9_ n10_ n11_ n12_ n13_; clear hb hbox hg; have hnb42 := NB509_499.out; have hnc42 := NB499_509.out; have hnb43 := NB509_500.out; have hnc43 := NB500_509.out; have hnb44 := NB509_503.out; have hnc44 := NB503_509.out; have hcz45_0 : w41.cell? ⟨gb509, 0, none⟩ = some (.int .i64 0) := (blk_cell BK509.out 0).trans rfl; have hcz45_1 : w41.cell? ⟨gb509, 1, none⟩ = some (.slice none 0 0) := (blk_cell BK509.out 1).trans rfl; have hfz45_0 := blk_frozen BK509.out 0; have hfz45_1 := blk_frozen BK509.out 1; obtain ⟨Ao46, co46, eo46, _⟩ := Kd.Q_slice HO507.out; subst eo46) | ((with_reducible refine gate_callee (f := 50) rfl ?_); refine goesL_ (some 13) rfl rfl Try.func50 (by kernel_rfl) rfl #[.pointer (some ⟨g503, 0, none⟩)] rfl (by (try simp only [List.map_toArray, List.map_cons, List.map_nil]); first | done | rfl | (simp only [List.length_drop, List.length_take]; rfl)) ?_; (with_reducible refine (spec_l71Cell.calls k g503 t501 t508 t510 t511 t512 w _ ?side1 ?side2 A4.out).mono ?_); (case side1 => repeat (first | (with_reducible first | exact HI503.out | apply IsS67.alloc | apply IsS67.drewN | apply IsS67.drew | apply IsS67.set_1 | refine IsS67.far ?_ NB503_499.out _ | refine IsS67.far ?_ NB503_500.out _ | refine IsS67.far ?_ NB503_509.out _) | exact HI503.out)); (case side2 => repeat (first | (with_reducible first | exact HB.out | apply below_alloc | apply pw_below_drewN | apply below_drew1 | refine below_set ?_ (IsS67.ge HI503.out) | refine below_set ?_ GE499.out | refine below_set ?_ GE500.out | refine below_set ?_ GE509.out) | exact HB.out)); rintro e w47 ⟨rfl, hi, hb, hk⟩; refine ⟨_, rfl, ?_⟩; have n0_ := Aside0.mk (KeepBut.blk hk (g' := gb499) (o := .cells #[.int .i64 0, .slice none 0 0] 25 (0, 0)) (by (with_reducible repeat (first | refine blk_drewN ?_ _ | refine blk_drew ?_ | refine blk_alloc ?_ _)); refine blk_far ?_ NB499_509.out _; (with_reducible repeat (first | refine blk_drewN ?_ _ | refine blk_drew ?_ | refine blk_alloc ?_ _)); refine blk_far ?_ NB499_509.out _; (with_reducible repeat (first | refine blk_drewN ?_ _ | refine blk_drew ?_ | refine blk_alloc ?_ _)); exact BK499.out) NB499_503.out (by simp)); have n1_ := Aside0.mk (KeepBut.blk hk (g' := gb500) (o := .cells #[.int .i64 0, .int .i64 0] 42 (0, 0)) (by (with_reducible repeat (first | refine blk_drewN ?_ _ | refine blk_drew ?_ | refine blk_alloc ?_ _)); refine blk_far ?_ NB500_509.out _; (with_reducible repeat (first | refine blk_drewN ?_ _ | refine blk_drew ?_ | refine blk_alloc ?_ _)); refine blk_far ?_ NB500_509.out _; (with_reducible repeat (first | refine blk_drewN ?_ _ | refine blk_drew ?_ | refine blk_alloc ?_ _)); exact BK500.out) NB500_503.out (by simp)); have n2_ := Aside0.mk (Kd.Q_mono (Kd.Q_keep (IsS67.apartQ (show IsS67 w _ g503 t501 t508 from by repeat (first | (with_reducible first | exact HI503.out | apply IsS67.alloc | apply IsS67.drewN | apply IsS67.drew | apply IsS67.set_1 | refine IsS67.far ?_ NB503_499.out _ | refine IsS67.far ?_ NB503_500.out _ | refine IsS67.far ?_ NB503_509.out _) | exact HI503.out)) (by (with_reducible repeat (first | apply Kd.Q_alloc | apply Kd.Q_drewN | apply Kd.Q_drew)); exact (Kd.Q_mono (Kd.Q_far (p := ⟨gb509, 1, none⟩) (Kd.Q_far (p := ⟨gb509, 0, none⟩) (Kd.Q_types HO507.out BK509.out (by decide)) (fun _ hk => hk.2) (.int .i64 t504)) (fun _ hk => hk.2) (.slice Ao46 t505.length co46)) (fun _ h_ => h_.1))) (by decide)) hk (fun _ h => h.2)) (fun _ h => h.1)); have n3_ := Aside0.mk (KeepBut.blk hk (g' := gb509) (o := .cells #[.int .i64 t504, .slice Ao46 t505.length co46] 25 (0, 0)) (by (with_reducible repeat (first | refine blk_drewN ?_ _ | refine blk_drew ?_ | refine blk_alloc ?_ _)); refine blk_put (cs := #[.int .i64 t504, .slice none 0 0]) ?_ 1 _ rfl; (with_reducible repeat (first | refine blk_drewN ?_ _ | refine blk_drew ?_ | refine blk_alloc ?_ _)); refine blk_put (cs := #[.int .i64 0, .slice none 0 0]) ?_ 0 _ rfl; (with_reducible repeat (first | refine blk_drewN ?_ _ | refine blk_drew ?_ | refine blk_alloc ?_ _)); exact BK509.out) NB509_503.out (by simp)); have n4_ := Aside0.mk (hb); have n5_ := Aside0.mk (hi); clear BK499; clear BK500; clear HO507; clear BK509; clear HB; clear HI503; have BK499 := n0_; have BK500 := n1_; have HO507 := n2_; have BK509 := n3_; have HB := n4_; have HI503 := n5_; clear n0_ n1_ n2_ n3_ n4_ n5_; (try clear hb); (try clear hb2); (try clear hk); (try clear hi)) | ((with_reducible refine gate_dst (N := 7) rfl ?_); refine box_event ?hg (N := 7) ?hd (cs := #[.int .i64 0, .int .i64 0]) (t := 42) ?hr ?_; (case hd => rfl); (case hg => rfl); (case hr => first | (go_simp; done) | (go_simp; rfl)); intro gb513 hg w48 hbox hb; have n0_ := Aside0.mk (Kd.Q_below (Kd.Q_elderB (by (with_reducible repeat (first | apply Kd.Q_alloc | apply Kd.Q_drewN | apply Kd.Q_drew)); exact HO507.out) gb513 (Nat.le_of_eq hg.symm)) hb); have n1_ := Aside0.mk (blk_below (bK BK499.out) hb); have n2_ := Aside0.mk (blk_below (bK BK500.out) hb); have n3_ := Aside0.mk (IsS67.below (by repeat (first | (with_reducible first | exact HI503.out | apply IsS67.alloc | apply IsS67.drewN | apply IsS67.drew | apply IsS67.set_1 | refine IsS67.far ?_ NB503_499.out _ | refine IsS67.far ?_ NB503_500.out _ | refine IsS67.far ?_ NB503_509.out _) | exact HI503.out)) hb); have n4_ := Aside0.mk (blk_below (bK BK509.out) hb); have n5_ := Aside0.mk (below_step (by repeat (first | (with_reducible first | exact HB.out | apply below_alloc | apply pw_below_drewN | apply below_drew1 | refine below_set ?_ (IsS67.ge HI503.out) | refine below_set ?_ GE499.out | refine below_set ?_ GE500.out | refine below_set ?_ GE509.out) | exact HB.out)) hb); have n6_ := Aside0.mk (hbox); have n7_ := Aside0.mk ((by rw [hg]; exact (below_size (by repeat (first | (with_reducible first | exact HB.out | apply below_alloc | apply pw_below_drewN | apply below_drew1 | refine below_set ?_ (IsS67.ge HI503.out) | refine below_set ?_ GE499.out | refine below_set ?_ GE500.out | refine below_set ?_ GE509.out) | exact HB.out))) : w.heap.size ≤ gb513)); have n8_ := Aside0.mk ((by rw [hg]; exact (below_size (by repeat (first | (with_reducible first | exact HB.out | apply below_alloc | apply pw_below_drewN | apply below_drew1 | refine below_set ?_ (IsS67.ge HI503.out) | refine below_set ?_ GE499.out | refine below_set ?_ GE500.out | refine below_set ?_ GE509.out) | exact HB.out))) : w.heap.size ≤ gb513)); have n9_ := Aside0.mk ((by rw [hg]; exact Nat.ne_of_lt (blk_lt (bK BK499.out)) : gb499 ≠ gb513)); have n10_ := Aside0.mk ((by rw [hg]; exact Nat.ne_of_gt (blk_lt (bK BK499.out)) : gb513 ≠ gb499)); have n11_ := Aside0.mk ((by rw [hg]; exact Nat.ne_of_lt (blk_lt (bK BK500.out)) : gb500 ≠ gb513)); have n12_ := Aside0.mk ((by rw [hg]; exact Nat.ne_of_gt (blk_lt (bK BK500.out)) : gb513 ≠ gb500)); have n13_ := Aside0.mk ((by rw [hg]; exact Nat.ne_of_lt (blk_lt (bK BK509.out)) : gb509 ≠ gb513)); have n14_ := Aside0.mk ((by rw [hg]; exact Nat.ne_of_gt (blk_lt (bK BK509.out)) : gb513 ≠ gb509)); have n15_ := Aside0.mk ((by rw [hg]; exact Nat.ne_of_lt (IsS67.lt (show IsS67 w _ g503 t501 t512 from by repeat (first | (with_reducible first | exact HI503.out | apply IsS67.alloc | apply IsS67.drewN | apply IsS67.drew | apply IsS67.set_1 | refine IsS67.far ?_ NB503_499.out _ | refine IsS67.far ?_ NB503_500.out _ | refine IsS67.far ?_ NB503_509.out _) | exact HI503.out))) : g503 ≠ gb513)); have n16_ := Aside0.mk ((by rw [hg]; exact Nat.ne_of_gt (IsS67.lt (show IsS67 w _ g503 t501 t512 from by repeat (first | (with_reducible first | exact HI503.out | apply IsS67.alloc | apply IsS67.drewN | apply IsS67.drew | apply IsS67.set_1 | refine IsS67.far ?_ NB503_499.out _ | refine IsS67.far ?_ NB503_500.out _ | refine IsS67.far ?_ NB503_509.out _) | exact HI503.out))) : gb513 ≠ g503)); clear HO507; clear BK499; clear BK500; clear HI503; clear BK509; clear HB; have HO507 := n0_; have BK499 := n1_; have BK500 := n2_; have HI503 := n3_; have BK509 := n4_; have HB := n5_; have BK513 := n6_; have GW513 := n7_; have GE513 := n8_; have NB499_513 := n9_; have NB513_499 := n10_; have NB500_513 := n11_; have NB513_500 := n12_; have NB509_513 := n13_; have NB513_509 := n14_; have NB503_513 := n15_; have NB513_503 := n16_; clear n0_ n1_ n2_ n3_ n4_ n5_ n6_ n7_ n8_ n9_ n10_ n11_ n12_ n13_ n14_ n15_ n16_; clear hb hbox hg; have hnb49 := NB513_499.out; have hnc49 := NB499_513.out; have hnb50 := NB513_500.out; have hnc50 := NB500_513.out; have hnb51 := NB513_509.out; have hnc51 := NB509_513.out; have hnb52 := NB513_503.out; have hnc52 := NB503_513.out; have hcz53_0 : w48.cell? ⟨gb513, 0, none⟩ = some (.int .i64 0) := (blk_cell BK513.out 0).trans rfl; have hcz53_1 : w48.cell? ⟨gb513, 1, none⟩ = some (.int .i64 0) := (blk_cell BK513.out 1).trans rfl; have hfz53_0 := blk_frozen BK513.out 0; have hfz53_1 := blk_frozen BK513.out 1) | ((with_reducible refine gate_callee (f := 37) rfl ?_); refine goesL_ (some 15) rfl rfl Try.func37 (by kernel_rfl) rfl #[.pointer (some ⟨g503, 0, none⟩), .int .i64 16] rfl (by (try simp only [List.map_toArray, List.map_cons, List.map_nil]); first | done | rfl | (simp only [List.length_drop, List.length_take]; rfl)) ?_; (with_reducible refine (spec_l6Rd_pick.calls k g503 t501 t512 16 t514 t515 w _ ?side1 ?side2 A5.out).mono ?_); (case side1 => repeat (first | (with_reducible first | exact HI503.out | apply IsS67.alloc | apply IsS67.drewN | apply IsS67.drew | apply IsS67.set_1 | refine IsS67.far ?_ NB503_499.out _ | refine IsS67.far ?_ NB503_500.out _ | refine IsS67.far ?_ NB503_509.out _ | refine IsS67.far ?_ NB503_513.out _) | exact HI503.out)); (case side2 => repeat (first | (with_reducible first | exact HB.out | apply below_alloc | apply pw_below_drewN | apply below_drew1 | refine below_set ?_ (IsS67.ge HI503.out) | refine below_set ?_ GE499.out | refine below_set ?_ GE500.out | refine below_set ?_ GE509.out | refine below_set ?_ GE513.out) | exact HB.out)); rintro e w54 ⟨rfl, hi, hb, hk⟩; refine ⟨_, rfl, ?_⟩; have n0_ := Aside0.mk (KeepBut.blk hk (g' := gb499) (o := .cells #[.int .i64 0, .slice none 0 0] 25 (0, 0)) (by (with_reducible repeat (first | refine blk_drewN ?_ _ | refine blk_drew ?_ | refine blk_alloc ?_ _)); refine blk_far ?_ NB499_513.out _; (with_reducible repeat (first | refine blk_drewN ?_ _ | refine blk_drew ?_ | refine blk_alloc ?_ _)); refine blk_far ?_ NB499_513.out _; (with_reducible repeat (first | refine blk_drewN ?_ _ | refine blk_drew ?_ | refine blk_alloc ?_ _)); exact BK499.out) NB499_503.out (by simp)); have n1_ := Aside0.mk (KeepBut.blk hk (g' := gb500) (o := .cells #[.int .i64 0, .int .i64 0] 42 (0, 0)) (by (with_reducible repeat (first | refine blk_drewN ?_ _ | refine blk_drew ?_ | refine blk_alloc ?_ _)); refine blk_far ?_ NB500_513.out _; (with_reducible repeat (first | refine blk_drewN ?_ _ | refine blk_drew ?_ | refine blk_alloc ?_ _)); refine blk_far ?_ NB500_513.out _; (with_reducible repeat (first | refine blk_drewN ?_ _ | refine blk_drew ?_ | refine blk_alloc ?_ _)); exact BK500.out) NB500_503.out (by simp)); have n2_ := Aside0.mk (Kd.Q_mono (Kd.Q_keep (IsS67.apartQ (show IsS67 w _ g503 t501 t512 from by repeat (first | (with_reducible first | exact HI503.out | apply IsS67.alloc | apply IsS67.drewN | apply IsS67.drew | apply IsS67.set_1 | refine IsS67.far ?_ NB503_499.out _ | refine IsS67.far ?_ NB503_500.out _ | refine IsS67.far ?_ NB503_509.out _ | refine IsS67.far ?_ NB503_513.out _) | exact HI503.out)) (by (with_reducible repeat (first | apply Kd.Q_alloc | apply Kd.Q_drewN | apply Kd.Q_drew)); exact (Kd.Q_mono (Kd.Q_far (p := ⟨gb513, 1, none⟩) (Kd.Q_far (p := ⟨gb513, 0, none⟩) (Kd.Q_mono HO507.out (fun k_ hk => (⟨hk, hk.2⟩ : _ ∧ k_ ≠ gb513))) (fun _ hk => hk.2) (.int .i64 t510)) (fun _ hk => hk.2) (.int .i64 t511)) (fun _ h_ => h_.1))) (by decide)) hk (fun _ h => h.2)) (fun _ h => h.1)); have n3_ := Aside0.mk (KeepBut.blk hk (g' := gb509) (o := .cells #[.int .i64 t504, .slice Ao46 t505.length co46] 25 (0, 0)) (by (with_reducible repeat (first | refine blk_drewN ?_ _ | refine blk_drew ?_ | refine blk_alloc ?_ _)); refine blk_far ?_ NB509_513.out _; (with_reducible repeat (first | refine blk_drewN ?_ _ | refine blk_drew ?_ | refine blk_alloc ?_ _)); refine blk_far ?_ NB509_513.out _; (with_reducible repeat (first | refine blk_drewN ?_ _ | refine blk_drew ?_ | refine blk_alloc ?_ _)); exact BK509.out) NB509_503.out (by simp)); have n4_ := Aside0.mk (KeepBut.blk hk (g' := gb513) (o := .cells #[.int .i64 t510, .int .i64 t511] 42 (0, 0)) (by (with_reducible repeat (first | refine blk_drewN ?_ _ | refine blk_drew ?_ | refine blk_alloc ?_ _)); refine blk_put (cs := #[.int .i64 t510, .int .i64 0]) ?_ 1 _ rfl; (with_reducible repeat (first | refine blk_drewN ?_ _ | refine blk_drew ?_ | refine blk_alloc ?_ _)); refine blk_put (cs := #[.int .i64 0, .int .i64 0]) ?_ 0 _ rfl; (with_reducible repeat (first | refine blk_drewN ?_ _ | refine blk_drew ?_ | refine blk_alloc ?_ _)); exact BK513.out) NB513_503.out (by simp)); have n5_ := Aside0.mk (hb); have n6_ := Aside0.mk (hi); clear BK499; clear BK500; clear HO507; clear BK509; clear BK513; clear HB; clear HI503; have BK499 := n0_; have BK500 := n1_; have HO507 := n2_; have BK509 := n3_; have BK513 := n4_; have HB := n5_; have HI503 := n6_; clear n0_ n1_ n2_ n3_ n4_ n5_ n6_; (try clear hb); (try clear hb2); (try clear hk); (try clear hi)))
  have n0_ := Aside0.mk (Kd.Q_drew HO507.out)
  have n1_ := Aside0.mk (blk_drew BK499.out)
  have n2_ := Aside0.mk (blk_drew BK500.out)
  have n3_ := Aside0.mk (blk_drew BK509.out)
  have n4_ := Aside0.mk (blk_drew BK513.out)
  have n5_ := Aside0.mk (IsS67.drew HI503.out)
  have n6_ := Aside0.mk (below_drew1 HB.out)
  clear HO507
  clear BK499
  clear BK500
  clear BK509
  clear BK513
  clear HI503
  clear HB
  have HO507 := n0_
  have BK499 := n1_
  have BK500 := n2_
  have BK509 := n3_
  have BK513 := n4_
  have HI503 := n5_
  have HB := n6_
  clear n0_ n1_ n2_ n3_ n4_ n5_ n6_
  refine start_ (n := 8) (S := fun w' => w'.cell? ⟨gb509, 0, none⟩ = some (.int .i64 t504) ∧ w'.cell? ⟨gb509, 1, none⟩ = some (.slice Ao46 t505.length co46) ∧ w'.cell? ⟨gb513, 0, none⟩ = some (.int .i64 t510) ∧ w'.cell? ⟨gb513, 1, none⟩ = some (.int .i64 t511)) (ds := []) #[false, false, false, false, false, false, false, false] (by kernel_rfl) rfl rfl ⟨(blk_cell BK509.out 0).trans rfl, (blk_cell BK509.out 1).trans rfl, (blk_cell BK513.out 0).trans rfl, (blk_cell BK513.out 1).trans rfl⟩ (fun hHeld => ?_); refine with_tabW spec_DrawGridPut.tab6 spec_DrawGridPut.bits6 (fun HT_ HW_ => ?_)
  generalize w54.drew = w55 at HO507 BK499 BK500 BK509 BK513 HI503 HB hHeld ⊢
  refine pure_ (i := 1) (N := some 20) (v := ?_) (a' := ?_) #[false, true, false, false, false, false, false, false] rfl rfl (any_of HT_.out (by kernel_rfl)) (fun _ _ _ h => h) (Or.inl ⟨by rfl, ?_⟩) ?_ ?_
  rotate_left
  ·intro w'
   go_simp
   with_reducible rfl
  rotate_left
  ·simp only [Act.put, List.setIfInBounds_toArray, List.set_cons_zero, List.set_cons_succ, i64_w, i32_w]
   rfl
  refine take_ (i := 0) (N := some 19) (v := ?_) (a' := ?_) #[true, true, false, false, false, false, false, false] rfl rfl (take_ofW HT_.out HW_.out (by kernel_rfl)) (fun _ _ _ h => h) (Or.inl ⟨by rfl, ?_⟩) hHeld ?_ ?_
  rotate_left
  ·rintro w' ⟨s0, s1, s2, s3⟩
   go_simp
   with_reducible rfl
  rotate_left
  ·simp only [Act.put, List.setIfInBounds_toArray, List.set_cons_zero, List.set_cons_succ, i64_w, i32_w]
   rfl
  refine take_ (i := 2) (N := some 21) (v := ?_) (a' := ?_) #[true, true, true, false, false, false, false, false] rfl rfl (take_ofW HT_.out HW_.out (by kernel_rfl)) (fun _ _ _ h => h) (Or.inl ⟨by rfl, ?_⟩) hHeld ?_ ?_
  rotate_left
  ·rintro w' ⟨s0, s1, s2, s3⟩
   go_simp
   with_reducible rfl
  rotate_left
  ·simp only [Act.put, List.setIfInBounds_toArray, List.set_cons_zero, List.set_cons_succ, i64_w, i32_w]
   rfl
  refine take_ (i := 4) (N := some 23) (v := ?_) (a' := ?_) #[true, true, true, false, true, false, false, false] rfl rfl (take_ofW HT_.out HW_.out (by kernel_rfl)) (fun _ _ _ h => h) (Or.inl ⟨by rfl, ?_⟩) hHeld ?_ ?_
  rotate_left
  ·rintro w' ⟨s0, s1, s2, s3⟩
   go_simp
   with_reducible rfl
  rotate_left
  ·simp only [Act.put, List.setIfInBounds_toArray, List.set_cons_zero, List.set_cons_succ, i64_w, i32_w]
   rfl
  refine one_ (i := 3) (N := some 22) #[true, true, true, true, true, false, false, false] rfl rfl (one_of HT_.out (by kernel_rfl)) (by decide) (fun K hK => ?_)
  refine goes_ Try.func36 (by kernel_rfl) rfl #[.pointer (some ⟨g503, 0, none⟩), .agg #[.int .i64 t504, .slice Ao46 t505.length co46]] (by rfl) rfl rfl (by (try simp only [List.map_toArray, List.map_cons, List.map_nil]); first | done | rfl | (simp only [List.length_drop, List.length_take]; rfl)) ?_
  with_reducible refine (spec_l71Place.calls k g503 t501 t515 t504 _ _ t505 t521 t522 w _ ?side1 ?side2 ?side3 ?side4 A36.out).mono ?_
  (case side1 => repeat (first | (with_reducible first | exact HI503.out | apply IsS67.alloc | apply IsS67.drewN | apply IsS67.drew | apply IsS67.set_1 | refine IsS67.far ?_ NB503_499.out _ | refine IsS67.far ?_ NB503_500.out _ | refine IsS67.far ?_ NB503_509.out _ | refine IsS67.far ?_ NB503_513.out _) | exact HI503.out))
  (case side2 => repeat (first | (with_reducible first | exact HB.out | apply below_alloc | apply pw_below_drewN | apply below_drew1 | refine below_set ?_ (IsS67.ge HI503.out) | refine below_set ?_ GE499.out | refine below_set ?_ GE500.out | refine below_set ?_ GE509.out | refine below_set ?_ GE513.out) | exact HB.out))
  (case side3 => exact Kd.C_foot_ownQ (IsS67.apartQ (show IsS67 w _ g503 t501 t515 from by repeat (first | (with_reducible first | exact HI503.out | apply IsS67.alloc | apply IsS67.drewN | apply IsS67.drew | apply IsS67.set_1 | refine IsS67.far ?_ NB503_499.out _ | refine IsS67.far ?_ NB503_500.out _ | refine IsS67.far ?_ NB503_509.out _ | refine IsS67.far ?_ NB503_513.out _) | exact HI503.out)) (by (with_reducible repeat (first | apply Kd.Q_alloc | apply Kd.Q_drewN | apply Kd.Q_drew)); exact HO507.out) (by decide)) (fun _ h_ => h_.2))
  (case side4 => exact (Kd.Q_reads' HO507.out).2.1)
  rintro e w56 ⟨rfl, hi, hb, hk⟩
  refine ⟨_, rfl, ?_⟩
  have n0_ := Aside0.mk (KeepBut.blk hk (g' := gb499) (o := .cells #[.int .i64 0, .slice none 0 0] 25 (0, 0)) (bK BK499.out) NB499_503.out (by simp))
  have n1_ := Aside0.mk (KeepBut.blk hk (g' := gb500) (o := .cells #[.int .i64 0, .int .i64 0] 42 (0, 0)) (bK BK500.out) NB500_503.out (by simp))
  have n2_ := Aside0.mk (Kd.Q_mono (Kd.Q_keep (IsS67.apartQ (show IsS67 w _ g503 t501 t515 from by repeat (first | (with_reducible first | exact HI503.out | apply IsS67.alloc | apply IsS67.drewN | apply IsS67.drew | apply IsS67.set_1 | refine IsS67.far ?_ NB503_499.out _ | refine IsS67.far ?_ NB503_500.out _ | refine IsS67.far ?_ NB503_509.out _ | refine IsS67.far ?_ NB503_513.out _) | exact HI503.out)) (by (with_reducible repeat (first | apply Kd.Q_alloc | apply Kd.Q_drewN | apply Kd.Q_drew)); exact HO507.out) (by decide)) hk (fun _ h => h.2)) (fun _ h => h.1))
  have n3_ := Aside0.mk (KeepBut.blk hk (g' := gb509) (o := .cells #[.int .i64 t504, .slice Ao46 t505.length co46] 25 (0, 0)) (bK BK509.out) NB509_503.out (by simp))
  have n4_ := Aside0.mk (KeepBut.blk hk (g' := gb513) (o := .cells #[.int .i64 t510, .int .i64 t511] 42 (0, 0)) (bK BK513.out) NB513_503.out (by simp))
  have n5_ := Aside0.mk (hb)
  have n6_ := Aside0.mk (hi)
  clear BK499
  clear BK500
  clear HO507
  clear BK509
  clear BK513
  clear HB
  clear HI503
  have BK499 := n0_
  have BK500 := n1_
  have HO507 := n2_
  have BK509 := n3_
  have BK513 := n4_
  have HB := n5_
  have HI503 := n6_
  clear n0_ n1_ n2_ n3_ n4_ n5_ n6_
  (try clear hb)
  (try clear hb2)
  (try clear hk)
  (try clear hi)
  refine hK.out _ _ ⟨(blk_cell BK509.out 0).trans rfl, (blk_cell BK509.out 1).trans rfl, (blk_cell BK513.out 0).trans rfl, (blk_cell BK513.out 1).trans rfl⟩ (fun hHeld => ?_)
  clear hK K
  refine norm_ (a' := ?_) ?_ ?_
  rotate_left
  ·show Act.put _ (some 22) _ = _
   simp only [Act.put, List.setIfInBounds_toArray, List.set_cons_zero, List.set_cons_succ, i64_w, i32_w]
   rfl
  refine one_ (i := 5) (N := none) #[true, true, true, true, true, true, false, false] rfl rfl (one_of HT_.out (by kernel_rfl)) (by decide) (fun K hK => ?_)
  have hs57 : w56.cell? ⟨gb499, 0, none⟩ = some (.int .i64 0) := (blk_cell BK499.out 0).trans rfl
  have hfs57 := blk_frozen BK499.out 0
  have hns57_1 := NB500_499.out
  have hns57_2 := NB509_499.out
  have hns57_3 := NB513_499.out
  have hms57_1 := NB499_500.out
  have hms57_2 := NB499_509.out
  have hms57_3 := NB499_513.out
  have hs58 : w56.cell? ⟨gb499, 1, none⟩ = some (.slice none 0 0) := (blk_cell BK499.out 1).trans rfl
  have hfs58 := blk_frozen BK499.out 1
  have hns58_1 := NB500_499.out
  have hns58_2 := NB509_499.out
  have hns58_3 := NB513_499.out
  have hms58_1 := NB499_500.out
  have hms58_2 := NB499_509.out
  have hms58_3 := NB499_513.out
  refine skip_ (w1 := ?_) (by rfl) rfl ?_ ?_
  rotate_left
  ·go_simp
   rfl
  refine hK.out _ _ ⟨((cell_far (p := ⟨gb499, _, none⟩) NB509_499.out _).trans (((cell_far (p := ⟨gb499, _, none⟩) NB509_499.out _).trans (hHeld.1)))), ((cell_far (p := ⟨gb499, _, none⟩) NB509_499.out _).trans (((cell_far (p := ⟨gb499, _, none⟩) NB509_499.out _).trans (hHeld.2.1)))), ((cell_far (p := ⟨gb499, _, none⟩) NB513_499.out _).trans (((cell_far (p := ⟨gb499, _, none⟩) NB513_499.out _).trans (hHeld.2.2.1)))), ((cell_far (p := ⟨gb499, _, none⟩) NB513_499.out _).trans (((cell_far (p := ⟨gb499, _, none⟩) NB513_499.out _).trans (hHeld.2.2.2))))⟩ (fun hHeld => ?_)
  clear hK K
  refine pure_ (i := 6) (N := some 3) (v := ?_) (a' := ?_) #[true, true, true, true, true, true, true, false] rfl rfl (any_of HT_.out (by kernel_rfl)) (fun _ _ _ h => h) (Or.inl ⟨by rfl, ?_⟩) ?_ ?_
  rotate_left
  ·intro w'
   go_simp
   with_reducible rfl
  rotate_left
  ·simp only [Act.put, List.setIfInBounds_toArray, List.set_cons_zero, List.set_cons_succ, i64_w, i32_w]
   rfl
  refine one_ (i := 7) (N := none) #[true, true, true, true, true, true, true, true] rfl rfl (one_of HT_.out (by kernel_rfl)) (by decide) (fun K hK => ?_)
  have hs59 : w56.cell? ⟨gb500, 0, none⟩ = some (.int .i64 0) := (blk_cell BK500.out 0).trans rfl
  have hfs59 := blk_frozen BK500.out 0
  have hns59_0 := NB499_500.out
  have hns59_2 := NB509_500.out
  have hns59_3 := NB513_500.out
  have hms59_0 := NB500_499.out
  have hms59_2 := NB500_509.out
  have hms59_3 := NB500_513.out
  have hs60 : w56.cell? ⟨gb500, 1, none⟩ = some (.int .i64 0) := (blk_cell BK500.out 1).trans rfl
  have hfs60 := blk_frozen BK500.out 1
  have hns60_0 := NB499_500.out
  have hns60_2 := NB509_500.out
  have hns60_3 := NB513_500.out
  have hms60_0 := NB500_499.out
  have hms60_2 := NB500_509.out
  have hms60_3 := NB500_513.out
  refine skip_ (w1 := ?_) (by rfl) rfl ?_ ?_
  rotate_left
  ·go_simp
   rfl
  refine hK.out _ _ ⟨((cell_far (p := ⟨gb500, _, none⟩) NB509_500.out _).trans (((cell_far (p := ⟨gb500, _, none⟩) NB509_500.out _).trans (hHeld.1)))), ((cell_far (p := ⟨gb500, _, none⟩) NB509_500.out _).trans (((cell_far (p := ⟨gb500, _, none⟩) NB509_500.out _).trans (hHeld.2.1)))), ((cell_far (p := ⟨gb500, _, none⟩) NB513_500.out _).trans (((cell_far (p := ⟨gb500, _, none⟩) NB513_500.out _).trans (hHeld.2.2.1)))), ((cell_far (p := ⟨gb500, _, none⟩) NB513_500.out _).trans (((cell_far (p := ⟨gb500, _, none⟩) NB513_500.out _).trans (hHeld.2.2.2))))⟩ (fun hHeld => ?_)
  clear hK K
  refine done_ (done_of HT_.out (by kernel_rfl)) ?_
  try go_wp2
  refine bodyPost_ret (results_list (rs := [.cell 2 25, .tmp 3, .cell 4 42]) rfl (by simp) (.cell gb499 25 #[.int .i64 t504, .slice Ao46 t505.length co46] (0, 0) _ rfl (by (with_reducible repeat (first | refine blk_drewN ?_ _ | refine blk_drew ?_ | refine blk_alloc ?_ _)); refine blk_far ?_ NB499_500.out _; (with_reducible repeat (first | refine blk_drewN ?_ _ | refine blk_drew ?_ | refine blk_alloc ?_ _)); refine blk_far ?_ NB499_500.out _; (with_reducible repeat (first | refine blk_drewN ?_ _ | refine blk_drew ?_ | refine blk_alloc ?_ _)); refine blk_put (cs := #[.int .i64 t504, .slice none 0 0]) ?_ 1 _ rfl; (with_reducible repeat (first | refine blk_drewN ?_ _ | refine blk_drew ?_ | refine blk_alloc ?_ _)); refine blk_put (cs := #[.int .i64 0, .slice none 0 0]) ?_ 0 _ rfl; (with_reducible repeat (first | refine blk_drewN ?_ _ | refine blk_drew ?_ | refine blk_alloc ?_ _)); exact BK499.out) Try.underlying25 rfl (by kernel_rfl) (.tmp (.cell gb500 42 #[.int .i64 t510, .int .i64 t511] (0, 0) _ rfl (by (with_reducible repeat (first | refine blk_drewN ?_ _ | refine blk_drew ?_ | refine blk_alloc ?_ _)); refine blk_put (cs := #[.int .i64 t510, .int .i64 0]) ?_ 1 _ rfl; (with_reducible repeat (first | refine blk_drewN ?_ _ | refine blk_drew ?_ | refine blk_alloc ?_ _)); refine blk_put (cs := #[.int .i64 0, .int .i64 0]) ?_ 0 _ rfl; (with_reducible repeat (first | refine blk_drewN ?_ _ | refine blk_drew ?_ | refine blk_alloc ?_ _)); refine blk_far ?_ NB500_499.out _; (with_reducible repeat (first | refine blk_drewN ?_ _ | refine blk_drew ?_ | refine blk_alloc ?_ _)); refine blk_far ?_ NB500_499.out _; (with_reducible repeat (first | refine blk_drewN ?_ _ | refine blk_drew ?_ | refine blk_alloc ?_ _)); exact BK500.out) Try.underlying42 rfl (by kernel_rfl) .nil)))) rfl ?_
  exact ⟨_, by first | rfl | (simp [errW_none, errW_some] <;> rfl) | (simp [*, errW_none, errW_some] <;> rfl) | (exfalso; simp_all; done), by (with_reducible repeat (first | apply Kd.Q_alloc | apply Kd.Q_drewN | apply Kd.Q_drew)); exact Kd.Q_mono (Kd.Q_far (p := ⟨gb500, 1, none⟩) (Kd.Q_far (p := ⟨gb500, 0, none⟩) (Kd.Q_far (p := ⟨gb499, 1, none⟩) (Kd.Q_far (p := ⟨gb499, 0, none⟩) (Kd.Q_mono (Kd.Q_types HO507.out BK499.out (by decide)) (fun k_ hk => (⟨hk, hk.1.1.2⟩ : _ ∧ k_ ≠ gb500))) (fun _ hk => hk.1.2) (.int .i64 t504)) (fun _ hk => hk.1.2) (.slice Ao46 t505.length co46)) (fun _ hk => hk.2) (.int .i64 t510)) (fun _ hk => hk.2) (.int .i64 t511)) (fun _ hk => trivial), by repeat (first | (with_reducible first | exact HB.out | apply below_alloc | apply pw_below_drewN | apply below_drew1 | refine below_set ?_ (IsS67.ge HI503.out) | refine below_set ?_ GE499.out | refine below_set ?_ GE500.out | refine below_set ?_ GE509.out | refine below_set ?_ GE513.out) | exact HB.out)⟩

end Go.Proofs.Ytbomeogcgefddaa.P
