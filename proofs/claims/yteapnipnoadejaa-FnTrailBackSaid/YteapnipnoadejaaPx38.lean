/- PROVED: contracts of functions; No condition. -/
import Derived.Test.YteapnipnoadejaaPx0
import Derived.Test.YteapnipnoadejaaPx35
namespace Go.Proofs.Yteapnipnoadejaa.P
open Go.RowKit Go.Proofs.YteapnipnoadejaaW
set_option linter.unusedVariables false
set_option linter.unusedSimpArgs false
def impl_TrailTo.l0 : Nat -> Int -> Int -> List (S38) -> Int -> Int -> Option (Int)
 | 0, _, _, _, _, _ => none
 | k + 1, x2, x7, x13, x14, x15 => if x15 < x14 then (if 0 <= x15 then (if x15 < (x13.length : Int) then (if ((rd_T38 x13 x15).f0) = 0 then (if ((rd_T38 x13 x15).f1) = x2 then (impl_TrailTo.l0 k x2 (wrap64 (x7 + ((rd_T38 x13 x15).f2))) x13 x14 (wrap64 (x15 + 1))) else (impl_TrailTo.l0 k x2 x7 x13 x14 (wrap64 (x15 + 1)))) else (impl_TrailTo.l0 k x2 x7 x13 x14 (wrap64 (x15 + 1)))) else (none)) else (none)) else (some x7)
def impl_TrailTo.f (k : Nat) (a0_0 : Int) (l0_1 : List (S42)) (a1 : Int) (a2 : Int) : Option (Int) := (impl_trailOf.f k a0_0 l0_1 a1).bind fun bt648 => (impl_TrailTo.l0 k a2 0 bt648.2 (bt648.2.length : Int) 0)
set_option maxHeartbeats 8000000 in
set_option maxRecDepth 100000 in
theorem impl_TrailTo.calls (k : Nat) (a0_0 : Int) (A0_1 : Option Addr) (c0_1 : Nat) (l0_1 : List (S42)) (a1 : Int) (a2 : Int) (r : Int) (w : World) (hr0_1 : Kd.C k42 w A0_1 l0_1.length l0_1) (hc0_1 : l0_1.length <= c0_1) (h : impl_TrailTo.f k a0_0 l0_1 a1 a2 = some r) :
  Calls Try.prog 25 #[.agg #[.int .i64 a0_0, .slice A0_1 l0_1.length c0_1], .int .i64 a1, .int .i64 a2] w fun e w' => e = .returned (.int .i64 r) ∧ Below w.heap.size w w' := by
 have hu25 := Try.underlying25
 have hu38 := Try.underlying38
 have hutr_ := Try.underlying55
 have hfd0_ : ∀ (A1 A2 : Option Addr) (n1 c1 n2 c2 : Nat) (W : World), (Instr.field 55 (.agg #[.slice A1 n1 c1, .slice A2 n2 c2]) 0).run Try.prog W = .ok (.slice A1 n1 c1) W := fun A1 A2 n1 c1 n2 c2 W => by simp [Instr.field, go_sem, hutr_, asAgg]
 have hfd1_ : ∀ (A1 A2 : Option Addr) (n1 c1 n2 c2 : Nat) (W : World), (Instr.field 55 (.agg #[.slice A1 n1 c1, .slice A2 n2 c2]) 1).run Try.prog W = .ok (.slice A2 n2 c2) W := fun A1 A2 n1 c1 n2 c2 W => by simp [Instr.field, go_sem, hutr_, asAgg]
 have HR0_1 := Aside0.mk hr0_1
 have HC0_1 := Aside0.mk hc0_1
 clear hr0_1 hc0_1
 have HB := Aside0.mk (Below.refl w.heap.size w)
 have H : ((impl_trailOf.f k a0_0 l0_1 a1).bind fun bt648 => (impl_TrailTo.l0 k a2 0 bt648.2 (bt648.2.length : Int) 0)) = some r := h
 clear h
 replace H := Option.bind_eq_some_iff.mp H
 obtain ⟨⟨t648, t651⟩, A40, H⟩ := H
 replace H : (impl_TrailTo.l0 k a2 0 t651 (t651.length : Int) 0) = some r := H
 have A4 := Aside0.mk A40
 clear A40
 have H' := Aside0.mk H
 clear H
 go_enter Try.func25, Try.ntmps25
 go_wp2_with (first | ((with_reducible refine gate_dst (N := 3) rfl ?_); refine box_event rfl (N := 3) rfl (cs := #[.int .i64 a0_0, .slice A0_1 l0_1.length c0_1]) (t := 25) ?hr ?_; (case hr => first | (go_simp; done) | (go_simp; rfl)); intro gb647 hg w5 hbox hb; have n0_ := Aside0.mk (below_step (by repeat first | exact HB.out | apply below_alloc | apply pw_below_drewN) hb); have n1_ := Aside0.mk (hbox); have n2_ := Aside0.mk ((by rw [hg]; exact (below_size (by repeat first | exact HB.out | apply below_alloc | apply pw_below_drewN)) : w.heap.size <= gb647)); have n3_ := n2_; clear HB; have HB := n0_; have BK647 := n1_; have GW647 := n2_; have GE647 := n3_; clear n0_ n1_ n2_ n3_; clear hb hbox hg; have hcz6_0 : w5.cell? ⟨gb647, 0, none⟩ = some (.int .i64 a0_0) := (blk_cell BK647.out 0).trans rfl; have hcz6_1 : w5.cell? ⟨gb647, 1, none⟩ = some (.slice A0_1 l0_1.length c0_1) := (blk_cell BK647.out 1).trans rfl; have hfz6_0 := blk_frozen BK647.out 0; have hfz6_1 := blk_frozen BK647.out 1) | ((with_reducible refine gate_callee (f := 28) rfl ?_); refine goesL_ (some 12) rfl rfl Try.func28 (by kernel_rfl) rfl #[.agg #[.int .i64 a0_0, .slice A0_1 l0_1.length c0_1], .int .i64 a1] rfl (by first | rfl | (simp only [List.map_toArray, List.map_cons, List.map_nil, List.length_drop, List.length_take]; try rfl)) ?_; (with_reducible refine (impl_trailOf.calls k a0_0 _ _ l0_1 a1 t648 t651 _ ?side1 ?side2 A4.out).mono ?_); (case side1 => repeat (first | exact (Kd.C_below HR0_1.out HB.out) | (with_reducible refine Kd.C_alloc ?_ _) | (with_reducible refine Kd.C_drewN ?_ _) | (with_reducible refine Kd.C_drew ?_))); (case side2 => exact HC0_1.out); rintro e w7 ⟨v649, v652, rfl, ho0, ho1, hb⟩; refine ⟨_, rfl, ?_⟩; have n0_ := Aside0.mk (Kd.R_lower ho0 (below_size (by repeat first | exact HB.out | with_reducible refine below_setA ?_ ‹_› | apply below_alloc | apply pw_below_drewN))); have n1_ := Aside0.mk (Kd.R_lower ho1 (below_size (by repeat first | exact HB.out | with_reducible refine below_setA ?_ ‹_› | apply below_alloc | apply pw_below_drewN))); have n2_ := Aside0.mk (blk_below (bK BK647.out) hb); have n3_ := Aside0.mk (below_step (by repeat first | exact HB.out | with_reducible refine below_setA ?_ ‹_› | apply below_alloc | apply pw_below_drewN) hb); clear BK647; clear HB; have HO650 := n0_; have HO653 := n1_; have BK647 := n2_; have HB := n3_; clear n0_ n1_ n2_ n3_; obtain ⟨Axx650_, cxx650_, exx650_⟩ := Kd.R_slice HO650.out; subst exx650_; (try clear hb); (try clear hb2); (try clear hk); (try clear hi); (try clear ho0); (try clear ho1); obtain ⟨Ao8, co8, eo8⟩ := Kd.R_slice HO653.out; subst eo8))
 go_loopg [7, 15] k (fun kq v7 v15 w' => ∃ (x7_1 : Int) (x15_1 : Int), v7 = .int .i64 x7_1 ∧ v15 = .int .i64 x15_1 ∧ Aside0 (impl_TrailTo.l0 kq a2 x7_1 t651 (t651.length : Int) x15_1 = some r) ∧ Aside0 (kq <= k) ∧ Aside0 (Kd.R k38 38 w' w.heap.size (fun _ => True) (.slice Ao8 t651.length co8) t651) ∧ Aside0 (w'.heap[gb647]? = some (.cells #[.int .i64 a0_0, (.slice A0_1 l0_1.length c0_1)] 25 (0, 0))) ∧ Aside0 (Below w.heap.size w w'))
 case atStart => exact ⟨(0), (0), (by first | rfl | (simp; done) | (simp [*]; done)), (by first | rfl | (simp; done) | (simp [*]; done)), H', ⟨Nat.le_refl _⟩, ⟨by (with_reducible repeat apply Kd.R_alloc); exact HO653.out⟩, ⟨by (with_reducible repeat apply blk_alloc); exact BK647.out⟩, ⟨by repeat first | exact HB.out | with_reducible refine below_setA ?_ ‹_› | apply below_alloc | apply pw_below_drewN⟩⟩
 case round =>
  clear H'
  try clear c2
  try clear p2
  try clear hcz6_0
  try clear hcz6_1
  try clear hfz6_0
  try clear hfz6_1
  obtain ⟨x7_1, x15_1, rfl, rfl, HA, HK1, HO_13, BK647, HB⟩ := hrel
  cases gk with
  | zero => exact absurd HA.out (by simp [impl_TrailTo.l0])
  | succ k1 =>
   have H := HA.out
   clear HA
   simp only [impl_TrailTo.l0] at H
   by_cases c9 : x15_1 < (t651.length : Int)
   ·rw [if_pos c9] at H
    have c9b0 : decide (x15_1 < (t651.length : Int)) = true := decide_eq_true c9
    clear c9
    by_cases c10 : 0 <= x15_1
    ·rw [if_pos c10] at H
     have c10b0 : decide (0 <= x15_1) = true := decide_eq_true c10
     clear c10
     by_cases c11 : x15_1 < (t651.length : Int)
     ·rw [if_pos c11] at H
      have c11b0 : decide (x15_1 < (t651.length : Int)) = true := decide_eq_true c11
      clear c11
      by_cases c12 : ((rd_T38 t651 x15_1).f0) = 0
      ·rw [if_pos c12] at H
       have c12b0 : (((rd_T38 t651 x15_1).f0) == 0) = true := beq_iff_eq.mpr c12
       have c12b1 : (((rd_T38 t651 x15_1).f0) != 0) = false := bne_eq_false_iff_eq.mpr c12
       clear c12
       by_cases c13 : ((rd_T38 t651 x15_1).f1) = a2
       ·rw [if_pos c13] at H
        have c13b0 : (((rd_T38 t651 x15_1).f1) == a2) = true := beq_iff_eq.mpr c13
        have c13b1 : (((rd_T38 t651 x15_1).f1) != a2) = false := bne_eq_false_iff_eq.mpr c13
        clear c13
        have H' := Aside0.mk H
        clear H
        have p654 : 0 <= (x15_1 : Int) := of_decide_eq_true (by first | (with_reducible assumption) | assumption)
        have q654 : x15_1 < (t651.length : Int) := of_decide_eq_true (by first | (with_reducible assumption) | assumption)
        obtain ⟨ad654, e654, hx654_0, hx654_1, hx654_2⟩ := at_T38 (Kd.R_reads' HO_13.out).2.2 x15_1 p654 q654
        cases e654
        replace p654 := eq_true p654
        replace q654 := eq_true q654
        go_wp2_with (first | ((with_reducible refine gate_dst (N := 9) rfl ?_); refine box_event rfl (N := 9) rfl (cs := #[.int .i64 0, .int .i64 0, .int .i64 0]) (t := 38) ?hr ?_; (case hr => first | (go_simp; done) | (go_simp; rfl)); intro gb655 hg w14 hbox hb; have n0_ := Aside0.mk (Kd.R_below (Kd.R_elderB (kR HO_13.out) gb655 (Nat.le_of_eq hg.symm)) hb); have n1_ := Aside0.mk (blk_below (bK BK647.out) hb); have n2_ := Aside0.mk (below_step (by repeat first | exact HB.out | with_reducible refine below_setA ?_ ‹_› | apply below_alloc | apply pw_below_drewN) hb); have n3_ := Aside0.mk (hbox); have n4_ := Aside0.mk ((by rw [hg]; exact (below_size (by repeat first | exact HB.out | with_reducible refine below_setA ?_ ‹_› | apply below_alloc | apply pw_below_drewN)) : w.heap.size <= gb655)); have n5_ := n4_; have n6_ := Aside0.mk ((by rw [hg]; exact Nat.ne_of_lt (blk_lt (bK BK647.out)) : gb647 ≠ gb655)); have n7_ := Aside0.mk ((by rw [hg]; exact Nat.ne_of_gt (blk_lt (bK BK647.out)) : gb655 ≠ gb647)); clear HO_13; clear BK647; clear HB; have HO_13 := n0_; have BK647 := n1_; have HB := n2_; have BK655 := n3_; have GW655 := n4_; have GE655 := n5_; have NB647_655 := n6_; have NB655_647 := n7_; clear n0_ n1_ n2_ n3_ n4_ n5_ n6_ n7_; clear hb hbox hg; have hnb15 := NB655_647.out; have hnc15 := NB647_655.out; have hcz16_0 : w14.cell? ⟨gb655, 0, none⟩ = some (.int .i64 0) := (blk_cell BK655.out 0).trans rfl; have hcz16_1 : w14.cell? ⟨gb655, 1, none⟩ = some (.int .i64 0) := (blk_cell BK655.out 1).trans rfl; have hcz16_2 : w14.cell? ⟨gb655, 2, none⟩ = some (.int .i64 0) := (blk_cell BK655.out 2).trans rfl; have hfz16_0 := blk_frozen BK655.out 0; have hfz16_1 := blk_frozen BK655.out 1; have hfz16_2 := blk_frozen BK655.out 2))
        go_roundg k1
        case measure => have := HK1.out; omega
        case rel => exact ⟨(wrap64 (x7_1 + ((rd_T38 t651 x15_1).f2))), (wrap64 (x15_1 + 1)), (by first | rfl | (simp; done) | (simp [*]; done)), (by first | rfl | (simp; done) | (simp [*]; done)), H', ⟨by have := HK1.out; omega⟩, ⟨by (with_reducible repeat apply Kd.R_alloc); exact Kd.R_mono (Kd.R_far (p := ⟨gb655, 2, none⟩) (Kd.R_far (p := ⟨gb655, 1, none⟩) (Kd.R_far (p := ⟨gb655, 0, none⟩) (Kd.R_mono HO_13.out (fun k_ hk => (⟨hk, hk.2⟩ : _ ∧ k_ ≠ gb655))) (fun _ hk => hk.2) (.int .i64 ((rd_T38 t651 x15_1).f0))) (fun _ hk => hk.2) (.int .i64 ((rd_T38 t651 x15_1).f1))) (fun _ hk => hk.2) (.int .i64 ((rd_T38 t651 x15_1).f2))) (fun _ hk => trivial)⟩, ⟨by (with_reducible repeat apply blk_alloc); refine blk_far ?_ NB647_655.out _; (with_reducible repeat apply blk_alloc); refine blk_far ?_ NB647_655.out _; (with_reducible repeat apply blk_alloc); refine blk_far ?_ NB647_655.out _; (with_reducible repeat apply blk_alloc); exact BK647.out⟩, ⟨by repeat first | exact HB.out | with_reducible refine below_setA ?_ ‹_› | apply below_alloc | apply pw_below_drewN⟩⟩
       ·rw [if_neg c13] at H
        have c13b0 : (((rd_T38 t651 x15_1).f1) == a2) = false := beq_eq_false_iff_ne.mpr c13
        have c13b1 : (((rd_T38 t651 x15_1).f1) != a2) = true := bne_iff_ne.mpr c13
        have H' := Aside0.mk H
        clear H
        have p654 : 0 <= (x15_1 : Int) := of_decide_eq_true (by first | (with_reducible assumption) | assumption)
        have q654 : x15_1 < (t651.length : Int) := of_decide_eq_true (by first | (with_reducible assumption) | assumption)
        obtain ⟨ad654, e654, hx654_0, hx654_1, hx654_2⟩ := at_T38 (Kd.R_reads' HO_13.out).2.2 x15_1 p654 q654
        cases e654
        replace p654 := eq_true p654
        replace q654 := eq_true q654
        go_wp2_with (first | ((with_reducible refine gate_dst (N := 9) rfl ?_); refine box_event rfl (N := 9) rfl (cs := #[.int .i64 0, .int .i64 0, .int .i64 0]) (t := 38) ?hr ?_; (case hr => first | (go_simp; done) | (go_simp; rfl)); intro gb655 hg w17 hbox hb; have n0_ := Aside0.mk (Kd.R_below (Kd.R_elderB (kR HO_13.out) gb655 (Nat.le_of_eq hg.symm)) hb); have n1_ := Aside0.mk (blk_below (bK BK647.out) hb); have n2_ := Aside0.mk (below_step (by repeat first | exact HB.out | with_reducible refine below_setA ?_ ‹_› | apply below_alloc | apply pw_below_drewN) hb); have n3_ := Aside0.mk (hbox); have n4_ := Aside0.mk ((by rw [hg]; exact (below_size (by repeat first | exact HB.out | with_reducible refine below_setA ?_ ‹_› | apply below_alloc | apply pw_below_drewN)) : w.heap.size <= gb655)); have n5_ := n4_; have n6_ := Aside0.mk ((by rw [hg]; exact Nat.ne_of_lt (blk_lt (bK BK647.out)) : gb647 ≠ gb655)); have n7_ := Aside0.mk ((by rw [hg]; exact Nat.ne_of_gt (blk_lt (bK BK647.out)) : gb655 ≠ gb647)); clear HO_13; clear BK647; clear HB; have HO_13 := n0_; have BK647 := n1_; have HB := n2_; have BK655 := n3_; have GW655 := n4_; have GE655 := n5_; have NB647_655 := n6_; have NB655_647 := n7_; clear n0_ n1_ n2_ n3_ n4_ n5_ n6_ n7_; clear hb hbox hg; have hnb18 := NB655_647.out; have hnc18 := NB647_655.out; have hcz19_0 : w17.cell? ⟨gb655, 0, none⟩ = some (.int .i64 0) := (blk_cell BK655.out 0).trans rfl; have hcz19_1 : w17.cell? ⟨gb655, 1, none⟩ = some (.int .i64 0) := (blk_cell BK655.out 1).trans rfl; have hcz19_2 : w17.cell? ⟨gb655, 2, none⟩ = some (.int .i64 0) := (blk_cell BK655.out 2).trans rfl; have hfz19_0 := blk_frozen BK655.out 0; have hfz19_1 := blk_frozen BK655.out 1; have hfz19_2 := blk_frozen BK655.out 2))
        go_roundg k1
        case measure => have := HK1.out; omega
        case rel => exact ⟨(x7_1), (wrap64 (x15_1 + 1)), (by first | rfl | (simp; done) | (simp [*]; done)), (by first | rfl | (simp; done) | (simp [*]; done)), H', ⟨by have := HK1.out; omega⟩, ⟨by (with_reducible repeat apply Kd.R_alloc); exact Kd.R_mono (Kd.R_far (p := ⟨gb655, 2, none⟩) (Kd.R_far (p := ⟨gb655, 1, none⟩) (Kd.R_far (p := ⟨gb655, 0, none⟩) (Kd.R_mono HO_13.out (fun k_ hk => (⟨hk, hk.2⟩ : _ ∧ k_ ≠ gb655))) (fun _ hk => hk.2) (.int .i64 ((rd_T38 t651 x15_1).f0))) (fun _ hk => hk.2) (.int .i64 ((rd_T38 t651 x15_1).f1))) (fun _ hk => hk.2) (.int .i64 ((rd_T38 t651 x15_1).f2))) (fun _ hk => trivial)⟩, ⟨by (with_reducible repeat apply blk_alloc); refine blk_far ?_ NB647_655.out _; (with_reducible repeat apply blk_alloc); refine blk_far ?_ NB647_655.out _; (with_reducible repeat apply blk_alloc); refine blk_far ?_ NB647_655.out _; (with_reducible repeat apply blk_alloc); exact BK647.out⟩, ⟨by repeat first | exact HB.out | with_reducible refine below_setA ?_ ‹_› | apply below_alloc | apply pw_below_drewN⟩⟩
      ·rw [if_neg c12] at H
       have c12b0 : (((rd_T38 t651 x15_1).f0) == 0) = false := beq_eq_false_iff_ne.mpr c12
       have c12b1 : (((rd_T38 t651 x15_1).f0) != 0) = true := bne_iff_ne.mpr c12
       have H' := Aside0.mk H
       clear H
       have p654 : 0 <= (x15_1 : Int) := of_decide_eq_true (by first | (with_reducible assumption) | assumption)
       have q654 : x15_1 < (t651.length : Int) := of_decide_eq_true (by first | (with_reducible assumption) | assumption)
       obtain ⟨ad654, e654, hx654_0, hx654_1, hx654_2⟩ := at_T38 (Kd.R_reads' HO_13.out).2.2 x15_1 p654 q654
       cases e654
       replace p654 := eq_true p654
       replace q654 := eq_true q654
       go_wp2_with (first | ((with_reducible refine gate_dst (N := 9) rfl ?_); refine box_event rfl (N := 9) rfl (cs := #[.int .i64 0, .int .i64 0, .int .i64 0]) (t := 38) ?hr ?_; (case hr => first | (go_simp; done) | (go_simp; rfl)); intro gb655 hg w20 hbox hb; have n0_ := Aside0.mk (Kd.R_below (Kd.R_elderB (kR HO_13.out) gb655 (Nat.le_of_eq hg.symm)) hb); have n1_ := Aside0.mk (blk_below (bK BK647.out) hb); have n2_ := Aside0.mk (below_step (by repeat first | exact HB.out | with_reducible refine below_setA ?_ ‹_› | apply below_alloc | apply pw_below_drewN) hb); have n3_ := Aside0.mk (hbox); have n4_ := Aside0.mk ((by rw [hg]; exact (below_size (by repeat first | exact HB.out | with_reducible refine below_setA ?_ ‹_› | apply below_alloc | apply pw_below_drewN)) : w.heap.size <= gb655)); have n5_ := n4_; have n6_ := Aside0.mk ((by rw [hg]; exact Nat.ne_of_lt (blk_lt (bK BK647.out)) : gb647 ≠ gb655)); have n7_ := Aside0.mk ((by rw [hg]; exact Nat.ne_of_gt (blk_lt (bK BK647.out)) : gb655 ≠ gb647)); clear HO_13; clear BK647; clear HB; have HO_13 := n0_; have BK647 := n1_; have HB := n2_; have BK655 := n3_; have GW655 := n4_; have GE655 := n5_; have NB647_655 := n6_; have NB655_647 := n7_; clear n0_ n1_ n2_ n3_ n4_ n5_ n6_ n7_; clear hb hbox hg; have hnb21 := NB655_647.out; have hnc21 := NB647_655.out; have hcz22_0 : w20.cell? ⟨gb655, 0, none⟩ = some (.int .i64 0) := (blk_cell BK655.out 0).trans rfl; have hcz22_1 : w20.cell? ⟨gb655, 1, none⟩ = some (.int .i64 0) := (blk_cell BK655.out 1).trans rfl; have hcz22_2 : w20.cell? ⟨gb655, 2, none⟩ = some (.int .i64 0) := (blk_cell BK655.out 2).trans rfl; have hfz22_0 := blk_frozen BK655.out 0; have hfz22_1 := blk_frozen BK655.out 1; have hfz22_2 := blk_frozen BK655.out 2))
       go_roundg k1
       case measure => have := HK1.out; omega
       case rel => exact ⟨(x7_1), (wrap64 (x15_1 + 1)), (by first | rfl | (simp; done) | (simp [*]; done)), (by first | rfl | (simp; done) | (simp [*]; done)), H', ⟨by have := HK1.out; omega⟩, ⟨by (with_reducible repeat apply Kd.R_alloc); exact Kd.R_mono (Kd.R_far (p := ⟨gb655, 2, none⟩) (Kd.R_far (p := ⟨gb655, 1, none⟩) (Kd.R_far (p := ⟨gb655, 0, none⟩) (Kd.R_mono HO_13.out (fun k_ hk => (⟨hk, hk.2⟩ : _ ∧ k_ ≠ gb655))) (fun _ hk => hk.2) (.int .i64 ((rd_T38 t651 x15_1).f0))) (fun _ hk => hk.2) (.int .i64 ((rd_T38 t651 x15_1).f1))) (fun _ hk => hk.2) (.int .i64 ((rd_T38 t651 x15_1).f2))) (fun _ hk => trivial)⟩, ⟨by (with_reducible repeat apply blk_alloc); refine blk_far ?_ NB647_655.out _; (with_reducible repeat apply blk_alloc); refine blk_far ?_ NB647_655.out _; (with_reducible repeat apply blk_alloc); refine blk_far ?_ NB647_655.out _; (with_reducible repeat apply blk_alloc); exact BK647.out⟩, ⟨by repeat first | exact HB.out | with_reducible refine below_setA ?_ ‹_› | apply below_alloc | apply pw_below_drewN⟩⟩
     ·rw [if_neg c11] at H
      exact absurd H (by simp)
    ·rw [if_neg c10] at H
     exact absurd H (by simp)
   ·rw [if_neg c9] at H
    have c9b0 : decide (x15_1 < (t651.length : Int)) = false := decide_eq_false c9
    clear c9
    obtain rfl := Option.some.inj H
    go_wp2
    go_ret
    exact ⟨by first | rfl | (simp [errW_none, errW_some] <;> rfl) | (simp [*, errW_none, errW_some] <;> rfl) | (exfalso; simp_all; done), by repeat first | exact HB.out | with_reducible refine below_setA ?_ ‹_› | apply below_alloc | apply pw_below_drewN⟩
end Go.Proofs.Yteapnipnoadejaa.P
