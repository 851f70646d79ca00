/- PROVED: contracts of functions; No condition. -/
import Derived.Test.YteapnipnoadejaaPx0
import Derived.Test.YteapnipnoadejaaPx20
import Derived.Test.YteapnipnoadejaaT3Go
namespace Go.Proofs.Yteapnipnoadejaa.P
open Go.RowKit Go.Proofs.YteapnipnoadejaaW
set_option linter.unusedVariables false
set_option linter.unusedSimpArgs false
def spec_TrailTo.l0 : Nat -> Int -> Int -> List (S38) -> Int -> Option (Int)
 | 0, _, _, _, _ => none
 | k + 1, x2, x7, x8, x9 => if x9 < (x8.length : Int) then (if 0 <= x9 then (if ((rd_T38 x8 x9).f0) = 0 then (if ((rd_T38 x8 x9).f1) = x2 then (spec_TrailTo.l0 k x2 (wrap64 (x7 + ((rd_T38 x8 x9).f2))) x8 (wrap64 (x9 + 1))) else (spec_TrailTo.l0 k x2 x7 x8 (wrap64 (x9 + 1)))) else (spec_TrailTo.l0 k x2 x7 x8 (wrap64 (x9 + 1)))) else (none)) else (some x7)
def spec_TrailTo.f (k : Nat) (a0_0 : Int) (l0_1 : List (S42)) (a1 : Int) (a2 : Int) : Option (Int) := (spec_l11Is.f k a0_0 l0_1 a1).bind fun t657 => (if t657 = true then ((spec_l11GoE.f k a0_0 l0_1 a1).bind fun t658 => (spec_TrailTo.l0 k a2 0 t658 0)) else (some 0))
set_option maxHeartbeats 8000000 in
set_option maxRecDepth 100000 in
theorem spec_TrailTo.calls (k : Nat) (a0_0 : Int) (A0_1 : Option Addr) (c0_1 : Nat) (l0_1 : List (S42)) (a1 : Int) (a2 : Int) (r : Int) (w : World) (hr0_1 : Kd.C k42 w A0_1 l0_1.length l0_1) (hc0_1 : l0_1.length <= c0_1) (h : spec_TrailTo.f k a0_0 l0_1 a1 a2 = some r) :
  Calls Try.prog 26 #[.agg #[.int .i64 a0_0, .slice A0_1 l0_1.length c0_1], .int .i64 a1, .int .i64 a2] w fun e w' => e = .returned (.int .i64 r) ∧ Below w.heap.size w w' := by
 have hu25 := Try.underlying25
 have HR0_1 := Aside0.mk hr0_1
 have HC0_1 := Aside0.mk hc0_1
 clear hr0_1 hc0_1
 have HB := Aside0.mk (Below.refl w.heap.size w)
 have H : ((spec_l11Is.f k a0_0 l0_1 a1).bind fun t657 => (if t657 = true then ((spec_l11GoE.f k a0_0 l0_1 a1).bind fun t658 => (spec_TrailTo.l0 k a2 0 t658 0)) else (some 0))) = some r := h
 clear h
 replace H := Option.bind_eq_some_iff.mp H
 obtain ⟨t657, A40, H⟩ := H
 replace H : (if t657 = true then ((spec_l11GoE.f k a0_0 l0_1 a1).bind fun t658 => (spec_TrailTo.l0 k a2 0 t658 0)) else (some 0)) = some r := H
 have A4 := Aside0.mk A40
 clear A40
 by_cases c5 : t657 = true
 ·subst c5
  have H1 : ((spec_l11GoE.f k a0_0 l0_1 a1).bind fun t658 => (spec_TrailTo.l0 k a2 0 t658 0)) = some r := by rw [if_pos rfl] at H; exact H
  clear H
  have H := H1
  clear H1
  replace H := Option.bind_eq_some_iff.mp H
  obtain ⟨t658, A60, H⟩ := H
  replace H : (spec_TrailTo.l0 k a2 0 t658 0) = some r := H
  have A6 := Aside0.mk A60
  clear A60
  have H' := Aside0.mk H
  clear H
  go_enter Try.func26, Try.ntmps26
  go_wp2_with (first | ((with_reducible refine gate_dst (N := 3) rfl ?_); refine box_event rfl (N := 3) rfl (cs := #[.int .i64 a0_0, .slice A0_1 l0_1.length c0_1]) (t := 25) ?hr ?_; (case hr => first | (go_simp; done) | (go_simp; rfl)); intro gb656 hg w7 hbox hb; have n0_ := Aside0.mk (below_step (by repeat first | exact HB.out | apply below_alloc | apply pw_below_drewN) hb); have n1_ := Aside0.mk (hbox); have n2_ := Aside0.mk ((by rw [hg]; exact (below_size (by repeat first | exact HB.out | apply below_alloc | apply pw_below_drewN)) : w.heap.size <= gb656)); have n3_ := n2_; clear HB; have HB := n0_; have BK656 := n1_; have GW656 := n2_; have GE656 := n3_; clear n0_ n1_ n2_ n3_; clear hb hbox hg; have hcz8_0 : w7.cell? ⟨gb656, 0, none⟩ = some (.int .i64 a0_0) := (blk_cell BK656.out 0).trans rfl; have hcz8_1 : w7.cell? ⟨gb656, 1, none⟩ = some (.slice A0_1 l0_1.length c0_1) := (blk_cell BK656.out 1).trans rfl; have hfz8_0 := blk_frozen BK656.out 0; have hfz8_1 := blk_frozen BK656.out 1) | ((with_reducible refine gate_callee (f := 29) rfl ?_); refine goesL_ (some 12) rfl rfl Try.func29 (by kernel_rfl) rfl #[.agg #[.int .i64 a0_0, .slice A0_1 l0_1.length c0_1], .int .i64 a1] rfl (by first | rfl | (simp only [List.map_toArray, List.map_cons, List.map_nil, List.length_drop, List.length_take]; try rfl)) ?_; (with_reducible refine (spec_l11Is.calls k a0_0 _ _ l0_1 a1 true _ ?side1 ?side2 A4.out).mono ?_); (case side1 => repeat (first | exact (Kd.C_below HR0_1.out HB.out) | (with_reducible refine Kd.C_alloc ?_ _) | (with_reducible refine Kd.C_drewN ?_ _) | (with_reducible refine Kd.C_drew ?_))); (case side2 => exact HC0_1.out); rintro e w9 ⟨rfl, hb⟩; refine ⟨_, rfl, ?_⟩; have n0_ := Aside0.mk (blk_below (bK BK656.out) hb); have n1_ := Aside0.mk (below_step (by repeat first | exact HB.out | with_reducible refine below_setA ?_ ‹_› | apply below_alloc | apply pw_below_drewN) hb); clear BK656; clear HB; have BK656 := n0_; have HB := n1_; clear n0_ n1_; (try clear hb); (try clear hb2); (try clear hk); (try clear hi); have hcz10_0 : w9.cell? ⟨gb656, 0, none⟩ = some (.int .i64 a0_0) := (blk_cell BK656.out 0).trans rfl; have hcz10_1 : w9.cell? ⟨gb656, 1, none⟩ = some (.slice A0_1 l0_1.length c0_1) := (blk_cell BK656.out 1).trans rfl; have hfz10_0 := blk_frozen BK656.out 0; have hfz10_1 := blk_frozen BK656.out 1) | ((with_reducible refine gate_callee (f := 30) rfl ?_); refine goesL_ (some 17) rfl rfl Try.func30 (by kernel_rfl) rfl #[.agg #[.int .i64 a0_0, .slice A0_1 l0_1.length c0_1], .int .i64 a1] rfl (by first | rfl | (simp only [List.map_toArray, List.map_cons, List.map_nil, List.length_drop, List.length_take]; try rfl)) ?_; (with_reducible refine (spec_l11GoE.calls k a0_0 _ _ l0_1 a1 t658 _ ?side1 ?side2 A6.out).mono ?_); (case side1 => repeat (first | exact (Kd.C_below HR0_1.out HB.out) | (with_reducible refine Kd.C_alloc ?_ _) | (with_reducible refine Kd.C_drewN ?_ _) | (with_reducible refine Kd.C_drew ?_))); (case side2 => exact HC0_1.out); rintro e w11 ⟨v659, pb_, rfl, hpc_, ho0, hb⟩; refine ⟨_, rfl, ?_⟩; have n0_ := Aside0.mk (Kd.R_lower ho0 (below_size (by repeat first | exact HB.out | with_reducible refine below_setA ?_ ‹_› | apply below_alloc | apply pw_below_drewN))); have n1_ := Aside0.mk (blk_below (bK BK656.out) hb); have n2_ := Aside0.mk (below_step (by repeat first | exact HB.out | with_reducible refine below_setA ?_ ‹_› | apply below_alloc | apply pw_below_drewN) hb); clear BK656; clear HB; have HO660 := n0_; have BK656 := n1_; have HB := n2_; clear n0_ n1_ n2_; (try clear hb); (try clear hb2); (try clear hk); (try clear hi); (try clear ho0)))
  go_loopg [7, 9] k (fun kq v7 v9 w' => ∃ (x7_1 : Int) (x9_1 : Int), v7 = .int .i64 x7_1 ∧ v9 = .int .i64 x9_1 ∧ Aside0 (spec_TrailTo.l0 kq a2 x7_1 t658 x9_1 = some r) ∧ Aside0 (kq <= k) ∧ Aside0 (Kd.R k38 38 w' w.heap.size (fun _ => True) v659 t658) ∧ Aside0 (w'.heap[gb656]? = some (.cells #[.int .i64 a0_0, (.slice A0_1 l0_1.length c0_1)] 25 (0, 0))) ∧ Aside0 (Below w.heap.size w w'))
  case atStart => exact ⟨(0), (0), (by first | rfl | (simp; done) | (simp [*]; done)), (by first | rfl | (simp; done) | (simp [*]; done)), H', ⟨Nat.le_refl _⟩, ⟨by (with_reducible repeat apply Kd.R_alloc); exact HO660.out⟩, ⟨by (with_reducible repeat apply blk_alloc); exact BK656.out⟩, ⟨by repeat first | exact HB.out | with_reducible refine below_setA ?_ ‹_› | apply below_alloc | apply pw_below_drewN⟩⟩
  case round =>
   clear H'
   try clear c2
   try clear p2
   try clear c3
   try clear c5
   try clear hcz10_0
   try clear hcz10_1
   try clear hcz8_0
   try clear hcz8_1
   try clear hfz10_0
   try clear hfz10_1
   try clear hfz8_0
   try clear hfz8_1
   obtain ⟨x7_1, x9_1, rfl, rfl, HA, HK1, HO_8, BK656, HB⟩ := hrel
   cases gk with
   | zero => exact absurd HA.out (by simp [spec_TrailTo.l0])
   | succ k1 =>
    have H := HA.out
    clear HA
    simp only [spec_TrailTo.l0] at H
    by_cases c12 : x9_1 < (t658.length : Int)
    ·rw [if_pos c12] at H
     have c12b0 : decide (x9_1 < (t658.length : Int)) = true := decide_eq_true c12
     clear c12
     by_cases c13 : 0 <= x9_1
     ·rw [if_pos c13] at H
      have c13b0 : decide (0 <= x9_1) = true := decide_eq_true c13
      clear c13
      by_cases c14 : ((rd_T38 t658 x9_1).f0) = 0
      ·rw [if_pos c14] at H
       have c14b0 : (((rd_T38 t658 x9_1).f0) == 0) = true := beq_iff_eq.mpr c14
       have c14b1 : (((rd_T38 t658 x9_1).f0) != 0) = false := bne_eq_false_iff_eq.mpr c14
       clear c14
       by_cases c15 : ((rd_T38 t658 x9_1).f1) = a2
       ·rw [if_pos c15] at H
        have c15b0 : (((rd_T38 t658 x9_1).f1) == a2) = true := beq_iff_eq.mpr c15
        have c15b1 : (((rd_T38 t658 x9_1).f1) != a2) = false := bne_eq_false_iff_eq.mpr c15
        clear c15
        have H' := Aside0.mk H
        clear H
        obtain ⟨Ao16, co16, eo16⟩ := Kd.R_slice HO_8.out
        subst eo16
        have p661 : 0 <= (x9_1 : Int) := of_decide_eq_true (by first | (with_reducible assumption) | assumption)
        have q661 : x9_1 < (t658.length : Int) := of_decide_eq_true (by first | (with_reducible assumption) | assumption)
        obtain ⟨ad661, e661, hx661_0, hx661_1, hx661_2⟩ := at_T38 (Kd.R_reads' HO_8.out).2.2 x9_1 p661 q661
        cases e661
        replace p661 := eq_true p661
        replace q661 := eq_true q661
        have p662 : 0 <= (x9_1 : Int) := of_decide_eq_true (by first | (with_reducible assumption) | assumption)
        have q662 : x9_1 < (t658.length : Int) := of_decide_eq_true (by first | (with_reducible assumption) | assumption)
        obtain ⟨ad662, e662, hx662_0, hx662_1, hx662_2⟩ := at_T38 (Kd.R_reads' HO_8.out).2.2 x9_1 p662 q662
        obtain rfl : ad661 = ad662 := (by injection e662)
        replace p662 := eq_true p662
        replace q662 := eq_true q662
        have p663 : 0 <= (x9_1 : Int) := of_decide_eq_true (by first | (with_reducible assumption) | assumption)
        have q663 : x9_1 < (t658.length : Int) := of_decide_eq_true (by first | (with_reducible assumption) | assumption)
        obtain ⟨ad663, e663, hx663_0, hx663_1, hx663_2⟩ := at_T38 (Kd.R_reads' HO_8.out).2.2 x9_1 p663 q663
        obtain rfl : ad661 = ad663 := (by injection e663)
        replace p663 := eq_true p663
        replace q663 := eq_true q663
        go_wp2
        go_roundg k1
        case measure => have := HK1.out; omega
        case rel => exact ⟨(wrap64 (x7_1 + ((rd_T38 t658 x9_1).f2))), (wrap64 (x9_1 + 1)), (by first | rfl | (simp; done) | (simp [*]; done)), (by first | rfl | (simp; done) | (simp [*]; done)), H', ⟨by have := HK1.out; omega⟩, ⟨by (with_reducible repeat apply Kd.R_alloc); exact HO_8.out⟩, ⟨by (with_reducible repeat apply blk_alloc); exact BK656.out⟩, ⟨by repeat first | exact HB.out | with_reducible refine below_setA ?_ ‹_› | apply below_alloc | apply pw_below_drewN⟩⟩
       ·rw [if_neg c15] at H
        have c15b0 : (((rd_T38 t658 x9_1).f1) == a2) = false := beq_eq_false_iff_ne.mpr c15
        have c15b1 : (((rd_T38 t658 x9_1).f1) != a2) = true := bne_iff_ne.mpr c15
        have H' := Aside0.mk H
        clear H
        obtain ⟨Ao17, co17, eo17⟩ := Kd.R_slice HO_8.out
        subst eo17
        have p661 : 0 <= (x9_1 : Int) := of_decide_eq_true (by first | (with_reducible assumption) | assumption)
        have q661 : x9_1 < (t658.length : Int) := of_decide_eq_true (by first | (with_reducible assumption) | assumption)
        obtain ⟨ad661, e661, hx661_0, hx661_1, hx661_2⟩ := at_T38 (Kd.R_reads' HO_8.out).2.2 x9_1 p661 q661
        cases e661
        replace p661 := eq_true p661
        replace q661 := eq_true q661
        have p662 : 0 <= (x9_1 : Int) := of_decide_eq_true (by first | (with_reducible assumption) | assumption)
        have q662 : x9_1 < (t658.length : Int) := of_decide_eq_true (by first | (with_reducible assumption) | assumption)
        obtain ⟨ad662, e662, hx662_0, hx662_1, hx662_2⟩ := at_T38 (Kd.R_reads' HO_8.out).2.2 x9_1 p662 q662
        obtain rfl : ad661 = ad662 := (by injection e662)
        replace p662 := eq_true p662
        replace q662 := eq_true q662
        go_wp2
        go_roundg k1
        case measure => have := HK1.out; omega
        case rel => exact ⟨(x7_1), (wrap64 (x9_1 + 1)), (by first | rfl | (simp; done) | (simp [*]; done)), (by first | rfl | (simp; done) | (simp [*]; done)), H', ⟨by have := HK1.out; omega⟩, ⟨by (with_reducible repeat apply Kd.R_alloc); exact HO_8.out⟩, ⟨by (with_reducible repeat apply blk_alloc); exact BK656.out⟩, ⟨by repeat first | exact HB.out | with_reducible refine below_setA ?_ ‹_› | apply below_alloc | apply pw_below_drewN⟩⟩
      ·rw [if_neg c14] at H
       have c14b0 : (((rd_T38 t658 x9_1).f0) == 0) = false := beq_eq_false_iff_ne.mpr c14
       have c14b1 : (((rd_T38 t658 x9_1).f0) != 0) = true := bne_iff_ne.mpr c14
       have H' := Aside0.mk H
       clear H
       obtain ⟨Ao18, co18, eo18⟩ := Kd.R_slice HO_8.out
       subst eo18
       have p661 : 0 <= (x9_1 : Int) := of_decide_eq_true (by first | (with_reducible assumption) | assumption)
       have q661 : x9_1 < (t658.length : Int) := of_decide_eq_true (by first | (with_reducible assumption) | assumption)
       obtain ⟨ad661, e661, hx661_0, hx661_1, hx661_2⟩ := at_T38 (Kd.R_reads' HO_8.out).2.2 x9_1 p661 q661
       cases e661
       replace p661 := eq_true p661
       replace q661 := eq_true q661
       go_wp2
       go_roundg k1
       case measure => have := HK1.out; omega
       case rel => exact ⟨(x7_1), (wrap64 (x9_1 + 1)), (by first | rfl | (simp; done) | (simp [*]; done)), (by first | rfl | (simp; done) | (simp [*]; done)), H', ⟨by have := HK1.out; omega⟩, ⟨by (with_reducible repeat apply Kd.R_alloc); exact HO_8.out⟩, ⟨by (with_reducible repeat apply blk_alloc); exact BK656.out⟩, ⟨by repeat first | exact HB.out | with_reducible refine below_setA ?_ ‹_› | apply below_alloc | apply pw_below_drewN⟩⟩
     ·rw [if_neg c13] at H
      exact absurd H (by simp)
    ·rw [if_neg c12] at H
     have c12b0 : decide (x9_1 < (t658.length : Int)) = false := decide_eq_false c12
     clear c12
     obtain rfl := Option.some.inj H
     obtain ⟨Ao19, co19, eo19⟩ := Kd.R_slice HO_8.out
     subst eo19
     go_wp2
     go_ret
     exact ⟨by first | rfl | (simp [errW_none, errW_some] <;> rfl) | (simp [*, errW_none, errW_some] <;> rfl) | (exfalso; simp_all; done), by repeat first | exact HB.out | with_reducible refine below_setA ?_ ‹_› | apply below_alloc | apply pw_below_drewN⟩
 ·replace c5 := Bool.eq_false_iff.mpr c5
  subst c5
  have H1 : (some 0) = some r := by rw [if_neg (show ¬ (false = true) by decide)] at H; exact H
  clear H
  have H := H1
  clear H1
  obtain rfl := Option.some.inj H
  go_enter Try.func26, Try.ntmps26
  go_wp2_with (first | ((with_reducible refine gate_dst (N := 3) rfl ?_); refine box_event rfl (N := 3) rfl (cs := #[.int .i64 a0_0, .slice A0_1 l0_1.length c0_1]) (t := 25) ?hr ?_; (case hr => first | (go_simp; done) | (go_simp; rfl)); intro gb656 hg w20 hbox hb; have n0_ := Aside0.mk (below_step (by repeat first | exact HB.out | apply below_alloc | apply pw_below_drewN) hb); have n1_ := Aside0.mk (hbox); have n2_ := Aside0.mk ((by rw [hg]; exact (below_size (by repeat first | exact HB.out | apply below_alloc | apply pw_below_drewN)) : w.heap.size <= gb656)); have n3_ := n2_; clear HB; have HB := n0_; have BK656 := n1_; have GW656 := n2_; have GE656 := n3_; clear n0_ n1_ n2_ n3_; clear hb hbox hg; have hcz21_0 : w20.cell? ⟨gb656, 0, none⟩ = some (.int .i64 a0_0) := (blk_cell BK656.out 0).trans rfl; have hcz21_1 : w20.cell? ⟨gb656, 1, none⟩ = some (.slice A0_1 l0_1.length c0_1) := (blk_cell BK656.out 1).trans rfl; have hfz21_0 := blk_frozen BK656.out 0; have hfz21_1 := blk_frozen BK656.out 1) | ((with_reducible refine gate_callee (f := 29) rfl ?_); refine goesL_ (some 12) rfl rfl Try.func29 (by kernel_rfl) rfl #[.agg #[.int .i64 a0_0, .slice A0_1 l0_1.length c0_1], .int .i64 a1] rfl (by first | rfl | (simp only [List.map_toArray, List.map_cons, List.map_nil, List.length_drop, List.length_take]; try rfl)) ?_; (with_reducible refine (spec_l11Is.calls k a0_0 _ _ l0_1 a1 false _ ?side1 ?side2 A4.out).mono ?_); (case side1 => repeat (first | exact (Kd.C_below HR0_1.out HB.out) | (with_reducible refine Kd.C_alloc ?_ _) | (with_reducible refine Kd.C_drewN ?_ _) | (with_reducible refine Kd.C_drew ?_))); (case side2 => exact HC0_1.out); rintro e w22 ⟨rfl, hb⟩; refine ⟨_, rfl, ?_⟩; have n0_ := Aside0.mk (blk_below (bK BK656.out) hb); have n1_ := Aside0.mk (below_step (by repeat first | exact HB.out | with_reducible refine below_setA ?_ ‹_› | apply below_alloc | apply pw_below_drewN) hb); clear BK656; clear HB; have BK656 := n0_; have HB := n1_; clear n0_ n1_; (try clear hb); (try clear hb2); (try clear hk); (try clear hi)))
  go_ret
  exact ⟨by first | rfl | (simp [errW_none, errW_some] <;> rfl) | (simp [*, errW_none, errW_some] <;> rfl) | (exfalso; simp_all; done), by repeat first | exact HB.out | with_reducible refine below_setA ?_ ‹_› | apply below_alloc | apply pw_below_drewN⟩
end Go.Proofs.Yteapnipnoadejaa.P
