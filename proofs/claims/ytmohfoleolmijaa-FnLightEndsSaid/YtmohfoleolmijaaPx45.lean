/- PROVED: contracts of functions; No condition. -/
import Derived.Test.YtmohfoleolmijaaPx0
namespace Go.Proofs.Ytmohfoleolmijaa.P
open Go.RowKit Go.Proofs.YtmohfoleolmijaaW
set_option linter.unusedVariables false
set_option linter.unusedSimpArgs false
def spec_l11Light.l0 : Nat -> List (S48) -> Int -> Int -> Int -> List (S57) -> Option (Int)
  | 0, _, _, _, _, _ => none
  | k + 1, x1, x5, x6, x414000, x414001 => if x6 < (x1.length : Int) then (if 0 <= x6 then (if ((rd_T48 x1 x6).f0) = 2 then (if 0 <= ((rd_T48 x1 x6).f1) then (if ((rd_T48 x1 x6).f1) < (x414001.length : Int) then (spec_l11Light.l0 k x1 (wrap64 (x5 + (wrap64 (((rd_T48 x1 x6).f2) * ((rd_T57 x414001 ((rd_T48 x1 x6).f1)).f1))))) (wrap64 (x6 + 1)) x414000 x414001) else (none)) else (none)) else (spec_l11Light.l0 k x1 x5 (wrap64 (x6 + 1)) x414000 x414001)) else (none)) else (some x5)
def spec_l11Light.f (k : Nat) (a0_0 : Int) (l0_1 : List (S57)) (l1 : List (S48)) : Option (Int) := spec_l11Light.l0 k l1 0 0 a0_0 l0_1
set_option maxHeartbeats 8000000 in
set_option maxRecDepth 100000 in
theorem spec_l11Light.calls (k : Nat) (a0_0 : Int) (A0_1 : Option Addr) (c0_1 : Nat) (l0_1 : List (S57)) (A1 : Option Addr) (c1 : Nat) (l1 : List (S48)) (r : Int) (w : World) (hr0_1 : Kd.C k57 w A0_1 l0_1.length l0_1) (hc0_1 : l0_1.length <= c0_1) (hr1 : Kd.C k48 w A1 l1.length l1) (hc1 : l1.length <= c1) (h : spec_l11Light.f k a0_0 l0_1 l1 = some r) :
    Calls Try.prog 44 #[.agg #[.int .i64 a0_0, .slice A0_1 l0_1.length c0_1], .slice A1 l1.length c1] w fun e w' => e = .returned (.int .i64 r) ∧ Below w.heap.size w w' := by
  have hu30 := Try.underlying30
  have HR0_1 := Aside0.mk hr0_1
  have HC0_1 := Aside0.mk hc0_1
  clear hr0_1 hc0_1
  have HR1 := Aside0.mk hr1
  have HC1 := Aside0.mk hc1
  clear hr1 hc1
  have HB := Aside0.mk (Below.refl w.heap.size w)
  have H : (spec_l11Light.l0 k l1 0 0 a0_0 l0_1) = some r := h
  clear h
  have H' := Aside0.mk H
  clear H
  go_enter Try.func44, Try.ntmps44
  go_wp2_with (first | ((with_reducible refine gate_dst (N := 2) rfl ?_); refine box_event rfl (N := 2) rfl (cs := #[.int .i64 a0_0, .slice A0_1 l0_1.length c0_1]) (t := 30) ?hr ?_; (case hr => first | (go_simp; done) | (go_simp; rfl)); intro gb413 hg w3 hbox hb; have n0_ := Aside0.mk (below_step (by repeat first | exact HB.out | apply below_alloc | apply pw_below_drewN) hb); have n1_ := Aside0.mk (hbox); have n2_ := Aside0.mk ((by rw [hg]; exact (below_size (by repeat first | exact HB.out | apply below_alloc | apply pw_below_drewN)) : w.heap.size <= gb413)); have n3_ := n2_; clear HB; have HB := n0_; have BK413 := n1_; have GW413 := n2_; have GE413 := n3_; clear n0_ n1_ n2_ n3_; clear hb hbox hg))
  repeat (go_quiet (first | ((with_reducible refine gate_dst (N := 2) rfl ?_); refine box_event rfl (N := 2) rfl (cs := #[.int .i64 a0_0, .slice A0_1 l0_1.length c0_1]) (t := 30) ?hr ?_; (case hr => first | (go_simp; done) | (go_simp; rfl)); intro gb413 hg w3 hbox hb; have n0_ := Aside0.mk (below_step (by repeat first | exact HB.out | apply below_alloc | apply pw_below_drewN) hb); have n1_ := Aside0.mk (hbox); have n2_ := Aside0.mk ((by rw [hg]; exact (below_size (by repeat first | exact HB.out | apply below_alloc | apply pw_below_drewN)) : w.heap.size <= gb413)); have n3_ := n2_; clear HB; have HB := n0_; have BK413 := n1_; have GW413 := n2_; have GE413 := n3_; clear n0_ n1_ n2_ n3_; clear hb hbox hg)); try go_wp2_with (first | ((with_reducible refine gate_dst (N := 2) rfl ?_); refine box_event rfl (N := 2) rfl (cs := #[.int .i64 a0_0, .slice A0_1 l0_1.length c0_1]) (t := 30) ?hr ?_; (case hr => first | (go_simp; done) | (go_simp; rfl)); intro gb413 hg w3 hbox hb; have n0_ := Aside0.mk (below_step (by repeat first | exact HB.out | apply below_alloc | apply pw_below_drewN) hb); have n1_ := Aside0.mk (hbox); have n2_ := Aside0.mk ((by rw [hg]; exact (below_size (by repeat first | exact HB.out | apply below_alloc | apply pw_below_drewN)) : w.heap.size <= gb413)); have n3_ := n2_; clear HB; have HB := n0_; have BK413 := n1_; have GW413 := n2_; have GE413 := n3_; clear n0_ n1_ n2_ n3_; clear hb hbox hg)))
  go_loopg [5, 6] k (fun kq v5 v6 w' => ∃ (x5_1 : Int) (x6_1 : Int), v5 = .int .i64 x5_1 ∧ v6 = .int .i64 x6_1 ∧ Aside0 (spec_l11Light.l0 kq l1 x5_1 x6_1 a0_0 l0_1 = some r) ∧ Aside0 (kq <= k) ∧ Aside0 (w'.heap[gb413]? = some (.cells #[.int .i64 a0_0, (.slice A0_1 l0_1.length c0_1)] 30 (0, 0))) ∧ Aside0 (Below w.heap.size w w'))
  case atStart => exact ⟨(0), (0), (by first | rfl | (simp; done) | (simp [*]; done)), (by first | rfl | (simp; done) | (simp [*]; done)), H', ⟨Nat.le_refl _⟩, ⟨by (with_reducible repeat apply blk_alloc); exact BK413.out⟩, ⟨by repeat first | exact HB.out | with_reducible refine below_setA ?_ ‹_› | apply below_alloc | apply pw_below_drewN⟩⟩
  case round =>
    clear H'
    try clear c1
    try clear p2
    obtain ⟨x5_1, x6_1, rfl, rfl, HA, HK1, BK413, HB⟩ := hrel
    cases gk with
    | zero => exact absurd HA.out (by simp [spec_l11Light.l0])
    | succ k1 =>
      have H := HA.out
      clear HA
      simp only [spec_l11Light.l0] at H
      by_cases c4 : x6_1 < (l1.length : Int)
      · rw [if_pos c4] at H
        have c4b0 : decide (x6_1 < (l1.length : Int)) = true := decide_eq_true c4
        clear c4
        by_cases c5 : 0 <= x6_1
        · rw [if_pos c5] at H
          have c5b0 : decide (0 <= x6_1) = true := decide_eq_true c5
          clear c5
          by_cases c6 : ((rd_T48 l1 x6_1).f0) = 2
          · rw [if_pos c6] at H
            have c6b0 : (((rd_T48 l1 x6_1).f0) == 2) = true := beq_iff_eq.mpr c6
            have c6b1 : (((rd_T48 l1 x6_1).f0) != 2) = false := bne_eq_false_iff_eq.mpr c6
            clear c6
            by_cases c7 : 0 <= ((rd_T48 l1 x6_1).f1)
            · rw [if_pos c7] at H
              have c7b0 : decide (0 <= ((rd_T48 l1 x6_1).f1)) = true := decide_eq_true c7
              clear c7
              by_cases c8 : ((rd_T48 l1 x6_1).f1) < (l0_1.length : Int)
              · rw [if_pos c8] at H
                have c8b0 : decide (((rd_T48 l1 x6_1).f1) < (l0_1.length : Int)) = true := decide_eq_true c8
                clear c8
                have H' := Aside0.mk H
                clear H
                have p414 : 0 <= (x6_1 : Int) := of_decide_eq_true (by first | (with_reducible assumption) | assumption)
                have q414 : x6_1 < (l1.length : Int) := of_decide_eq_true (by first | (with_reducible assumption) | assumption)
                obtain ⟨ad414, e414, hx414_0, hx414_1, hx414_2⟩ := at_T48 HR1.out x6_1 p414 q414
                cases e414
                replace hx414_0 := (HB.out.cell (World.block_lt_of_cell? w _ hx414_0)).trans hx414_0
                replace hx414_1 := (HB.out.cell (World.block_lt_of_cell? w _ hx414_1)).trans hx414_1
                replace hx414_2 := (HB.out.cell (World.block_lt_of_cell? w _ hx414_2)).trans hx414_2
                replace p414 := eq_true p414
                replace q414 := eq_true q414
                have p415 : 0 <= (x6_1 : Int) := of_decide_eq_true (by first | (with_reducible assumption) | assumption)
                have q415 : x6_1 < (l1.length : Int) := of_decide_eq_true (by first | (with_reducible assumption) | assumption)
                obtain ⟨ad415, e415, hx415_0, hx415_1, hx415_2⟩ := at_T48 HR1.out x6_1 p415 q415
                obtain rfl : ad414 = ad415 := (by injection e415)
                replace hx415_0 := (HB.out.cell (World.block_lt_of_cell? w _ hx415_0)).trans hx415_0
                replace hx415_1 := (HB.out.cell (World.block_lt_of_cell? w _ hx415_1)).trans hx415_1
                replace hx415_2 := (HB.out.cell (World.block_lt_of_cell? w _ hx415_2)).trans hx415_2
                replace p415 := eq_true p415
                replace q415 := eq_true q415
                have hcz9_0 : wr.cell? ⟨gb413, 0, none⟩ = some (.int .i64 a0_0) := (blk_cell BK413.out 0).trans rfl
                have hcz9_1 : wr.cell? ⟨gb413, 1, none⟩ = some (.slice A0_1 l0_1.length c0_1) := (blk_cell BK413.out 1).trans rfl
                have hfz9_0 := blk_frozen BK413.out 0
                have hfz9_1 := blk_frozen BK413.out 1
                have p416 : 0 <= (x6_1 : Int) := of_decide_eq_true (by first | (with_reducible assumption) | assumption)
                have q416 : x6_1 < (l1.length : Int) := of_decide_eq_true (by first | (with_reducible assumption) | assumption)
                obtain ⟨ad416, e416, hx416_0, hx416_1, hx416_2⟩ := at_T48 HR1.out x6_1 p416 q416
                obtain rfl : ad414 = ad416 := (by injection e416)
                replace hx416_0 := (HB.out.cell (World.block_lt_of_cell? w _ hx416_0)).trans hx416_0
                replace hx416_1 := (HB.out.cell (World.block_lt_of_cell? w _ hx416_1)).trans hx416_1
                replace hx416_2 := (HB.out.cell (World.block_lt_of_cell? w _ hx416_2)).trans hx416_2
                replace p416 := eq_true p416
                replace q416 := eq_true q416
                have p417 : 0 <= (((rd_T48 l1 x6_1).f1) : Int) := of_decide_eq_true (by first | (with_reducible assumption) | assumption)
                have q417 : ((rd_T48 l1 x6_1).f1) < (l0_1.length : Int) := of_decide_eq_true (by first | (with_reducible assumption) | assumption)
                obtain ⟨ad417, e417, hx417_0, hx417_1⟩ := at_T57 HR0_1.out ((rd_T48 l1 x6_1).f1) p417 q417
                cases e417
                replace hx417_0 := (HB.out.cell (World.block_lt_of_cell? w _ hx417_0)).trans hx417_0
                replace hx417_1 := (HB.out.cell (World.block_lt_of_cell? w _ hx417_1)).trans hx417_1
                replace p417 := eq_true p417
                replace q417 := eq_true q417
                go_wp2
                repeat (go_quiet (fail); try go_wp2)
                go_roundg k1
                case measure => have := HK1.out; omega
                case rel => exact ⟨(wrap64 (x5_1 + (wrap64 (((rd_T48 l1 x6_1).f2) * ((rd_T57 l0_1 ((rd_T48 l1 x6_1).f1)).f1))))), (wrap64 (x6_1 + 1)), (by first | rfl | (simp; done) | (simp [*]; done)), (by first | rfl | (simp; done) | (simp [*]; done)), H', ⟨by have := HK1.out; omega⟩, ⟨by (with_reducible repeat apply blk_alloc); exact BK413.out⟩, ⟨by repeat first | exact HB.out | with_reducible refine below_setA ?_ ‹_› | apply below_alloc | apply pw_below_drewN⟩⟩
              · rw [if_neg c8] at H
                exact absurd H (by simp)
            · rw [if_neg c7] at H
              exact absurd H (by simp)
          · rw [if_neg c6] at H
            have c6b0 : (((rd_T48 l1 x6_1).f0) == 2) = false := beq_eq_false_iff_ne.mpr c6
            have c6b1 : (((rd_T48 l1 x6_1).f0) != 2) = true := bne_iff_ne.mpr c6
            have H' := Aside0.mk H
            clear H
            have p414 : 0 <= (x6_1 : Int) := of_decide_eq_true (by first | (with_reducible assumption) | assumption)
            have q414 : x6_1 < (l1.length : Int) := of_decide_eq_true (by first | (with_reducible assumption) | assumption)
            obtain ⟨ad414, e414, hx414_0, hx414_1, hx414_2⟩ := at_T48 HR1.out x6_1 p414 q414
            cases e414
            replace hx414_0 := (HB.out.cell (World.block_lt_of_cell? w _ hx414_0)).trans hx414_0
            replace hx414_1 := (HB.out.cell (World.block_lt_of_cell? w _ hx414_1)).trans hx414_1
            replace hx414_2 := (HB.out.cell (World.block_lt_of_cell? w _ hx414_2)).trans hx414_2
            replace p414 := eq_true p414
            replace q414 := eq_true q414
            go_wp2
            repeat (go_quiet (fail); try go_wp2)
            go_roundg k1
            case measure => have := HK1.out; omega
            case rel => exact ⟨(x5_1), (wrap64 (x6_1 + 1)), (by first | rfl | (simp; done) | (simp [*]; done)), (by first | rfl | (simp; done) | (simp [*]; done)), H', ⟨by have := HK1.out; omega⟩, ⟨by (with_reducible repeat apply blk_alloc); exact BK413.out⟩, ⟨by repeat first | exact HB.out | with_reducible refine below_setA ?_ ‹_› | apply below_alloc | apply pw_below_drewN⟩⟩
        · rw [if_neg c5] at H
          exact absurd H (by simp)
      · rw [if_neg c4] at H
        have c4b0 : decide (x6_1 < (l1.length : Int)) = false := decide_eq_false c4
        clear c4
        obtain rfl := Option.some.inj H
        go_wp2
        repeat (go_quiet (fail); try go_wp2)
        go_ret
        exact ⟨by first | rfl | (simp [errW_none, errW_some] <;> rfl) | (simp [*, errW_none, errW_some] <;> rfl) | (exfalso; simp_all; done), by repeat first | exact HB.out | with_reducible refine below_setA ?_ ‹_› | apply below_alloc | apply pw_below_drewN⟩
end Go.Proofs.Ytmohfoleolmijaa.P
