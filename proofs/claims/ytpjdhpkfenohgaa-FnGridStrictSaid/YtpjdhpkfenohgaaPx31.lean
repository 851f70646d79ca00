/- PROVED: contracts of functions; written by this session's driver (pk.py). No condition. -/
import Derived.Test.YtpjdhpkfenohgaaPx0
import Derived.Test.YtpjdhpkfenohgaaPx28
namespace Go.Proofs.Ytpjdhpkfenohgaa.P
open Go.RowKit Go.Proofs.YtpjdhpkfenohgaaW.PrintWords Go.Proofs.YtpjdhpkfenohgaaW.PrintLast Go.Proofs.YtpjdhpkfenohgaaW.PrintMore
attribute [local go_sem] max2_int min2_int max_two min_two max_three min_three max_four min_four   -- for this text's walks alone
set_option linter.unusedVariables false
set_option linter.unusedSimpArgs false

/-! ### spec_l1Cell: function 35 -/
mutual
def spec_l1Cell.j0 : Nat → Int → Bool → Option (Int × Int)
  | 0, _, _ => none
  | k + 1, x0, x10 => if x10 = true then (some (7, (x0 - 48) % 256)) else ((spec_l1Signs.f).bind fun t167 => (spec_l1Cell.l0 k x0 t167 0))
def spec_l1Cell.l0 : Nat → Int → ByteArray → Int → Option (Int × Int)
  | 0, _, _, _ => none
  | k + 1, x0, x3, x4 => if x4 < (x3.size : Int) then (if 0 ≤ x4 then (if (bt x3 x4) = x0 then (some (x4, 0)) else (spec_l1Cell.l0 k x0 x3 (wrap64 (x4 + 1)))) else (none)) else (some ((-1), 0))
end
def spec_l1Cell.f (k : Nat) (a0 : Int) : Option (Int × Int) := if a0 ≥ 49 then (spec_l1Cell.j0 k a0 (decide (a0 ≤ 57))) else (spec_l1Cell.j0 k a0 false)
set_option maxHeartbeats 8000000 in
set_option maxRecDepth 100000 in
theorem spec_l1Cell.calls (k : Nat) (a0 : Int) (r1 : Int) (r2 : Int) (w : World) (h : spec_l1Cell.f k a0 = some (r1, r2)) :
    Calls Try.prog 35 #[.int .u8 a0] w fun e w' => e = .returned (.agg #[.int .i64 r1, .int .i64 r2]) ∧ Below w.heap.size w w' := by
  have hu39 := Try.underlying39
  have HB := Aside0.mk (Below.refl w.heap.size w)
  have H : (if a0 ≥ 49 then (spec_l1Cell.j0 k a0 (decide (a0 ≤ 57))) else (spec_l1Cell.j0 k a0 false)) = some (r1, r2) := h
  clear h
  have HC2 := Aside0.mk H
  clear H
  go_enter Try.func35, Try.ntmps35
  go_upto_region 1 with (first | ((with_reducible refine gate_dst (N := 2) rfl ?_); refine box_event rfl (N := 2) rfl (cs := #[.int .i64 0, .int .i64 0]) (t := 39) ?hr ?_; (case hr => first | (go_simp; done) | (go_simp; rfl)); intro gb166 hg w3 hbox hb; have n0_ := Aside0.mk (below_step (by repeat first | exact HB.out | apply below_alloc | apply pw_below_drewN) hb); have n1_ := Aside0.mk (hbox); have n2_ := Aside0.mk ((by rw [hg]; exact (below_size (by repeat first | exact HB.out | apply below_alloc | apply pw_below_drewN)) : w.heap.size ≤ gb166)); have n3_ := n2_; clear HB; have HB := n0_; have BK166 := n1_; have GW166 := n2_; have GE166 := n3_; clear n0_ n1_ n2_ n3_; clear hb hbox hg))
  (try simp only [Act.put, List.setIfInBounds_toArray, List.set_cons_zero, List.set_cons_succ])
  go_cut [10] (fun v10 wc => ∃ (kq : Nat) (x10_1 : Bool), v10 = .bool x10_1 ∧ Aside0 (spec_l1Cell.j0 kq a0 x10_1 = some (r1, r2)) ∧ Aside0 (kq ≤ k) ∧ Aside0 (wc.heap[gb166]? = some (.cells #[.int .i64 0, .int .i64 0] 39 (0, 0))) ∧ Aside0 (Below w.heap.size w wc))
  case first =>
    have H := HC2.out
    clear HC2
    by_cases c4 : a0 ≥ 49
    · rw [if_pos c4] at H
      have c4b0 : decide (49 ≤ a0) = true := decide_eq_true c4
      clear c4
      (first | rw [c4b0] | (simp only [i64_w, i32_w]; rw [c4b0]) | skip)
      have H' := Aside0.mk H
      clear H
      go_wp2
      go_meet
      case rel => exact ⟨_, (decide (a0 ≤ 57)), (by first | rfl | (simp; done) | (simp [*]; done)), H', ⟨by first | omega | exact Nat.le_refl _⟩, ⟨by (with_reducible repeat apply blk_alloc); exact BK166.out⟩, ⟨by repeat first | exact HB.out | with_reducible refine below_setA ?_ ‹_› | apply below_alloc | apply pw_below_drewN⟩⟩
    · rw [if_neg c4] at H
      have c4b0 : decide (49 ≤ a0) = false := decide_eq_false c4
      clear c4
      (first | rw [c4b0] | (simp only [i64_w, i32_w]; rw [c4b0]) | skip)
      have H' := Aside0.mk H
      clear H
      go_wp2
      go_meet
      case rel => exact ⟨_, (false), (by first | rfl | (simp; done) | (simp [*]; done)), H', ⟨by first | omega | exact Nat.le_refl _⟩, ⟨by (with_reducible repeat apply blk_alloc); exact BK166.out⟩, ⟨by repeat first | exact HB.out | with_reducible refine below_setA ?_ ‹_› | apply below_alloc | apply pw_below_drewN⟩⟩
  case rest =>
    clear HC2
    try clear p2
    try clear c3
    try clear c4
    try clear c4b0
    obtain ⟨kq, x10_1, rfl, HA, HJ1, BK166, HB⟩ := hcut
    cases kq with
    | zero => exact absurd HA.out (by simp [spec_l1Cell.j0])
    | succ kj1 =>
      have H := HA.out
      clear HA
      simp only [spec_l1Cell.j0] at H
      by_cases c5 : x10_1 = true
      · subst c5
        have H1 : (some (7, (a0 - 48) % 256)) = some (r1, r2) := by rw [if_pos rfl] at H; exact H
        clear H
        have H := H1
        clear H1
        simp only [Option.some.injEq, Prod.mk.injEq] at H
        obtain ⟨rfl, rfl⟩ := H
        have hcz6_0 : wc.cell? ⟨gb166, 0, none⟩ = some (.int .i64 0) := (blk_cell BK166.out 0).trans rfl
        have hcz6_1 : wc.cell? ⟨gb166, 1, none⟩ = some (.int .i64 0) := (blk_cell BK166.out 1).trans rfl
        have hfz6_0 := blk_frozen BK166.out 0
        have hfz6_1 := blk_frozen BK166.out 1
        go_wp2
        refine bodyPost_ret (results_cell_row rfl _ _ gb166 39 #[.int .i64 7, .int .i64 ((a0 - 48) % 256)] (0, 0) _ rfl (by (with_reducible repeat apply blk_alloc); refine blk_put (cs := #[.int .i64 7, .int .i64 0]) ?_ 1 _ rfl; (with_reducible repeat apply blk_alloc); refine blk_put (cs := #[.int .i64 0, .int .i64 0]) ?_ 0 _ rfl; (with_reducible repeat apply blk_alloc); exact BK166.out) Try.underlying39 rfl (by kernel_rfl)) rfl ?_
        exact ⟨by first | rfl | (simp [errW_none, errW_some] <;> rfl) | (simp [*, errW_none, errW_some] <;> rfl) | (exfalso; simp_all; done), by repeat first | exact HB.out | with_reducible refine below_setA ?_ ‹_› | apply below_alloc | apply pw_below_drewN⟩
      · replace c5 := Bool.eq_false_iff.mpr c5
        subst c5
        have H1 : ((spec_l1Signs.f).bind fun t167 => (spec_l1Cell.l0 kj1 a0 t167 0)) = some (r1, r2) := by rw [if_neg (show ¬ (false = true) by decide)] at H; exact H
        clear H
        have H := H1
        clear H1
        replace H := Option.bind_eq_some_iff.mp H
        obtain ⟨t167, A70, H⟩ := H
        replace H : (spec_l1Cell.l0 kj1 a0 t167 0) = some (r1, r2) := H
        have A7 := Aside0.mk A70
        clear A70
        have H' := Aside0.mk H
        clear H
        go_wp2_with (first | ((with_reducible refine gate_callee (f := 48) rfl ?_); refine goesL_ (some 15) rfl rfl Try.func48 (by kernel_rfl) rfl #[] rfl (by first | rfl | (simp only [List.map_toArray, List.map_cons, List.map_nil, List.length_drop, List.length_take]; try rfl)) ?_; (with_reducible refine (spec_l1Signs.calls  t167 _ A7.out).mono ?_); rintro e w' ⟨rfl, ⟨nd, rfl⟩⟩; refine ⟨_, rfl, ?_⟩))
        go_loopg [4] kj1 (fun kq v4 w' => ∃ (x4_2 : Int) (x167000_2 : Int) (x167001_2 : Int), v4 = .int .i64 x4_2 ∧ Aside0 (spec_l1Cell.l0 kq a0 t167 x4_2 = some (r1, r2)) ∧ Aside0 (kq ≤ kj1) ∧ Aside0 (w'.heap[gb166]? = some (.cells #[.int .i64 x167000_2, .int .i64 x167001_2] 39 (0, 0))) ∧ Aside0 (Below w.heap.size w w'))
        case atStart => exact ⟨(0), (0), (0), (by first | rfl | (simp; done) | (simp [*]; done)), H', ⟨Nat.le_refl _⟩, ⟨by (with_reducible repeat apply blk_alloc); exact BK166.out⟩, ⟨by repeat first | exact HB.out | with_reducible refine below_setA ?_ ‹_› | apply below_alloc | apply pw_below_drewN⟩⟩
        case round =>
          clear H'
          try clear p2
          try clear c3
          try clear c4
          try clear c4b0
          try clear c5
          try clear hcz6_0
          try clear hcz6_1
          try clear hfz6_0
          try clear hfz6_1
          try clear p2
          obtain ⟨x4_2, x167000_2, x167001_2, rfl, HA, HK2, BK166, HB⟩ := hrel
          cases gk with
          | zero => exact absurd HA.out (by simp [spec_l1Cell.l0])
          | succ k2 =>
            have H := HA.out
            clear HA
            simp only [spec_l1Cell.l0] at H
            by_cases c8 : x4_2 < (t167.size : Int)
            · rw [if_pos c8] at H
              have c8b0 : decide (x4_2 < (t167.size : Int)) = true := decide_eq_true c8
              clear c8
              by_cases c9 : 0 ≤ x4_2
              · rw [if_pos c9] at H
                have c9b0 : decide (0 ≤ x4_2) = true := decide_eq_true c9
                clear c9
                by_cases c11 : (bt t167 x4_2) = a0
                · rw [if_pos c11] at H
                  have c11b0 : ((bt t167 x4_2) == a0) = true := beq_iff_eq.mpr c11
                  have c11b1 : ((bt t167 x4_2) != a0) = false := bne_eq_false_iff_eq.mpr c11
                  clear c11
                  simp only [Option.some.injEq, Prod.mk.injEq] at H
                  obtain ⟨rfl, rfl⟩ := H
                  have p10 : 0 ≤ (x4_2 : Int) := of_decide_eq_true (by first | (with_reducible assumption) | assumption)
                  have q10 : x4_2 < (t167.size : Int) := of_decide_eq_true (by first | (with_reducible assumption) | assumption)
                  have hx10 := bt_at t167 x4_2
                  replace p10 := eq_true p10
                  replace q10 := eq_true q10
                  have hcz12_0 : wr.cell? ⟨gb166, 0, none⟩ = some (.int .i64 x167000_2) := (blk_cell BK166.out 0).trans rfl
                  have hcz12_1 : wr.cell? ⟨gb166, 1, none⟩ = some (.int .i64 x167001_2) := (blk_cell BK166.out 1).trans rfl
                  have hfz12_0 := blk_frozen BK166.out 0
                  have hfz12_1 := blk_frozen BK166.out 1
                  go_wp2
                  refine bodyPost_ret (results_cell_row rfl _ _ gb166 39 #[.int .i64 x4_2, .int .i64 0] (0, 0) _ rfl (by (with_reducible repeat apply blk_alloc); refine blk_put (cs := #[.int .i64 x4_2, .int .i64 x167001_2]) ?_ 1 _ rfl; (with_reducible repeat apply blk_alloc); refine blk_put (cs := #[.int .i64 x167000_2, .int .i64 x167001_2]) ?_ 0 _ rfl; (with_reducible repeat apply blk_alloc); exact BK166.out) Try.underlying39 rfl (by kernel_rfl)) rfl ?_
                  exact ⟨by first | rfl | (simp [errW_none, errW_some] <;> rfl) | (simp [*, errW_none, errW_some] <;> rfl) | (exfalso; simp_all; done), by repeat first | exact HB.out | with_reducible refine below_setA ?_ ‹_› | apply below_alloc | apply pw_below_drewN⟩
                · rw [if_neg c11] at H
                  have c11b0 : ((bt t167 x4_2) == a0) = false := beq_eq_false_iff_ne.mpr c11
                  have c11b1 : ((bt t167 x4_2) != a0) = true := bne_iff_ne.mpr c11
                  have H' := Aside0.mk H
                  clear H
                  have p10 : 0 ≤ (x4_2 : Int) := of_decide_eq_true (by first | (with_reducible assumption) | assumption)
                  have q10 : x4_2 < (t167.size : Int) := of_decide_eq_true (by first | (with_reducible assumption) | assumption)
                  have hx10 := bt_at t167 x4_2
                  replace p10 := eq_true p10
                  replace q10 := eq_true q10
                  go_wp2
                  go_roundg k2
                  case measure => have := HJ1.out; have := HK2.out; omega
                  case rel => exact ⟨(wrap64 (x4_2 + 1)), (x167000_2), (x167001_2), (by first | rfl | (simp; done) | (simp [*]; done)), H', ⟨by have := HJ1.out; have := HK2.out; omega⟩, ⟨by (with_reducible repeat apply blk_alloc); exact BK166.out⟩, ⟨by repeat first | exact HB.out | with_reducible refine below_setA ?_ ‹_› | apply below_alloc | apply pw_below_drewN⟩⟩
              · rw [if_neg c9] at H
                exact absurd H (by simp)
            · rw [if_neg c8] at H
              have c8b0 : decide (x4_2 < (t167.size : Int)) = false := decide_eq_false c8
              clear c8
              simp only [Option.some.injEq, Prod.mk.injEq] at H
              obtain ⟨rfl, rfl⟩ := H
              have hcz13_0 : wr.cell? ⟨gb166, 0, none⟩ = some (.int .i64 x167000_2) := (blk_cell BK166.out 0).trans rfl
              have hcz13_1 : wr.cell? ⟨gb166, 1, none⟩ = some (.int .i64 x167001_2) := (blk_cell BK166.out 1).trans rfl
              have hfz13_0 := blk_frozen BK166.out 0
              have hfz13_1 := blk_frozen BK166.out 1
              go_wp2
              refine bodyPost_ret (results_cell_row rfl _ _ gb166 39 #[.int .i64 (-1), .int .i64 0] (0, 0) _ rfl (by (with_reducible repeat apply blk_alloc); refine blk_put (cs := #[.int .i64 (-1), .int .i64 x167001_2]) ?_ 1 _ rfl; (with_reducible repeat apply blk_alloc); refine blk_put (cs := #[.int .i64 x167000_2, .int .i64 x167001_2]) ?_ 0 _ rfl; (with_reducible repeat apply blk_alloc); exact BK166.out) Try.underlying39 rfl (by kernel_rfl)) rfl ?_
              exact ⟨by first | rfl | (simp [errW_none, errW_some] <;> rfl) | (simp [*, errW_none, errW_some] <;> rfl) | (exfalso; simp_all; done), by repeat first | exact HB.out | with_reducible refine below_setA ?_ ‹_› | apply below_alloc | apply pw_below_drewN⟩

end Go.Proofs.Ytpjdhpkfenohgaa.P
