/- PROVED: contracts of functions; No condition. -/
import Derived.Test.YteapnipnoadejaaPx0
namespace Go.Proofs.Yteapnipnoadejaa.P
open Go.RowKit Go.Proofs.YteapnipnoadejaaW
set_option linter.unusedVariables false
set_option linter.unusedSimpArgs false
mutual
def laws_llKinds.l0 : Nat -> Int -> Int -> Int -> Int -> List (S42) -> Option (Int)
  | 0, _, _, _, _, _ => none
  | k + 1, x1, x5, x6, x339000, x339001 => if x6 < (x339001.length : Int) then (if 0 <= x6 then (if ((rd_T42 x339001 x6).f0) = 3 then (laws_llKinds.j1 k x1 x5 x6 2 x339000 x339001) else (laws_llKinds.j1 k x1 x5 x6 ((rd_T42 x339001 x6).f0) x339000 x339001)) else (none)) else (some x5)
def laws_llKinds.j1 : Nat -> Int -> Int -> Int -> Int -> Int -> List (S42) -> Option (Int)
  | 0, _, _, _, _, _, _ => none
  | k + 1, x1, x5, x6, x7, x339000, x339001 => if x7 = 5 then (if 4 = x1 then (laws_llKinds.l0 k x1 (wrap64 (x5 + 1)) (wrap64 (x6 + 1)) x339000 x339001) else (laws_llKinds.l0 k x1 x5 (wrap64 (x6 + 1)) x339000 x339001)) else (if x7 = x1 then (laws_llKinds.l0 k x1 (wrap64 (x5 + 1)) (wrap64 (x6 + 1)) x339000 x339001) else (laws_llKinds.l0 k x1 x5 (wrap64 (x6 + 1)) x339000 x339001))
end
def laws_llKinds.f (k : Nat) (a0_0 : Int) (l0_1 : List (S42)) (a1 : Int) : Option (Int) := laws_llKinds.l0 k a1 0 0 a0_0 l0_1
set_option maxHeartbeats 8000000 in
set_option maxRecDepth 100000 in
theorem laws_llKinds.calls (k : Nat) (a0_0 : Int) (A0_1 : Option Addr) (c0_1 : Nat) (l0_1 : List (S42)) (a1 : Int) (r : Int) (w : World) (hr0_1 : Kd.C k42 w A0_1 l0_1.length l0_1) (hc0_1 : l0_1.length <= c0_1) (h : laws_llKinds.f k a0_0 l0_1 a1 = some r) :
    Calls Try.prog 32 #[.agg #[.int .i64 a0_0, .slice A0_1 l0_1.length c0_1], .int .i64 a1] w fun e w' => e = .returned (.int .i64 r) ∧ Below w.heap.size w w' := by
  have hu25 := Try.underlying25
  have HR0_1 := Aside0.mk hr0_1
  have HC0_1 := Aside0.mk hc0_1
  clear hr0_1 hc0_1
  have HB := Aside0.mk (Below.refl w.heap.size w)
  have H : (laws_llKinds.l0 k a1 0 0 a0_0 l0_1) = some r := h
  clear h
  have H' := Aside0.mk H
  clear H
  go_enter Try.func32, Try.ntmps32
  go_wp2_with (first | ((with_reducible refine gate_dst (N := 2) rfl ?_); refine box_event rfl (N := 2) rfl (cs := #[.int .i64 a0_0, .slice A0_1 l0_1.length c0_1]) (t := 25) ?hr ?_; (case hr => first | (go_simp; done) | (go_simp; rfl)); intro gb338 hg w3 hbox hb; have n0_ := Aside0.mk (below_step (by repeat first | exact HB.out | apply below_alloc | apply pw_below_drewN) hb); have n1_ := Aside0.mk (hbox); have n2_ := Aside0.mk ((by rw [hg]; exact (below_size (by repeat first | exact HB.out | apply below_alloc | apply pw_below_drewN)) : w.heap.size <= gb338)); have n3_ := n2_; clear HB; have HB := n0_; have BK338 := n1_; have GW338 := n2_; have GE338 := n3_; clear n0_ n1_ n2_ n3_; clear hb hbox hg))
  go_loopg [5, 6] k (fun kq v5 v6 w' => ∃ (x5_1 : Int) (x6_1 : Int), v5 = .int .i64 x5_1 ∧ v6 = .int .i64 x6_1 ∧ Aside0 (laws_llKinds.l0 kq a1 x5_1 x6_1 a0_0 l0_1 = some r) ∧ Aside0 (kq <= k) ∧ Aside0 (w'.heap[gb338]? = some (.cells #[.int .i64 a0_0, (.slice A0_1 l0_1.length c0_1)] 25 (0, 0))) ∧ Aside0 (Below w.heap.size w w'))
  case atStart => exact ⟨(0), (0), (by first | rfl | (simp; done) | (simp [*]; done)), (by first | rfl | (simp; done) | (simp [*]; done)), H', ⟨Nat.le_refl _⟩, ⟨by (with_reducible repeat apply blk_alloc); exact BK338.out⟩, ⟨by repeat first | exact HB.out | with_reducible refine below_setA ?_ ‹_› | apply below_alloc | apply pw_below_drewN⟩⟩
  case round =>
    clear H'
    try clear p2
    try clear c3
    obtain ⟨x5_1, x6_1, rfl, rfl, HA, HK1, BK338, HB⟩ := hrel
    cases gk with
    | zero => exact absurd HA.out (by simp [laws_llKinds.l0])
    | succ k1 =>
      have H := HA.out
      clear HA
      simp only [laws_llKinds.l0] at H
      by_cases c4 : x6_1 < (l0_1.length : Int)
      · rw [if_pos c4] at H
        have c4b0 : decide (x6_1 < (l0_1.length : Int)) = true := decide_eq_true c4
        clear c4
        by_cases c5 : 0 <= x6_1
        · rw [if_pos c5] at H
          have c5b0 : decide (0 <= x6_1) = true := decide_eq_true c5
          clear c5
          have HC6 := Aside0.mk H
          clear H
          have hcz7_0 : wr.cell? ⟨gb338, 0, none⟩ = some (.int .i64 a0_0) := (blk_cell BK338.out 0).trans rfl
          have hcz7_1 : wr.cell? ⟨gb338, 1, none⟩ = some (.slice A0_1 l0_1.length c0_1) := (blk_cell BK338.out 1).trans rfl
          have hfz7_0 := blk_frozen BK338.out 0
          have hfz7_1 := blk_frozen BK338.out 1
          have p339 : 0 <= (x6_1 : Int) := of_decide_eq_true (by first | (with_reducible assumption) | assumption)
          have q339 : x6_1 < (l0_1.length : Int) := of_decide_eq_true (by first | (with_reducible assumption) | assumption)
          obtain ⟨ad339, e339, hx339_0, hx339_1⟩ := at_T42 HR0_1.out x6_1 p339 q339
          cases e339
          replace hx339_0 := (HB.out.cell (World.block_lt_of_cell? w _ hx339_0)).trans hx339_0
          replace hx339_1 := (HB.out.cell (World.block_lt_of_cell? w _ hx339_1)).trans hx339_1
          replace p339 := eq_true p339
          replace q339 := eq_true q339
          go_upto_if 22 with (fail)
          go_cut [7] (fun v7 wc => ∃ (kq : Nat) (x7_5 : Int), v7 = .int .i64 x7_5 ∧ Aside0 (laws_llKinds.j1 kq a1 x5_1 x6_1 x7_5 a0_0 l0_1 = some r) ∧ Aside0 (kq <= k1) ∧ Aside0 (wc.heap[gb338]? = some (.cells #[.int .i64 a0_0, (.slice (some ad339) l0_1.length c0_1)] 25 (0, 0))) ∧ Aside0 (Below w.heap.size w wc))
          case first =>
            have H := HC6.out
            clear HC6
            by_cases c8 : ((rd_T42 l0_1 x6_1).f0) = 3
            · rw [if_pos c8] at H
              have c8b0 : (((rd_T42 l0_1 x6_1).f0) == 3) = true := beq_iff_eq.mpr c8
              have c8b1 : (((rd_T42 l0_1 x6_1).f0) != 3) = false := bne_eq_false_iff_eq.mpr c8
              clear c8
              (first | rw [c8b0] | (simp only [i64_w, i32_w]; rw [c8b0]) | skip)
              have H' := Aside0.mk H
              clear H
              go_wp2
              go_meet
              case rel => exact ⟨_, (2), (by first | rfl | (simp; done) | (simp [*]; done)), H', ⟨by have := HK1.out; first | omega | exact Nat.le_refl _⟩, ⟨by (with_reducible repeat apply blk_alloc); exact BK338.out⟩, ⟨by repeat first | exact HB.out | with_reducible refine below_setA ?_ ‹_› | apply below_alloc | apply pw_below_drewN⟩⟩
            · rw [if_neg c8] at H
              have c8b0 : (((rd_T42 l0_1 x6_1).f0) == 3) = false := beq_eq_false_iff_ne.mpr c8
              have c8b1 : (((rd_T42 l0_1 x6_1).f0) != 3) = true := bne_iff_ne.mpr c8
              (first | rw [c8b0] | (simp only [i64_w, i32_w]; rw [c8b0]) | skip)
              have H' := Aside0.mk H
              clear H
              go_wp2
              go_meet
              case rel => exact ⟨_, ((rd_T42 l0_1 x6_1).f0), (by first | rfl | (simp; done) | (simp [*]; done)), H', ⟨by have := HK1.out; first | omega | exact Nat.le_refl _⟩, ⟨by (with_reducible repeat apply blk_alloc); exact BK338.out⟩, ⟨by repeat first | exact HB.out | with_reducible refine below_setA ?_ ‹_› | apply below_alloc | apply pw_below_drewN⟩⟩
          case rest =>
            clear HC6
            try clear p2
            try clear c3
            try clear p3
            try clear q3
            try clear hx3
            try clear c4
            try clear c4b0
            try clear c5
            try clear c5b0
            try clear c8
            try clear c8b0
            try clear c8b1
            try clear hcz7_0
            try clear hcz7_1
            try clear hfz7_0
            try clear hfz7_1
            try clear hx339_0
            try clear hx339_1
            try clear p2
            try clear p339
            try clear q339
            obtain ⟨kq, x7_5, rfl, HA, HJ5, BK338, HB⟩ := hcut
            cases kq with
            | zero => exact absurd HA.out (by simp [laws_llKinds.j1])
            | succ kj5 =>
              have H := HA.out
              clear HA
              simp only [laws_llKinds.j1] at H
              by_cases c9 : x7_5 = 5
              · rw [if_pos c9] at H
                have c9b0 : (x7_5 == 5) = true := beq_iff_eq.mpr c9
                have c9b1 : (x7_5 != 5) = false := bne_eq_false_iff_eq.mpr c9
                clear c9
                by_cases c10 : 4 = a1
                · rw [if_pos c10] at H
                  have c10b0 : (4 == a1) = true := beq_iff_eq.mpr c10
                  have c10b1 : (4 != a1) = false := bne_eq_false_iff_eq.mpr c10
                  clear c10
                  have H' := Aside0.mk H
                  clear H
                  go_wp2
                  go_roundg kj5
                  case measure => have := HK1.out; have := HJ5.out; omega
                  case rel => exact ⟨(wrap64 (x5_1 + 1)), (wrap64 (x6_1 + 1)), (by first | rfl | (simp; done) | (simp [*]; done)), (by first | rfl | (simp; done) | (simp [*]; done)), H', ⟨by have := HK1.out; have := HJ5.out; omega⟩, ⟨by (with_reducible repeat apply blk_alloc); exact BK338.out⟩, ⟨by repeat first | exact HB.out | with_reducible refine below_setA ?_ ‹_› | apply below_alloc | apply pw_below_drewN⟩⟩
                · rw [if_neg c10] at H
                  have c10b0 : (4 == a1) = false := beq_eq_false_iff_ne.mpr c10
                  have c10b1 : (4 != a1) = true := bne_iff_ne.mpr c10
                  have H' := Aside0.mk H
                  clear H
                  go_wp2
                  go_roundg kj5
                  case measure => have := HK1.out; have := HJ5.out; omega
                  case rel => exact ⟨(x5_1), (wrap64 (x6_1 + 1)), (by first | rfl | (simp; done) | (simp [*]; done)), (by first | rfl | (simp; done) | (simp [*]; done)), H', ⟨by have := HK1.out; have := HJ5.out; omega⟩, ⟨by (with_reducible repeat apply blk_alloc); exact BK338.out⟩, ⟨by repeat first | exact HB.out | with_reducible refine below_setA ?_ ‹_› | apply below_alloc | apply pw_below_drewN⟩⟩
              · rw [if_neg c9] at H
                have c9b0 : (x7_5 == 5) = false := beq_eq_false_iff_ne.mpr c9
                have c9b1 : (x7_5 != 5) = true := bne_iff_ne.mpr c9
                by_cases c11 : x7_5 = a1
                · rw [if_pos c11] at H
                  have c11b0 : (x7_5 == a1) = true := beq_iff_eq.mpr c11
                  have c11b1 : (x7_5 != a1) = false := bne_eq_false_iff_eq.mpr c11
                  clear c11
                  have H' := Aside0.mk H
                  clear H
                  go_wp2
                  go_roundg kj5
                  case measure => have := HK1.out; have := HJ5.out; omega
                  case rel => exact ⟨(wrap64 (x5_1 + 1)), (wrap64 (x6_1 + 1)), (by first | rfl | (simp; done) | (simp [*]; done)), (by first | rfl | (simp; done) | (simp [*]; done)), H', ⟨by have := HK1.out; have := HJ5.out; omega⟩, ⟨by (with_reducible repeat apply blk_alloc); exact BK338.out⟩, ⟨by repeat first | exact HB.out | with_reducible refine below_setA ?_ ‹_› | apply below_alloc | apply pw_below_drewN⟩⟩
                · rw [if_neg c11] at H
                  have c11b0 : (x7_5 == a1) = false := beq_eq_false_iff_ne.mpr c11
                  have c11b1 : (x7_5 != a1) = true := bne_iff_ne.mpr c11
                  have H' := Aside0.mk H
                  clear H
                  go_wp2
                  go_roundg kj5
                  case measure => have := HK1.out; have := HJ5.out; omega
                  case rel => exact ⟨(x5_1), (wrap64 (x6_1 + 1)), (by first | rfl | (simp; done) | (simp [*]; done)), (by first | rfl | (simp; done) | (simp [*]; done)), H', ⟨by have := HK1.out; have := HJ5.out; omega⟩, ⟨by (with_reducible repeat apply blk_alloc); exact BK338.out⟩, ⟨by repeat first | exact HB.out | with_reducible refine below_setA ?_ ‹_› | apply below_alloc | apply pw_below_drewN⟩⟩
        · rw [if_neg c5] at H
          exact absurd H (by simp)
      · rw [if_neg c4] at H
        have c4b0 : decide (x6_1 < (l0_1.length : Int)) = false := decide_eq_false c4
        clear c4
        obtain rfl := Option.some.inj H
        have hcz12_0 : wr.cell? ⟨gb338, 0, none⟩ = some (.int .i64 a0_0) := (blk_cell BK338.out 0).trans rfl
        have hcz12_1 : wr.cell? ⟨gb338, 1, none⟩ = some (.slice A0_1 l0_1.length c0_1) := (blk_cell BK338.out 1).trans rfl
        have hfz12_0 := blk_frozen BK338.out 0
        have hfz12_1 := blk_frozen BK338.out 1
        go_wp2
        go_ret
        exact ⟨by first | rfl | (simp [errW_none, errW_some] <;> rfl) | (simp [*, errW_none, errW_some] <;> rfl) | (exfalso; simp_all; done), by repeat first | exact HB.out | with_reducible refine below_setA ?_ ‹_› | apply below_alloc | apply pw_below_drewN⟩
end Go.Proofs.Yteapnipnoadejaa.P
