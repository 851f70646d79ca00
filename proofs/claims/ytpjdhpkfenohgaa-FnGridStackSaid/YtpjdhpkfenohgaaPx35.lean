/- PROVED: contracts of functions; written by this session's driver (pk.py). No condition. -/
import Derived.Test.YtpjdhpkfenohgaaPx0
import Derived.Test.YtpjdhpkfenohgaaPx34
import Derived.Test.YtpjdhpkfenohgaaH1Index
namespace Go.Proofs.Ytpjdhpkfenohgaa.P
open Go.RowKit Go.Proofs.YtpjdhpkfenohgaaW.PrintWords Go.Proofs.YtpjdhpkfenohgaaW.PrintLast Go.Proofs.YtpjdhpkfenohgaaW.PrintMore
attribute [local go_sem] max2_int min2_int max_two min_two max_three min_three max_four min_four   -- for this text's walks alone
set_option linter.unusedVariables false
set_option linter.unusedSimpArgs false

/-! ### impl_GridRead: function 16 -/
mutual
def impl_GridRead.j0 : Nat → ByteArray → Int → Bool → Option (Int × (List (S39)) × Bool)
 | 0, _, _, _ => none
 | k + 1, x0, x4, x32 => if x32 = true then (some (0, ([] : List (S39)), false)) else (impl_GridRead.l0 k x0 x4 (x0.size : Int) 0 x4 ([] : List (S39)))
def impl_GridRead.l0 : Nat → ByteArray → Int → Int → Int → Int → List (S39) → Option (Int × (List (S39)) × Bool)
 | 0, _, _, _, _, _, _ => none
 | k + 1, x0, x4, x37, x38, x187000, x187001 => if x38 < x37 then (if (wrap64 (x4 + 1)) = 0 then (none) else (if (Int.tmod x38 (wrap64 (x4 + 1))) = x4 then (if 0 ≤ x38 then (if x38 < (x0.size : Int) then (if (bt x0 x38) = 10 then (impl_GridRead.l0 k x0 x4 x37 (wrap64 (x38 + 1)) x187000 x187001) else (some (0, ([] : List (S39)), false))) else (none)) else (none)) else (if 0 ≤ x38 then (if x38 < (x0.size : Int) then ((impl_cellRead.f k (bt x0 x38)).bind fun bt187 => (if bt187.2.2 = true then (if x187001.length < 8796093022208 then (impl_GridRead.l0 k x0 x4 x37 (wrap64 (x38 + 1)) x187000 (x187001 ++ [(⟨bt187.1, bt187.2.1⟩ : S39)])) else (none)) else (some (0, ([] : List (S39)), false)))) else (none)) else (none)))) else (some (x187000, x187001, true))
end
def impl_GridRead.f (k : Nat) (a0 : ByteArray) : Option (Int × (List (S39)) × Bool) := (strings_IndexByte.f a0 10).bind fun t185 => (if t185 < 1 then (impl_GridRead.j0 k a0 t185 true) else (if t185 > 5 then (impl_GridRead.j0 k a0 t185 true) else (if (a0.size : Int) > (wrap64 ((wrap64 (t185 + 1)) * 5)) then (impl_GridRead.j0 k a0 t185 true) else (if (wrap64 (t185 + 1)) = 0 then (none) else (impl_GridRead.j0 k a0 t185 (((a0.size : Int) % (wrap64 (t185 + 1))) != 0))))))
set_option maxHeartbeats 8000000 in
set_option maxRecDepth 100000 in
theorem impl_GridRead.calls (k : Nat) (a0 : ByteArray) (r1 : Int) (r2 : List (S39)) (r3 : Bool) (w : World) (h : impl_GridRead.f k a0 = some (r1, r2, r3)) :
  Calls Try.prog 16 #[.string a0] w fun e w' => ∃ v1_ : Value, e = .returned (.tuple #[.agg #[.int .i64 r1, v1_], .bool r3]) ∧ Kd.R k39 39 w' w.heap.size (fun _ => True) v1_ r2 ∧ Below w.heap.size w w' := by
 have hu29 := Try.underlying29
 have hu39 := Try.underlying39
 have HB := Aside0.mk (Below.refl w.heap.size w)
 have H : ((strings_IndexByte.f a0 10).bind fun t185 => (if t185 < 1 then (impl_GridRead.j0 k a0 t185 true) else (if t185 > 5 then (impl_GridRead.j0 k a0 t185 true) else (if (a0.size : Int) > (wrap64 ((wrap64 (t185 + 1)) * 5)) then (impl_GridRead.j0 k a0 t185 true) else (if (wrap64 (t185 + 1)) = 0 then (none) else (impl_GridRead.j0 k a0 t185 (((a0.size : Int) % (wrap64 (t185 + 1))) != 0))))))) = some (r1, r2, r3) := h
 clear h
 replace H := Option.bind_eq_some_iff.mp H
 obtain ⟨t185, A20, H⟩ := H
 replace H : (if t185 < 1 then (impl_GridRead.j0 k a0 t185 true) else (if t185 > 5 then (impl_GridRead.j0 k a0 t185 true) else (if (a0.size : Int) > (wrap64 ((wrap64 (t185 + 1)) * 5)) then (impl_GridRead.j0 k a0 t185 true) else (if (wrap64 (t185 + 1)) = 0 then (none) else (impl_GridRead.j0 k a0 t185 (((a0.size : Int) % (wrap64 (t185 + 1))) != 0)))))) = some (r1, r2, r3) := H
 have A2 := Aside0.mk A20
 clear A20
 have HC3 := Aside0.mk H
 clear H
 go_enter Try.func16, Try.ntmps16
 go_upto_region 2 with (first | ((with_reducible refine gate_dst (N := 2) rfl ?_); (try (refine gate_guard (by rfl) ?_; dsimp only)); refine box_event rfl (N := 2) rfl (cs := #[.int .i64 0, .slice none 0 0]) (t := 29) ?hr ?_; (case hr => first | (go_simp; done) | (go_simp; rfl)); intro gb184 hg w4 hbox hb; have n0_ := Aside0.mk (below_step (by repeat first | exact HB.out | apply below_alloc | apply pw_below_drewN) hb); have n1_ := Aside0.mk (hbox); have n2_ := Aside0.mk ((by rw [hg]; exact (below_size (by repeat first | exact HB.out | apply below_alloc | apply pw_below_drewN)) : w.heap.size ≤ gb184)); have n3_ := n2_; clear HB; have HB := n0_; have BK184 := n1_; have GW184 := n2_; have GE184 := n3_; clear n0_ n1_ n2_ n3_; clear hb hbox hg) | ((with_reducible refine gate_callee (f := 36) rfl ?_); refine goesL_ (some 10) rfl rfl Try.func36 (by kernel_rfl) rfl #[.string a0, .int .u8 10] rfl (by first | rfl | (simp only [List.map_toArray, List.map_cons, List.map_nil, List.length_drop, List.length_take]; try rfl)) ?_; (with_reducible refine (strings_IndexByte.calls a0 10 t185 _ A2.out).mono ?_); rintro e w5 ⟨rfl, hb⟩; refine ⟨_, rfl, ?_⟩; have n0_ := Aside0.mk (blk_below (bK BK184.out) hb); have n1_ := Aside0.mk (below_step (by repeat first | exact HB.out | with_reducible refine below_setA ?_ ‹_› | apply below_alloc | apply pw_below_drewN) hb); clear BK184; clear HB; have BK184 := n0_; have HB := n1_; clear n0_ n1_; (try clear hb); (try clear hb2); (try clear hk); (try clear hi)))
 (try simp only [Act.put, List.setIfInBounds_toArray, List.set_cons_zero, List.set_cons_succ])
 go_cut [32] (fun v32 wc => ∃ (kq : Nat) (x32_2 : Bool), v32 = .bool x32_2 ∧ Aside0 (impl_GridRead.j0 kq a0 t185 x32_2 = some (r1, r2, r3)) ∧ Aside0 (kq ≤ k) ∧ Aside0 (wc.heap[gb184]? = some (.cells #[.int .i64 0, (.slice none 0 0)] 29 (0, 0))) ∧ Aside0 (Below w.heap.size w wc))
 case first =>
  have H := HC3.out
  clear HC3
  by_cases c6 : t185 < 1
  ·rw [if_pos c6] at H
   have c6b0 : decide (t185 < 1) = true := decide_eq_true c6
   clear c6
   (first | rw [c6b0] | (simp only [i64_w, i32_w]; rw [c6b0]) | skip)
   have H' := Aside0.mk H
   clear H
   go_wp2
   go_meet
   case rel => exact ⟨_, (true), (by first | rfl | (simp; done) | (simp [*]; done)), H', ⟨by first | omega | exact Nat.le_refl _⟩, ⟨by (with_reducible repeat apply blk_alloc); exact BK184.out⟩, ⟨by repeat first | exact HB.out | with_reducible refine below_setA ?_ ‹_› | apply below_alloc | apply pw_below_drewN⟩⟩
  ·rw [if_neg c6] at H
   have c6b0 : decide (t185 < 1) = false := decide_eq_false c6
   clear c6
   (first | rw [c6b0] | (simp only [i64_w, i32_w]; rw [c6b0]) | skip)
   by_cases c7 : t185 > 5
   ·rw [if_pos c7] at H
    have c7b0 : decide (5 < t185) = true := decide_eq_true c7
    clear c7
    have H' := Aside0.mk H
    clear H
    go_wp2
    go_meet
    case rel => exact ⟨_, (true), (by first | rfl | (simp; done) | (simp [*]; done)), H', ⟨by first | omega | exact Nat.le_refl _⟩, ⟨by (with_reducible repeat apply blk_alloc); exact BK184.out⟩, ⟨by repeat first | exact HB.out | with_reducible refine below_setA ?_ ‹_› | apply below_alloc | apply pw_below_drewN⟩⟩
   ·rw [if_neg c7] at H
    have c7b0 : decide (5 < t185) = false := decide_eq_false c7
    clear c7
    by_cases c8 : (a0.size : Int) > (wrap64 ((wrap64 (t185 + 1)) * 5))
    ·rw [if_pos c8] at H
     have c8b0 : decide ((wrap64 ((wrap64 (t185 + 1)) * 5)) < (a0.size : Int)) = true := decide_eq_true c8
     clear c8
     have H' := Aside0.mk H
     clear H
     go_wp2
     go_meet
     case rel => exact ⟨_, (true), (by first | rfl | (simp; done) | (simp [*]; done)), H', ⟨by first | omega | exact Nat.le_refl _⟩, ⟨by (with_reducible repeat apply blk_alloc); exact BK184.out⟩, ⟨by repeat first | exact HB.out | with_reducible refine below_setA ?_ ‹_› | apply below_alloc | apply pw_below_drewN⟩⟩
    ·rw [if_neg c8] at H
     have c8b0 : decide ((wrap64 ((wrap64 (t185 + 1)) * 5)) < (a0.size : Int)) = false := decide_eq_false c8
     clear c8
     by_cases c9 : (wrap64 (t185 + 1)) = 0
     ·rw [if_pos c9] at H
      exact absurd H (by simp)
     ·rw [if_neg c9] at H
      have c9b0 : ((wrap64 (t185 + 1)) == 0) = false := beq_eq_false_iff_ne.mpr c9
      have c9b1 : ((wrap64 (t185 + 1)) != 0) = true := bne_iff_ne.mpr c9
      have H' := Aside0.mk H
      clear H
      go_wp2
      go_meet
      case rel => exact ⟨_, ((((a0.size : Int) % (wrap64 (t185 + 1))) != 0)), (by first | rfl | (simp; done) | (simp [*]; done)), H', ⟨by first | omega | exact Nat.le_refl _⟩, ⟨by (with_reducible repeat apply blk_alloc); exact BK184.out⟩, ⟨by repeat first | exact HB.out | with_reducible refine below_setA ?_ ‹_› | apply below_alloc | apply pw_below_drewN⟩⟩
 case rest =>
  clear HC3
  try clear c1
  try clear p2
  try clear c3
  try clear c6
  try clear c6b0
  try clear p6
  try clear c7
  try clear c7b0
  try clear c8
  try clear c8b0
  try clear c9
  try clear c9b0
  try clear c9b1
  obtain ⟨kq, x32_2, rfl, HA, HJ2, BK184, HB⟩ := hcut
  cases kq with
  | zero => exact absurd HA.out (by simp [impl_GridRead.j0])
  | succ kj2 =>
   have H := HA.out
   clear HA
   simp only [impl_GridRead.j0] at H
   by_cases c10 : x32_2 = true
   ·subst c10
    have H1 : (some (0, ([] : List (S39)), false)) = some (r1, r2, r3) := by rw [if_pos rfl] at H; exact H
    clear H
    have H := H1
    clear H1
    simp only [Option.some.injEq, Prod.mk.injEq] at H
    obtain ⟨rfl, rfl, rfl⟩ := H
    have hcz11_0 : wc.cell? ⟨gb184, 0, none⟩ = some (.int .i64 0) := (blk_cell BK184.out 0).trans rfl
    have hcz11_1 : wc.cell? ⟨gb184, 1, none⟩ = some (.slice none 0 0) := (blk_cell BK184.out 1).trans rfl
    have hfz11_0 := blk_frozen BK184.out 0
    have hfz11_1 := blk_frozen BK184.out 1
    go_wp2
    refine bodyPost_ret (results_ct rfl _ _ gb184 29 #[.int .i64 0, .slice none 0 0] (0, 0) _ rfl (by (with_reducible repeat apply blk_alloc); refine blk_put (cs := #[.int .i64 0, .slice none 0 0]) ?_ 1 _ rfl; (with_reducible repeat apply blk_alloc); refine blk_put (cs := #[.int .i64 0, .slice none 0 0]) ?_ 0 _ rfl; (with_reducible repeat apply blk_alloc); exact BK184.out) Try.underlying29 rfl (by kernel_rfl)) rfl ?_
    exact ⟨_, by first | rfl | (simp [errW_none, errW_some] <;> rfl) | (simp [*, errW_none, errW_some] <;> rfl) | (exfalso; simp_all; done), by first | exact Kd.R_nil _ _ _ _ _ | exact Kd.N_nil _ _ _ _ _ | exact Kd.V_nil _ _ _ _ _ | exact Kd.Q_nil _ _ _ _ _ | exact Kd.S_nil _ _ _ _ _, by repeat first | exact HB.out | with_reducible refine below_setA ?_ ‹_› | apply below_alloc | apply pw_below_drewN⟩
   ·replace c10 := Bool.eq_false_iff.mpr c10
    subst c10
    have H1 : (impl_GridRead.l0 kj2 a0 t185 (a0.size : Int) 0 t185 ([] : List (S39))) = some (r1, r2, r3) := by rw [if_neg (show ¬ (false = true) by decide)] at H; exact H
    clear H
    have H := H1
    clear H1
    have H' := Aside0.mk H
    clear H
    go_wp2_with (first | ((with_reducible refine gate_dst (N := 5) rfl ?_); (try (refine gate_guard (by rfl) ?_; dsimp only)); refine box_event rfl (N := 5) rfl (cs := #[.int .i64 0, .slice none 0 0]) (t := 29) ?hr ?_; (case hr => first | (go_simp; done) | (go_simp; rfl)); intro gb186 hg w12 hbox hb; have n0_ := Aside0.mk (blk_below (bK BK184.out) hb); have n1_ := Aside0.mk (below_step (by repeat first | exact HB.out | with_reducible refine below_setA ?_ ‹_› | apply below_alloc | apply pw_below_drewN) hb); have n2_ := Aside0.mk (hbox); have n3_ := Aside0.mk ((by rw [hg]; exact (below_size (by repeat first | exact HB.out | with_reducible refine below_setA ?_ ‹_› | apply below_alloc | apply pw_below_drewN)) : w.heap.size ≤ gb186)); have n4_ := n3_; have n5_ := Aside0.mk ((by rw [hg]; exact Nat.ne_of_lt (blk_lt (bK BK184.out)) : gb184 ≠ gb186)); have n6_ := Aside0.mk ((by rw [hg]; exact Nat.ne_of_gt (blk_lt (bK BK184.out)) : gb186 ≠ gb184)); clear BK184; clear HB; have BK184 := n0_; have HB := n1_; have BK186 := n2_; have GW186 := n3_; have GE186 := n4_; have NB184_186 := n5_; have NB186_184 := n6_; clear n0_ n1_ n2_ n3_ n4_ n5_ n6_; clear hb hbox hg; have hnb13 := NB186_184.out; have hnc13 := NB184_186.out; have hcz14_0 : w12.cell? ⟨gb186, 0, none⟩ = some (.int .i64 0) := (blk_cell BK186.out 0).trans rfl; have hcz14_1 : w12.cell? ⟨gb186, 1, none⟩ = some (.slice none 0 0) := (blk_cell BK186.out 1).trans rfl; have hfz14_0 := blk_frozen BK186.out 0; have hfz14_1 := blk_frozen BK186.out 1))
    go_loopg [38] kj2 (fun kq v38 w' => ∃ (x38_2 : Int) (x185000_2 : Int) (x187001_2 : List (S39)) (u187001 : Value), v38 = .int .i64 x38_2 ∧ Aside0 (impl_GridRead.l0 kq a0 t185 (a0.size : Int) x38_2 t185 x187001_2 = some (r1, r2, r3)) ∧ Aside0 (kq ≤ kj2) ∧ Aside0 (Kd.R k39 39 w' w.heap.size (fun _ => True) u187001 x187001_2) ∧ Aside0 (w'.heap[gb184]? = some (.cells #[.int .i64 x185000_2, (.slice none 0 0)] 29 (0, 0))) ∧ Aside0 (w'.heap[gb186]? = some (.cells #[.int .i64 t185, u187001] 29 (0, 0))) ∧ Aside0 (Below w.heap.size w w'))
    case atStart => exact ⟨(0), (0), (([] : List (S39))), (.slice none 0 0), (by first | rfl | (simp; done) | (simp [*]; done)), H', ⟨Nat.le_refl _⟩, ⟨by first | exact Kd.R_nil _ _ _ _ _ | exact Kd.N_nil _ _ _ _ _ | exact Kd.V_nil _ _ _ _ _ | exact Kd.Q_nil _ _ _ _ _ | exact Kd.S_nil _ _ _ _ _⟩, ⟨by (with_reducible repeat apply blk_alloc); refine blk_far ?_ NB184_186.out _; (with_reducible repeat apply blk_alloc); refine blk_far ?_ NB184_186.out _; (with_reducible repeat apply blk_alloc); exact BK184.out⟩, ⟨by (with_reducible repeat apply blk_alloc); refine blk_put (cs := #[.int .i64 t185, .slice none 0 0]) ?_ 1 _ rfl; (with_reducible repeat apply blk_alloc); refine blk_put (cs := #[.int .i64 0, .slice none 0 0]) ?_ 0 _ rfl; (with_reducible repeat apply blk_alloc); exact BK186.out⟩, ⟨by repeat first | exact HB.out | with_reducible refine below_setA ?_ ‹_› | apply below_alloc | apply pw_below_drewN⟩⟩
    case round =>
     clear H'
     try clear c1
     try clear p2
     try clear c3
     try clear c6
     try clear c6b0
     try clear p6
     try clear c7
     try clear c7b0
     try clear c8
     try clear c8b0
     try clear c9
     try clear c9b0
     try clear c9b1
     try clear c10
     try clear c13
     try clear hcz11_0
     try clear hcz11_1
     try clear hcz14_0
     try clear hcz14_1
     try clear hfz11_0
     try clear hfz11_1
     try clear hfz14_0
     try clear hfz14_1
     try clear p2
     try clear p6
     obtain ⟨x38_2, x185000_2, x187001_2, u187001, rfl, HA, HK2, HO_187001, BK184, BK186, HB⟩ := hrel
     cases gk with
     | zero => exact absurd HA.out (by simp [impl_GridRead.l0])
     | succ k2 =>
      have H := HA.out
      clear HA
      simp only [impl_GridRead.l0] at H
      by_cases c15 : x38_2 < (a0.size : Int)
      ·rw [if_pos c15] at H
       have c15b0 : decide (x38_2 < (a0.size : Int)) = true := decide_eq_true c15
       clear c15
       by_cases c16 : (wrap64 (t185 + 1)) = 0
       ·rw [if_pos c16] at H
        exact absurd H (by simp)
       ·rw [if_neg c16] at H
        have c16b0 : ((wrap64 (t185 + 1)) == 0) = false := beq_eq_false_iff_ne.mpr c16
        have c16b1 : ((wrap64 (t185 + 1)) != 0) = true := bne_iff_ne.mpr c16
        by_cases c17 : (Int.tmod x38_2 (wrap64 (t185 + 1))) = t185
        ·rw [if_pos c17] at H
         have c17b0 : ((Int.tmod x38_2 (wrap64 (t185 + 1))) == t185) = true := beq_iff_eq.mpr c17
         have c17b1 : ((Int.tmod x38_2 (wrap64 (t185 + 1))) != t185) = false := bne_eq_false_iff_eq.mpr c17
         clear c17
         by_cases c18 : 0 ≤ x38_2
         ·rw [if_pos c18] at H
          have c18b0 : decide (0 ≤ x38_2) = true := decide_eq_true c18
          clear c18
          by_cases c19 : x38_2 < (a0.size : Int)
          ·rw [if_pos c19] at H
           have c19b0 : decide (x38_2 < (a0.size : Int)) = true := decide_eq_true c19
           clear c19
           by_cases c21 : (bt a0 x38_2) = 10
           ·rw [if_pos c21] at H
            have c21b0 : ((bt a0 x38_2) == 10) = true := beq_iff_eq.mpr c21
            have c21b1 : ((bt a0 x38_2) != 10) = false := bne_eq_false_iff_eq.mpr c21
            clear c21
            have H' := Aside0.mk H
            clear H
            have p20 : 0 ≤ (x38_2 : Int) := of_decide_eq_true (by first | (with_reducible assumption) | assumption)
            have q20 : x38_2 < (a0.size : Int) := of_decide_eq_true (by first | (with_reducible assumption) | assumption)
            have hx20 := bt_at a0 x38_2
            replace p20 := eq_true p20
            replace q20 := eq_true q20
            go_wp2
            go_roundg k2
            case measure => have := HJ2.out; have := HK2.out; omega
            case rel => exact ⟨(wrap64 (x38_2 + 1)), (x185000_2), (x187001_2), (u187001), (by first | rfl | (simp; done) | (simp [*]; done)), H', ⟨by have := HJ2.out; have := HK2.out; omega⟩, ⟨by (with_reducible repeat apply Kd.R_alloc); exact HO_187001.out⟩, ⟨by (with_reducible repeat apply blk_alloc); exact BK184.out⟩, ⟨by (with_reducible repeat apply blk_alloc); exact BK186.out⟩, ⟨by repeat first | exact HB.out | with_reducible refine below_setA ?_ ‹_› | apply below_alloc | apply pw_below_drewN⟩⟩
           ·rw [if_neg c21] at H
            have c21b0 : ((bt a0 x38_2) == 10) = false := beq_eq_false_iff_ne.mpr c21
            have c21b1 : ((bt a0 x38_2) != 10) = true := bne_iff_ne.mpr c21
            simp only [Option.some.injEq, Prod.mk.injEq] at H
            obtain ⟨rfl, rfl, rfl⟩ := H
            have p20 : 0 ≤ (x38_2 : Int) := of_decide_eq_true (by first | (with_reducible assumption) | assumption)
            have q20 : x38_2 < (a0.size : Int) := of_decide_eq_true (by first | (with_reducible assumption) | assumption)
            have hx20 := bt_at a0 x38_2
            replace p20 := eq_true p20
            replace q20 := eq_true q20
            have hnb22 := NB184_186.out
            have hnc22 := NB186_184.out
            have hcz23_0 : wr.cell? ⟨gb184, 0, none⟩ = some (.int .i64 x185000_2) := (blk_cell BK184.out 0).trans rfl
            have hcz23_1 : wr.cell? ⟨gb184, 1, none⟩ = some (.slice none 0 0) := (blk_cell BK184.out 1).trans rfl
            have hfz23_0 := blk_frozen BK184.out 0
            have hfz23_1 := blk_frozen BK184.out 1
            go_wp2
            refine bodyPost_ret (results_ct rfl _ _ gb184 29 #[.int .i64 0, .slice none 0 0] (0, 0) _ rfl (by (with_reducible repeat apply blk_alloc); refine blk_put (cs := #[.int .i64 0, .slice none 0 0]) ?_ 1 _ rfl; (with_reducible repeat apply blk_alloc); refine blk_put (cs := #[.int .i64 x185000_2, .slice none 0 0]) ?_ 0 _ rfl; (with_reducible repeat apply blk_alloc); exact BK184.out) Try.underlying29 rfl (by kernel_rfl)) rfl ?_
            exact ⟨_, by first | rfl | (simp [errW_none, errW_some] <;> rfl) | (simp [*, errW_none, errW_some] <;> rfl) | (exfalso; simp_all; done), by first | exact Kd.R_nil _ _ _ _ _ | exact Kd.N_nil _ _ _ _ _ | exact Kd.V_nil _ _ _ _ _ | exact Kd.Q_nil _ _ _ _ _ | exact Kd.S_nil _ _ _ _ _, by repeat first | exact HB.out | with_reducible refine below_setA ?_ ‹_› | apply below_alloc | apply pw_below_drewN⟩
          ·rw [if_neg c19] at H
           exact absurd H (by simp)
         ·rw [if_neg c18] at H
          exact absurd H (by simp)
        ·rw [if_neg c17] at H
         have c17b0 : ((Int.tmod x38_2 (wrap64 (t185 + 1))) == t185) = false := beq_eq_false_iff_ne.mpr c17
         have c17b1 : ((Int.tmod x38_2 (wrap64 (t185 + 1))) != t185) = true := bne_iff_ne.mpr c17
         by_cases c24 : 0 ≤ x38_2
         ·rw [if_pos c24] at H
          have c24b0 : decide (0 ≤ x38_2) = true := decide_eq_true c24
          clear c24
          by_cases c25 : x38_2 < (a0.size : Int)
          ·rw [if_pos c25] at H
           have c25b0 : decide (x38_2 < (a0.size : Int)) = true := decide_eq_true c25
           clear c25
           replace H := Option.bind_eq_some_iff.mp H
           obtain ⟨⟨t187, t188, t189⟩, A270, H⟩ := H
           replace H : (if t189 = true then (if x187001_2.length < 8796093022208 then (impl_GridRead.l0 k2 a0 t185 (a0.size : Int) (wrap64 (x38_2 + 1)) t185 (x187001_2 ++ [(⟨t187, t188⟩ : S39)])) else (none)) else (some (0, ([] : List (S39)), false))) = some (r1, r2, r3) := H
           have A27 := Aside0.mk A270
           clear A270
           by_cases c28 : t189 = true
           ·subst c28
            have H1 : (if x187001_2.length < 8796093022208 then (impl_GridRead.l0 k2 a0 t185 (a0.size : Int) (wrap64 (x38_2 + 1)) t185 (x187001_2 ++ [(⟨t187, t188⟩ : S39)])) else (none)) = some (r1, r2, r3) := by rw [if_pos rfl] at H; exact H
            clear H
            have H := H1
            clear H1
            by_cases c29 : x187001_2.length < 8796093022208
            ·rw [if_pos c29] at H
             have LMc29 := Aside0.mk c29
             clear c29
             obtain ⟨y191, hy191⟩ : ∃ y_ : List (S39), y_ = (x187001_2 ++ [(⟨t187, t188⟩ : S39)]) := ⟨_, rfl⟩
             replace H : (impl_GridRead.l0 k2 a0 t185 (a0.size : Int) (wrap64 (x38_2 + 1)) t185 y191) = some (r1, r2, r3) := by first | (rw [hy191]; with_reducible exact H) | (have H2_ := (Option.bind_some _ _).symm.trans H; rw [hy191]; with_reducible exact H2_) | (have H2_ := (Option.bind_some _ _).symm.trans H; with_reducible exact H2_) | with_reducible exact H | (rw [hy191]; exact H) | exact H
             have Ny191 := Aside0.mk hy191
             clear hy191
             have H' := Aside0.mk H
             clear H
             have p26 : 0 ≤ (x38_2 : Int) := of_decide_eq_true (by first | (with_reducible assumption) | assumption)
             have q26 : x38_2 < (a0.size : Int) := of_decide_eq_true (by first | (with_reducible assumption) | assumption)
             have hx26 := bt_at a0 x38_2
             replace p26 := eq_true p26
             replace q26 := eq_true q26
             go_wp2_with (first | ((with_reducible refine gate_callee (f := 37) rfl ?_); refine goesL_ (some 56) rfl rfl Try.func37 (by kernel_rfl) rfl #[.int .u8 (bt a0 x38_2)] rfl (by first | rfl | (simp only [List.map_toArray, List.map_cons, List.map_nil, List.length_drop, List.length_take]; try rfl)) ?_; (with_reducible refine (impl_cellRead.calls k2 (bt a0 x38_2) t187 t188 true _ A27.out).mono ?_); rintro e w30 ⟨rfl, hb⟩; refine ⟨_, rfl, ?_⟩; have n0_ := Aside0.mk (Kd.R_below (kR HO_187001.out) hb); have n1_ := Aside0.mk (blk_below (bK BK184.out) hb); have n2_ := Aside0.mk (blk_below (bK BK186.out) hb); have n3_ := Aside0.mk (below_step (by repeat first | exact HB.out | with_reducible refine below_setA ?_ ‹_› | apply below_alloc | apply pw_below_drewN) hb); clear HO_187001; clear BK184; clear BK186; clear HB; have HO_187001 := n0_; have BK184 := n1_; have BK186 := n2_; have HB := n3_; clear n0_ n1_ n2_ n3_; (try clear hb); (try clear hb2); (try clear hk); (try clear hi)) | ((with_reducible refine gate_dst (N := 7) rfl ?_); (try (refine gate_guard (by rfl) ?_; dsimp only)); refine box_event rfl (N := 7) rfl (cs := #[.int .i64 0, .int .i64 0]) (t := 39) ?hr ?_; (case hr => first | (go_simp; done) | (go_simp; rfl)); intro gb190 hg w31 hbox hb; have n0_ := Aside0.mk (Kd.R_below (Kd.R_elderB (kR HO_187001.out) gb190 (Nat.le_of_eq hg.symm)) hb); have n1_ := Aside0.mk (blk_below (bK BK184.out) hb); have n2_ := Aside0.mk (blk_below (bK BK186.out) hb); have n3_ := Aside0.mk (below_step (by repeat first | exact HB.out | with_reducible refine below_setA ?_ ‹_› | apply below_alloc | apply pw_below_drewN) hb); have n4_ := Aside0.mk (hbox); have n5_ := Aside0.mk ((by rw [hg]; exact (below_size (by repeat first | exact HB.out | with_reducible refine below_setA ?_ ‹_› | apply below_alloc | apply pw_below_drewN)) : w.heap.size ≤ gb190)); have n6_ := n5_; have n7_ := Aside0.mk ((by rw [hg]; exact Nat.ne_of_lt (blk_lt (bK BK184.out)) : gb184 ≠ gb190)); have n8_ := Aside0.mk ((by rw [hg]; exact Nat.ne_of_gt (blk_lt (bK BK184.out)) : gb190 ≠ gb184)); have n9_ := Aside0.mk ((by rw [hg]; exact Nat.ne_of_lt (blk_lt (bK BK186.out)) : gb186 ≠ gb190)); have n10_ := Aside0.mk ((by rw [hg]; exact Nat.ne_of_gt (blk_lt (bK BK186.out)) : gb190 ≠ gb186)); clear HO_187001; clear BK184; clear BK186; clear HB; have HO_187001 := n0_; have BK184 := n1_; have BK186 := n2_; have HB := n3_; have BK190 := n4_; have GW190 := n5_; have GE190 := n6_; have NB184_190 := n7_; have NB190_184 := n8_; have NB186_190 := n9_; have NB190_186 := n10_; clear n0_ n1_ n2_ n3_ n4_ n5_ n6_ n7_ n8_ n9_ n10_; clear hb hbox hg; have hnb32 := NB190_184.out; have hnc32 := NB184_190.out; have hnb33 := NB190_186.out; have hnc33 := NB186_190.out; have hcz34_0 : w31.cell? ⟨gb190, 0, none⟩ = some (.int .i64 0) := (blk_cell BK190.out 0).trans rfl; have hcz34_1 : w31.cell? ⟨gb190, 1, none⟩ = some (.int .i64 0) := (blk_cell BK190.out 1).trans rfl; have hfz34_0 := blk_frozen BK190.out 0; have hfz34_1 := blk_frozen BK190.out 1; have hnb35 := NB186_184.out; have hnc35 := NB184_186.out; have hcz36_0 : w31.cell? ⟨gb186, 0, none⟩ = some (.int .i64 t185) := (blk_cell BK186.out 0).trans rfl; have hcz36_1 : w31.cell? ⟨gb186, 1, none⟩ = some (u187001) := (blk_cell BK186.out 1).trans rfl; have hfz36_0 := blk_frozen BK186.out 0; have hfz36_1 := blk_frozen BK186.out 1) | ((with_reducible refine gate_builtin (b := .append) (xs := #[.tmp 63, .tmp 65]) rfl ?_); (try (refine gate_guard (by rfl) ?_; dsimp only)); at_builtin; refine Kd.R_append k39 (w0 := w) w.heap.size rfl (.tmp 63) (.tmp 65) 27 39 (.agg #[(.int .i64 0), (.int .i64 0)]) 16 rfl Try.underlying27 info39 rfl (by decide) (by omega) u187001 x187001_2 (⟨t187, t188⟩ : S39) [.int .i64 t187, .int .i64 t188] (fun k_ => k_ ≠ gb190) (fun _ => False) rfl (by first | (go_simp; done) | (go_simp; rfl)) ?aP (fun _ hk => hk.elim) ?aF ?aO ?aB ?aS ?aL ?_; (case aP => exact k39_mkM _ _ _ (⟨t187, t188⟩ : S39)); (case aB => exact (by repeat first | exact HB.out | with_reducible refine below_setA ?_ ‹_› | apply below_alloc | apply pw_below_drewN)); (case aF => exact (fun k_ hk => Kd.freshB (g := gb190) (o := .cells #[.int .i64 t187, .int .i64 t188] 39 (0, 0)) (by (with_reducible repeat apply blk_alloc); refine blk_put (cs := #[.int .i64 t187, .int .i64 0]) ?_ 1 _ rfl; (with_reducible repeat apply blk_alloc); refine blk_put (cs := #[.int .i64 0, .int .i64 0]) ?_ 0 _ rfl; (with_reducible repeat apply blk_alloc); exact BK190.out) k_ hk)); (case aO => exact (by (with_reducible repeat apply Kd.R_alloc); exact Kd.R_mono (Kd.R_far (p := ⟨gb190, 1, none⟩) (Kd.R_far (p := ⟨gb190, 0, none⟩) (Kd.R_mono HO_187001.out (fun k_ hk => (⟨hk, hk.2⟩ : _ ∧ k_ ≠ gb190))) (fun _ hk => hk.2) (.int .i64 t187)) (fun _ hk => hk.2) (.int .i64 t188)) (fun _ hk => hk.1.2))); (case aS => exact (below_size (by repeat first | exact HB.out | with_reducible refine below_setA ?_ ‹_› | apply below_alloc | apply pw_below_drewN))); (case aL => have := LMc29.out; omega); intro v192 w37 ho hb hg hat; rw [← Ny191.out] at ho; have n0_ := Aside0.mk (blk_grown (g := gb184) (o := .cells #[.int .i64 x185000_2, .slice none 0 0] 29 (0, 0)) (by (with_reducible repeat apply blk_alloc); refine blk_far ?_ NB184_190.out _; (with_reducible repeat apply blk_alloc); refine blk_far ?_ NB184_190.out _; (with_reducible repeat apply blk_alloc); exact BK184.out) hg (Kd.R_ne HO_187001.out BK184.out (by decide))); have n1_ := Aside0.mk (blk_grown (g := gb186) (o := .cells #[.int .i64 t185, u187001] 29 (0, 0)) (by (with_reducible repeat apply blk_alloc); refine blk_far ?_ NB186_190.out _; (with_reducible repeat apply blk_alloc); refine blk_far ?_ NB186_190.out _; (with_reducible repeat apply blk_alloc); exact BK186.out) hg (Kd.R_ne HO_187001.out BK186.out (by decide))); have n2_ := Aside0.mk (blk_grown (g := gb190) (o := .cells #[.int .i64 t187, .int .i64 t188] 39 (0, 0)) (by (with_reducible repeat apply blk_alloc); refine blk_put (cs := #[.int .i64 t187, .int .i64 0]) ?_ 1 _ rfl; (with_reducible repeat apply blk_alloc); refine blk_put (cs := #[.int .i64 0, .int .i64 0]) ?_ 0 _ rfl; (with_reducible repeat apply blk_alloc); exact BK190.out) hg (Kd.R_away HO_187001.out (fun _ hk => hk.2))); have n3_ := Aside0.mk (hb); have n4_ := Aside0.mk (ho); clear BK184; clear BK186; clear BK190; clear HB; clear HO_187001; have BK184 := n0_; have BK186 := n1_; have BK190 := n2_; have HB := n3_; have HO193 := n4_; clear n0_ n1_ n2_ n3_ n4_; clear ho hb hg hat; obtain ⟨Ao38, co38, eo38⟩ := Kd.R_slice HO193.out; subst eo38; have hcz39_0 : w37.cell? ⟨gb186, 0, none⟩ = some (.int .i64 t185) := (blk_cell BK186.out 0).trans rfl; have hcz39_1 : w37.cell? ⟨gb186, 1, none⟩ = some (u187001) := (blk_cell BK186.out 1).trans rfl; have hfz39_0 := blk_frozen BK186.out 0; have hfz39_1 := blk_frozen BK186.out 1))
             go_roundg k2
             case measure => have := HJ2.out; have := HK2.out; omega
             case rel => exact ⟨(wrap64 (x38_2 + 1)), (x185000_2), (y191), (.slice Ao38 y191.length co38), (by first | rfl | (simp; done) | (simp [*]; done)), H', ⟨by have := HJ2.out; have := HK2.out; omega⟩, ⟨by (with_reducible repeat apply Kd.R_alloc); exact Kd.R_mono (Kd.R_far (p := ⟨gb186, 1, none⟩) (Kd.R_types HO193.out BK186.out (by decide)) (fun _ hk => hk.2) (.slice Ao38 y191.length co38)) (fun _ hk => trivial)⟩, ⟨by (with_reducible repeat apply blk_alloc); refine blk_far ?_ NB184_186.out _; (with_reducible repeat apply blk_alloc); exact BK184.out⟩, ⟨by (with_reducible repeat apply blk_alloc); refine blk_put (cs := #[.int .i64 t185, u187001]) ?_ 1 _ rfl; (with_reducible repeat apply blk_alloc); exact BK186.out⟩, ⟨by repeat first | exact HB.out | with_reducible refine below_setA ?_ ‹_› | apply below_alloc | apply pw_below_drewN⟩⟩
            ·rw [if_neg c29] at H
             exact absurd H (by simp)
           ·replace c28 := Bool.eq_false_iff.mpr c28
            subst c28
            have H1 : (some (0, ([] : List (S39)), false)) = some (r1, r2, r3) := by rw [if_neg (show ¬ (false = true) by decide)] at H; exact H
            clear H
            have H := H1
            clear H1
            simp only [Option.some.injEq, Prod.mk.injEq] at H
            obtain ⟨rfl, rfl, rfl⟩ := H
            have p26 : 0 ≤ (x38_2 : Int) := of_decide_eq_true (by first | (with_reducible assumption) | assumption)
            have q26 : x38_2 < (a0.size : Int) := of_decide_eq_true (by first | (with_reducible assumption) | assumption)
            have hx26 := bt_at a0 x38_2
            replace p26 := eq_true p26
            replace q26 := eq_true q26
            go_wp2_with (first | ((with_reducible refine gate_callee (f := 37) rfl ?_); refine goesL_ (some 56) rfl rfl Try.func37 (by kernel_rfl) rfl #[.int .u8 (bt a0 x38_2)] rfl (by first | rfl | (simp only [List.map_toArray, List.map_cons, List.map_nil, List.length_drop, List.length_take]; try rfl)) ?_; (with_reducible refine (impl_cellRead.calls k2 (bt a0 x38_2) t187 t188 false _ A27.out).mono ?_); rintro e w40 ⟨rfl, hb⟩; refine ⟨_, rfl, ?_⟩; have n0_ := Aside0.mk (Kd.R_below (kR HO_187001.out) hb); have n1_ := Aside0.mk (blk_below (bK BK184.out) hb); have n2_ := Aside0.mk (blk_below (bK BK186.out) hb); have n3_ := Aside0.mk (below_step (by repeat first | exact HB.out | with_reducible refine below_setA ?_ ‹_› | apply below_alloc | apply pw_below_drewN) hb); clear HO_187001; clear BK184; clear BK186; clear HB; have HO_187001 := n0_; have BK184 := n1_; have BK186 := n2_; have HB := n3_; clear n0_ n1_ n2_ n3_; (try clear hb); (try clear hb2); (try clear hk); (try clear hi)) | ((with_reducible refine gate_dst (N := 7) rfl ?_); (try (refine gate_guard (by rfl) ?_; dsimp only)); refine box_event rfl (N := 7) rfl (cs := #[.int .i64 0, .int .i64 0]) (t := 39) ?hr ?_; (case hr => first | (go_simp; done) | (go_simp; rfl)); intro gb190 hg w41 hbox hb; have n0_ := Aside0.mk (Kd.R_below (Kd.R_elderB (kR HO_187001.out) gb190 (Nat.le_of_eq hg.symm)) hb); have n1_ := Aside0.mk (blk_below (bK BK184.out) hb); have n2_ := Aside0.mk (blk_below (bK BK186.out) hb); have n3_ := Aside0.mk (below_step (by repeat first | exact HB.out | with_reducible refine below_setA ?_ ‹_› | apply below_alloc | apply pw_below_drewN) hb); have n4_ := Aside0.mk (hbox); have n5_ := Aside0.mk ((by rw [hg]; exact (below_size (by repeat first | exact HB.out | with_reducible refine below_setA ?_ ‹_› | apply below_alloc | apply pw_below_drewN)) : w.heap.size ≤ gb190)); have n6_ := n5_; have n7_ := Aside0.mk ((by rw [hg]; exact Nat.ne_of_lt (blk_lt (bK BK184.out)) : gb184 ≠ gb190)); have n8_ := Aside0.mk ((by rw [hg]; exact Nat.ne_of_gt (blk_lt (bK BK184.out)) : gb190 ≠ gb184)); have n9_ := Aside0.mk ((by rw [hg]; exact Nat.ne_of_lt (blk_lt (bK BK186.out)) : gb186 ≠ gb190)); have n10_ := Aside0.mk ((by rw [hg]; exact Nat.ne_of_gt (blk_lt (bK BK186.out)) : gb190 ≠ gb186)); clear HO_187001; clear BK184; clear BK186; clear HB; have HO_187001 := n0_; have BK184 := n1_; have BK186 := n2_; have HB := n3_; have BK190 := n4_; have GW190 := n5_; have GE190 := n6_; have NB184_190 := n7_; have NB190_184 := n8_; have NB186_190 := n9_; have NB190_186 := n10_; clear n0_ n1_ n2_ n3_ n4_ n5_ n6_ n7_ n8_ n9_ n10_; clear hb hbox hg; have hnb42 := NB190_184.out; have hnc42 := NB184_190.out; have hnb43 := NB190_186.out; have hnc43 := NB186_190.out; have hcz44_0 : w41.cell? ⟨gb190, 0, none⟩ = some (.int .i64 0) := (blk_cell BK190.out 0).trans rfl; have hcz44_1 : w41.cell? ⟨gb190, 1, none⟩ = some (.int .i64 0) := (blk_cell BK190.out 1).trans rfl; have hfz44_0 := blk_frozen BK190.out 0; have hfz44_1 := blk_frozen BK190.out 1; have hnb45 := NB184_186.out; have hnc45 := NB186_184.out; have hcz46_0 : w41.cell? ⟨gb184, 0, none⟩ = some (.int .i64 x185000_2) := (blk_cell BK184.out 0).trans rfl; have hcz46_1 : w41.cell? ⟨gb184, 1, none⟩ = some (.slice none 0 0) := (blk_cell BK184.out 1).trans rfl; have hfz46_0 := blk_frozen BK184.out 0; have hfz46_1 := blk_frozen BK184.out 1))
            refine bodyPost_ret (results_ct rfl _ _ gb184 29 #[.int .i64 0, .slice none 0 0] (0, 0) _ rfl (by (with_reducible repeat apply blk_alloc); refine blk_put (cs := #[.int .i64 0, .slice none 0 0]) ?_ 1 _ rfl; (with_reducible repeat apply blk_alloc); refine blk_put (cs := #[.int .i64 x185000_2, .slice none 0 0]) ?_ 0 _ rfl; (with_reducible repeat apply blk_alloc); refine blk_far ?_ NB184_190.out _; (with_reducible repeat apply blk_alloc); refine blk_far ?_ NB184_190.out _; (with_reducible repeat apply blk_alloc); exact BK184.out) Try.underlying29 rfl (by kernel_rfl)) rfl ?_
            exact ⟨_, by first | rfl | (simp [errW_none, errW_some] <;> rfl) | (simp [*, errW_none, errW_some] <;> rfl) | (exfalso; simp_all; done), by first | exact Kd.R_nil _ _ _ _ _ | exact Kd.N_nil _ _ _ _ _ | exact Kd.V_nil _ _ _ _ _ | exact Kd.Q_nil _ _ _ _ _ | exact Kd.S_nil _ _ _ _ _, by repeat first | exact HB.out | with_reducible refine below_setA ?_ ‹_› | apply below_alloc | apply pw_below_drewN⟩
          ·rw [if_neg c25] at H
           exact absurd H (by simp)
         ·rw [if_neg c24] at H
          exact absurd H (by simp)
      ·rw [if_neg c15] at H
       have c15b0 : decide (x38_2 < (a0.size : Int)) = false := decide_eq_false c15
       clear c15
       simp only [Option.some.injEq, Prod.mk.injEq] at H
       obtain ⟨rfl, rfl, rfl⟩ := H
       have hnb47 := NB186_184.out
       have hnc47 := NB184_186.out
       have hcz48_0 : wr.cell? ⟨gb186, 0, none⟩ = some (.int .i64 t185) := (blk_cell BK186.out 0).trans rfl
       have hcz48_1 : wr.cell? ⟨gb186, 1, none⟩ = some (u187001) := (blk_cell BK186.out 1).trans rfl
       have hfz48_0 := blk_frozen BK186.out 0
       have hfz48_1 := blk_frozen BK186.out 1
       have hcz49_0 : wr.cell? ⟨gb184, 0, none⟩ = some (.int .i64 x185000_2) := (blk_cell BK184.out 0).trans rfl
       have hcz49_1 : wr.cell? ⟨gb184, 1, none⟩ = some (.slice none 0 0) := (blk_cell BK184.out 1).trans rfl
       have hfz49_0 := blk_frozen BK184.out 0
       have hfz49_1 := blk_frozen BK184.out 1
       obtain ⟨Ao50, co50, eo50⟩ := Kd.R_slice HO_187001.out
       subst eo50
       go_wp2
       refine bodyPost_ret (results_ct rfl _ _ gb184 29 #[.int .i64 t185, .slice Ao50 x187001_2.length co50] (0, 0) _ rfl (by (with_reducible repeat apply blk_alloc); refine blk_put (cs := #[.int .i64 t185, .slice none 0 0]) ?_ 1 _ rfl; (with_reducible repeat apply blk_alloc); refine blk_put (cs := #[.int .i64 x185000_2, .slice none 0 0]) ?_ 0 _ rfl; (with_reducible repeat apply blk_alloc); exact BK184.out) Try.underlying29 rfl (by kernel_rfl)) rfl ?_
       exact ⟨_, by first | rfl | (simp [errW_none, errW_some] <;> rfl) | (simp [*, errW_none, errW_some] <;> rfl) | (exfalso; simp_all; done), by (with_reducible repeat apply Kd.R_alloc); exact Kd.R_mono (Kd.R_far (p := ⟨gb184, 1, none⟩) (Kd.R_far (p := ⟨gb184, 0, none⟩) (Kd.R_types HO_187001.out BK184.out (by decide)) (fun _ hk => hk.2) (.int .i64 t185)) (fun _ hk => hk.2) (.slice Ao50 x187001_2.length co50)) (fun _ hk => trivial), by repeat first | exact HB.out | with_reducible refine below_setA ?_ ‹_› | apply below_alloc | apply pw_below_drewN⟩

end Go.Proofs.Ytpjdhpkfenohgaa.P
