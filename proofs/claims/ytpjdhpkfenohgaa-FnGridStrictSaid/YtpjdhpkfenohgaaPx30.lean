/- PROVED: contracts of functions; written by this session's driver (pk.py). No condition. -/
import Derived.Test.YtpjdhpkfenohgaaPx0
import Derived.Test.YtpjdhpkfenohgaaPx27
import Derived.Test.YtpjdhpkfenohgaaPx29
namespace Go.Proofs.Ytpjdhpkfenohgaa.P
open Go.RowKit Go.Proofs.YtpjdhpkfenohgaaW.PrintWords Go.Proofs.YtpjdhpkfenohgaaW.PrintLast Go.Proofs.YtpjdhpkfenohgaaW.PrintMore
attribute [local go_sem] max2_int min2_int max_two min_two max_three min_three max_four min_four   -- for this text's walks alone
set_option linter.unusedVariables false
set_option linter.unusedSimpArgs false

/-! ### spec_GridText: function 11 -/
def spec_GridText.l0 : Nat → ByteArray → Int → Int → List (S39) → Option (ByteArray)
 | 0, _, _, _, _ => none
 | k + 1, x3, x4, x114000, x114001 => if x4 < (x114001.length : Int) then (if 0 ≤ x4 then ((spec_l1Sign.f ((rd_T39 x114001 x4).f0) ((rd_T39 x114001 x4).f1)).bind fun t116 => ((some (([t116] : List Int) : List Int)).bind fun y117 => (if x3.size + (strOfNums y117).size ≤ 9223372036854775807 then (if x114000 = 0 then (none) else (if (Int.tmod (wrap64 (x4 + 1)) x114000) = 0 then (if (x3 ++ (strOfNums y117)).size + 1 ≤ 9223372036854775807 then (spec_GridText.l0 k ((x3 ++ (strOfNums y117)) ++ (⟨#[10]⟩ : ByteArray)) (wrap64 (x4 + 1)) x114000 x114001) else (none)) else (spec_GridText.l0 k (x3 ++ (strOfNums y117)) (wrap64 (x4 + 1)) x114000 x114001))) else (none)))) else (none)) else (some x3)
def spec_GridText.f (k : Nat) (a0_0 : Int) (l0_1 : List (S39)) : Option (ByteArray) := (spec_GridOk.f k a0_0 l0_1).bind fun t114 => (if t114 = true then (spec_GridText.l0 k (⟨#[]⟩ : ByteArray) 0 a0_0 l0_1) else (some (⟨#[]⟩ : ByteArray)))
set_option maxHeartbeats 8000000 in
set_option maxRecDepth 100000 in
theorem spec_GridText.calls (k : Nat) (a0_0 : Int) (A0_1 : Option Addr) (c0_1 : Nat) (l0_1 : List (S39)) (r : ByteArray) (w : World) (hr0_1 : Kd.C k39 w A0_1 l0_1.length l0_1) (hc0_1 : l0_1.length ≤ c0_1) (h : spec_GridText.f k a0_0 l0_1 = some r) :
  Calls Try.prog 11 #[.agg #[.int .i64 a0_0, .slice A0_1 l0_1.length c0_1]] w fun e w' => e = .returned (.string r) ∧ Below w.heap.size w w' := by
 have hu29 := Try.underlying29
 have hu39 := Try.underlying39
 have HR0_1 := Aside0.mk hr0_1
 have HC0_1 := Aside0.mk hc0_1
 clear hr0_1 hc0_1
 have HB := Aside0.mk (Below.refl w.heap.size w)
 have H : ((spec_GridOk.f k a0_0 l0_1).bind fun t114 => (if t114 = true then (spec_GridText.l0 k (⟨#[]⟩ : ByteArray) 0 a0_0 l0_1) else (some (⟨#[]⟩ : ByteArray)))) = some r := h
 clear h
 replace H := Option.bind_eq_some_iff.mp H
 obtain ⟨t114, A20, H⟩ := H
 replace H : (if t114 = true then (spec_GridText.l0 k (⟨#[]⟩ : ByteArray) 0 a0_0 l0_1) else (some (⟨#[]⟩ : ByteArray))) = some r := H
 have A2 := Aside0.mk A20
 clear A20
 by_cases c3 : t114 = true
 ·subst c3
  have H1 : (spec_GridText.l0 k (⟨#[]⟩ : ByteArray) 0 a0_0 l0_1) = some r := by rw [if_pos rfl] at H; exact H
  clear H
  have H := H1
  clear H1
  have H' := Aside0.mk H
  clear H
  go_enter Try.func11, Try.ntmps11
  go_wp2_with (first | ((with_reducible refine gate_dst (N := 1) rfl ?_); refine box_event rfl (N := 1) rfl (cs := #[.int .i64 a0_0, .slice A0_1 l0_1.length c0_1]) (t := 29) ?hr ?_; (case hr => first | (go_simp; done) | (go_simp; rfl)); intro gb113 hg w4 hbox hb; have n0_ := Aside0.mk (below_step (by repeat first | exact HB.out | apply below_alloc | apply pw_below_drewN) hb); have n1_ := Aside0.mk (hbox); have n2_ := Aside0.mk ((by rw [hg]; exact (below_size (by repeat first | exact HB.out | apply below_alloc | apply pw_below_drewN)) : w.heap.size ≤ gb113)); have n3_ := n2_; clear HB; have HB := n0_; have BK113 := n1_; have GW113 := n2_; have GE113 := n3_; clear n0_ n1_ n2_ n3_; clear hb hbox hg; have hcz5_0 : w4.cell? ⟨gb113, 0, none⟩ = some (.int .i64 a0_0) := (blk_cell BK113.out 0).trans rfl; have hcz5_1 : w4.cell? ⟨gb113, 1, none⟩ = some (.slice A0_1 l0_1.length c0_1) := (blk_cell BK113.out 1).trans rfl; have hfz5_0 := blk_frozen BK113.out 0; have hfz5_1 := blk_frozen BK113.out 1) | ((with_reducible refine gate_callee (f := 27) rfl ?_); refine goesL_ (some 6) rfl rfl Try.func27 (by kernel_rfl) rfl #[.agg #[.int .i64 a0_0, .slice A0_1 l0_1.length c0_1]] rfl (by first | rfl | (simp only [List.map_toArray, List.map_cons, List.map_nil, List.length_drop, List.length_take]; try rfl)) ?_; (with_reducible refine (spec_GridOk.calls k a0_0 _ _ l0_1 true _ ?side1 ?side2 A2.out).mono ?_); (case side1 => repeat (first | exact (Kd.C_below HR0_1.out HB.out) | (with_reducible refine Kd.C_alloc ?_ _) | (with_reducible refine Kd.C_drewN ?_ _) | (with_reducible refine Kd.C_drew ?_))); (case side2 => exact HC0_1.out); rintro e w6 ⟨rfl, hb⟩; refine ⟨_, rfl, ?_⟩; have n0_ := Aside0.mk (blk_below (bK BK113.out) hb); have n1_ := Aside0.mk (below_step (by repeat first | exact HB.out | with_reducible refine below_setA ?_ ‹_› | apply below_alloc | apply pw_below_drewN) hb); clear BK113; clear HB; have BK113 := n0_; have HB := n1_; clear n0_ n1_; (try clear hb); (try clear hb2); (try clear hk); (try clear hi)))
  go_loopg [3, 4] k (fun kq v3 v4 w' => ∃ (x3_1 : ByteArray) (x4_1 : Int), v3 = .string x3_1 ∧ v4 = .int .i64 x4_1 ∧ Aside0 (spec_GridText.l0 kq x3_1 x4_1 a0_0 l0_1 = some r) ∧ Aside0 (kq ≤ k) ∧ Aside0 (w'.heap[gb113]? = some (.cells #[.int .i64 a0_0, (.slice A0_1 l0_1.length c0_1)] 29 (0, 0))) ∧ Aside0 (Below w.heap.size w w'))
  case atStart => exact ⟨((⟨#[]⟩ : ByteArray)), (0), (by first | rfl | (simp; done) | (simp [*]; done)), (by first | rfl | (simp; done) | (simp [*]; done)), H', ⟨Nat.le_refl _⟩, ⟨by (with_reducible repeat apply blk_alloc); exact BK113.out⟩, ⟨by repeat first | exact HB.out | with_reducible refine below_setA ?_ ‹_› | apply below_alloc | apply pw_below_drewN⟩⟩
  case round =>
   clear H'
   try clear c1
   try clear c2
   try clear p2
   try clear c3
   try clear hcz5_0
   try clear hcz5_1
   try clear hfz5_0
   try clear hfz5_1
   obtain ⟨x3_1, x4_1, rfl, rfl, HA, HK1, BK113, HB⟩ := hrel
   cases gk with
   | zero => exact absurd HA.out (by simp [spec_GridText.l0])
   | succ k1 =>
    have H := HA.out
    clear HA
    simp only [spec_GridText.l0] at H
    by_cases c7 : x4_1 < (l0_1.length : Int)
    ·rw [if_pos c7] at H
     have c7b0 : decide (x4_1 < (l0_1.length : Int)) = true := decide_eq_true c7
     clear c7
     by_cases c8 : 0 ≤ x4_1
     ·rw [if_pos c8] at H
      have c8b0 : decide (0 ≤ x4_1) = true := decide_eq_true c8
      clear c8
      replace H := Option.bind_eq_some_iff.mp H
      obtain ⟨t116, A90, H⟩ := H
      replace H : ((some (([t116] : List Int) : List Int)).bind fun y117 => (if x3_1.size + (strOfNums y117).size ≤ 9223372036854775807 then (if a0_0 = 0 then (none) else (if (Int.tmod (wrap64 (x4_1 + 1)) a0_0) = 0 then (if (x3_1 ++ (strOfNums y117)).size + 1 ≤ 9223372036854775807 then (spec_GridText.l0 k1 ((x3_1 ++ (strOfNums y117)) ++ (⟨#[10]⟩ : ByteArray)) (wrap64 (x4_1 + 1)) a0_0 l0_1) else (none)) else (spec_GridText.l0 k1 (x3_1 ++ (strOfNums y117)) (wrap64 (x4_1 + 1)) a0_0 l0_1))) else (none))) = some r := H
      have A9 := Aside0.mk A90
      clear A90
      obtain ⟨y117, hy117⟩ : ∃ y_ : List Int, y_ = (([t116] : List Int)) := ⟨_, rfl⟩
      replace H : (if x3_1.size + (strOfNums y117).size ≤ 9223372036854775807 then (if a0_0 = 0 then (none) else (if (Int.tmod (wrap64 (x4_1 + 1)) a0_0) = 0 then (if (x3_1 ++ (strOfNums y117)).size + 1 ≤ 9223372036854775807 then (spec_GridText.l0 k1 ((x3_1 ++ (strOfNums y117)) ++ (⟨#[10]⟩ : ByteArray)) (wrap64 (x4_1 + 1)) a0_0 l0_1) else (none)) else (spec_GridText.l0 k1 (x3_1 ++ (strOfNums y117)) (wrap64 (x4_1 + 1)) a0_0 l0_1))) else (none)) = some r := by first | (rw [hy117]; with_reducible exact H) | (have H2_ := (Option.bind_some _ _).symm.trans H; rw [hy117]; with_reducible exact H2_) | (have H2_ := (Option.bind_some _ _).symm.trans H; with_reducible exact H2_) | with_reducible exact H | (rw [hy117]; exact H) | exact H
      have Ny117 := Aside0.mk hy117
      clear hy117
      by_cases c10 : x3_1.size + (strOfNums y117).size ≤ 9223372036854775807
      ·rw [if_pos c10] at H
       have c10b0 := eq_true c10
       have c10b1 : decide (x3_1.size + (strOfNums y117).size ≤ 9223372036854775807) = true := decide_eq_true c10
       try have c10b2 : (9223372036854775807 < x3_1.size + (strOfNums y117).size) = False := eq_false (Nat.not_lt.2 c10)
       try (have c10b3 := c10b2; rw [ByteArray.size_append] at c10b3)
       try (have c10b4 := c10b0; rw [ByteArray.size_append] at c10b4)
       by_cases c11 : a0_0 = 0
       ·rw [if_pos c11] at H
        exact absurd H (by simp)
       ·rw [if_neg c11] at H
        have c11b0 : (a0_0 == 0) = false := beq_eq_false_iff_ne.mpr c11
        have c11b1 : (a0_0 != 0) = true := bne_iff_ne.mpr c11
        by_cases c12 : (Int.tmod (wrap64 (x4_1 + 1)) a0_0) = 0
        ·rw [if_pos c12] at H
         have c12b0 : ((Int.tmod (wrap64 (x4_1 + 1)) a0_0) == 0) = true := beq_iff_eq.mpr c12
         have c12b1 : ((Int.tmod (wrap64 (x4_1 + 1)) a0_0) != 0) = false := bne_eq_false_iff_eq.mpr c12
         clear c12
         by_cases c13 : (x3_1 ++ (strOfNums y117)).size + 1 ≤ 9223372036854775807
         ·rw [if_pos c13] at H
          have c13b0 := eq_true c13
          have c13b1 : decide ((x3_1 ++ (strOfNums y117)).size + 1 ≤ 9223372036854775807) = true := decide_eq_true c13
          try have c13b2 : (9223372036854775807 < (x3_1 ++ (strOfNums y117)).size + 1) = False := eq_false (Nat.not_lt.2 c13)
          try (have c13b3 := c13b2; rw [ByteArray.size_append] at c13b3)
          try (have c13b4 := c13b0; rw [ByteArray.size_append] at c13b4)
          have H' := Aside0.mk H
          clear H
          have hcz14_0 : wr.cell? ⟨gb113, 0, none⟩ = some (.int .i64 a0_0) := (blk_cell BK113.out 0).trans rfl
          have hcz14_1 : wr.cell? ⟨gb113, 1, none⟩ = some (.slice A0_1 l0_1.length c0_1) := (blk_cell BK113.out 1).trans rfl
          have hfz14_0 := blk_frozen BK113.out 0
          have hfz14_1 := blk_frozen BK113.out 1
          have p115 : 0 ≤ (x4_1 : Int) := of_decide_eq_true (by first | (with_reducible assumption) | assumption)
          have q115 : x4_1 < (l0_1.length : Int) := of_decide_eq_true (by first | (with_reducible assumption) | assumption)
          obtain ⟨ad115, e115, hx115_0, hx115_1⟩ := at_T39 HR0_1.out x4_1 p115 q115
          cases e115
          replace hx115_0 := (HB.out.cell (World.block_lt_of_cell? w _ hx115_0)).trans hx115_0
          replace hx115_1 := (HB.out.cell (World.block_lt_of_cell? w _ hx115_1)).trans hx115_1
          replace p115 := eq_true p115
          replace q115 := eq_true q115
          go_wp2_with (first | ((with_reducible refine gate_callee (f := 28) rfl ?_); refine goesL_ (some 22) rfl rfl Try.func28 (by kernel_rfl) rfl #[.agg #[.int .i64 ((rd_T39 l0_1 x4_1).f0), .int .i64 ((rd_T39 l0_1 x4_1).f1)]] rfl (by first | rfl | (simp only [List.map_toArray, List.map_cons, List.map_nil, List.length_drop, List.length_take]; try rfl)) ?_; (with_reducible refine (spec_l1Sign.calls ((rd_T39 l0_1 x4_1).f0) ((rd_T39 l0_1 x4_1).f1) t116 _ A9.out).mono ?_); rintro e w15 ⟨rfl, hb⟩; refine ⟨_, rfl, ?_⟩; have n0_ := Aside0.mk (blk_below (bK BK113.out) hb); have n1_ := Aside0.mk (below_step (by repeat first | exact HB.out | with_reducible refine below_setA ?_ ‹_› | apply below_alloc | apply pw_below_drewN) hb); clear BK113; clear HB; have BK113 := n0_; have HB := n1_; clear n0_ n1_; (try clear hb); (try clear hb2); (try clear hk); (try clear hi)) | ((with_reducible refine gate_dst (N := 23) rfl ?_); refine Kd.R_lit (Kd.int .u8) _ 5 ?hg (N := 23) ?hd (xs := ([t116] : List Int)) (inner := [.int .u8 t116]) (ok := fun _ => True) (okp := fun _ => True) ?hr ?hp (fun _ hk => hk) trivial (Below.refl _ _) (Nat.le_refl _) (by simp) ?_; (case hd => rfl); (case hg => rfl); (case hr => first | (go_simp; done) | (go_simp; rfl)); (case hp => exact (Reps.one (show Kd.M (Kd.int .u8) _ _ _ t116 [.int .u8 t116] from rfl) (Reps.none _ _))); intro v118 w16 ho17 hb hg_ hnew_; clear hg_ hnew_; (first | rw [← Ny117.out] at ho17 | (simp only [Int.reduceToNat] at ho17; rw [← Ny117.out] at ho17)); have n0_ := Aside0.mk (Kd.R_lower ho17 (below_size (by repeat first | exact HB.out | with_reducible refine below_setA ?_ ‹_› | apply below_alloc | apply pw_below_drewN))); have n1_ := Aside0.mk (blk_below (bK BK113.out) hb); have n2_ := Aside0.mk (below_step (by repeat first | exact HB.out | with_reducible refine below_setA ?_ ‹_› | apply below_alloc | apply pw_below_drewN) hb); clear BK113; clear HB; have HO119 := n0_; have BK113 := n1_; have HB := n2_; clear n0_ n1_ n2_; clear hb ho17; have hcv18 := own_string (P := Try.prog) Try.underlying37 Try.underlying5 Try.underlying9 (Kd.own_of_R HO119.out); have hcz19_0 : w16.cell? ⟨gb113, 0, none⟩ = some (.int .i64 a0_0) := (blk_cell BK113.out 0).trans rfl; have hcz19_1 : w16.cell? ⟨gb113, 1, none⟩ = some (.slice (some ad115) l0_1.length c0_1) := (blk_cell BK113.out 1).trans rfl; have hfz19_0 := blk_frozen BK113.out 0; have hfz19_1 := blk_frozen BK113.out 1))
          go_roundg k1
          case measure => have := HK1.out; omega
          case rel => exact ⟨((x3_1 ++ (strOfNums y117)) ++ (⟨#[10]⟩ : ByteArray)), (wrap64 (x4_1 + 1)), (by first | rfl | (simp; done) | (simp [*]; done)), (by first | rfl | (simp; done) | (simp [*]; done)), H', ⟨by have := HK1.out; omega⟩, ⟨by (with_reducible repeat apply blk_alloc); exact BK113.out⟩, ⟨by repeat first | exact HB.out | with_reducible refine below_setA ?_ ‹_› | apply below_alloc | apply pw_below_drewN⟩⟩
         ·rw [if_neg c13] at H
          exact absurd H (by simp)
        ·rw [if_neg c12] at H
         have c12b0 : ((Int.tmod (wrap64 (x4_1 + 1)) a0_0) == 0) = false := beq_eq_false_iff_ne.mpr c12
         have c12b1 : ((Int.tmod (wrap64 (x4_1 + 1)) a0_0) != 0) = true := bne_iff_ne.mpr c12
         have H' := Aside0.mk H
         clear H
         have hcz20_0 : wr.cell? ⟨gb113, 0, none⟩ = some (.int .i64 a0_0) := (blk_cell BK113.out 0).trans rfl
         have hcz20_1 : wr.cell? ⟨gb113, 1, none⟩ = some (.slice A0_1 l0_1.length c0_1) := (blk_cell BK113.out 1).trans rfl
         have hfz20_0 := blk_frozen BK113.out 0
         have hfz20_1 := blk_frozen BK113.out 1
         have p115 : 0 ≤ (x4_1 : Int) := of_decide_eq_true (by first | (with_reducible assumption) | assumption)
         have q115 : x4_1 < (l0_1.length : Int) := of_decide_eq_true (by first | (with_reducible assumption) | assumption)
         obtain ⟨ad115, e115, hx115_0, hx115_1⟩ := at_T39 HR0_1.out x4_1 p115 q115
         cases e115
         replace hx115_0 := (HB.out.cell (World.block_lt_of_cell? w _ hx115_0)).trans hx115_0
         replace hx115_1 := (HB.out.cell (World.block_lt_of_cell? w _ hx115_1)).trans hx115_1
         replace p115 := eq_true p115
         replace q115 := eq_true q115
         go_wp2_with (first | ((with_reducible refine gate_callee (f := 28) rfl ?_); refine goesL_ (some 22) rfl rfl Try.func28 (by kernel_rfl) rfl #[.agg #[.int .i64 ((rd_T39 l0_1 x4_1).f0), .int .i64 ((rd_T39 l0_1 x4_1).f1)]] rfl (by first | rfl | (simp only [List.map_toArray, List.map_cons, List.map_nil, List.length_drop, List.length_take]; try rfl)) ?_; (with_reducible refine (spec_l1Sign.calls ((rd_T39 l0_1 x4_1).f0) ((rd_T39 l0_1 x4_1).f1) t116 _ A9.out).mono ?_); rintro e w21 ⟨rfl, hb⟩; refine ⟨_, rfl, ?_⟩; have n0_ := Aside0.mk (blk_below (bK BK113.out) hb); have n1_ := Aside0.mk (below_step (by repeat first | exact HB.out | with_reducible refine below_setA ?_ ‹_› | apply below_alloc | apply pw_below_drewN) hb); clear BK113; clear HB; have BK113 := n0_; have HB := n1_; clear n0_ n1_; (try clear hb); (try clear hb2); (try clear hk); (try clear hi)) | ((with_reducible refine gate_dst (N := 23) rfl ?_); refine Kd.R_lit (Kd.int .u8) _ 5 ?hg (N := 23) ?hd (xs := ([t116] : List Int)) (inner := [.int .u8 t116]) (ok := fun _ => True) (okp := fun _ => True) ?hr ?hp (fun _ hk => hk) trivial (Below.refl _ _) (Nat.le_refl _) (by simp) ?_; (case hd => rfl); (case hg => rfl); (case hr => first | (go_simp; done) | (go_simp; rfl)); (case hp => exact (Reps.one (show Kd.M (Kd.int .u8) _ _ _ t116 [.int .u8 t116] from rfl) (Reps.none _ _))); intro v118 w22 ho23 hb hg_ hnew_; clear hg_ hnew_; (first | rw [← Ny117.out] at ho23 | (simp only [Int.reduceToNat] at ho23; rw [← Ny117.out] at ho23)); have n0_ := Aside0.mk (Kd.R_lower ho23 (below_size (by repeat first | exact HB.out | with_reducible refine below_setA ?_ ‹_› | apply below_alloc | apply pw_below_drewN))); have n1_ := Aside0.mk (blk_below (bK BK113.out) hb); have n2_ := Aside0.mk (below_step (by repeat first | exact HB.out | with_reducible refine below_setA ?_ ‹_› | apply below_alloc | apply pw_below_drewN) hb); clear BK113; clear HB; have HO119 := n0_; have BK113 := n1_; have HB := n2_; clear n0_ n1_ n2_; clear hb ho23; have hcv24 := own_string (P := Try.prog) Try.underlying37 Try.underlying5 Try.underlying9 (Kd.own_of_R HO119.out); have hcz25_0 : w22.cell? ⟨gb113, 0, none⟩ = some (.int .i64 a0_0) := (blk_cell BK113.out 0).trans rfl; have hcz25_1 : w22.cell? ⟨gb113, 1, none⟩ = some (.slice (some ad115) l0_1.length c0_1) := (blk_cell BK113.out 1).trans rfl; have hfz25_0 := blk_frozen BK113.out 0; have hfz25_1 := blk_frozen BK113.out 1))
         go_roundg k1
         case measure => have := HK1.out; omega
         case rel => exact ⟨(x3_1 ++ (strOfNums y117)), (wrap64 (x4_1 + 1)), (by first | rfl | (simp; done) | (simp [*]; done)), (by first | rfl | (simp; done) | (simp [*]; done)), H', ⟨by have := HK1.out; omega⟩, ⟨by (with_reducible repeat apply blk_alloc); exact BK113.out⟩, ⟨by repeat first | exact HB.out | with_reducible refine below_setA ?_ ‹_› | apply below_alloc | apply pw_below_drewN⟩⟩
      ·rw [if_neg c10] at H
       exact absurd H (by simp)
     ·rw [if_neg c8] at H
      exact absurd H (by simp)
    ·rw [if_neg c7] at H
     have c7b0 : decide (x4_1 < (l0_1.length : Int)) = false := decide_eq_false c7
     clear c7
     obtain rfl := Option.some.inj H
     have hcz26_0 : wr.cell? ⟨gb113, 0, none⟩ = some (.int .i64 a0_0) := (blk_cell BK113.out 0).trans rfl
     have hcz26_1 : wr.cell? ⟨gb113, 1, none⟩ = some (.slice A0_1 l0_1.length c0_1) := (blk_cell BK113.out 1).trans rfl
     have hfz26_0 := blk_frozen BK113.out 0
     have hfz26_1 := blk_frozen BK113.out 1
     go_wp2
     go_ret
     exact ⟨by first | rfl | (simp [errW_none, errW_some] <;> rfl) | (simp [*, errW_none, errW_some] <;> rfl) | (exfalso; simp_all; done), by repeat first | exact HB.out | with_reducible refine below_setA ?_ ‹_› | apply below_alloc | apply pw_below_drewN⟩
 ·replace c3 := Bool.eq_false_iff.mpr c3
  subst c3
  have H1 : (some (⟨#[]⟩ : ByteArray)) = some r := by rw [if_neg (show ¬ (false = true) by decide)] at H; exact H
  clear H
  have H := H1
  clear H1
  obtain rfl := Option.some.inj H
  go_enter Try.func11, Try.ntmps11
  go_wp2_with (first | ((with_reducible refine gate_dst (N := 1) rfl ?_); refine box_event rfl (N := 1) rfl (cs := #[.int .i64 a0_0, .slice A0_1 l0_1.length c0_1]) (t := 29) ?hr ?_; (case hr => first | (go_simp; done) | (go_simp; rfl)); intro gb113 hg w27 hbox hb; have n0_ := Aside0.mk (below_step (by repeat first | exact HB.out | apply below_alloc | apply pw_below_drewN) hb); have n1_ := Aside0.mk (hbox); have n2_ := Aside0.mk ((by rw [hg]; exact (below_size (by repeat first | exact HB.out | apply below_alloc | apply pw_below_drewN)) : w.heap.size ≤ gb113)); have n3_ := n2_; clear HB; have HB := n0_; have BK113 := n1_; have GW113 := n2_; have GE113 := n3_; clear n0_ n1_ n2_ n3_; clear hb hbox hg; have hcz28_0 : w27.cell? ⟨gb113, 0, none⟩ = some (.int .i64 a0_0) := (blk_cell BK113.out 0).trans rfl; have hcz28_1 : w27.cell? ⟨gb113, 1, none⟩ = some (.slice A0_1 l0_1.length c0_1) := (blk_cell BK113.out 1).trans rfl; have hfz28_0 := blk_frozen BK113.out 0; have hfz28_1 := blk_frozen BK113.out 1) | ((with_reducible refine gate_callee (f := 27) rfl ?_); refine goesL_ (some 6) rfl rfl Try.func27 (by kernel_rfl) rfl #[.agg #[.int .i64 a0_0, .slice A0_1 l0_1.length c0_1]] rfl (by first | rfl | (simp only [List.map_toArray, List.map_cons, List.map_nil, List.length_drop, List.length_take]; try rfl)) ?_; (with_reducible refine (spec_GridOk.calls k a0_0 _ _ l0_1 false _ ?side1 ?side2 A2.out).mono ?_); (case side1 => repeat (first | exact (Kd.C_below HR0_1.out HB.out) | (with_reducible refine Kd.C_alloc ?_ _) | (with_reducible refine Kd.C_drewN ?_ _) | (with_reducible refine Kd.C_drew ?_))); (case side2 => exact HC0_1.out); rintro e w29 ⟨rfl, hb⟩; refine ⟨_, rfl, ?_⟩; have n0_ := Aside0.mk (blk_below (bK BK113.out) hb); have n1_ := Aside0.mk (below_step (by repeat first | exact HB.out | with_reducible refine below_setA ?_ ‹_› | apply below_alloc | apply pw_below_drewN) hb); clear BK113; clear HB; have BK113 := n0_; have HB := n1_; clear n0_ n1_; (try clear hb); (try clear hb2); (try clear hk); (try clear hi)))
  go_ret
  exact ⟨by first | rfl | (simp [errW_none, errW_some] <;> rfl) | (simp [*, errW_none, errW_some] <;> rfl) | (exfalso; simp_all; done), by repeat first | exact HB.out | with_reducible refine below_setA ?_ ‹_› | apply below_alloc | apply pw_below_drewN⟩

end Go.Proofs.Ytpjdhpkfenohgaa.P
