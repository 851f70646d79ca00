/- PROVED: contracts of functions; written by this session's driver (pk.py). No condition. -/
import Derived.Test.YtpjdhpkfenohgaaPx0
import Derived.Test.YtpjdhpkfenohgaaPx14
import Derived.Test.YtpjdhpkfenohgaaPx25
import Derived.Test.YtpjdhpkfenohgaaPx32
import Derived.Test.YtpjdhpkfenohgaaPx33
import Derived.Test.YtpjdhpkfenohgaaPx35
import Derived.Test.YtpjdhpkfenohgaaH3GridText
namespace Go.Proofs.Ytpjdhpkfenohgaa.P
open Go.RowKit Go.Proofs.YtpjdhpkfenohgaaW.PrintWords Go.Proofs.YtpjdhpkfenohgaaW.PrintLast Go.Proofs.YtpjdhpkfenohgaaW.PrintMore
attribute [local go_sem] max2_int min2_int max_two min_two max_three min_three max_four min_four   -- for this text's walks alone
set_option linter.unusedVariables false
set_option linter.unusedSimpArgs false

/-! ### laws_FnGridStrict: function 9 -/
def laws_FnGridStrict.j0 : Nat → ByteArray → Bool → Bool → Bool → Int → List (S39) → Int → List (S39) → Option (Bool)
 | 0, _, _, _, _, _, _, _, _ => none
 | k + 1, x3, x5, x7, x35, x429000, x429001, x435000, x435001 => if x35 = true then (if (x7 == x5) = true then ((laws_llGrid.f k x435000 x435001 x429000 x429001).bind fun t436 => (some t436)) else (some false)) else ((impl_GridOk.f k x435000 x435001).bind fun t437 => (if t437 = true then ((impl_GridText.f k x435000 x435001).bind fun t438 => (some (t438.toList == x3.toList))) else (some false)))
def laws_FnGridStrict.f (k : Nat) (l0 : List Int) : Option (Bool) := if (l0.length : Int) > 1048576 then (some true) else ((spec_DrawGridRead.f k l0).bind fun t422 => ((spec_GridRead.f k t422).bind fun bt423 => ((impl_GridRead.f k t422).bind fun bt429 => (if (bt429.2.2 != bt423.2.2) = true then (laws_FnGridStrict.j0 k t422 bt423.2.2 bt429.2.2 true bt423.1 bt423.2.1 bt429.1 bt429.2.1) else ((laws_llGrid.f k bt429.1 bt429.2.1 bt423.1 bt423.2.1).bind fun t435 => (if t435 = true then (laws_FnGridStrict.j0 k t422 bt423.2.2 bt429.2.2 (!bt429.2.2) bt423.1 bt423.2.1 bt429.1 bt429.2.1) else (laws_FnGridStrict.j0 k t422 bt423.2.2 bt429.2.2 true bt423.1 bt423.2.1 bt429.1 bt429.2.1)))))))
set_option maxHeartbeats 8000000 in
set_option maxRecDepth 100000 in
theorem laws_FnGridStrict.calls (k : Nat) (A0 : Option Addr) (c0 : Nat) (l0 : List Int) (r : Bool) (w : World) (hr0 : Kd.C (Kd.int .u8) w A0 l0.length l0) (hc0 : l0.length ≤ c0) (h : laws_FnGridStrict.f k l0 = some r) (hrt : r = true) :
  Calls Try.prog 9 #[.slice A0 l0.length c0] w fun e w' => e = .returned (.bool r) ∧ Below w.heap.size w w' := by
 have HRT := Aside0.mk hrt
 clear hrt
 have hu29 := Try.underlying29
 have HR0 := Aside0.mk hr0
 have HC0 := Aside0.mk hc0
 clear hr0 hc0
 have HB := Aside0.mk (Below.refl w.heap.size w)
 have H : (if (l0.length : Int) > 1048576 then (some true) else ((spec_DrawGridRead.f k l0).bind fun t422 => ((spec_GridRead.f k t422).bind fun bt423 => ((impl_GridRead.f k t422).bind fun bt429 => (if (bt429.2.2 != bt423.2.2) = true then (laws_FnGridStrict.j0 k t422 bt423.2.2 bt429.2.2 true bt423.1 bt423.2.1 bt429.1 bt429.2.1) else ((laws_llGrid.f k bt429.1 bt429.2.1 bt423.1 bt423.2.1).bind fun t435 => (if t435 = true then (laws_FnGridStrict.j0 k t422 bt423.2.2 bt429.2.2 (!bt429.2.2) bt423.1 bt423.2.1 bt429.1 bt429.2.1) else (laws_FnGridStrict.j0 k t422 bt423.2.2 bt429.2.2 true bt423.1 bt423.2.1 bt429.1 bt429.2.1)))))))) = some r := h
 clear h
 by_cases c2 : (l0.length : Int) > 1048576
 ·rw [if_pos c2] at H
  have c2b0 : decide (1048576 < (l0.length : Int)) = true := decide_eq_true c2
  have c2b1 : decide (1048576 < l0.length) = true := decide_eq_true (by omega)
  clear c2
  obtain rfl := Option.some.inj H
  go_enter Try.func9, Try.ntmps9
  go_wp2
  go_ret
  exact ⟨by first | rfl | (simp [errW_none, errW_some] <;> rfl) | (simp [*, errW_none, errW_some] <;> rfl) | (exfalso; simp_all; done), by repeat first | exact HB.out | apply below_alloc | apply pw_below_drewN⟩
 ·rw [if_neg c2] at H
  have c2b0 : decide (1048576 < (l0.length : Int)) = false := decide_eq_false c2
  have c2b1 : decide (1048576 < l0.length) = false := decide_eq_false (by omega)
  clear c2
  replace H := Option.bind_eq_some_iff.mp H
  obtain ⟨t422, A30, H⟩ := H
  replace H : ((spec_GridRead.f k t422).bind fun bt423 => ((impl_GridRead.f k t422).bind fun bt429 => (if (bt429.2.2 != bt423.2.2) = true then (laws_FnGridStrict.j0 k t422 bt423.2.2 bt429.2.2 true bt423.1 bt423.2.1 bt429.1 bt429.2.1) else ((laws_llGrid.f k bt429.1 bt429.2.1 bt423.1 bt423.2.1).bind fun t435 => (if t435 = true then (laws_FnGridStrict.j0 k t422 bt423.2.2 bt429.2.2 (!bt429.2.2) bt423.1 bt423.2.1 bt429.1 bt429.2.1) else (laws_FnGridStrict.j0 k t422 bt423.2.2 bt429.2.2 true bt423.1 bt423.2.1 bt429.1 bt429.2.1)))))) = some r := H
  have A3 := Aside0.mk A30
  clear A30
  replace H := Option.bind_eq_some_iff.mp H
  obtain ⟨⟨t423, t424, t427⟩, A40, H⟩ := H
  replace H : ((impl_GridRead.f k t422).bind fun bt429 => (if (bt429.2.2 != t427) = true then (laws_FnGridStrict.j0 k t422 t427 bt429.2.2 true t423 t424 bt429.1 bt429.2.1) else ((laws_llGrid.f k bt429.1 bt429.2.1 t423 t424).bind fun t435 => (if t435 = true then (laws_FnGridStrict.j0 k t422 t427 bt429.2.2 (!bt429.2.2) t423 t424 bt429.1 bt429.2.1) else (laws_FnGridStrict.j0 k t422 t427 bt429.2.2 true t423 t424 bt429.1 bt429.2.1))))) = some r := H
  have A4 := Aside0.mk A40
  clear A40
  replace H := Option.bind_eq_some_iff.mp H
  obtain ⟨⟨t429, t430, t433⟩, A50, H⟩ := H
  replace H : (if (t433 != t427) = true then (laws_FnGridStrict.j0 k t422 t427 t433 true t423 t424 t429 t430) else ((laws_llGrid.f k t429 t430 t423 t424).bind fun t435 => (if t435 = true then (laws_FnGridStrict.j0 k t422 t427 t433 (!t433) t423 t424 t429 t430) else (laws_FnGridStrict.j0 k t422 t427 t433 true t423 t424 t429 t430)))) = some r := H
  have A5 := Aside0.mk A50
  clear A50
  have HC6 := Aside0.mk H
  clear H
  go_enter Try.func9, Try.ntmps9
  go_upto_region 6 with (first | ((with_reducible refine gate_callee (f := 25) rfl ?_); refine goesL_ (some 12) rfl rfl Try.func25 (by kernel_rfl) rfl #[.slice A0 l0.length c0] rfl (by first | rfl | (simp only [List.map_toArray, List.map_cons, List.map_nil, List.length_drop, List.length_take]; try rfl)) ?_; (with_reducible refine (spec_DrawGridRead.calls k _ _ l0 t422 _ ?side1 ?side2 A3.out).mono ?_); (case side1 => repeat (first | exact HR0.out | (with_reducible refine Kd.C_alloc ?_ _) | (with_reducible refine Kd.C_drewN ?_ _) | (with_reducible refine Kd.C_drew ?_))); (case side2 => exact HC0.out); rintro e w7 ⟨rfl, hb⟩; refine ⟨_, rfl, ?_⟩; have n0_ := Aside0.mk (below_step (by repeat first | exact HB.out | apply below_alloc | apply pw_below_drewN) hb); clear HB; have HB := n0_; clear n0_; (try clear hb); (try clear hb2); (try clear hk); (try clear hi)) | ((with_reducible refine gate_callee (f := 15) rfl ?_); refine goesL_ (some 15) rfl rfl Try.func15 (by kernel_rfl) rfl #[.string t422] rfl (by first | rfl | (simp only [List.map_toArray, List.map_cons, List.map_nil, List.length_drop, List.length_take]; try rfl)) ?_; (with_reducible refine (spec_GridRead.calls k t422 t423 t424 t427 _ A4.out).mono ?_); rintro e w8 ⟨v425, rfl, ho0, hb⟩; refine ⟨_, rfl, ?_⟩; have n0_ := Aside0.mk (Kd.R_lower ho0 (below_size (by repeat first | exact HB.out | apply below_alloc | apply pw_below_drewN))); have n1_ := Aside0.mk (below_step (by repeat first | exact HB.out | apply below_alloc | apply pw_below_drewN) hb); clear HB; have HO426 := n0_; have HB := n1_; clear n0_ n1_; (try clear hb); (try clear hb2); (try clear hk); (try clear hi); (try clear ho0)) | ((with_reducible refine gate_dst (N := 4) rfl ?_); refine box_event rfl (N := 4) rfl (cs := #[.int .i64 0, .slice none 0 0]) (t := 29) ?hr ?_; (case hr => first | (go_simp; done) | (go_simp; rfl)); intro gb428 hg w9 hbox hb; have n0_ := Aside0.mk (Kd.R_below (kR HO426.out) hb); have n1_ := Aside0.mk (below_step (by repeat first | exact HB.out | apply below_alloc | apply pw_below_drewN) hb); have n2_ := Aside0.mk (hbox); have n3_ := Aside0.mk ((by rw [hg]; exact (below_size (by repeat first | exact HB.out | apply below_alloc | apply pw_below_drewN)) : w.heap.size ≤ gb428)); have n4_ := n3_; clear HO426; clear HB; have HO426 := n0_; have HB := n1_; have BK428 := n2_; have GW428 := n3_; have GE428 := n4_; clear n0_ n1_ n2_ n3_ n4_; clear hb hbox hg; have hcz10_0 : w9.cell? ⟨gb428, 0, none⟩ = some (.int .i64 0) := (blk_cell BK428.out 0).trans rfl; have hcz10_1 : w9.cell? ⟨gb428, 1, none⟩ = some (.slice none 0 0) := (blk_cell BK428.out 1).trans rfl; have hfz10_0 := blk_frozen BK428.out 0; have hfz10_1 := blk_frozen BK428.out 1; obtain ⟨Ao11, co11, eo11⟩ := Kd.R_slice HO426.out; subst eo11) | ((with_reducible refine gate_callee (f := 16) rfl ?_); refine goesL_ (some 20) rfl rfl Try.func16 (by kernel_rfl) rfl #[.string t422] rfl (by first | rfl | (simp only [List.map_toArray, List.map_cons, List.map_nil, List.length_drop, List.length_take]; try rfl)) ?_; (with_reducible refine (impl_GridRead.calls k t422 t429 t430 t433 _ A5.out).mono ?_); rintro e w12 ⟨v431, rfl, ho0, hb⟩; refine ⟨_, rfl, ?_⟩; have n0_ := Aside0.mk (Kd.R_elder' (by (with_reducible repeat apply Kd.R_alloc); exact (Kd.R_mono (Kd.R_far (p := ⟨gb428, 1, none⟩) (Kd.R_far (p := ⟨gb428, 0, none⟩) (Kd.R_types HO426.out BK428.out (by decide)) (fun _ hk => hk.2) (.int .i64 t423)) (fun _ hk => hk.2) (.slice Ao11 t424.length co11)) (fun _ h_ => h_.1))) (Kd.R_base ho0) hb); have n1_ := Aside0.mk (Kd.R_lower (Kd.R_new' ho0 (Kd.R_lt (by (with_reducible repeat apply Kd.R_alloc); exact (Kd.R_mono (Kd.R_far (p := ⟨gb428, 1, none⟩) (Kd.R_far (p := ⟨gb428, 0, none⟩) (Kd.R_types HO426.out BK428.out (by decide)) (fun _ hk => hk.2) (.int .i64 t423)) (fun _ hk => hk.2) (.slice Ao11 t424.length co11)) (fun _ h_ => h_.1))))) (below_size (by repeat first | exact HB.out | with_reducible refine below_setA ?_ ‹_› | apply below_alloc | apply pw_below_drewN))); have n2_ := Aside0.mk (blk_below (g := gb428) (o := .cells #[.int .i64 t423, .slice Ao11 t424.length co11] 29 (0, 0)) (by (with_reducible repeat apply blk_alloc); refine blk_put (cs := #[.int .i64 t423, .slice none 0 0]) ?_ 1 _ rfl; (with_reducible repeat apply blk_alloc); refine blk_put (cs := #[.int .i64 0, .slice none 0 0]) ?_ 0 _ rfl; (with_reducible repeat apply blk_alloc); exact BK428.out) hb); have n3_ := Aside0.mk (below_step (by repeat first | exact HB.out | with_reducible refine below_setA ?_ ‹_› | apply below_alloc | apply pw_below_drewN) hb); clear HO426; clear BK428; clear HB; have HO426 := n0_; have HO432 := n1_; have BK428 := n2_; have HB := n3_; clear n0_ n1_ n2_ n3_; (try clear hb); (try clear hb2); (try clear hk); (try clear hi); (try clear ho0)) | ((with_reducible refine gate_dst (N := 6) rfl ?_); refine box_event rfl (N := 6) rfl (cs := #[.int .i64 0, .slice none 0 0]) (t := 29) ?hr ?_; (case hr => first | (go_simp; done) | (go_simp; rfl)); intro gb434 hg w13 hbox hb; have n0_ := Aside0.mk (Kd.R_below (kR HO426.out) hb); have n1_ := Aside0.mk (Kd.R_below (kR HO432.out) hb); have n2_ := Aside0.mk (blk_below (bK BK428.out) hb); have n3_ := Aside0.mk (below_step (by repeat first | exact HB.out | with_reducible refine below_setA ?_ ‹_› | apply below_alloc | apply pw_below_drewN) hb); have n4_ := Aside0.mk (hbox); have n5_ := Aside0.mk ((by rw [hg]; exact (below_size (by repeat first | exact HB.out | with_reducible refine below_setA ?_ ‹_› | apply below_alloc | apply pw_below_drewN)) : w.heap.size ≤ gb434)); have n6_ := n5_; have n7_ := Aside0.mk ((by rw [hg]; exact Nat.ne_of_lt (blk_lt (bK BK428.out)) : gb428 ≠ gb434)); have n8_ := Aside0.mk ((by rw [hg]; exact Nat.ne_of_gt (blk_lt (bK BK428.out)) : gb434 ≠ gb428)); clear HO426; clear HO432; clear BK428; clear HB; have HO426 := n0_; have HO432 := n1_; have BK428 := n2_; have HB := n3_; have BK434 := n4_; have GW434 := n5_; have GE434 := n6_; have NB428_434 := n7_; have NB434_428 := n8_; clear n0_ n1_ n2_ n3_ n4_ n5_ n6_ n7_ n8_; clear hb hbox hg; have hnb14 := NB434_428.out; have hnc14 := NB428_434.out; have hcz15_0 : w13.cell? ⟨gb434, 0, none⟩ = some (.int .i64 0) := (blk_cell BK434.out 0).trans rfl; have hcz15_1 : w13.cell? ⟨gb434, 1, none⟩ = some (.slice none 0 0) := (blk_cell BK434.out 1).trans rfl; have hfz15_0 := blk_frozen BK434.out 0; have hfz15_1 := blk_frozen BK434.out 1; obtain ⟨Ao16, co16, eo16⟩ := Kd.R_slice HO432.out; subst eo16))
  (try simp only [Act.put, List.setIfInBounds_toArray, List.set_cons_zero, List.set_cons_succ])
  go_cut [35] (fun v35 wc => ∃ (kq : Nat) (x35_5 : Bool), v35 = .bool x35_5 ∧ Aside0 (laws_FnGridStrict.j0 kq t422 t427 t433 x35_5 t423 t424 t429 t430 = some r) ∧ Aside0 (kq ≤ k) ∧ Aside0 (Kd.R k39 39 wc w.heap.size (fun k_ => some k_ ≠ ((.slice Ao16 t430.length co16) : Value).ownBlock) (.slice Ao11 t424.length co11) t424) ∧ Aside0 (Kd.R k39 39 wc w.heap.size (fun k_ => some k_ ≠ ((.slice Ao11 t424.length co11) : Value).ownBlock) (.slice Ao16 t430.length co16) t430) ∧ Aside0 (wc.heap[gb428]? = some (.cells #[.int .i64 t423, (.slice Ao11 t424.length co11)] 29 (0, 0))) ∧ Aside0 (wc.heap[gb434]? = some (.cells #[.int .i64 t429, (.slice Ao16 t430.length co16)] 29 (0, 0))) ∧ Aside0 (Below w.heap.size w wc))
  case first =>
   have H := HC6.out
   clear HC6
   by_cases c17 : (t433 != t427) = true
   ·rw [if_pos c17] at H
    have c17b0 : (t433 != t427) = true := c17
    (try (have c17b1 : decide (t433 = t427) = false := by simpa using c17))
    (try (have c17b2 : (t433 == t427) = false := by simpa using c17))
    (try (have c17b3 : ¬ (t433 = t427) := by simpa using c17))
    clear c17
    (first | rw [c17b0] | (simp only [i64_w, i32_w]; rw [c17b0]) | skip)
    have H' := Aside0.mk H
    clear H
    go_wp2
    go_meet
    case rel => exact ⟨_, (true), (by first | rfl | (simp; done) | (simp [*]; done)), H', ⟨by first | omega | exact Nat.le_refl _⟩, ⟨by (with_reducible repeat apply Kd.R_alloc); exact Kd.R_mono (Kd.R_far (p := ⟨gb434, 1, none⟩) (Kd.R_far (p := ⟨gb434, 0, none⟩) (Kd.R_types HO426.out BK434.out (by decide)) (fun _ hk => hk.2) (.int .i64 t429)) (fun _ hk => hk.2) (.slice Ao16 t430.length co16)) (fun _ hk => hk.1.2)⟩, ⟨by (with_reducible repeat apply Kd.R_alloc); exact Kd.R_mono (Kd.R_far (p := ⟨gb434, 1, none⟩) (Kd.R_far (p := ⟨gb434, 0, none⟩) (Kd.R_types HO432.out BK434.out (by decide)) (fun _ hk => hk.2) (.int .i64 t429)) (fun _ hk => hk.2) (.slice Ao16 t430.length co16)) (fun _ hk => hk.1.2)⟩, ⟨by (with_reducible repeat apply blk_alloc); refine blk_far ?_ NB428_434.out _; (with_reducible repeat apply blk_alloc); refine blk_far ?_ NB428_434.out _; (with_reducible repeat apply blk_alloc); exact BK428.out⟩, ⟨by (with_reducible repeat apply blk_alloc); refine blk_put (cs := #[.int .i64 t429, .slice none 0 0]) ?_ 1 _ rfl; (with_reducible repeat apply blk_alloc); refine blk_put (cs := #[.int .i64 0, .slice none 0 0]) ?_ 0 _ rfl; (with_reducible repeat apply blk_alloc); exact BK434.out⟩, ⟨by repeat first | exact HB.out | with_reducible refine below_setA ?_ ‹_› | apply below_alloc | apply pw_below_drewN⟩⟩
   ·rw [if_neg c17] at H
    have c17b0 : (t433 != t427) = false := by simpa using c17
    (try (have c17b1 : decide (t433 = t427) = true := by simpa using c17))
    (try (have c17b2 : (t433 == t427) = true := by simpa using c17))
    clear c17
    (first | rw [c17b0] | (simp only [i64_w, i32_w]; rw [c17b0]) | skip)
    replace H := Option.bind_eq_some_iff.mp H
    obtain ⟨t435, A180, H⟩ := H
    replace H : (if t435 = true then (laws_FnGridStrict.j0 k t422 t427 t433 (!t433) t423 t424 t429 t430) else (laws_FnGridStrict.j0 k t422 t427 t433 true t423 t424 t429 t430)) = some r := H
    have A18 := Aside0.mk A180
    clear A180
    by_cases c19 : t435 = true
    ·subst c19
     have H1 : (laws_FnGridStrict.j0 k t422 t427 t433 (!t433) t423 t424 t429 t430) = some r := by rw [if_pos rfl] at H; exact H
     clear H
     have H := H1
     clear H1
     have H' := Aside0.mk H
     clear H
     have hnb20 := NB434_428.out
     have hnc20 := NB428_434.out
     have hcz21_0 : w13.cell? ⟨gb434, 0, none⟩ = some (.int .i64 0) := (blk_cell BK434.out 0).trans rfl
     have hcz21_1 : w13.cell? ⟨gb434, 1, none⟩ = some (.slice none 0 0) := (blk_cell BK434.out 1).trans rfl
     have hfz21_0 := blk_frozen BK434.out 0
     have hfz21_1 := blk_frozen BK434.out 1
     have hcz22_0 : w13.cell? ⟨gb428, 0, none⟩ = some (.int .i64 t423) := (blk_cell BK428.out 0).trans rfl
     have hcz22_1 : w13.cell? ⟨gb428, 1, none⟩ = some (.slice Ao11 t424.length co11) := (blk_cell BK428.out 1).trans rfl
     have hfz22_0 := blk_frozen BK428.out 0
     have hfz22_1 := blk_frozen BK428.out 1
     go_wp2_with (first | (go_at_call 23; (with_reducible refine (laws_llGrid.calls k t429 _ _ t430 t423 _ _ t424 true _ ?side1 ?side2 ?side3 ?side4 A18.out).mono ?_); (case side1 => refine (Kd.R_reads' (e := 39) (base := w.heap.size) (ok := fun k_ => (True ∧ some k_ ≠ (.slice Ao11 t424.length co11 : Value).ownBlock)) (n := t430.length) (c := co16) ?_).2.2; exact (by (with_reducible repeat apply Kd.R_alloc); exact (Kd.R_mono (Kd.R_far (p := ⟨gb434, 1, none⟩) (Kd.R_far (p := ⟨gb434, 0, none⟩) (Kd.R_types HO432.out BK434.out (by decide)) (fun _ hk => hk.2) (.int .i64 t429)) (fun _ hk => hk.2) (.slice Ao16 t430.length co16)) (fun _ h_ => h_.1)))); (case side2 => exact (Kd.R_reads' HO432.out).2.1); (case side3 => refine (Kd.R_reads' (e := 39) (base := w.heap.size) (ok := fun k_ => (True ∧ some k_ ≠ (.slice Ao16 t430.length co16 : Value).ownBlock)) (n := t424.length) (c := co11) ?_).2.2; exact (by (with_reducible repeat apply Kd.R_alloc); exact (Kd.R_mono (Kd.R_far (p := ⟨gb434, 1, none⟩) (Kd.R_far (p := ⟨gb434, 0, none⟩) (Kd.R_types HO426.out BK434.out (by decide)) (fun _ hk => hk.2) (.int .i64 t429)) (fun _ hk => hk.2) (.slice Ao16 t430.length co16)) (fun _ h_ => h_.1)))); (case side4 => exact (Kd.R_reads' HO426.out).2.1); rintro e w23 ⟨rfl, hb⟩; have n0_ := Aside0.mk (Kd.R_below (by (with_reducible repeat apply Kd.R_alloc); exact (Kd.R_mono (Kd.R_far (p := ⟨gb434, 1, none⟩) (Kd.R_far (p := ⟨gb434, 0, none⟩) (Kd.R_types HO426.out BK434.out (by decide)) (fun _ hk => hk.2) (.int .i64 t429)) (fun _ hk => hk.2) (.slice Ao16 t430.length co16)) (fun _ h_ => h_.1))) hb); have n1_ := Aside0.mk (Kd.R_below (by (with_reducible repeat apply Kd.R_alloc); exact (Kd.R_mono (Kd.R_far (p := ⟨gb434, 1, none⟩) (Kd.R_far (p := ⟨gb434, 0, none⟩) (Kd.R_types HO432.out BK434.out (by decide)) (fun _ hk => hk.2) (.int .i64 t429)) (fun _ hk => hk.2) (.slice Ao16 t430.length co16)) (fun _ h_ => h_.1))) hb); have n2_ := Aside0.mk (blk_below (g := gb428) (o := .cells #[.int .i64 t423, .slice Ao11 t424.length co11] 29 (0, 0)) (by (with_reducible repeat apply blk_alloc); refine blk_far ?_ NB428_434.out _; (with_reducible repeat apply blk_alloc); refine blk_far ?_ NB428_434.out _; (with_reducible repeat apply blk_alloc); exact BK428.out) hb); have n3_ := Aside0.mk (blk_below (g := gb434) (o := .cells #[.int .i64 t429, .slice Ao16 t430.length co16] 29 (0, 0)) (by (with_reducible repeat apply blk_alloc); refine blk_put (cs := #[.int .i64 t429, .slice none 0 0]) ?_ 1 _ rfl; (with_reducible repeat apply blk_alloc); refine blk_put (cs := #[.int .i64 0, .slice none 0 0]) ?_ 0 _ rfl; (with_reducible repeat apply blk_alloc); exact BK434.out) hb); have n4_ := Aside0.mk (below_step (by repeat first | exact HB.out | with_reducible refine below_setA ?_ ‹_› | apply below_alloc | apply pw_below_drewN) hb); clear HO426; clear HO432; clear BK428; clear BK434; clear HB; have HO426 := n0_; have HO432 := n1_; have BK428 := n2_; have BK434 := n3_; have HB := n4_; clear n0_ n1_ n2_ n3_ n4_; (try clear hb); (try clear hb2); (try clear hk); (try clear hi)))
     go_meet
     case rel => exact ⟨_, (!t433), (by first | rfl | (simp; done) | (simp [*]; done)), H', ⟨by first | omega | exact Nat.le_refl _⟩, ⟨by (with_reducible repeat apply Kd.R_alloc); exact Kd.R_mono HO426.out (fun _ hk => hk.2)⟩, ⟨by (with_reducible repeat apply Kd.R_alloc); exact Kd.R_mono HO432.out (fun _ hk => hk.2)⟩, ⟨by (with_reducible repeat apply blk_alloc); exact BK428.out⟩, ⟨by (with_reducible repeat apply blk_alloc); exact BK434.out⟩, ⟨by repeat first | exact HB.out | with_reducible refine below_setA ?_ ‹_› | apply below_alloc | apply pw_below_drewN⟩⟩
    ·replace c19 := Bool.eq_false_iff.mpr c19
     subst c19
     have H1 : (laws_FnGridStrict.j0 k t422 t427 t433 true t423 t424 t429 t430) = some r := by rw [if_neg (show ¬ (false = true) by decide)] at H; exact H
     clear H
     have H := H1
     clear H1
     have H' := Aside0.mk H
     clear H
     have hnb24 := NB434_428.out
     have hnc24 := NB428_434.out
     have hcz25_0 : w13.cell? ⟨gb434, 0, none⟩ = some (.int .i64 0) := (blk_cell BK434.out 0).trans rfl
     have hcz25_1 : w13.cell? ⟨gb434, 1, none⟩ = some (.slice none 0 0) := (blk_cell BK434.out 1).trans rfl
     have hfz25_0 := blk_frozen BK434.out 0
     have hfz25_1 := blk_frozen BK434.out 1
     have hcz26_0 : w13.cell? ⟨gb428, 0, none⟩ = some (.int .i64 t423) := (blk_cell BK428.out 0).trans rfl
     have hcz26_1 : w13.cell? ⟨gb428, 1, none⟩ = some (.slice Ao11 t424.length co11) := (blk_cell BK428.out 1).trans rfl
     have hfz26_0 := blk_frozen BK428.out 0
     have hfz26_1 := blk_frozen BK428.out 1
     go_wp2_with (first | (go_at_call 23; (with_reducible refine (laws_llGrid.calls k t429 _ _ t430 t423 _ _ t424 false _ ?side1 ?side2 ?side3 ?side4 A18.out).mono ?_); (case side1 => refine (Kd.R_reads' (e := 39) (base := w.heap.size) (ok := fun k_ => (True ∧ some k_ ≠ (.slice Ao11 t424.length co11 : Value).ownBlock)) (n := t430.length) (c := co16) ?_).2.2; exact (by (with_reducible repeat apply Kd.R_alloc); exact (Kd.R_mono (Kd.R_far (p := ⟨gb434, 1, none⟩) (Kd.R_far (p := ⟨gb434, 0, none⟩) (Kd.R_types HO432.out BK434.out (by decide)) (fun _ hk => hk.2) (.int .i64 t429)) (fun _ hk => hk.2) (.slice Ao16 t430.length co16)) (fun _ h_ => h_.1)))); (case side2 => exact (Kd.R_reads' HO432.out).2.1); (case side3 => refine (Kd.R_reads' (e := 39) (base := w.heap.size) (ok := fun k_ => (True ∧ some k_ ≠ (.slice Ao16 t430.length co16 : Value).ownBlock)) (n := t424.length) (c := co11) ?_).2.2; exact (by (with_reducible repeat apply Kd.R_alloc); exact (Kd.R_mono (Kd.R_far (p := ⟨gb434, 1, none⟩) (Kd.R_far (p := ⟨gb434, 0, none⟩) (Kd.R_types HO426.out BK434.out (by decide)) (fun _ hk => hk.2) (.int .i64 t429)) (fun _ hk => hk.2) (.slice Ao16 t430.length co16)) (fun _ h_ => h_.1)))); (case side4 => exact (Kd.R_reads' HO426.out).2.1); rintro e w27 ⟨rfl, hb⟩; have n0_ := Aside0.mk (Kd.R_below (by (with_reducible repeat apply Kd.R_alloc); exact (Kd.R_mono (Kd.R_far (p := ⟨gb434, 1, none⟩) (Kd.R_far (p := ⟨gb434, 0, none⟩) (Kd.R_types HO426.out BK434.out (by decide)) (fun _ hk => hk.2) (.int .i64 t429)) (fun _ hk => hk.2) (.slice Ao16 t430.length co16)) (fun _ h_ => h_.1))) hb); have n1_ := Aside0.mk (Kd.R_below (by (with_reducible repeat apply Kd.R_alloc); exact (Kd.R_mono (Kd.R_far (p := ⟨gb434, 1, none⟩) (Kd.R_far (p := ⟨gb434, 0, none⟩) (Kd.R_types HO432.out BK434.out (by decide)) (fun _ hk => hk.2) (.int .i64 t429)) (fun _ hk => hk.2) (.slice Ao16 t430.length co16)) (fun _ h_ => h_.1))) hb); have n2_ := Aside0.mk (blk_below (g := gb428) (o := .cells #[.int .i64 t423, .slice Ao11 t424.length co11] 29 (0, 0)) (by (with_reducible repeat apply blk_alloc); refine blk_far ?_ NB428_434.out _; (with_reducible repeat apply blk_alloc); refine blk_far ?_ NB428_434.out _; (with_reducible repeat apply blk_alloc); exact BK428.out) hb); have n3_ := Aside0.mk (blk_below (g := gb434) (o := .cells #[.int .i64 t429, .slice Ao16 t430.length co16] 29 (0, 0)) (by (with_reducible repeat apply blk_alloc); refine blk_put (cs := #[.int .i64 t429, .slice none 0 0]) ?_ 1 _ rfl; (with_reducible repeat apply blk_alloc); refine blk_put (cs := #[.int .i64 0, .slice none 0 0]) ?_ 0 _ rfl; (with_reducible repeat apply blk_alloc); exact BK434.out) hb); have n4_ := Aside0.mk (below_step (by repeat first | exact HB.out | with_reducible refine below_setA ?_ ‹_› | apply below_alloc | apply pw_below_drewN) hb); clear HO426; clear HO432; clear BK428; clear BK434; clear HB; have HO426 := n0_; have HO432 := n1_; have BK428 := n2_; have BK434 := n3_; have HB := n4_; clear n0_ n1_ n2_ n3_ n4_; (try clear hb); (try clear hb2); (try clear hk); (try clear hi)))
     go_meet
     case rel => exact ⟨_, (true), (by first | rfl | (simp; done) | (simp [*]; done)), H', ⟨by first | omega | exact Nat.le_refl _⟩, ⟨by (with_reducible repeat apply Kd.R_alloc); exact Kd.R_mono HO426.out (fun _ hk => hk.2)⟩, ⟨by (with_reducible repeat apply Kd.R_alloc); exact Kd.R_mono HO432.out (fun _ hk => hk.2)⟩, ⟨by (with_reducible repeat apply blk_alloc); exact BK428.out⟩, ⟨by (with_reducible repeat apply blk_alloc); exact BK434.out⟩, ⟨by repeat first | exact HB.out | with_reducible refine below_setA ?_ ‹_› | apply below_alloc | apply pw_below_drewN⟩⟩
  case rest =>
   clear HC6
   try clear c1
   try clear c2
   try clear c2b0
   try clear c2b1
   try clear p2
   try clear c9
   try clear c14
   try clear c15
   try clear c16
   try clear c17
   try clear c17b0
   try clear c17b1
   try clear c17b2
   try clear c19
   try clear c20
   try clear c24
   try clear c25
   try clear hcz10_0
   try clear hcz10_1
   try clear hcz15_0
   try clear hcz15_1
   try clear hcz21_0
   try clear hcz21_1
   try clear hcz22_0
   try clear hcz22_1
   try clear hcz25_0
   try clear hcz25_1
   try clear hcz26_0
   try clear hcz26_1
   try clear hfz10_0
   try clear hfz10_1
   try clear hfz15_0
   try clear hfz15_1
   try clear hfz21_0
   try clear hfz21_1
   try clear hfz22_0
   try clear hfz22_1
   try clear hfz25_0
   try clear hfz25_1
   try clear hfz26_0
   try clear hfz26_1
   obtain ⟨kq, x35_5, rfl, HA, HJ5, HO_429001, HO_435001, BK428, BK434, HB⟩ := hcut
   cases kq with
   | zero => exact absurd HA.out (by simp [laws_FnGridStrict.j0])
   | succ kj5 =>
    have H := HA.out
    clear HA
    simp only [laws_FnGridStrict.j0] at H
    by_cases c28 : x35_5 = true
    ·subst c28
     have H1 : (if (t433 == t427) = true then ((laws_llGrid.f kj5 t429 t430 t423 t424).bind fun t436 => (some t436)) else (some false)) = some r := by rw [if_pos rfl] at H; exact H
     clear H
     have H := H1
     clear H1
     by_cases c29 : (t433 == t427) = true
     ·rw [if_pos c29] at H
      have c29b0 : (t433 == t427) = true := c29
      (try (have c29b1 : decide (t433 = t427) = true := by simpa using c29))
      (try (have c29b2 : (t433 == t427) = true := by simpa using c29))
      clear c29
      replace H := Option.bind_eq_some_iff.mp H
      obtain ⟨t436, A300, H⟩ := H
      replace H : (some t436) = some r := H
      have A30 := Aside0.mk A300
      clear A300
      obtain rfl := Option.some.inj H
      have hnb31 := NB434_428.out
      have hnc31 := NB428_434.out
      have hcz32_0 : wc.cell? ⟨gb434, 0, none⟩ = some (.int .i64 t429) := (blk_cell BK434.out 0).trans rfl
      have hcz32_1 : wc.cell? ⟨gb434, 1, none⟩ = some (.slice Ao16 t430.length co16) := (blk_cell BK434.out 1).trans rfl
      have hfz32_0 := blk_frozen BK434.out 0
      have hfz32_1 := blk_frozen BK434.out 1
      have hcz33_0 : wc.cell? ⟨gb428, 0, none⟩ = some (.int .i64 t423) := (blk_cell BK428.out 0).trans rfl
      have hcz33_1 : wc.cell? ⟨gb428, 1, none⟩ = some (.slice Ao11 t424.length co11) := (blk_cell BK428.out 1).trans rfl
      have hfz33_0 := blk_frozen BK428.out 0
      have hfz33_1 := blk_frozen BK428.out 1
      go_wp2_with (first | (go_at_call 23; (with_reducible refine (laws_llGrid.calls kj5 t429 _ _ t430 t423 _ _ t424 t436 _ ?side1 ?side2 ?side3 ?side4 A30.out).mono ?_); (case side1 => repeat (first | exact (Kd.R_reads' HO_435001.out).2.2 | (with_reducible refine Kd.C_alloc ?_ _) | (with_reducible refine Kd.C_drewN ?_ _) | (with_reducible refine Kd.C_drew ?_))); (case side2 => exact (Kd.R_reads' HO_435001.out).2.1); (case side3 => repeat (first | exact (Kd.R_reads' HO_429001.out).2.2 | (with_reducible refine Kd.C_alloc ?_ _) | (with_reducible refine Kd.C_drewN ?_ _) | (with_reducible refine Kd.C_drew ?_))); (case side4 => exact (Kd.R_reads' HO_429001.out).2.1); rintro e w34 ⟨rfl, hb⟩; have n0_ := Aside0.mk (Kd.R_below (kR HO_429001.out) hb); have n1_ := Aside0.mk (Kd.R_below (kR HO_435001.out) hb); have n2_ := Aside0.mk (blk_below (bK BK428.out) hb); have n3_ := Aside0.mk (blk_below (bK BK434.out) hb); have n4_ := Aside0.mk (below_step (by repeat first | exact HB.out | with_reducible refine below_setA ?_ ‹_› | apply below_alloc | apply pw_below_drewN) hb); clear HO_429001; clear HO_435001; clear BK428; clear BK434; clear HB; have HO_429001 := n0_; have HO_435001 := n1_; have BK428 := n2_; have BK434 := n3_; have HB := n4_; clear n0_ n1_ n2_ n3_ n4_; (try clear hb); (try clear hb2); (try clear hk); (try clear hi)))
      go_ret
      exact ⟨by first | rfl | (simp [errW_none, errW_some] <;> rfl) | (simp [*, errW_none, errW_some] <;> rfl) | (exfalso; simp_all; done), by repeat first | exact HB.out | with_reducible refine below_setA ?_ ‹_› | apply below_alloc | apply pw_below_drewN⟩
     ·rw [if_neg c29] at H
      have c29b0 : (t433 == t427) = false := by simpa using c29
      (try (have c29b1 : decide (t433 = t427) = false := by simpa using c29))
      (try (have c29b2 : (t433 == t427) = false := by simpa using c29))
      (try (have c29b3 : ¬ (t433 = t427) := by simpa using c29))
      clear c29
      obtain rfl := Option.some.inj H
      exact absurd HRT.out (by decide)
    ·replace c28 := Bool.eq_false_iff.mpr c28
     subst c28
     have H1 : ((impl_GridOk.f kj5 t429 t430).bind fun t437 => (if t437 = true then ((impl_GridText.f kj5 t429 t430).bind fun t438 => (some (t438.toList == t422.toList))) else (some false))) = some r := by rw [if_neg (show ¬ (false = true) by decide)] at H; exact H
     clear H
     have H := H1
     clear H1
     replace H := Option.bind_eq_some_iff.mp H
     obtain ⟨t437, A350, H⟩ := H
     replace H : (if t437 = true then ((impl_GridText.f kj5 t429 t430).bind fun t438 => (some (t438.toList == t422.toList))) else (some false)) = some r := H
     have A35 := Aside0.mk A350
     clear A350
     by_cases c36 : t437 = true
     ·subst c36
      have H1 : ((impl_GridText.f kj5 t429 t430).bind fun t438 => (some (t438.toList == t422.toList))) = some r := by rw [if_pos rfl] at H; exact H
      clear H
      have H := H1
      clear H1
      replace H := Option.bind_eq_some_iff.mp H
      obtain ⟨t438, A370, H⟩ := H
      replace H : (some (t438.toList == t422.toList)) = some r := H
      have A37 := Aside0.mk A370
      clear A370
      obtain rfl := Option.some.inj H
      have hnb38 := NB434_428.out
      have hnc38 := NB428_434.out
      have hcz39_0 : wc.cell? ⟨gb434, 0, none⟩ = some (.int .i64 t429) := (blk_cell BK434.out 0).trans rfl
      have hcz39_1 : wc.cell? ⟨gb434, 1, none⟩ = some (.slice Ao16 t430.length co16) := (blk_cell BK434.out 1).trans rfl
      have hfz39_0 := blk_frozen BK434.out 0
      have hfz39_1 := blk_frozen BK434.out 1
      go_wp2_with (first | ((with_reducible refine gate_callee (f := 24) rfl ?_); refine goesL_ (some 45) rfl rfl Try.func24 (by kernel_rfl) rfl #[.agg #[.int .i64 t429, .slice Ao16 t430.length co16]] rfl (by first | rfl | (simp only [List.map_toArray, List.map_cons, List.map_nil, List.length_drop, List.length_take]; try rfl)) ?_; (with_reducible refine (impl_GridOk.calls kj5 t429 _ _ t430 true _ ?side1 ?side2 A35.out).mono ?_); (case side1 => repeat (first | exact (Kd.R_reads' HO_435001.out).2.2 | (with_reducible refine Kd.C_alloc ?_ _) | (with_reducible refine Kd.C_drewN ?_ _) | (with_reducible refine Kd.C_drew ?_))); (case side2 => exact (Kd.R_reads' HO_435001.out).2.1); rintro e w40 ⟨rfl, hb⟩; refine ⟨_, rfl, ?_⟩; have n0_ := Aside0.mk (Kd.R_below (kR HO_429001.out) hb); have n1_ := Aside0.mk (Kd.R_below (kR HO_435001.out) hb); have n2_ := Aside0.mk (blk_below (bK BK428.out) hb); have n3_ := Aside0.mk (blk_below (bK BK434.out) hb); have n4_ := Aside0.mk (below_step (by repeat first | exact HB.out | with_reducible refine below_setA ?_ ‹_› | apply below_alloc | apply pw_below_drewN) hb); clear HO_429001; clear HO_435001; clear BK428; clear BK434; clear HB; have HO_429001 := n0_; have HO_435001 := n1_; have BK428 := n2_; have BK434 := n3_; have HB := n4_; clear n0_ n1_ n2_ n3_ n4_; (try clear hb); (try clear hb2); (try clear hk); (try clear hi); have hcz41_0 : w40.cell? ⟨gb434, 0, none⟩ = some (.int .i64 t429) := (blk_cell BK434.out 0).trans rfl; have hcz41_1 : w40.cell? ⟨gb434, 1, none⟩ = some (.slice Ao16 t430.length co16) := (blk_cell BK434.out 1).trans rfl; have hfz41_0 := blk_frozen BK434.out 0; have hfz41_1 := blk_frozen BK434.out 1) | (go_at_call 13; (with_reducible refine (impl_GridText.calls kj5 t429 _ _ t430 t438 _ ?side1 ?side2 A37.out).mono ?_); (case side1 => repeat (first | exact (Kd.R_reads' HO_435001.out).2.2 | (with_reducible refine Kd.C_alloc ?_ _) | (with_reducible refine Kd.C_drewN ?_ _) | (with_reducible refine Kd.C_drew ?_))); (case side2 => exact (Kd.R_reads' HO_435001.out).2.1); rintro e w42 ⟨rfl, hb⟩; have n0_ := Aside0.mk (Kd.R_below (kR HO_429001.out) hb); have n1_ := Aside0.mk (Kd.R_below (kR HO_435001.out) hb); have n2_ := Aside0.mk (blk_below (bK BK428.out) hb); have n3_ := Aside0.mk (blk_below (bK BK434.out) hb); have n4_ := Aside0.mk (below_step (by repeat first | exact HB.out | with_reducible refine below_setA ?_ ‹_› | apply below_alloc | apply pw_below_drewN) hb); clear HO_429001; clear HO_435001; clear BK428; clear BK434; clear HB; have HO_429001 := n0_; have HO_435001 := n1_; have BK428 := n2_; have BK434 := n3_; have HB := n4_; clear n0_ n1_ n2_ n3_ n4_; (try clear hb); (try clear hb2); (try clear hk); (try clear hi)))
      go_ret
      exact ⟨by first | rfl | (simp [errW_none, errW_some] <;> rfl) | (simp [*, errW_none, errW_some] <;> rfl) | (exfalso; simp_all; done), by repeat first | exact HB.out | with_reducible refine below_setA ?_ ‹_› | apply below_alloc | apply pw_below_drewN⟩
     ·replace c36 := Bool.eq_false_iff.mpr c36
      subst c36
      have H1 : (some false) = some r := by rw [if_neg (show ¬ (false = true) by decide)] at H; exact H
      clear H
      have H := H1
      clear H1
      obtain rfl := Option.some.inj H
      exact absurd HRT.out (by decide)

/-- THE ONE PURE STATEMENT of laws_FnGridStrict: yours. -/
def laws_FnGridStrict.Pure : Prop := ∀ (l0 : List Int), l0.length ≤ maxLen → l0.length * 1 ≤ 140737488351232 → (∀ x ∈ l0, (Lit.int .u8 x).wf = true) → ∃ k, laws_FnGridStrict.f k l0 = some true
theorem laws_FnGridStrict.walk (P : laws_FnGridStrict.Pure) (a0 : Option Addr) (len0 cap0 : Nat) (z0 : List Int) (w : World) (w0 : (a0 = none ∧ len0 = 0 ∧ cap0 = 0 ∧ z0 = []) ∨ ∃ x, a0 = some x ∧ len0 ≤ cap0 ∧ cap0 ≤ maxLen ∧ z0.length = cap0 ∧ (∀ i, i < z0.length → w.cell? (x.add i) = some (.int .u8 (z0.getD i 0))) ∧ ∀ n ∈ z0, (Lit.int .u8 n).wf = true) (y0 : len0 * 1 ≤ 140737488351232) :
  Calls Try.prog 9 #[.slice a0 len0 cap0] w fun e w' => e = .returned (.bool true) ∧ Below w.heap.size w w' := by
 obtain ⟨l0, rfl, hr0, hm0, hw0, hc0⟩ := ReadsInt.ofRowC w0
 obtain ⟨k, h⟩ := P l0 hm0 y0 hw0
 refine (laws_FnGridStrict.calls k _ _ l0 true w (Kd.C_of_reads (d := (0 : Int)) (h1 := fun _ => rfl) hr0) hc0 h rfl).mono ?_
 rintro e w' ⟨rfl, hd⟩
 exact ⟨rfl, hd⟩

end Go.Proofs.Ytpjdhpkfenohgaa.P
