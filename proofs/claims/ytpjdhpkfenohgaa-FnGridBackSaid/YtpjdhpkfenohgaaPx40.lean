/- PROVED: contracts of functions; written by this session's driver (pk.py). No condition. -/
import Derived.Test.YtpjdhpkfenohgaaPx0
import Derived.Test.YtpjdhpkfenohgaaPx14
import Derived.Test.YtpjdhpkfenohgaaPx23
import Derived.Test.YtpjdhpkfenohgaaPx30
import Derived.Test.YtpjdhpkfenohgaaPx33
import Derived.Test.YtpjdhpkfenohgaaPx35
import Derived.Test.YtpjdhpkfenohgaaH3GridText
namespace Go.Proofs.Ytpjdhpkfenohgaa.P
open Go.RowKit Go.Proofs.YtpjdhpkfenohgaaW.PrintWords Go.Proofs.YtpjdhpkfenohgaaW.PrintLast Go.Proofs.YtpjdhpkfenohgaaW.PrintMore
attribute [local go_sem] max2_int min2_int max_two min_two max_three min_three max_four min_four   -- for this text's walks alone
set_option linter.unusedVariables false
set_option linter.unusedSimpArgs false

/-! ### laws_FnGridBack: function 7 -/
def laws_FnGridBack.j0 : Nat → ByteArray → Bool → Int → List (S39) → Option (Bool)
 | 0, _, _, _, _ => none
 | k + 1, x4, x21, x351000, x351001 => if x21 = true then ((spec_GridText.f k x351000 x351001).bind fun t353 => (some (x4.toList == t353.toList))) else ((impl_GridRead.f k x4).bind fun bt354 => (if bt354.2.2 = true then ((laws_llGrid.f k bt354.1 bt354.2.1 x351000 x351001).bind fun t360 => (if t360 = true then ((impl_GridOk.f k x351000 x351001).bind fun t361 => (if t361 = true then (if x351000 = 0 then (none) else (some ((x4.size : Int) == (wrap64 ((x351001.length : Int) + (wrap64 ((x351001.length : Int) / x351000))))))) else (some false))) else (some false))) else (some false)))
def laws_FnGridBack.f (k : Nat) (l0 : List Int) : Option (Bool) := if (l0.length : Int) > 1048576 then (some true) else ((spec_DrawGridText.f k l0).bind fun bt346 => ((impl_GridText.f k bt346.1 bt346.2).bind fun t351 => ((spec_GridText.f k bt346.1 bt346.2).bind fun t352 => (if t351.toList = t352.toList then (laws_FnGridBack.j0 k t351 (t351.toList == ([] : List UInt8)) bt346.1 bt346.2) else (laws_FnGridBack.j0 k t351 true bt346.1 bt346.2)))))
def laws_FnGridBack.T8 : Bool × List (List Nat × List Nat) := (true, [([], []), ([0], [0]), ([1], [1]), ([1], [1]), ([2, 3, 1, 1], [1, 2, 3]), ([1, 4], [1, 4]), ([5, 4], [5]), ([6], [6]), ([7, 6, 6], [6, 7]), ([6, 8], [6, 8]), ([9, 8], [9]), ([10], [10]), ([11, 10], [10, 11]), ([10], [10]), ([13, 10], [10, 13]), ([14, 10], [10, 14]), ([10], [10]), ([16, 10], [10, 16]), ([17, 10], [10, 17]), ([10], [10]), ([19, 10], [10, 19]), ([18, 20, 10], [10, 18, 20]), ([15, 21, 10], [10, 15, 21]), ([12, 22, 10], [10, 12, 22]), ([10, 23], [10, 23]), ([24, 10, 0, 1, 2, 3, 4, 5, 6, 7, 8, 9, 10, 11, 12, 13, 14, 15, 16, 17, 18, 19, 20, 21, 22, 23, 24], [24])])
def laws_FnGridBack.B8 : List Nat := [0, 1, 3, 3, 15, 31, 63, 127, 255, 511, 1023, 2047, 4095, 2047, 10239, 26623, 2047, 67583, 198655, 2047, 526335, 2033663, 4188159, 8388607, 16777215, 33554431]
theorem laws_FnGridBack.tab8 : rtab .any (opsOf Try.f7 8) = laws_FnGridBack.T8 := by kernel_rfl
theorem laws_FnGridBack.bits8 : waitsOk laws_FnGridBack.T8.2 laws_FnGridBack.B8 = true := by kernel_rfl
set_option maxHeartbeats 8000000 in
set_option maxRecDepth 100000 in
theorem laws_FnGridBack.calls (k : Nat) (A0 : Option Addr) (c0 : Nat) (l0 : List Int) (r : Bool) (w : World) (hr0 : Kd.C (Kd.int .u8) w A0 l0.length l0) (hc0 : l0.length ≤ c0) (h : laws_FnGridBack.f k l0 = some r) (hrt : r = true) :
  Calls Try.prog 7 #[.slice A0 l0.length c0] w fun e w' => e = .returned (.bool r) ∧ Below w.heap.size w w' := by
 have HRT := Aside0.mk hrt
 clear hrt
 have hu29 := Try.underlying29
 have HR0 := Aside0.mk hr0
 have HC0 := Aside0.mk hc0
 clear hr0 hc0
 have HB := Aside0.mk (Below.refl w.heap.size w)
 have H : (if (l0.length : Int) > 1048576 then (some true) else ((spec_DrawGridText.f k l0).bind fun bt346 => ((impl_GridText.f k bt346.1 bt346.2).bind fun t351 => ((spec_GridText.f k bt346.1 bt346.2).bind fun t352 => (if t351.toList = t352.toList then (laws_FnGridBack.j0 k t351 (t351.toList == ([] : List UInt8)) bt346.1 bt346.2) else (laws_FnGridBack.j0 k t351 true bt346.1 bt346.2)))))) = some r := h
 clear h
 by_cases c2 : (l0.length : Int) > 1048576
 ·rw [if_pos c2] at H
  have c2b0 : decide (1048576 < (l0.length : Int)) = true := decide_eq_true c2
  have c2b1 : decide (1048576 < l0.length) = true := decide_eq_true (by omega)
  clear c2
  obtain rfl := Option.some.inj H
  go_enter Try.func7, Try.ntmps7
  go_wp2
  go_ret
  exact ⟨by first | rfl | (simp [errW_none, errW_some] <;> rfl) | (simp [*, errW_none, errW_some] <;> rfl) | (exfalso; simp_all; done), by repeat first | exact HB.out | apply below_alloc | apply pw_below_drewN⟩
 ·rw [if_neg c2] at H
  have c2b0 : decide (1048576 < (l0.length : Int)) = false := decide_eq_false c2
  have c2b1 : decide (1048576 < l0.length) = false := decide_eq_false (by omega)
  clear c2
  replace H := Option.bind_eq_some_iff.mp H
  obtain ⟨⟨t346, t347⟩, A30, H⟩ := H
  replace H : ((impl_GridText.f k t346 t347).bind fun t351 => ((spec_GridText.f k t346 t347).bind fun t352 => (if t351.toList = t352.toList then (laws_FnGridBack.j0 k t351 (t351.toList == ([] : List UInt8)) t346 t347) else (laws_FnGridBack.j0 k t351 true t346 t347)))) = some r := H
  have A3 := Aside0.mk A30
  clear A30
  replace H := Option.bind_eq_some_iff.mp H
  obtain ⟨t351, A40, H⟩ := H
  replace H : ((spec_GridText.f k t346 t347).bind fun t352 => (if t351.toList = t352.toList then (laws_FnGridBack.j0 k t351 (t351.toList == ([] : List UInt8)) t346 t347) else (laws_FnGridBack.j0 k t351 true t346 t347))) = some r := H
  have A4 := Aside0.mk A40
  clear A40
  have HC5 := Aside0.mk H
  clear H
  go_enter Try.func7, Try.ntmps7
  go_upto_region 5 with (first | ((with_reducible refine gate_callee (f := 22) rfl ?_); refine goesL_ (some 11) rfl rfl Try.func22 (by kernel_rfl) rfl #[.slice A0 l0.length c0] rfl (by first | rfl | (simp only [List.map_toArray, List.map_cons, List.map_nil, List.length_drop, List.length_take]; try rfl)) ?_; (with_reducible refine (spec_DrawGridText.calls k _ _ l0 t346 t347 _ ?side1 ?side2 A3.out).mono ?_); (case side1 => repeat (first | exact HR0.out | (with_reducible refine Kd.C_alloc ?_ _) | (with_reducible refine Kd.C_drewN ?_ _) | (with_reducible refine Kd.C_drew ?_))); (case side2 => exact HC0.out); rintro e w6 ⟨v348, rfl, ho0, hb⟩; refine ⟨_, rfl, ?_⟩; have n0_ := Aside0.mk (Kd.Q_lower ho0 (below_size (by repeat first | exact HB.out | apply below_alloc | apply pw_below_drewN))); have n1_ := Aside0.mk (below_step (by repeat first | exact HB.out | apply below_alloc | apply pw_below_drewN) hb); clear HB; have HO349 := n0_; have HB := n1_; clear n0_ n1_; (try clear hb); (try clear hb2); (try clear hk); (try clear hi); (try clear ho0)) | ((with_reducible refine gate_dst (N := 3) rfl ?_); (try (refine gate_guard (by rfl) ?_; dsimp only)); refine box_event rfl (N := 3) rfl (cs := #[.int .i64 0, .slice none 0 0]) (t := 29) ?hr ?_; (case hr => first | (go_simp; done) | (go_simp; rfl)); intro gb350 hg w7 hbox hb; have n0_ := Aside0.mk (Kd.Q_below (by (with_reducible repeat apply Kd.Q_alloc); exact HO349.out) hb); have n1_ := Aside0.mk (below_step (by repeat first | exact HB.out | apply below_alloc | apply pw_below_drewN) hb); have n2_ := Aside0.mk (hbox); have n3_ := Aside0.mk ((by rw [hg]; exact (below_size (by repeat first | exact HB.out | apply below_alloc | apply pw_below_drewN)) : w.heap.size ≤ gb350)); have n4_ := n3_; clear HO349; clear HB; have HO349 := n0_; have HB := n1_; have BK350 := n2_; have GW350 := n3_; have GE350 := n4_; clear n0_ n1_ n2_ n3_ n4_; clear hb hbox hg; have hcz8_0 : w7.cell? ⟨gb350, 0, none⟩ = some (.int .i64 0) := (blk_cell BK350.out 0).trans rfl; have hcz8_1 : w7.cell? ⟨gb350, 1, none⟩ = some (.slice none 0 0) := (blk_cell BK350.out 1).trans rfl; have hfz8_0 := blk_frozen BK350.out 0; have hfz8_1 := blk_frozen BK350.out 1; obtain ⟨Ao9, co9, eo9, _⟩ := Kd.Q_slice HO349.out; subst eo9) | ((with_reducible refine gate_callee (f := 13) rfl ?_); refine goesL_ (some 13) rfl rfl Try.func13 (by kernel_rfl) rfl #[.agg #[.int .i64 t346, .slice Ao9 t347.length co9]] rfl (by first | rfl | (simp only [List.map_toArray, List.map_cons, List.map_nil, List.length_drop, List.length_take]; try rfl)) ?_; (with_reducible refine (impl_GridText.calls k t346 _ _ t347 t351 _ ?side1 ?side2 A4.out).mono ?_); (case side1 => refine (Kd.Q_reads' (e := 39) (base := w.heap.size) (ok := fun k_ => True) (n := t347.length) (c := co9) ?_).2.2; exact (by (with_reducible repeat apply Kd.Q_alloc); exact (Kd.Q_mono (Kd.Q_far (p := ⟨gb350, 1, none⟩) (Kd.Q_far (p := ⟨gb350, 0, none⟩) (Kd.Q_types HO349.out BK350.out (by decide)) (fun _ hk => hk.2) (.int .i64 t346)) (fun _ hk => hk.2) (.slice Ao9 t347.length co9)) (fun _ h_ => h_.1)))); (case side2 => exact (Kd.Q_reads' HO349.out).2.1); rintro e w10 ⟨rfl, hb⟩; refine ⟨_, rfl, ?_⟩; have n0_ := Aside0.mk (Kd.Q_below (by (with_reducible repeat apply Kd.Q_alloc); exact (Kd.Q_mono (Kd.Q_far (p := ⟨gb350, 1, none⟩) (Kd.Q_far (p := ⟨gb350, 0, none⟩) (Kd.Q_types HO349.out BK350.out (by decide)) (fun _ hk => hk.2) (.int .i64 t346)) (fun _ hk => hk.2) (.slice Ao9 t347.length co9)) (fun _ h_ => h_.1))) hb); have n1_ := Aside0.mk (blk_below (g := gb350) (o := .cells #[.int .i64 t346, .slice Ao9 t347.length co9] 29 (0, 0)) (by (with_reducible repeat apply blk_alloc); refine blk_put (cs := #[.int .i64 t346, .slice none 0 0]) ?_ 1 _ rfl; (with_reducible repeat apply blk_alloc); refine blk_put (cs := #[.int .i64 0, .slice none 0 0]) ?_ 0 _ rfl; (with_reducible repeat apply blk_alloc); exact BK350.out) hb); have n2_ := Aside0.mk (below_step (by repeat first | exact HB.out | with_reducible refine below_setA ?_ ‹_› | apply below_alloc | apply pw_below_drewN) hb); clear HO349; clear BK350; clear HB; have HO349 := n0_; have BK350 := n1_; have HB := n2_; clear n0_ n1_ n2_; (try clear hb); (try clear hb2); (try clear hk); (try clear hi)))
  (try simp only [Act.put, List.setIfInBounds_toArray, List.set_cons_zero, List.set_cons_succ])
  go_cut [21] (fun v21 wc => ∃ (kq : Nat) (x21_4 : Bool), v21 = .bool x21_4 ∧ Aside0 (laws_FnGridBack.j0 kq t351 x21_4 t346 t347 = some r) ∧ Aside0 (kq ≤ k) ∧ Aside0 (Kd.Q k39 39 wc w.heap.size (fun _ => True) (.slice Ao9 t347.length co9) t347) ∧ Aside0 (wc.heap[gb350]? = some (.cells #[.int .i64 t346, (.slice Ao9 t347.length co9)] 29 (0, 0))) ∧ Aside0 (Below w.heap.size w wc))
  case first =>
   have H := HC5.out
   clear HC5
   replace H := Option.bind_eq_some_iff.mp H
   obtain ⟨t352, A110, H⟩ := H
   replace H : (if t351.toList = t352.toList then (laws_FnGridBack.j0 k t351 (t351.toList == ([] : List UInt8)) t346 t347) else (laws_FnGridBack.j0 k t351 true t346 t347)) = some r := H
   have A11 := Aside0.mk A110
   clear A110
   by_cases c12 : t351.toList = t352.toList
   ·rw [if_pos c12] at H
    have c12b0 : (t351.toList == t352.toList) = true := beq_iff_eq.mpr c12
    have c12b1 : (t351.toList != t352.toList) = false := bne_eq_false_iff_eq.mpr c12
    clear c12
    (first | rw [c12b0] | (simp only [i64_w, i32_w]; rw [c12b0]) | skip)
    have H' := Aside0.mk H
    clear H
    have hcz13_0 : w10.cell? ⟨gb350, 0, none⟩ = some (.int .i64 t346) := (blk_cell BK350.out 0).trans rfl
    have hcz13_1 : w10.cell? ⟨gb350, 1, none⟩ = some (.slice Ao9 t347.length co9) := (blk_cell BK350.out 1).trans rfl
    have hfz13_0 := blk_frozen BK350.out 0
    have hfz13_1 := blk_frozen BK350.out 1
    go_wp2_with (first | ((with_reducible refine gate_callee (f := 11) rfl ?_); refine goesL_ (some 16) rfl rfl Try.func11 (by kernel_rfl) rfl #[.agg #[.int .i64 t346, .slice Ao9 t347.length co9]] rfl (by first | rfl | (simp only [List.map_toArray, List.map_cons, List.map_nil, List.length_drop, List.length_take]; try rfl)) ?_; (with_reducible refine (spec_GridText.calls k t346 _ _ t347 t352 _ ?side1 ?side2 A11.out).mono ?_); (case side1 => repeat (first | exact (Kd.Q_reads' HO349.out).2.2 | (with_reducible refine Kd.C_alloc ?_ _) | (with_reducible refine Kd.C_drewN ?_ _) | (with_reducible refine Kd.C_drew ?_))); (case side2 => exact (Kd.Q_reads' HO349.out).2.1); rintro e w14 ⟨rfl, hb⟩; refine ⟨_, rfl, ?_⟩; have n0_ := Aside0.mk (Kd.Q_below (by (with_reducible repeat apply Kd.Q_alloc); exact HO349.out) hb); have n1_ := Aside0.mk (blk_below (bK BK350.out) hb); have n2_ := Aside0.mk (below_step (by repeat first | exact HB.out | with_reducible refine below_setA ?_ ‹_› | apply below_alloc | apply pw_below_drewN) hb); clear HO349; clear BK350; clear HB; have HO349 := n0_; have BK350 := n1_; have HB := n2_; clear n0_ n1_ n2_; (try clear hb); (try clear hb2); (try clear hk); (try clear hi)))
    go_meet
    case rel => exact ⟨_, ((t351.toList == ([] : List UInt8))), (by first | rfl | (simp; done) | (simp [*]; done)), H', ⟨by first | omega | exact Nat.le_refl _⟩, ⟨by (with_reducible repeat apply Kd.Q_alloc); exact HO349.out⟩, ⟨by (with_reducible repeat apply blk_alloc); exact BK350.out⟩, ⟨by repeat first | exact HB.out | with_reducible refine below_setA ?_ ‹_› | apply below_alloc | apply pw_below_drewN⟩⟩
   ·rw [if_neg c12] at H
    have c12b0 : (t351.toList == t352.toList) = false := beq_eq_false_iff_ne.mpr c12
    have c12b1 : (t351.toList != t352.toList) = true := bne_iff_ne.mpr c12
    (first | rw [c12b0] | (simp only [i64_w, i32_w]; rw [c12b0]) | skip)
    have H' := Aside0.mk H
    clear H
    have hcz15_0 : w10.cell? ⟨gb350, 0, none⟩ = some (.int .i64 t346) := (blk_cell BK350.out 0).trans rfl
    have hcz15_1 : w10.cell? ⟨gb350, 1, none⟩ = some (.slice Ao9 t347.length co9) := (blk_cell BK350.out 1).trans rfl
    have hfz15_0 := blk_frozen BK350.out 0
    have hfz15_1 := blk_frozen BK350.out 1
    go_wp2_with (first | ((with_reducible refine gate_callee (f := 11) rfl ?_); refine goesL_ (some 16) rfl rfl Try.func11 (by kernel_rfl) rfl #[.agg #[.int .i64 t346, .slice Ao9 t347.length co9]] rfl (by first | rfl | (simp only [List.map_toArray, List.map_cons, List.map_nil, List.length_drop, List.length_take]; try rfl)) ?_; (with_reducible refine (spec_GridText.calls k t346 _ _ t347 t352 _ ?side1 ?side2 A11.out).mono ?_); (case side1 => repeat (first | exact (Kd.Q_reads' HO349.out).2.2 | (with_reducible refine Kd.C_alloc ?_ _) | (with_reducible refine Kd.C_drewN ?_ _) | (with_reducible refine Kd.C_drew ?_))); (case side2 => exact (Kd.Q_reads' HO349.out).2.1); rintro e w16 ⟨rfl, hb⟩; refine ⟨_, rfl, ?_⟩; have n0_ := Aside0.mk (Kd.Q_below (by (with_reducible repeat apply Kd.Q_alloc); exact HO349.out) hb); have n1_ := Aside0.mk (blk_below (bK BK350.out) hb); have n2_ := Aside0.mk (below_step (by repeat first | exact HB.out | with_reducible refine below_setA ?_ ‹_› | apply below_alloc | apply pw_below_drewN) hb); clear HO349; clear BK350; clear HB; have HO349 := n0_; have BK350 := n1_; have HB := n2_; clear n0_ n1_ n2_; (try clear hb); (try clear hb2); (try clear hk); (try clear hi)))
    go_meet
    case rel => exact ⟨_, (true), (by first | rfl | (simp; done) | (simp [*]; done)), H', ⟨by first | omega | exact Nat.le_refl _⟩, ⟨by (with_reducible repeat apply Kd.Q_alloc); exact HO349.out⟩, ⟨by (with_reducible repeat apply blk_alloc); exact BK350.out⟩, ⟨by repeat first | exact HB.out | with_reducible refine below_setA ?_ ‹_› | apply below_alloc | apply pw_below_drewN⟩⟩
  case rest =>
   clear HC5
   try clear c1
   try clear c2
   try clear c2b0
   try clear c2b1
   try clear p2
   try clear c7
   try clear c11
   try clear c12
   try clear c12b0
   try clear c12b1
   try clear c13
   try clear hcz13_0
   try clear hcz13_1
   try clear hcz15_0
   try clear hcz15_1
   try clear hcz8_0
   try clear hcz8_1
   try clear hfz13_0
   try clear hfz13_1
   try clear hfz15_0
   try clear hfz15_1
   try clear hfz8_0
   try clear hfz8_1
   obtain ⟨kq, x21_4, rfl, HA, HJ4, HO_351001, BK350, HB⟩ := hcut
   cases kq with
   | zero => exact absurd HA.out (by simp [laws_FnGridBack.j0])
   | succ kj4 =>
    have H := HA.out
    clear HA
    simp only [laws_FnGridBack.j0] at H
    by_cases c17 : x21_4 = true
    ·subst c17
     have H1 : ((spec_GridText.f kj4 t346 t347).bind fun t353 => (some (t351.toList == t353.toList))) = some r := by rw [if_pos rfl] at H; exact H
     clear H
     have H := H1
     clear H1
     replace H := Option.bind_eq_some_iff.mp H
     obtain ⟨t353, A180, H⟩ := H
     replace H : (some (t351.toList == t353.toList)) = some r := H
     have A18 := Aside0.mk A180
     clear A180
     obtain rfl := Option.some.inj H
     have hcz19_0 : wc.cell? ⟨gb350, 0, none⟩ = some (.int .i64 t346) := (blk_cell BK350.out 0).trans rfl
     have hcz19_1 : wc.cell? ⟨gb350, 1, none⟩ = some (.slice Ao9 t347.length co9) := (blk_cell BK350.out 1).trans rfl
     have hfz19_0 := blk_frozen BK350.out 0
     have hfz19_1 := blk_frozen BK350.out 1
     go_wp2_with (first | ((with_reducible refine gate_callee (f := 11) rfl ?_); refine goesL_ (some 24) rfl rfl Try.func11 (by kernel_rfl) rfl #[.agg #[.int .i64 t346, .slice Ao9 t347.length co9]] rfl (by first | rfl | (simp only [List.map_toArray, List.map_cons, List.map_nil, List.length_drop, List.length_take]; try rfl)) ?_; (with_reducible refine (spec_GridText.calls kj4 t346 _ _ t347 t353 _ ?side1 ?side2 A18.out).mono ?_); (case side1 => repeat (first | exact (Kd.Q_reads' HO_351001.out).2.2 | (with_reducible refine Kd.C_alloc ?_ _) | (with_reducible refine Kd.C_drewN ?_ _) | (with_reducible refine Kd.C_drew ?_))); (case side2 => exact (Kd.Q_reads' HO_351001.out).2.1); rintro e w20 ⟨rfl, hb⟩; refine ⟨_, rfl, ?_⟩; have n0_ := Aside0.mk (Kd.Q_below (by (with_reducible repeat apply Kd.Q_alloc); exact HO_351001.out) hb); have n1_ := Aside0.mk (blk_below (bK BK350.out) hb); have n2_ := Aside0.mk (below_step (by repeat first | exact HB.out | with_reducible refine below_setA ?_ ‹_› | apply below_alloc | apply pw_below_drewN) hb); clear HO_351001; clear BK350; clear HB; have HO_351001 := n0_; have BK350 := n1_; have HB := n2_; clear n0_ n1_ n2_; (try clear hb); (try clear hb2); (try clear hk); (try clear hi)))
     go_ret
     exact ⟨by first | rfl | (simp [errW_none, errW_some] <;> rfl) | (simp [*, errW_none, errW_some] <;> rfl) | (exfalso; simp_all; done), by repeat first | exact HB.out | with_reducible refine below_setA ?_ ‹_› | apply below_alloc | apply pw_below_drewN⟩
    ·replace c17 := Bool.eq_false_iff.mpr c17
     subst c17
     have H1 : ((impl_GridRead.f kj4 t351).bind fun bt354 => (if bt354.2.2 = true then ((laws_llGrid.f kj4 bt354.1 bt354.2.1 t346 t347).bind fun t360 => (if t360 = true then ((impl_GridOk.f kj4 t346 t347).bind fun t361 => (if t361 = true then (if t346 = 0 then (none) else (some ((t351.size : Int) == (wrap64 ((t347.length : Int) + (wrap64 ((t347.length : Int) / t346))))))) else (some false))) else (some false))) else (some false))) = some r := by rw [if_neg (show ¬ (false = true) by decide)] at H; exact H
     clear H
     have H := H1
     clear H1
     replace H := Option.bind_eq_some_iff.mp H
     obtain ⟨⟨t354, t355, t358⟩, A210, H⟩ := H
     replace H : (if t358 = true then ((laws_llGrid.f kj4 t354 t355 t346 t347).bind fun t360 => (if t360 = true then ((impl_GridOk.f kj4 t346 t347).bind fun t361 => (if t361 = true then (if t346 = 0 then (none) else (some ((t351.size : Int) == (wrap64 ((t347.length : Int) + (wrap64 ((t347.length : Int) / t346))))))) else (some false))) else (some false))) else (some false)) = some r := H
     have A21 := Aside0.mk A210
     clear A210
     by_cases c22 : t358 = true
     ·subst c22
      have H1 : ((laws_llGrid.f kj4 t354 t355 t346 t347).bind fun t360 => (if t360 = true then ((impl_GridOk.f kj4 t346 t347).bind fun t361 => (if t361 = true then (if t346 = 0 then (none) else (some ((t351.size : Int) == (wrap64 ((t347.length : Int) + (wrap64 ((t347.length : Int) / t346))))))) else (some false))) else (some false))) = some r := by rw [if_pos rfl] at H; exact H
      clear H
      have H := H1
      clear H1
      replace H := Option.bind_eq_some_iff.mp H
      obtain ⟨t360, A230, H⟩ := H
      replace H : (if t360 = true then ((impl_GridOk.f kj4 t346 t347).bind fun t361 => (if t361 = true then (if t346 = 0 then (none) else (some ((t351.size : Int) == (wrap64 ((t347.length : Int) + (wrap64 ((t347.length : Int) / t346))))))) else (some false))) else (some false)) = some r := H
      have A23 := Aside0.mk A230
      clear A230
      by_cases c24 : t360 = true
      ·subst c24
       have H1 : ((impl_GridOk.f kj4 t346 t347).bind fun t361 => (if t361 = true then (if t346 = 0 then (none) else (some ((t351.size : Int) == (wrap64 ((t347.length : Int) + (wrap64 ((t347.length : Int) / t346))))))) else (some false))) = some r := by rw [if_pos rfl] at H; exact H
       clear H
       have H := H1
       clear H1
       replace H := Option.bind_eq_some_iff.mp H
       obtain ⟨t361, A250, H⟩ := H
       replace H : (if t361 = true then (if t346 = 0 then (none) else (some ((t351.size : Int) == (wrap64 ((t347.length : Int) + (wrap64 ((t347.length : Int) / t346))))))) else (some false)) = some r := H
       have A25 := Aside0.mk A250
       clear A250
       by_cases c26 : t361 = true
       ·subst c26
        have H1 : (if t346 = 0 then (none) else (some ((t351.size : Int) == (wrap64 ((t347.length : Int) + (wrap64 ((t347.length : Int) / t346))))))) = some r := by rw [if_pos rfl] at H; exact H
        clear H
        have H := H1
        clear H1
        by_cases c27 : t346 = 0
        ·rw [if_pos c27] at H
         exact absurd H (by simp)
        ·rw [if_neg c27] at H
         have c27b0 : (t346 == 0) = false := beq_eq_false_iff_ne.mpr c27
         have c27b1 : (t346 != 0) = true := bne_iff_ne.mpr c27
         obtain rfl := Option.some.inj H
         try go_wp2_with (first | ((with_reducible refine gate_callee (f := 16) rfl ?_); refine goesL_ (some 28) rfl rfl Try.func16 (by kernel_rfl) rfl #[.string t351] rfl (by first | rfl | (simp only [List.map_toArray, List.map_cons, List.map_nil, List.length_drop, List.length_take]; try rfl)) ?_; (with_reducible refine (impl_GridRead.calls kj4 t351 t354 t355 true _ A21.out).mono ?_); rintro e w28 ⟨v356, rfl, ho0, hb⟩; refine ⟨_, rfl, ?_⟩; have n0_ := Aside0.mk (Kd.Q_elder' (by (with_reducible repeat apply Kd.Q_alloc); exact HO_351001.out) (Kd.R_base ho0) hb); have n1_ := Aside0.mk (Kd.R_lower (Kd.R_new' ho0 (Kd.Q_lt (by (with_reducible repeat apply Kd.Q_alloc); exact HO_351001.out))) (below_size (by repeat first | exact HB.out | with_reducible refine below_setA ?_ ‹_› | apply below_alloc | apply pw_below_drewN))); have n2_ := Aside0.mk (blk_below (bK BK350.out) hb); have n3_ := Aside0.mk (below_step (by repeat first | exact HB.out | with_reducible refine below_setA ?_ ‹_› | apply below_alloc | apply pw_below_drewN) hb); clear HO_351001; clear BK350; clear HB; have HO_351001 := n0_; have HO357 := n1_; have BK350 := n2_; have HB := n3_; clear n0_ n1_ n2_ n3_; (try clear hb); (try clear hb2); (try clear hk); (try clear hi); (try clear ho0)) | ((with_reducible refine gate_dst (N := 5) rfl ?_); (try (refine gate_guard (by rfl) ?_; dsimp only)); refine box_event rfl (N := 5) rfl (cs := #[.int .i64 0, .slice none 0 0]) (t := 29) ?hr ?_; (case hr => first | (go_simp; done) | (go_simp; rfl)); intro gb359 hg w29 hbox hb; have n0_ := Aside0.mk (Kd.Q_below (by (with_reducible repeat apply Kd.Q_alloc); exact HO_351001.out) hb); have n1_ := Aside0.mk (Kd.R_below (kR HO357.out) hb); have n2_ := Aside0.mk (blk_below (bK BK350.out) hb); have n3_ := Aside0.mk (below_step (by repeat first | exact HB.out | with_reducible refine below_setA ?_ ‹_› | apply below_alloc | apply pw_below_drewN) hb); have n4_ := Aside0.mk (hbox); have n5_ := Aside0.mk ((by rw [hg]; exact (below_size (by repeat first | exact HB.out | with_reducible refine below_setA ?_ ‹_› | apply below_alloc | apply pw_below_drewN)) : w.heap.size ≤ gb359)); have n6_ := n5_; have n7_ := Aside0.mk ((by rw [hg]; exact Nat.ne_of_lt (blk_lt (bK BK350.out)) : gb350 ≠ gb359)); have n8_ := Aside0.mk ((by rw [hg]; exact Nat.ne_of_gt (blk_lt (bK BK350.out)) : gb359 ≠ gb350)); clear HO_351001; clear HO357; clear BK350; clear HB; have HO_351001 := n0_; have HO357 := n1_; have BK350 := n2_; have HB := n3_; have BK359 := n4_; have GW359 := n5_; have GE359 := n6_; have NB350_359 := n7_; have NB359_350 := n8_; clear n0_ n1_ n2_ n3_ n4_ n5_ n6_ n7_ n8_; clear hb hbox hg; have hnb30 := NB359_350.out; have hnc30 := NB350_359.out; have hcz31_0 : w29.cell? ⟨gb359, 0, none⟩ = some (.int .i64 0) := (blk_cell BK359.out 0).trans rfl; have hcz31_1 : w29.cell? ⟨gb359, 1, none⟩ = some (.slice none 0 0) := (blk_cell BK359.out 1).trans rfl; have hfz31_0 := blk_frozen BK359.out 0; have hfz31_1 := blk_frozen BK359.out 1; obtain ⟨Ao32, co32, eo32⟩ := Kd.R_slice HO357.out; subst eo32))
         have n0_ : Aside0 (Kd.Q k39 39 ((w29.setCell ⟨gb359, 0, none⟩ (.int .i64 t354)).setCell ⟨gb359, 1, none⟩ (.slice Ao32 t355.length co32)) w.heap.size (fun k_ => some k_ ≠ (.slice Ao32 t355.length co32 : Value).ownBlock) (.slice Ao9 t347.length co9) t347) := ⟨by (with_reducible repeat apply Kd.Q_alloc); exact Kd.Q_mono (Kd.Q_far (p := ⟨gb359, 1, none⟩) (Kd.Q_far (p := ⟨gb359, 0, none⟩) (Kd.Q_types HO_351001.out BK359.out (by decide)) (fun _ hk => hk.2) (.int .i64 t354)) (fun _ hk => hk.2) (.slice Ao32 t355.length co32)) (fun _ hk => hk.1.2)⟩
         have n1_ : Aside0 (Kd.R k39 39 ((w29.setCell ⟨gb359, 0, none⟩ (.int .i64 t354)).setCell ⟨gb359, 1, none⟩ (.slice Ao32 t355.length co32)) w.heap.size (fun k_ => some k_ ≠ (.slice Ao9 t347.length co9 : Value).ownBlock) (.slice Ao32 t355.length co32) t355) := ⟨by (with_reducible repeat apply Kd.R_alloc); exact Kd.R_mono (Kd.R_far (p := ⟨gb359, 1, none⟩) (Kd.R_far (p := ⟨gb359, 0, none⟩) (Kd.R_types HO357.out BK359.out (by decide)) (fun _ hk => hk.2) (.int .i64 t354)) (fun _ hk => hk.2) (.slice Ao32 t355.length co32)) (fun _ hk => hk.1.2)⟩
         have n2_ : Aside0 (((w29.setCell ⟨gb359, 0, none⟩ (.int .i64 t354)).setCell ⟨gb359, 1, none⟩ (.slice Ao32 t355.length co32)).heap[gb350]? = some (.cells #[.int .i64 t346, .slice Ao9 t347.length co9] 29 (0, 0))) := ⟨by (with_reducible repeat apply blk_alloc); refine blk_far ?_ NB350_359.out _; (with_reducible repeat apply blk_alloc); refine blk_far ?_ NB350_359.out _; (with_reducible repeat apply blk_alloc); exact BK350.out⟩
         have n3_ : Aside0 (((w29.setCell ⟨gb359, 0, none⟩ (.int .i64 t354)).setCell ⟨gb359, 1, none⟩ (.slice Ao32 t355.length co32)).heap[gb359]? = some (.cells #[.int .i64 t354, .slice Ao32 t355.length co32] 29 (0, 0))) := ⟨by (with_reducible repeat apply blk_alloc); refine blk_put (cs := #[.int .i64 t354, .slice none 0 0]) ?_ 1 _ rfl; (with_reducible repeat apply blk_alloc); refine blk_put (cs := #[.int .i64 0, .slice none 0 0]) ?_ 0 _ rfl; (with_reducible repeat apply blk_alloc); exact BK359.out⟩
         have n4_ : Aside0 (Below w.heap.size w ((w29.setCell ⟨gb359, 0, none⟩ (.int .i64 t354)).setCell ⟨gb359, 1, none⟩ (.slice Ao32 t355.length co32))) := ⟨by repeat first | exact HB.out | with_reducible refine below_setA ?_ ‹_› | apply below_alloc | apply pw_below_drewN⟩
         (try clear HO_351001)
         (try clear HO357)
         (try clear BK350)
         (try clear BK359)
         (try clear HB)
         generalize ((w29.setCell ⟨gb359, 0, none⟩ (.int .i64 t354)).setCell ⟨gb359, 1, none⟩ (.slice Ao32 t355.length co32)) = w33 at n0_ n1_ n2_ n3_ n4_ ⊢
         have HO_351001 := n0_
         have HO357 := n1_
         have BK350 := n2_
         have BK359 := n3_
         have HB := n4_
         clear n0_ n1_ n2_ n3_ n4_
         have n0_ := Aside0.mk (Kd.Q_drew HO_351001.out)
         have n1_ := Aside0.mk (Kd.R_drew HO357.out)
         have n2_ := Aside0.mk (blk_drew BK350.out)
         have n3_ := Aside0.mk (blk_drew BK359.out)
         have n4_ := Aside0.mk (below_drew1 HB.out)
         clear HO_351001
         clear HO357
         clear BK350
         clear BK359
         clear HB
         have HO_351001 := n0_
         have HO357 := n1_
         have BK350 := n2_
         have BK359 := n3_
         have HB := n4_
         clear n0_ n1_ n2_ n3_ n4_
         refine start_ (n := 26) (S := fun w' => w'.cell? ⟨gb359, 0, none⟩ = some (.int .i64 t354) ∧ w'.cell? ⟨gb359, 1, none⟩ = some (.slice Ao32 t355.length co32) ∧ w'.cell? ⟨gb350, 0, none⟩ = some (.int .i64 t346) ∧ w'.cell? ⟨gb350, 1, none⟩ = some (.slice Ao9 t347.length co9)) (ds := []) #[false, false, false, false, false, false, false, false, false, false, false, false, false, false, false, false, false, false, false, false, false, false, false, false, false, false] (by kernel_rfl) rfl rfl ⟨(blk_cell BK359.out 0).trans rfl, (blk_cell BK359.out 1).trans rfl, (blk_cell BK350.out 0).trans rfl, (blk_cell BK350.out 1).trans rfl⟩ (fun hHeld => ?_); refine with_tabW laws_FnGridBack.tab8 laws_FnGridBack.bits8 (fun HT_ HW_ => ?_)
         generalize w33.drew = w34 at HO_351001 HO357 BK350 BK359 HB hHeld ⊢
         refine pure_ (i := 0) (N := some 31) (v := ?_) (a' := ?_) #[true, false, false, false, false, false, false, false, false, false, false, false, false, false, false, false, false, false, false, false, false, false, false, false, false, false] rfl rfl (any_of HT_.out (by kernel_rfl)) (fun _ _ _ h => h) (Or.inl ⟨by rfl, ?_⟩) ?_ ?_
         rotate_left
         ·intro w'
          go_simp
          with_reducible rfl
         rotate_left
         ·simp only [Act.put, List.setIfInBounds_toArray, List.set_cons_zero, List.set_cons_succ, i64_w, i32_w]
          rfl
         refine pure_ (i := 1) (N := some 32) (v := ?_) (a' := ?_) #[true, true, false, false, false, false, false, false, false, false, false, false, false, false, false, false, false, false, false, false, false, false, false, false, false, false] rfl rfl (any_of HT_.out (by kernel_rfl)) (fun _ _ _ h => h) (Or.inl ⟨by rfl, ?_⟩) ?_ ?_
         rotate_left
         ·intro w'
          go_simp
          with_reducible rfl
         rotate_left
         ·simp only [Act.put, List.setIfInBounds_toArray, List.set_cons_zero, List.set_cons_succ, i64_w, i32_w]
          rfl
         refine take_ (i := 2) (N := some 33) (v := ?_) (a' := ?_) #[true, true, true, false, false, false, false, false, false, false, false, false, false, false, false, false, false, false, false, false, false, false, false, false, false, false] rfl rfl (take_ofW HT_.out HW_.out (by kernel_rfl)) (fun _ _ _ h => h) (Or.inl ⟨by rfl, ?_⟩) hHeld ?_ ?_
         rotate_left
         ·rintro w' ⟨s0, s1, s2, s3⟩
          go_simp
          with_reducible rfl
         rotate_left
         ·simp only [Act.put, List.setIfInBounds_toArray, List.set_cons_zero, List.set_cons_succ, i64_w, i32_w]
          rfl
         refine take_ (i := 3) (N := some 34) (v := ?_) (a' := ?_) #[true, true, true, true, false, false, false, false, false, false, false, false, false, false, false, false, false, false, false, false, false, false, false, false, false, false] rfl rfl (take_ofW HT_.out HW_.out (by kernel_rfl)) (fun _ _ _ h => h) (Or.inl ⟨by rfl, ?_⟩) hHeld ?_ ?_
         rotate_left
         ·rintro w' ⟨s0, s1, s2, s3⟩
          go_simp
          with_reducible rfl
         rotate_left
         ·simp only [Act.put, List.setIfInBounds_toArray, List.set_cons_zero, List.set_cons_succ, i64_w, i32_w]
          rfl
         refine one_ (i := 4) (N := some 35) #[true, true, true, true, true, false, false, false, false, false, false, false, false, false, false, false, false, false, false, false, false, false, false, false, false, false] rfl rfl (one_of HT_.out (by kernel_rfl)) (by decide) (fun K hK => ?_)
         refine goes_ Try.func23 (by kernel_rfl) rfl #[.agg #[.int .i64 t354, .slice Ao32 t355.length co32], .agg #[.int .i64 t346, .slice Ao9 t347.length co9]] (by rfl) rfl rfl (by first | rfl | (simp only [List.map_toArray, List.map_cons, List.map_nil, List.length_drop, List.length_take]; try rfl)) ?_
         with_reducible refine (laws_llGrid.calls kj4 t354 _ _ t355 t346 _ _ t347 true _ ?side1 ?side2 ?side3 ?side4 A23.out).mono ?_
         (case side1 => repeat (first | exact (Kd.R_reads' HO357.out).2.2 | (with_reducible refine Kd.C_alloc ?_ _) | (with_reducible refine Kd.C_drewN ?_ _) | (with_reducible refine Kd.C_drew ?_)))
         (case side2 => exact (Kd.R_reads' HO357.out).2.1)
         (case side3 => repeat (first | exact (Kd.Q_reads' HO_351001.out).2.2 | (with_reducible refine Kd.C_alloc ?_ _) | (with_reducible refine Kd.C_drewN ?_ _) | (with_reducible refine Kd.C_drew ?_)))
         (case side4 => exact (Kd.Q_reads' HO_351001.out).2.1)
         rintro e w35 ⟨rfl, hb⟩
         refine ⟨_, rfl, ?_⟩
         have n0_ := Aside0.mk (Kd.Q_below (by (with_reducible repeat apply Kd.Q_alloc); exact HO_351001.out) hb)
         have n1_ := Aside0.mk (Kd.R_below (kR HO357.out) hb)
         have n2_ := Aside0.mk (blk_below (bK BK350.out) hb)
         have n3_ := Aside0.mk (blk_below (bK BK359.out) hb)
         have n4_ := Aside0.mk (below_step (by repeat first | exact HB.out | with_reducible refine below_setA ?_ ‹_› | apply below_alloc | apply pw_below_drewN) hb)
         clear HO_351001
         clear HO357
         clear BK350
         clear BK359
         clear HB
         have HO_351001 := n0_
         have HO357 := n1_
         have BK350 := n2_
         have BK359 := n3_
         have HB := n4_
         clear n0_ n1_ n2_ n3_ n4_
         (try clear hb)
         (try clear hb2)
         (try clear hk)
         (try clear hi)
         refine hK.out _ _ ⟨(blk_cell BK359.out 0).trans rfl, (blk_cell BK359.out 1).trans rfl, (blk_cell BK350.out 0).trans rfl, (blk_cell BK350.out 1).trans rfl⟩ (fun hHeld => ?_)
         clear hK K
         refine norm_ (a' := ?_) ?_ ?_
         rotate_left
         ·show Act.put _ (some 35) _ = _
          simp only [Act.put, List.setIfInBounds_toArray, List.set_cons_zero, List.set_cons_succ, i64_w, i32_w]
          rfl
         refine pure_ (i := 5) (N := some 36) (v := ?_) (a' := ?_) #[true, true, true, true, true, true, false, false, false, false, false, false, false, false, false, false, false, false, false, false, false, false, false, false, false, false] rfl rfl (any_of HT_.out (by kernel_rfl)) (fun _ _ _ h => h) (Or.inl ⟨by rfl, ?_⟩) ?_ ?_
         rotate_left
         ·intro w'
          go_simp
          with_reducible rfl
         rotate_left
         ·simp only [Act.put, List.setIfInBounds_toArray, List.set_cons_zero, List.set_cons_succ, i64_w, i32_w]
          rfl
         refine pure_ (i := 6) (N := some 37) (v := ?_) (a' := ?_) #[true, true, true, true, true, true, true, false, false, false, false, false, false, false, false, false, false, false, false, false, false, false, false, false, false, false] rfl rfl (any_of HT_.out (by kernel_rfl)) (fun _ _ _ h => h) (Or.inl ⟨by rfl, ?_⟩) ?_ ?_
         rotate_left
         ·intro w'
          go_simp
          with_reducible rfl
         rotate_left
         ·simp only [Act.put, List.setIfInBounds_toArray, List.set_cons_zero, List.set_cons_succ, i64_w, i32_w]
          rfl
         refine take_ (i := 7) (N := some 38) (v := ?_) (a' := ?_) #[true, true, true, true, true, true, true, true, false, false, false, false, false, false, false, false, false, false, false, false, false, false, false, false, false, false] rfl rfl (take_ofW HT_.out HW_.out (by kernel_rfl)) (fun _ _ _ h => h) (Or.inl ⟨by rfl, ?_⟩) hHeld ?_ ?_
         rotate_left
         ·rintro w' ⟨s0, s1, s2, s3⟩
          go_simp
          with_reducible rfl
         rotate_left
         ·simp only [Act.put, List.setIfInBounds_toArray, List.set_cons_zero, List.set_cons_succ, i64_w, i32_w]
          rfl
         refine one_ (i := 8) (N := some 39) #[true, true, true, true, true, true, true, true, true, false, false, false, false, false, false, false, false, false, false, false, false, false, false, false, false, false] rfl rfl (one_of HT_.out (by kernel_rfl)) (by decide) (fun K hK => ?_)
         refine goes_ Try.func24 (by kernel_rfl) rfl #[.agg #[.int .i64 t346, .slice Ao9 t347.length co9]] (by rfl) rfl rfl (by first | rfl | (simp only [List.map_toArray, List.map_cons, List.map_nil, List.length_drop, List.length_take]; try rfl)) ?_
         with_reducible refine (impl_GridOk.calls kj4 t346 _ _ t347 true _ ?side1 ?side2 A25.out).mono ?_
         (case side1 => repeat (first | exact (Kd.Q_reads' HO_351001.out).2.2 | (with_reducible refine Kd.C_alloc ?_ _) | (with_reducible refine Kd.C_drewN ?_ _) | (with_reducible refine Kd.C_drew ?_)))
         (case side2 => exact (Kd.Q_reads' HO_351001.out).2.1)
         rintro e w36 ⟨rfl, hb⟩
         refine ⟨_, rfl, ?_⟩
         have n0_ := Aside0.mk (Kd.Q_below (by (with_reducible repeat apply Kd.Q_alloc); exact HO_351001.out) hb)
         have n1_ := Aside0.mk (Kd.R_below (kR HO357.out) hb)
         have n2_ := Aside0.mk (blk_below (bK BK350.out) hb)
         have n3_ := Aside0.mk (blk_below (bK BK359.out) hb)
         have n4_ := Aside0.mk (below_step (by repeat first | exact HB.out | with_reducible refine below_setA ?_ ‹_› | apply below_alloc | apply pw_below_drewN) hb)
         clear HO_351001
         clear HO357
         clear BK350
         clear BK359
         clear HB
         have HO_351001 := n0_
         have HO357 := n1_
         have BK350 := n2_
         have BK359 := n3_
         have HB := n4_
         clear n0_ n1_ n2_ n3_ n4_
         (try clear hb)
         (try clear hb2)
         (try clear hk)
         (try clear hi)
         refine hK.out _ _ ⟨(blk_cell BK359.out 0).trans rfl, (blk_cell BK359.out 1).trans rfl, (blk_cell BK350.out 0).trans rfl, (blk_cell BK350.out 1).trans rfl⟩ (fun hHeld => ?_)
         clear hK K
         refine norm_ (a' := ?_) ?_ ?_
         rotate_left
         ·show Act.put _ (some 39) _ = _
          simp only [Act.put, List.setIfInBounds_toArray, List.set_cons_zero, List.set_cons_succ, i64_w, i32_w]
          rfl
         refine pure_ (i := 9) (N := some 40) (v := ?_) (a' := ?_) #[true, true, true, true, true, true, true, true, true, true, false, false, false, false, false, false, false, false, false, false, false, false, false, false, false, false] rfl rfl (any_of HT_.out (by kernel_rfl)) (fun _ _ _ h => h) (Or.inl ⟨by rfl, ?_⟩) ?_ ?_
         rotate_left
         ·intro w'
          go_simp
          with_reducible rfl
         rotate_left
         ·simp only [Act.put, List.setIfInBounds_toArray, List.set_cons_zero, List.set_cons_succ, i64_w, i32_w]
          rfl
         refine pure_ (i := 10) (N := some 41) (v := ?_) (a' := ?_) #[true, true, true, true, true, true, true, true, true, true, true, false, false, false, false, false, false, false, false, false, false, false, false, false, false, false] rfl rfl (any_of HT_.out (by kernel_rfl)) (fun _ _ _ h => h) (Or.inl ⟨by rfl, ?_⟩) ?_ ?_
         rotate_left
         ·intro w'
          go_simp
          with_reducible rfl
         rotate_left
         ·simp only [Act.put, List.setIfInBounds_toArray, List.set_cons_zero, List.set_cons_succ, i64_w, i32_w]
          rfl
         refine pure_ (i := 11) (N := some 42) (v := ?_) (a' := ?_) #[true, true, true, true, true, true, true, true, true, true, true, true, false, false, false, false, false, false, false, false, false, false, false, false, false, false] rfl rfl (any_of HT_.out (by kernel_rfl)) (fun _ _ _ h => h) (Or.inl ⟨by rfl, ?_⟩) ?_ ?_
         rotate_left
         ·intro w'
          go_simp
          with_reducible rfl
         rotate_left
         ·simp only [Act.put, List.setIfInBounds_toArray, List.set_cons_zero, List.set_cons_succ, i64_w, i32_w]
          rfl
         refine pure_ (i := 12) (N := some 43) (v := ?_) (a' := ?_) #[true, true, true, true, true, true, true, true, true, true, true, true, true, false, false, false, false, false, false, false, false, false, false, false, false, false] rfl rfl (any_of HT_.out (by kernel_rfl)) (fun _ _ _ h => h) (Or.inl ⟨by rfl, ?_⟩) ?_ ?_
         rotate_left
         ·intro w'
          go_simp
          with_reducible rfl
         rotate_left
         ·simp only [Act.put, List.setIfInBounds_toArray, List.set_cons_zero, List.set_cons_succ, i64_w, i32_w]
          rfl
         refine pure_ (i := 13) (N := some 44) (v := ?_) (a' := ?_) #[true, true, true, true, true, true, true, true, true, true, true, true, true, true, false, false, false, false, false, false, false, false, false, false, false, false] rfl rfl (any_of HT_.out (by kernel_rfl)) (fun _ _ _ h => h) (Or.inl ⟨by rfl, ?_⟩) ?_ ?_
         rotate_left
         ·intro w'
          go_simp
          with_reducible rfl
         rotate_left
         ·simp only [Act.put, List.setIfInBounds_toArray, List.set_cons_zero, List.set_cons_succ, i64_w, i32_w]
          rfl
         refine pure_ (i := 16) (N := some 47) (v := ?_) (a' := ?_) #[true, true, true, true, true, true, true, true, true, true, true, true, true, true, false, false, true, false, false, false, false, false, false, false, false, false] rfl rfl (any_of HT_.out (by kernel_rfl)) (fun _ _ _ h => h) (Or.inl ⟨by rfl, ?_⟩) ?_ ?_
         rotate_left
         ·intro w'
          go_simp
          with_reducible rfl
         rotate_left
         ·simp only [Act.put, List.setIfInBounds_toArray, List.set_cons_zero, List.set_cons_succ, i64_w, i32_w]
          rfl
         refine pure_ (i := 19) (N := some 50) (v := ?_) (a' := ?_) #[true, true, true, true, true, true, true, true, true, true, true, true, true, true, false, false, true, false, false, true, false, false, false, false, false, false] rfl rfl (any_of HT_.out (by kernel_rfl)) (fun _ _ _ h => h) (Or.inl ⟨by rfl, ?_⟩) ?_ ?_
         rotate_left
         ·intro w'
          go_simp
          with_reducible rfl
         rotate_left
         ·simp only [Act.put, List.setIfInBounds_toArray, List.set_cons_zero, List.set_cons_succ, i64_w, i32_w]
          rfl
         refine take_ (i := 14) (N := some 45) (v := ?_) (a' := ?_) #[true, true, true, true, true, true, true, true, true, true, true, true, true, true, true, false, true, false, false, true, false, false, false, false, false, false] rfl rfl (take_ofW HT_.out HW_.out (by kernel_rfl)) (fun _ _ _ h => h) (Or.inl ⟨by rfl, ?_⟩) hHeld ?_ ?_
         rotate_left
         ·rintro w' ⟨s0, s1, s2, s3⟩
          go_simp
          with_reducible rfl
         rotate_left
         ·simp only [Act.put, List.setIfInBounds_toArray, List.set_cons_zero, List.set_cons_succ, i64_w, i32_w]
          rfl
         refine pure_ (i := 15) (N := some 46) (v := ?_) (a' := ?_) #[true, true, true, true, true, true, true, true, true, true, true, true, true, true, true, true, true, false, false, true, false, false, false, false, false, false] rfl rfl (any_of HT_.out (by kernel_rfl)) (fun _ _ _ h => h) (Or.inl ⟨by rfl, ?_⟩) ?_ ?_
         rotate_left
         ·intro w'
          go_simp
          with_reducible rfl
         rotate_left
         ·simp only [Act.put, List.setIfInBounds_toArray, List.set_cons_zero, List.set_cons_succ, i64_w, i32_w]
          rfl
         refine take_ (i := 17) (N := some 48) (v := ?_) (a' := ?_) #[true, true, true, true, true, true, true, true, true, true, true, true, true, true, true, true, true, true, false, true, false, false, false, false, false, false] rfl rfl (take_ofW HT_.out HW_.out (by kernel_rfl)) (fun _ _ _ h => h) (Or.inl ⟨by rfl, ?_⟩) hHeld ?_ ?_
         rotate_left
         ·rintro w' ⟨s0, s1, s2, s3⟩
          go_simp
          with_reducible rfl
         rotate_left
         ·simp only [Act.put, List.setIfInBounds_toArray, List.set_cons_zero, List.set_cons_succ, i64_w, i32_w]
          rfl
         refine pure_ (i := 18) (N := some 49) (v := ?_) (a' := ?_) #[true, true, true, true, true, true, true, true, true, true, true, true, true, true, true, true, true, true, true, true, false, false, false, false, false, false] rfl rfl (any_of HT_.out (by kernel_rfl)) (fun _ _ _ h => h) (Or.inl ⟨by rfl, ?_⟩) ?_ ?_
         rotate_left
         ·intro w'
          go_simp
          with_reducible rfl
         rotate_left
         ·simp only [Act.put, List.setIfInBounds_toArray, List.set_cons_zero, List.set_cons_succ, i64_w, i32_w]
          rfl
         refine take_ (i := 20) (N := some 51) (v := ?_) (a' := ?_) #[true, true, true, true, true, true, true, true, true, true, true, true, true, true, true, true, true, true, true, true, true, false, false, false, false, false] rfl rfl (take_ofW HT_.out HW_.out (by kernel_rfl)) (fun _ _ _ h => h) (Or.inl ⟨by rfl, ?_⟩) hHeld ?_ ?_
         rotate_left
         ·rintro w' ⟨s0, s1, s2, s3⟩
          go_simp
          with_reducible rfl
         rotate_left
         ·simp only [Act.put, List.setIfInBounds_toArray, List.set_cons_zero, List.set_cons_succ, i64_w, i32_w]
          rfl
         refine pure_ (i := 21) (N := some 52) (v := ?_) (a' := ?_) #[true, true, true, true, true, true, true, true, true, true, true, true, true, true, true, true, true, true, true, true, true, true, false, false, false, false] rfl rfl (any_of HT_.out (by kernel_rfl)) (fun _ _ _ h => h) (Or.inl ⟨by rfl, ?_⟩) ?_ ?_
         rotate_left
         ·intro w'
          go_simp
          with_reducible rfl
         rotate_left
         ·simp only [Act.put, List.setIfInBounds_toArray, List.set_cons_zero, List.set_cons_succ, i64_w, i32_w]
          rfl
         refine pure_ (i := 22) (N := some 53) (v := ?_) (a' := ?_) #[true, true, true, true, true, true, true, true, true, true, true, true, true, true, true, true, true, true, true, true, true, true, true, false, false, false] rfl rfl (any_of HT_.out (by kernel_rfl)) (fun _ _ _ h => h) (Or.inl ⟨by rfl, ?_⟩) ?_ ?_
         rotate_left
         ·intro w'
          go_simp
          with_reducible rfl
         rotate_left
         ·simp only [Act.put, List.setIfInBounds_toArray, List.set_cons_zero, List.set_cons_succ, i64_w, i32_w]
          rfl
         refine pure_ (i := 23) (N := some 54) (v := ?_) (a' := ?_) #[true, true, true, true, true, true, true, true, true, true, true, true, true, true, true, true, true, true, true, true, true, true, true, true, false, false] rfl rfl (any_of HT_.out (by kernel_rfl)) (fun _ _ _ h => h) (Or.inl ⟨by rfl, ?_⟩) ?_ ?_
         rotate_left
         ·intro w'
          go_simp
          with_reducible rfl
         rotate_left
         ·simp only [Act.put, List.setIfInBounds_toArray, List.set_cons_zero, List.set_cons_succ, i64_w, i32_w]
          rfl
         refine pure_ (i := 24) (N := some 55) (v := ?_) (a' := ?_) #[true, true, true, true, true, true, true, true, true, true, true, true, true, true, true, true, true, true, true, true, true, true, true, true, true, false] rfl rfl (any_of HT_.out (by kernel_rfl)) (fun _ _ _ h => h) (Or.inl ⟨by rfl, ?_⟩) ?_ ?_
         rotate_left
         ·intro w'
          go_simp
          with_reducible rfl
         rotate_left
         ·simp only [Act.put, List.setIfInBounds_toArray, List.set_cons_zero, List.set_cons_succ, i64_w, i32_w]
          rfl
         refine pure_ (i := 25) (N := some 2) (v := ?_) (a' := ?_) #[true, true, true, true, true, true, true, true, true, true, true, true, true, true, true, true, true, true, true, true, true, true, true, true, true, true] rfl rfl (any_of HT_.out (by kernel_rfl)) (fun _ _ _ h => h) (Or.inl ⟨by rfl, ?_⟩) ?_ ?_
         rotate_left
         ·intro w'
          go_simp
          with_reducible rfl
         rotate_left
         ·simp only [Act.put, List.setIfInBounds_toArray, List.set_cons_zero, List.set_cons_succ, i64_w, i32_w]
          rfl
         refine done_ (done_of HT_.out (by kernel_rfl)) ?_
         try go_wp2
         go_ret
         exact ⟨by first | rfl | (simp [errW_none, errW_some] <;> rfl) | (simp [*, errW_none, errW_some] <;> rfl) | (exfalso; simp_all; done), by repeat first | exact HB.out | with_reducible refine below_setA ?_ ‹_› | apply below_alloc | apply pw_below_drewN⟩
       ·replace c26 := Bool.eq_false_iff.mpr c26
        subst c26
        have H1 : (some false) = some r := by rw [if_neg (show ¬ (false = true) by decide)] at H; exact H
        clear H
        have H := H1
        clear H1
        obtain rfl := Option.some.inj H
        exact absurd HRT.out (by decide)
      ·replace c24 := Bool.eq_false_iff.mpr c24
       subst c24
       have H1 : (some false) = some r := by rw [if_neg (show ¬ (false = true) by decide)] at H; exact H
       clear H
       have H := H1
       clear H1
       obtain rfl := Option.some.inj H
       exact absurd HRT.out (by decide)
     ·replace c22 := Bool.eq_false_iff.mpr c22
      subst c22
      have H1 : (some false) = some r := by rw [if_neg (show ¬ (false = true) by decide)] at H; exact H
      clear H
      have H := H1
      clear H1
      obtain rfl := Option.some.inj H
      exact absurd HRT.out (by decide)

/-- THE ONE PURE STATEMENT of laws_FnGridBack: yours. -/
def laws_FnGridBack.Pure : Prop := ∀ (l0 : List Int), l0.length ≤ maxLen → l0.length * 1 ≤ 140737488351232 → (∀ x ∈ l0, (Lit.int .u8 x).wf = true) → ∃ k, laws_FnGridBack.f k l0 = some true
theorem laws_FnGridBack.walk (P : laws_FnGridBack.Pure) (a0 : Option Addr) (len0 cap0 : Nat) (z0 : List Int) (w : World) (w0 : (a0 = none ∧ len0 = 0 ∧ cap0 = 0 ∧ z0 = []) ∨ ∃ x, a0 = some x ∧ len0 ≤ cap0 ∧ cap0 ≤ maxLen ∧ z0.length = cap0 ∧ (∀ i, i < z0.length → w.cell? (x.add i) = some (.int .u8 (z0.getD i 0))) ∧ ∀ n ∈ z0, (Lit.int .u8 n).wf = true) (y0 : len0 * 1 ≤ 140737488351232) :
  Calls Try.prog 7 #[.slice a0 len0 cap0] w fun e w' => e = .returned (.bool true) ∧ Below w.heap.size w w' := by
 obtain ⟨l0, rfl, hr0, hm0, hw0, hc0⟩ := ReadsInt.ofRowC w0
 obtain ⟨k, h⟩ := P l0 hm0 y0 hw0
 refine (laws_FnGridBack.calls k _ _ l0 true w (Kd.C_of_reads (d := (0 : Int)) (h1 := fun _ => rfl) hr0) hc0 h rfl).mono ?_
 rintro e w' ⟨rfl, hd⟩
 exact ⟨rfl, hd⟩

end Go.Proofs.Ytpjdhpkfenohgaa.P
