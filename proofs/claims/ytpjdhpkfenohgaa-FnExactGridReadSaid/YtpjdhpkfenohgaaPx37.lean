/- PROVED: contracts of functions; written by this session's driver (pk.py). No condition. -/
import Derived.Test.YtpjdhpkfenohgaaPx0
import Derived.Test.YtpjdhpkfenohgaaPx9
import Derived.Test.YtpjdhpkfenohgaaPx11
import Derived.Test.YtpjdhpkfenohgaaPx13
import Derived.Test.YtpjdhpkfenohgaaPx32
import Derived.Test.YtpjdhpkfenohgaaPx35
namespace Go.Proofs.Ytpjdhpkfenohgaa.P
open Go.RowKit Go.Proofs.YtpjdhpkfenohgaaW.PrintWords Go.Proofs.YtpjdhpkfenohgaaW.PrintLast Go.Proofs.YtpjdhpkfenohgaaW.PrintMore
attribute [local go_sem] max2_int min2_int max_two min_two max_three min_three max_four min_four   -- for this text's walks alone
set_option linter.unusedVariables false
set_option linter.unusedSimpArgs false

/-! ### laws_FnExactGridRead: function 4 -/
mutual
def laws_FnExactGridRead.j0 : Nat → ByteArray → Bool → Bool → Int → List (S39) → Int → List (S39) → Option (Bool)
 | 0, _, _, _, _, _, _, _ => none
 | k + 1, x0, x4, x32, x209000, x209001, x215000, x215001 => if x32 = true then (some false) else ((laws_markGrid.f k x215000 x215001 1).bind fun bt216 => ((laws_heldGrid.f k x215000 bt216.2 1).bind fun t218 => (if t218 < 0 then (some false) else (if t218 = bt216.1 then ((impl_GridRead.f k x0).bind fun bt219 => ((laws_eqGrid.f k bt219.1 bt219.2.1 x209000 x209001).bind fun t225 => (if t225 = true then (laws_FnExactGridRead.j1 k bt216.1 (bt219.2.2 != x4) x215000 bt216.2) else (laws_FnExactGridRead.j1 k bt216.1 true x215000 bt216.2)))) else (some false)))))
def laws_FnExactGridRead.j1 : Nat → Int → Bool → Int → List (S39) → Option (Bool)
 | 0, _, _, _, _ => none
 | k + 1, x7, x57, x215000, x215001 => if x57 = true then (some false) else ((laws_heldGrid.f k x215000 x215001 1).bind fun t226 => (if t226 < 0 then (some false) else (if t226 = x7 then (some true) else (some false))))
end
def laws_FnExactGridRead.f (k : Nat) (a0 : ByteArray) : Option (Bool) := if (a0.size : Int) > 1048576 then (some true) else ((spec_GridRead.f k a0).bind fun bt203 => ((impl_GridRead.f k a0).bind fun bt209 => ((laws_eqGrid.f k bt209.1 bt209.2.1 bt203.1 bt203.2.1).bind fun t215 => (if t215 = true then (laws_FnExactGridRead.j0 k a0 bt203.2.2 (bt209.2.2 != bt203.2.2) bt203.1 bt203.2.1 bt209.1 bt209.2.1) else (laws_FnExactGridRead.j0 k a0 bt203.2.2 true bt203.1 bt203.2.1 bt209.1 bt209.2.1)))))
set_option maxHeartbeats 8000000 in
set_option maxRecDepth 100000 in
theorem laws_FnExactGridRead.calls (k : Nat) (a0 : ByteArray) (r : Bool) (w : World) (h : laws_FnExactGridRead.f k a0 = some r) (hrt : r = true) :
  Calls Try.prog 4 #[.string a0] w fun e w' => e = .returned (.bool r) ∧ Below w.heap.size w w' := by
 have HRT := Aside0.mk hrt
 clear hrt
 have hu29 := Try.underlying29
 have HB := Aside0.mk (Below.refl w.heap.size w)
 have H : (if (a0.size : Int) > 1048576 then (some true) else ((spec_GridRead.f k a0).bind fun bt203 => ((impl_GridRead.f k a0).bind fun bt209 => ((laws_eqGrid.f k bt209.1 bt209.2.1 bt203.1 bt203.2.1).bind fun t215 => (if t215 = true then (laws_FnExactGridRead.j0 k a0 bt203.2.2 (bt209.2.2 != bt203.2.2) bt203.1 bt203.2.1 bt209.1 bt209.2.1) else (laws_FnExactGridRead.j0 k a0 bt203.2.2 true bt203.1 bt203.2.1 bt209.1 bt209.2.1)))))) = some r := h
 clear h
 by_cases c2 : (a0.size : Int) > 1048576
 ·rw [if_pos c2] at H
  have c2b0 : decide (1048576 < (a0.size : Int)) = true := decide_eq_true c2
  have c2b1 : decide (1048576 < a0.size) = true := decide_eq_true (by omega)
  clear c2
  obtain rfl := Option.some.inj H
  go_enter Try.func4, Try.ntmps4
  go_wp2
  go_ret
  exact ⟨by first | rfl | (simp [errW_none, errW_some] <;> rfl) | (simp [*, errW_none, errW_some] <;> rfl) | (exfalso; simp_all; done), by repeat first | exact HB.out | apply below_alloc | apply pw_below_drewN⟩
 ·rw [if_neg c2] at H
  have c2b0 : decide (1048576 < (a0.size : Int)) = false := decide_eq_false c2
  have c2b1 : decide (1048576 < a0.size) = false := decide_eq_false (by omega)
  clear c2
  replace H := Option.bind_eq_some_iff.mp H
  obtain ⟨⟨t203, t204, t207⟩, A30, H⟩ := H
  replace H : ((impl_GridRead.f k a0).bind fun bt209 => ((laws_eqGrid.f k bt209.1 bt209.2.1 t203 t204).bind fun t215 => (if t215 = true then (laws_FnExactGridRead.j0 k a0 t207 (bt209.2.2 != t207) t203 t204 bt209.1 bt209.2.1) else (laws_FnExactGridRead.j0 k a0 t207 true t203 t204 bt209.1 bt209.2.1)))) = some r := H
  have A3 := Aside0.mk A30
  clear A30
  replace H := Option.bind_eq_some_iff.mp H
  obtain ⟨⟨t209, t210, t213⟩, A40, H⟩ := H
  replace H : ((laws_eqGrid.f k t209 t210 t203 t204).bind fun t215 => (if t215 = true then (laws_FnExactGridRead.j0 k a0 t207 (t213 != t207) t203 t204 t209 t210) else (laws_FnExactGridRead.j0 k a0 t207 true t203 t204 t209 t210))) = some r := H
  have A4 := Aside0.mk A40
  clear A40
  have HC5 := Aside0.mk H
  clear H
  go_enter Try.func4, Try.ntmps4
  go_upto_region 5 with (first | ((with_reducible refine gate_callee (f := 15) rfl ?_); refine goesL_ (some 16) rfl rfl Try.func15 (by kernel_rfl) rfl #[.string a0] rfl (by first | rfl | (simp only [List.map_toArray, List.map_cons, List.map_nil, List.length_drop, List.length_take]; try rfl)) ?_; (with_reducible refine (spec_GridRead.calls k a0 t203 t204 t207 _ A3.out).mono ?_); rintro e w6 ⟨v205, rfl, ho0, hb⟩; refine ⟨_, rfl, ?_⟩; have n0_ := Aside0.mk (Kd.R_lower ho0 (below_size (by repeat first | exact HB.out | apply below_alloc | apply pw_below_drewN))); have n1_ := Aside0.mk (below_step (by repeat first | exact HB.out | apply below_alloc | apply pw_below_drewN) hb); clear HB; have HO206 := n0_; have HB := n1_; clear n0_ n1_; (try clear hb); (try clear hb2); (try clear hk); (try clear hi); (try clear ho0)) | ((with_reducible refine gate_dst (N := 3) rfl ?_); refine box_event rfl (N := 3) rfl (cs := #[.int .i64 0, .slice none 0 0]) (t := 29) ?hr ?_; (case hr => first | (go_simp; done) | (go_simp; rfl)); intro gb208 hg w7 hbox hb; have n0_ := Aside0.mk (Kd.R_below (kR HO206.out) hb); have n1_ := Aside0.mk (below_step (by repeat first | exact HB.out | apply below_alloc | apply pw_below_drewN) hb); have n2_ := Aside0.mk (hbox); have n3_ := Aside0.mk ((by rw [hg]; exact (below_size (by repeat first | exact HB.out | apply below_alloc | apply pw_below_drewN)) : w.heap.size ≤ gb208)); have n4_ := n3_; clear HO206; clear HB; have HO206 := n0_; have HB := n1_; have BK208 := n2_; have GW208 := n3_; have GE208 := n4_; clear n0_ n1_ n2_ n3_ n4_; clear hb hbox hg; have hcz8_0 : w7.cell? ⟨gb208, 0, none⟩ = some (.int .i64 0) := (blk_cell BK208.out 0).trans rfl; have hcz8_1 : w7.cell? ⟨gb208, 1, none⟩ = some (.slice none 0 0) := (blk_cell BK208.out 1).trans rfl; have hfz8_0 := blk_frozen BK208.out 0; have hfz8_1 := blk_frozen BK208.out 1; obtain ⟨Ao9, co9, eo9⟩ := Kd.R_slice HO206.out; subst eo9) | ((with_reducible refine gate_callee (f := 16) rfl ?_); refine goesL_ (some 21) rfl rfl Try.func16 (by kernel_rfl) rfl #[.string a0] rfl (by first | rfl | (simp only [List.map_toArray, List.map_cons, List.map_nil, List.length_drop, List.length_take]; try rfl)) ?_; (with_reducible refine (impl_GridRead.calls k a0 t209 t210 t213 _ A4.out).mono ?_); rintro e w10 ⟨v211, rfl, ho0, hb⟩; refine ⟨_, rfl, ?_⟩; have n0_ := Aside0.mk (Kd.R_elder' (by (with_reducible repeat apply Kd.R_alloc); exact (Kd.R_mono (Kd.R_far (p := ⟨gb208, 1, none⟩) (Kd.R_far (p := ⟨gb208, 0, none⟩) (Kd.R_types HO206.out BK208.out (by decide)) (fun _ hk => hk.2) (.int .i64 t203)) (fun _ hk => hk.2) (.slice Ao9 t204.length co9)) (fun _ h_ => h_.1))) (Kd.R_base ho0) hb); have n1_ := Aside0.mk (Kd.R_lower (Kd.R_new' ho0 (Kd.R_lt (by (with_reducible repeat apply Kd.R_alloc); exact (Kd.R_mono (Kd.R_far (p := ⟨gb208, 1, none⟩) (Kd.R_far (p := ⟨gb208, 0, none⟩) (Kd.R_types HO206.out BK208.out (by decide)) (fun _ hk => hk.2) (.int .i64 t203)) (fun _ hk => hk.2) (.slice Ao9 t204.length co9)) (fun _ h_ => h_.1))))) (below_size (by repeat first | exact HB.out | with_reducible refine below_setA ?_ ‹_› | apply below_alloc | apply pw_below_drewN))); have n2_ := Aside0.mk (blk_below (g := gb208) (o := .cells #[.int .i64 t203, .slice Ao9 t204.length co9] 29 (0, 0)) (by (with_reducible repeat apply blk_alloc); refine blk_put (cs := #[.int .i64 t203, .slice none 0 0]) ?_ 1 _ rfl; (with_reducible repeat apply blk_alloc); refine blk_put (cs := #[.int .i64 0, .slice none 0 0]) ?_ 0 _ rfl; (with_reducible repeat apply blk_alloc); exact BK208.out) hb); have n3_ := Aside0.mk (below_step (by repeat first | exact HB.out | with_reducible refine below_setA ?_ ‹_› | apply below_alloc | apply pw_below_drewN) hb); clear HO206; clear BK208; clear HB; have HO206 := n0_; have HO212 := n1_; have BK208 := n2_; have HB := n3_; clear n0_ n1_ n2_ n3_; (try clear hb); (try clear hb2); (try clear hk); (try clear hi); (try clear ho0)) | ((with_reducible refine gate_dst (N := 5) rfl ?_); refine box_event rfl (N := 5) rfl (cs := #[.int .i64 0, .slice none 0 0]) (t := 29) ?hr ?_; (case hr => first | (go_simp; done) | (go_simp; rfl)); intro gb214 hg w11 hbox hb; have n0_ := Aside0.mk (Kd.R_below (kR HO206.out) hb); have n1_ := Aside0.mk (Kd.R_below (kR HO212.out) hb); have n2_ := Aside0.mk (blk_below (bK BK208.out) hb); have n3_ := Aside0.mk (below_step (by repeat first | exact HB.out | with_reducible refine below_setA ?_ ‹_› | apply below_alloc | apply pw_below_drewN) hb); have n4_ := Aside0.mk (hbox); have n5_ := Aside0.mk ((by rw [hg]; exact (below_size (by repeat first | exact HB.out | with_reducible refine below_setA ?_ ‹_› | apply below_alloc | apply pw_below_drewN)) : w.heap.size ≤ gb214)); have n6_ := n5_; have n7_ := Aside0.mk ((by rw [hg]; exact Nat.ne_of_lt (blk_lt (bK BK208.out)) : gb208 ≠ gb214)); have n8_ := Aside0.mk ((by rw [hg]; exact Nat.ne_of_gt (blk_lt (bK BK208.out)) : gb214 ≠ gb208)); clear HO206; clear HO212; clear BK208; clear HB; have HO206 := n0_; have HO212 := n1_; have BK208 := n2_; have HB := n3_; have BK214 := n4_; have GW214 := n5_; have GE214 := n6_; have NB208_214 := n7_; have NB214_208 := n8_; clear n0_ n1_ n2_ n3_ n4_ n5_ n6_ n7_ n8_; clear hb hbox hg; have hnb12 := NB214_208.out; have hnc12 := NB208_214.out; have hcz13_0 : w11.cell? ⟨gb214, 0, none⟩ = some (.int .i64 0) := (blk_cell BK214.out 0).trans rfl; have hcz13_1 : w11.cell? ⟨gb214, 1, none⟩ = some (.slice none 0 0) := (blk_cell BK214.out 1).trans rfl; have hfz13_0 := blk_frozen BK214.out 0; have hfz13_1 := blk_frozen BK214.out 1; obtain ⟨Ao14, co14, eo14⟩ := Kd.R_slice HO212.out; subst eo14))
  (try simp only [Act.put, List.setIfInBounds_toArray, List.set_cons_zero, List.set_cons_succ])
  go_cut [32] (fun v32 wc => ∃ (kq : Nat) (x32_4 : Bool), v32 = .bool x32_4 ∧ Aside0 (laws_FnExactGridRead.j0 kq a0 t207 x32_4 t203 t204 t209 t210 = some r) ∧ Aside0 (kq ≤ k) ∧ Aside0 (Kd.R k39 39 wc w.heap.size (fun k_ => some k_ ≠ ((.slice Ao14 t210.length co14) : Value).ownBlock) (.slice Ao9 t204.length co9) t204) ∧ Aside0 (Kd.R k39 39 wc w.heap.size (fun k_ => some k_ ≠ ((.slice Ao9 t204.length co9) : Value).ownBlock) (.slice Ao14 t210.length co14) t210) ∧ Aside0 (wc.heap[gb208]? = some (.cells #[.int .i64 t203, (.slice Ao9 t204.length co9)] 29 (0, 0))) ∧ Aside0 (wc.heap[gb214]? = some (.cells #[.int .i64 t209, (.slice Ao14 t210.length co14)] 29 (0, 0))) ∧ Aside0 (Below w.heap.size w wc))
  case first =>
   have H := HC5.out
   clear HC5
   replace H := Option.bind_eq_some_iff.mp H
   obtain ⟨t215, A150, H⟩ := H
   replace H : (if t215 = true then (laws_FnExactGridRead.j0 k a0 t207 (t213 != t207) t203 t204 t209 t210) else (laws_FnExactGridRead.j0 k a0 t207 true t203 t204 t209 t210)) = some r := H
   have A15 := Aside0.mk A150
   clear A150
   by_cases c16 : t215 = true
   ·subst c16
    have H1 : (laws_FnExactGridRead.j0 k a0 t207 (t213 != t207) t203 t204 t209 t210) = some r := by rw [if_pos rfl] at H; exact H
    clear H
    have H := H1
    clear H1
    have H' := Aside0.mk H
    clear H
    have hnb17 := NB214_208.out
    have hnc17 := NB208_214.out
    have hcz18_0 : w11.cell? ⟨gb214, 0, none⟩ = some (.int .i64 0) := (blk_cell BK214.out 0).trans rfl
    have hcz18_1 : w11.cell? ⟨gb214, 1, none⟩ = some (.slice none 0 0) := (blk_cell BK214.out 1).trans rfl
    have hfz18_0 := blk_frozen BK214.out 0
    have hfz18_1 := blk_frozen BK214.out 1
    have hcz19_0 : w11.cell? ⟨gb208, 0, none⟩ = some (.int .i64 t203) := (blk_cell BK208.out 0).trans rfl
    have hcz19_1 : w11.cell? ⟨gb208, 1, none⟩ = some (.slice Ao9 t204.length co9) := (blk_cell BK208.out 1).trans rfl
    have hfz19_0 := blk_frozen BK208.out 0
    have hfz19_1 := blk_frozen BK208.out 1
    go_wp2_with (first | ((with_reducible refine gate_callee (f := 14) rfl ?_); refine goesL_ (some 26) rfl rfl Try.func14 (by kernel_rfl) rfl #[.agg #[.int .i64 t209, .slice Ao14 t210.length co14], .agg #[.int .i64 t203, .slice Ao9 t204.length co9]] rfl (by first | rfl | (simp only [List.map_toArray, List.map_cons, List.map_nil, List.length_drop, List.length_take]; try rfl)) ?_; (with_reducible refine (laws_eqGrid.calls k t209 _ _ t210 t203 _ _ t204 true _ ?side1 ?side2 ?side3 ?side4 A15.out).mono ?_); (case side1 => refine (Kd.R_reads' (e := 39) (base := w.heap.size) (ok := fun k_ => (True ∧ some k_ ≠ (.slice Ao9 t204.length co9 : Value).ownBlock)) (n := t210.length) (c := co14) ?_).2.2; exact (by (with_reducible repeat apply Kd.R_alloc); exact (Kd.R_mono (Kd.R_far (p := ⟨gb214, 1, none⟩) (Kd.R_far (p := ⟨gb214, 0, none⟩) (Kd.R_types HO212.out BK214.out (by decide)) (fun _ hk => hk.2) (.int .i64 t209)) (fun _ hk => hk.2) (.slice Ao14 t210.length co14)) (fun _ h_ => h_.1)))); (case side2 => exact (Kd.R_reads' HO212.out).2.1); (case side3 => refine (Kd.R_reads' (e := 39) (base := w.heap.size) (ok := fun k_ => (True ∧ some k_ ≠ (.slice Ao14 t210.length co14 : Value).ownBlock)) (n := t204.length) (c := co9) ?_).2.2; exact (by (with_reducible repeat apply Kd.R_alloc); exact (Kd.R_mono (Kd.R_far (p := ⟨gb214, 1, none⟩) (Kd.R_far (p := ⟨gb214, 0, none⟩) (Kd.R_types HO206.out BK214.out (by decide)) (fun _ hk => hk.2) (.int .i64 t209)) (fun _ hk => hk.2) (.slice Ao14 t210.length co14)) (fun _ h_ => h_.1)))); (case side4 => exact (Kd.R_reads' HO206.out).2.1); rintro e w20 ⟨rfl, hb⟩; refine ⟨_, rfl, ?_⟩; have n0_ := Aside0.mk (Kd.R_below (by (with_reducible repeat apply Kd.R_alloc); exact (Kd.R_mono (Kd.R_far (p := ⟨gb214, 1, none⟩) (Kd.R_far (p := ⟨gb214, 0, none⟩) (Kd.R_types HO206.out BK214.out (by decide)) (fun _ hk => hk.2) (.int .i64 t209)) (fun _ hk => hk.2) (.slice Ao14 t210.length co14)) (fun _ h_ => h_.1))) hb); have n1_ := Aside0.mk (Kd.R_below (by (with_reducible repeat apply Kd.R_alloc); exact (Kd.R_mono (Kd.R_far (p := ⟨gb214, 1, none⟩) (Kd.R_far (p := ⟨gb214, 0, none⟩) (Kd.R_types HO212.out BK214.out (by decide)) (fun _ hk => hk.2) (.int .i64 t209)) (fun _ hk => hk.2) (.slice Ao14 t210.length co14)) (fun _ h_ => h_.1))) hb); have n2_ := Aside0.mk (blk_below (g := gb208) (o := .cells #[.int .i64 t203, .slice Ao9 t204.length co9] 29 (0, 0)) (by (with_reducible repeat apply blk_alloc); refine blk_far ?_ NB208_214.out _; (with_reducible repeat apply blk_alloc); refine blk_far ?_ NB208_214.out _; (with_reducible repeat apply blk_alloc); exact BK208.out) hb); have n3_ := Aside0.mk (blk_below (g := gb214) (o := .cells #[.int .i64 t209, .slice Ao14 t210.length co14] 29 (0, 0)) (by (with_reducible repeat apply blk_alloc); refine blk_put (cs := #[.int .i64 t209, .slice none 0 0]) ?_ 1 _ rfl; (with_reducible repeat apply blk_alloc); refine blk_put (cs := #[.int .i64 0, .slice none 0 0]) ?_ 0 _ rfl; (with_reducible repeat apply blk_alloc); exact BK214.out) hb); have n4_ := Aside0.mk (below_step (by repeat first | exact HB.out | with_reducible refine below_setA ?_ ‹_› | apply below_alloc | apply pw_below_drewN) hb); clear HO206; clear HO212; clear BK208; clear BK214; clear HB; have HO206 := n0_; have HO212 := n1_; have BK208 := n2_; have BK214 := n3_; have HB := n4_; clear n0_ n1_ n2_ n3_ n4_; (try clear hb); (try clear hb2); (try clear hk); (try clear hi)))
    go_meet
    case rel => exact ⟨_, ((t213 != t207)), (by first | rfl | (simp; done) | (simp [*]; done)), H', ⟨by first | omega | exact Nat.le_refl _⟩, ⟨by (with_reducible repeat apply Kd.R_alloc); exact Kd.R_mono HO206.out (fun _ hk => hk.2)⟩, ⟨by (with_reducible repeat apply Kd.R_alloc); exact Kd.R_mono HO212.out (fun _ hk => hk.2)⟩, ⟨by (with_reducible repeat apply blk_alloc); exact BK208.out⟩, ⟨by (with_reducible repeat apply blk_alloc); exact BK214.out⟩, ⟨by repeat first | exact HB.out | with_reducible refine below_setA ?_ ‹_› | apply below_alloc | apply pw_below_drewN⟩⟩
   ·replace c16 := Bool.eq_false_iff.mpr c16
    subst c16
    have H1 : (laws_FnExactGridRead.j0 k a0 t207 true t203 t204 t209 t210) = some r := by rw [if_neg (show ¬ (false = true) by decide)] at H; exact H
    clear H
    have H := H1
    clear H1
    cases k with
    | zero => exact absurd H (by simp [laws_FnExactGridRead.j0])
    | succ k_ =>
     have hf_ := Option.some.inj (show (some false : Option Bool) = some r from H)
     rw [HRT.out] at hf_
     exact absurd hf_ (by decide)
  case rest =>
   clear HC5
   try clear c1
   try clear c2
   try clear c2b0
   try clear c2b1
   try clear p2
   try clear c4
   try clear c12
   try clear c14
   try clear c15
   try clear c16
   try clear c17
   try clear hcz13_0
   try clear hcz13_1
   try clear hcz18_0
   try clear hcz18_1
   try clear hcz19_0
   try clear hcz19_1
   try clear hcz8_0
   try clear hcz8_1
   try clear hfz13_0
   try clear hfz13_1
   try clear hfz18_0
   try clear hfz18_1
   try clear hfz19_0
   try clear hfz19_1
   try clear hfz8_0
   try clear hfz8_1
   obtain ⟨kq, x32_4, rfl, HA, HJ4, HO_209001, HO_215001, BK208, BK214, HB⟩ := hcut
   cases kq with
   | zero => exact absurd HA.out (by simp [laws_FnExactGridRead.j0])
   | succ kj4 =>
    have H := HA.out
    clear HA
    simp only [laws_FnExactGridRead.j0] at H
    by_cases c21 : x32_4 = true
    ·subst c21
     have H1 : (some false) = some r := by rw [if_pos rfl] at H; exact H
     clear H
     have H := H1
     clear H1
     obtain rfl := Option.some.inj H
     exact absurd HRT.out (by decide)
    ·replace c21 := Bool.eq_false_iff.mpr c21
     subst c21
     have H1 : ((laws_markGrid.f kj4 t209 t210 1).bind fun bt216 => ((laws_heldGrid.f kj4 t209 bt216.2 1).bind fun t218 => (if t218 < 0 then (some false) else (if t218 = bt216.1 then ((impl_GridRead.f kj4 a0).bind fun bt219 => ((laws_eqGrid.f kj4 bt219.1 bt219.2.1 t203 t204).bind fun t225 => (if t225 = true then (laws_FnExactGridRead.j1 kj4 bt216.1 (bt219.2.2 != t207) t209 bt216.2) else (laws_FnExactGridRead.j1 kj4 bt216.1 true t209 bt216.2)))) else (some false))))) = some r := by rw [if_neg (show ¬ (false = true) by decide)] at H; exact H
     clear H
     have H := H1
     clear H1
     replace H := Option.bind_eq_some_iff.mp H
     obtain ⟨⟨t216, t217⟩, A220, H⟩ := H
     replace H : ((laws_heldGrid.f kj4 t209 t217 1).bind fun t218 => (if t218 < 0 then (some false) else (if t218 = t216 then ((impl_GridRead.f kj4 a0).bind fun bt219 => ((laws_eqGrid.f kj4 bt219.1 bt219.2.1 t203 t204).bind fun t225 => (if t225 = true then (laws_FnExactGridRead.j1 kj4 t216 (bt219.2.2 != t207) t209 t217) else (laws_FnExactGridRead.j1 kj4 t216 true t209 t217)))) else (some false)))) = some r := H
     have A22 := Aside0.mk A220
     clear A220
     replace H := Option.bind_eq_some_iff.mp H
     obtain ⟨t218, A230, H⟩ := H
     replace H : (if t218 < 0 then (some false) else (if t218 = t216 then ((impl_GridRead.f kj4 a0).bind fun bt219 => ((laws_eqGrid.f kj4 bt219.1 bt219.2.1 t203 t204).bind fun t225 => (if t225 = true then (laws_FnExactGridRead.j1 kj4 t216 (bt219.2.2 != t207) t209 t217) else (laws_FnExactGridRead.j1 kj4 t216 true t209 t217)))) else (some false))) = some r := H
     have A23 := Aside0.mk A230
     clear A230
     by_cases c24 : t218 < 0
     ·rw [if_pos c24] at H
      have c24b0 : decide (t218 < 0) = true := decide_eq_true c24
      clear c24
      obtain rfl := Option.some.inj H
      exact absurd HRT.out (by decide)
     ·rw [if_neg c24] at H
      have c24b0 : decide (t218 < 0) = false := decide_eq_false c24
      clear c24
      by_cases c25 : t218 = t216
      ·rw [if_pos c25] at H
       have c25b0 : (t218 == t216) = true := beq_iff_eq.mpr c25
       have c25b1 : (t218 != t216) = false := bne_eq_false_iff_eq.mpr c25
       clear c25
       replace H := Option.bind_eq_some_iff.mp H
       obtain ⟨⟨t219, t220, t223⟩, A260, H⟩ := H
       replace H : ((laws_eqGrid.f kj4 t219 t220 t203 t204).bind fun t225 => (if t225 = true then (laws_FnExactGridRead.j1 kj4 t216 (t223 != t207) t209 t217) else (laws_FnExactGridRead.j1 kj4 t216 true t209 t217))) = some r := H
       have A26 := Aside0.mk A260
       clear A260
       have HC27 := Aside0.mk H
       clear H
       have hnb28 := NB214_208.out
       have hnc28 := NB208_214.out
       have hcz29_0 : wc.cell? ⟨gb214, 0, none⟩ = some (.int .i64 t209) := (blk_cell BK214.out 0).trans rfl
       have hcz29_1 : wc.cell? ⟨gb214, 1, none⟩ = some (.slice Ao14 t210.length co14) := (blk_cell BK214.out 1).trans rfl
       have hfz29_0 := blk_frozen BK214.out 0
       have hfz29_1 := blk_frozen BK214.out 1
       go_upto_region 16 with (first | ((with_reducible refine gate_callee (f := 17) rfl ?_); refine goesL_ (some 35) rfl rfl Try.func17 (by kernel_rfl) rfl #[.agg #[.int .i64 t209, .slice Ao14 t210.length co14], .int .i64 1] rfl (by first | rfl | (simp only [List.map_toArray, List.map_cons, List.map_nil, List.length_drop, List.length_take]; try rfl)) ?_; (with_reducible refine (laws_markGrid.calls kj4 t209 (fun k_ => some k_ = (.slice Ao14 t210.length co14 : Value).ownBlock) (.slice Ao14 t210.length co14) t210 1 t216 t217 w _ ?side1 ?side2 A22.out).mono ?_); (case side1 => repeat (first | (with_reducible first | exact HB.out | apply below_alloc | apply pw_below_drewN | apply below_drew1 | refine below_set ?_ GE208.out | refine below_set ?_ GE214.out) | exact HB.out)); (case side2 => exact Kd.R_tight rfl HO_215001.out); rintro e w30 ⟨rfl, hy0, hb, hkp⟩; refine ⟨_, rfl, ?_⟩; have n0_ := Aside0.mk (Kd.R_mono (ok' := fun k_ => some k_ ≠ (.slice Ao14 t210.length co14 : Value).ownBlock) (Kd.R_keptB (HO_209001.out) hkp (fun k_ hk_ hs_ => (hk_) hs_)) (fun k_ hk_ => hk_.1)); have n1_ := Aside0.mk (Kd.R_reok rfl hy0 (fun k_ e_ => HO_215001.out.1 k_ e_)); have n2_ := Aside0.mk (blk_kept (bK BK208.out) hkp (fun hs_ => (fun e_ => (Kd.R_ne HO_215001.out BK208.out (by decide)) e_) hs_)); have n3_ := Aside0.mk (blk_kept (bK BK214.out) hkp (fun hs_ => (fun e_ => (Kd.R_ne HO_215001.out BK214.out (by decide)) e_) hs_)); have n4_ := Aside0.mk (hb); clear HO_209001; clear HO_215001; clear BK208; clear BK214; clear HB; have HO_209001 := n0_; have HO_215001 := n1_; have BK208 := n2_; have BK214 := n3_; have HB := n4_; clear n0_ n1_ n2_ n3_ n4_; (try clear hb); (try clear hkp); (try clear hy0); have hcz31_0 : w30.cell? ⟨gb214, 0, none⟩ = some (.int .i64 t209) := (blk_cell BK214.out 0).trans rfl; have hcz31_1 : w30.cell? ⟨gb214, 1, none⟩ = some (.slice Ao14 t210.length co14) := (blk_cell BK214.out 1).trans rfl; have hfz31_0 := blk_frozen BK214.out 0; have hfz31_1 := blk_frozen BK214.out 1) | ((with_reducible refine gate_callee (f := 18) rfl ?_); refine goesL_ (some 38) rfl rfl Try.func18 (by kernel_rfl) rfl #[.agg #[.int .i64 t209, .slice Ao14 t217.length co14], .int .i64 1] rfl (by (try simp only [List.map_toArray, List.map_cons, List.map_nil]); first | done | (rw [show t217.length = t210.length from (Kd.R_reads' HO_215001.out).1.symm] <;> rfl) | rfl | (simp only [List.length_drop, List.length_take]; rfl)) ?_; (with_reducible refine (laws_heldGrid.calls kj4 t209 _ _ t217 1 t218 _ ?side1 ?side2 A23.out).mono ?_); (case side1 => repeat (first | exact (Kd.R_reads' HO_215001.out).2.2 | (with_reducible refine Kd.C_alloc ?_ _) | (with_reducible refine Kd.C_drewN ?_ _) | (with_reducible refine Kd.C_drew ?_))); (case side2 => rw [show t217.length = t210.length from (Kd.R_reads' HO_215001.out).1.symm]; exact (Kd.R_reads' HO_215001.out).2.1); rintro e w32 ⟨rfl, hb⟩; refine ⟨_, rfl, ?_⟩; have n0_ := Aside0.mk (Kd.R_below (kR HO_209001.out) hb); have n1_ := Aside0.mk (Kd.R_below (kR HO_215001.out) hb); have n2_ := Aside0.mk (blk_below (bK BK208.out) hb); have n3_ := Aside0.mk (blk_below (bK BK214.out) hb); have n4_ := Aside0.mk (below_step (by repeat first | exact HB.out | with_reducible refine below_setA ?_ ‹_› | apply below_alloc | apply pw_below_drewN) hb); clear HO_209001; clear HO_215001; clear BK208; clear BK214; clear HB; have HO_209001 := n0_; have HO_215001 := n1_; have BK208 := n2_; have BK214 := n3_; have HB := n4_; clear n0_ n1_ n2_ n3_ n4_; (try clear hb); (try clear hb2); (try clear hk); (try clear hi)) | ((with_reducible refine gate_callee (f := 16) rfl ?_); refine goesL_ (some 46) rfl rfl Try.func16 (by kernel_rfl) rfl #[.string a0] rfl (by first | rfl | (simp only [List.map_toArray, List.map_cons, List.map_nil, List.length_drop, List.length_take]; try rfl)) ?_; (with_reducible refine (impl_GridRead.calls kj4 a0 t219 t220 t223 _ A26.out).mono ?_); rintro e w33 ⟨v221, rfl, ho0, hb⟩; refine ⟨_, rfl, ?_⟩; have n0_ := Aside0.mk (Kd.R_elder' (kR HO_209001.out) (Kd.R_base ho0) hb); have n1_ := Aside0.mk (Kd.R_elder' (kR HO_215001.out) (Kd.R_base ho0) hb); have n2_ := Aside0.mk (Kd.R_lower (Kd.R_new' (Kd.R_new' ho0 (Kd.R_lt (kR HO_209001.out))) (Kd.R_lt (kR HO_215001.out))) (below_size (by repeat first | exact HB.out | with_reducible refine below_setA ?_ ‹_› | apply below_alloc | apply pw_below_drewN))); have n3_ := Aside0.mk (blk_below (bK BK208.out) hb); have n4_ := Aside0.mk (blk_below (bK BK214.out) hb); have n5_ := Aside0.mk (below_step (by repeat first | exact HB.out | with_reducible refine below_setA ?_ ‹_› | apply below_alloc | apply pw_below_drewN) hb); clear HO_209001; clear HO_215001; clear BK208; clear BK214; clear HB; have HO_209001 := n0_; have HO_215001 := n1_; have HO222 := n2_; have BK208 := n3_; have BK214 := n4_; have HB := n5_; clear n0_ n1_ n2_ n3_ n4_ n5_; (try clear hb); (try clear hb2); (try clear hk); (try clear hi); (try clear ho0)) | ((with_reducible refine gate_dst (N := 9) rfl ?_); refine box_event rfl (N := 9) rfl (cs := #[.int .i64 0, .slice none 0 0]) (t := 29) ?hr ?_; (case hr => first | (go_simp; done) | (go_simp; rfl)); intro gb224 hg w34 hbox hb; have n0_ := Aside0.mk (Kd.R_below (kR HO_209001.out) hb); have n1_ := Aside0.mk (Kd.R_below (kR HO_215001.out) hb); have n2_ := Aside0.mk (Kd.R_below (kR HO222.out) hb); have n3_ := Aside0.mk (blk_below (bK BK208.out) hb); have n4_ := Aside0.mk (blk_below (bK BK214.out) hb); have n5_ := Aside0.mk (below_step (by repeat first | exact HB.out | with_reducible refine below_setA ?_ ‹_› | apply below_alloc | apply pw_below_drewN) hb); have n6_ := Aside0.mk (hbox); have n7_ := Aside0.mk ((by rw [hg]; exact (below_size (by repeat first | exact HB.out | with_reducible refine below_setA ?_ ‹_› | apply below_alloc | apply pw_below_drewN)) : w.heap.size ≤ gb224)); have n8_ := n7_; have n9_ := Aside0.mk ((by rw [hg]; exact Nat.ne_of_lt (blk_lt (bK BK208.out)) : gb208 ≠ gb224)); have n10_ := Aside0.mk ((by rw [hg]; exact Nat.ne_of_gt (blk_lt (bK BK208.out)) : gb224 ≠ gb208)); have n11_ := Aside0.mk ((by rw [hg]; exact Nat.ne_of_lt (blk_lt (bK BK214.out)) : gb214 ≠ gb224)); have n12_ := Aside0.mk ((by rw [hg]; exact Nat.ne_of_gt (blk_lt (bK BK214.out)) : gb224 ≠ gb214)); clear HO_209001; clear HO_215001; clear HO222; clear BK208; clear BK214; clear HB; have HO_209001 := n0_; have HO_215001 := n1_; have HO222 := n2_; have BK208 := n3_; have BK214 := n4_; have HB := n5_; have BK224 := n6_; have GW224 := n7_; have GE224 := n8_; have NB208_224 := n9_; have NB224_208 := n10_; have NB214_224 := n11_; have NB224_214 := n12_; clear n0_ n1_ n2_ n3_ n4_ n5_ n6_ n7_ n8_ n9_ n10_ n11_ n12_; clear hb hbox hg; have hnb35 := NB224_208.out; have hnc35 := NB208_224.out; have hnb36 := NB224_214.out; have hnc36 := NB214_224.out; have hcz37_0 : w34.cell? ⟨gb224, 0, none⟩ = some (.int .i64 0) := (blk_cell BK224.out 0).trans rfl; have hcz37_1 : w34.cell? ⟨gb224, 1, none⟩ = some (.slice none 0 0) := (blk_cell BK224.out 1).trans rfl; have hfz37_0 := blk_frozen BK224.out 0; have hfz37_1 := blk_frozen BK224.out 1; obtain ⟨Ao38, co38, eo38⟩ := Kd.R_slice HO222.out; subst eo38))
       (try simp only [Act.put, List.setIfInBounds_toArray, List.set_cons_zero, List.set_cons_succ])
       go_cut [57] (fun v57 wc => ∃ (kq : Nat) (x57_26 : Bool), v57 = .bool x57_26 ∧ Aside0 (laws_FnExactGridRead.j1 kq t216 x57_26 t209 t217 = some r) ∧ Aside0 (kq ≤ kj4) ∧ Aside0 (Kd.R k39 39 wc w.heap.size (fun k_ => some k_ ≠ ((.slice Ao14 t210.length co14) : Value).ownBlock ∧ some k_ ≠ ((.slice Ao38 t220.length co38) : Value).ownBlock) (.slice Ao9 t204.length co9) t204) ∧ Aside0 (Kd.R k39 39 wc w.heap.size (fun k_ => some k_ ≠ ((.slice Ao9 t204.length co9) : Value).ownBlock ∧ some k_ ≠ ((.slice Ao38 t220.length co38) : Value).ownBlock) (.slice Ao14 t210.length co14) t217) ∧ Aside0 (Kd.R k39 39 wc w.heap.size (fun k_ => some k_ ≠ ((.slice Ao9 t204.length co9) : Value).ownBlock ∧ some k_ ≠ ((.slice Ao14 t210.length co14) : Value).ownBlock) (.slice Ao38 t220.length co38) t220) ∧ Aside0 (wc.heap[gb208]? = some (.cells #[.int .i64 t203, (.slice Ao9 t204.length co9)] 29 (0, 0))) ∧ Aside0 (wc.heap[gb214]? = some (.cells #[.int .i64 t209, (.slice Ao14 t210.length co14)] 29 (0, 0))) ∧ Aside0 (wc.heap[gb224]? = some (.cells #[.int .i64 t219, (.slice Ao38 t220.length co38)] 29 (0, 0))) ∧ Aside0 (Below w.heap.size w wc))
       case first =>
        have H := HC27.out
        clear HC27
        replace H := Option.bind_eq_some_iff.mp H
        obtain ⟨t225, A390, H⟩ := H
        replace H : (if t225 = true then (laws_FnExactGridRead.j1 kj4 t216 (t223 != t207) t209 t217) else (laws_FnExactGridRead.j1 kj4 t216 true t209 t217)) = some r := H
        have A39 := Aside0.mk A390
        clear A390
        by_cases c40 : t225 = true
        ·subst c40
         have H1 : (laws_FnExactGridRead.j1 kj4 t216 (t223 != t207) t209 t217) = some r := by rw [if_pos rfl] at H; exact H
         clear H
         have H := H1
         clear H1
         have H' := Aside0.mk H
         clear H
         have hnb41 := NB224_208.out
         have hnc41 := NB208_224.out
         have hnb42 := NB224_214.out
         have hnc42 := NB214_224.out
         have hcz43_0 : w34.cell? ⟨gb224, 0, none⟩ = some (.int .i64 0) := (blk_cell BK224.out 0).trans rfl
         have hcz43_1 : w34.cell? ⟨gb224, 1, none⟩ = some (.slice none 0 0) := (blk_cell BK224.out 1).trans rfl
         have hfz43_0 := blk_frozen BK224.out 0
         have hfz43_1 := blk_frozen BK224.out 1
         have hnb44 := NB208_214.out
         have hnc44 := NB214_208.out
         have hcz45_0 : w34.cell? ⟨gb208, 0, none⟩ = some (.int .i64 t203) := (blk_cell BK208.out 0).trans rfl
         have hcz45_1 : w34.cell? ⟨gb208, 1, none⟩ = some (.slice Ao9 t204.length co9) := (blk_cell BK208.out 1).trans rfl
         have hfz45_0 := blk_frozen BK208.out 0
         have hfz45_1 := blk_frozen BK208.out 1
         go_wp2_with (first | ((with_reducible refine gate_callee (f := 14) rfl ?_); refine goesL_ (some 51) rfl rfl Try.func14 (by kernel_rfl) rfl #[.agg #[.int .i64 t219, .slice Ao38 t220.length co38], .agg #[.int .i64 t203, .slice Ao9 t204.length co9]] rfl (by first | rfl | (simp only [List.map_toArray, List.map_cons, List.map_nil, List.length_drop, List.length_take]; try rfl)) ?_; (with_reducible refine (laws_eqGrid.calls kj4 t219 _ _ t220 t203 _ _ t204 true _ ?side1 ?side2 ?side3 ?side4 A39.out).mono ?_); (case side1 => refine (Kd.R_reads' (e := 39) (base := w.heap.size) (ok := fun k_ => ((True ∧ some k_ ≠ (.slice Ao9 t204.length co9 : Value).ownBlock) ∧ some k_ ≠ (.slice Ao14 t210.length co14 : Value).ownBlock)) (n := t220.length) (c := co38) ?_).2.2; exact (by (with_reducible repeat apply Kd.R_alloc); exact (Kd.R_mono (Kd.R_far (p := ⟨gb224, 1, none⟩) (Kd.R_far (p := ⟨gb224, 0, none⟩) (Kd.R_types HO222.out BK224.out (by decide)) (fun _ hk => hk.2) (.int .i64 t219)) (fun _ hk => hk.2) (.slice Ao38 t220.length co38)) (fun _ h_ => h_.1)))); (case side2 => exact (Kd.R_reads' HO222.out).2.1); (case side3 => refine (Kd.R_reads' (e := 39) (base := w.heap.size) (ok := fun k_ => (some k_ ≠ (.slice Ao14 t210.length co14 : Value).ownBlock ∧ some k_ ≠ (.slice Ao38 t220.length co38 : Value).ownBlock)) (n := t204.length) (c := co9) ?_).2.2; exact (by (with_reducible repeat apply Kd.R_alloc); exact (Kd.R_mono (Kd.R_far (p := ⟨gb224, 1, none⟩) (Kd.R_far (p := ⟨gb224, 0, none⟩) (Kd.R_types HO_209001.out BK224.out (by decide)) (fun _ hk => hk.2) (.int .i64 t219)) (fun _ hk => hk.2) (.slice Ao38 t220.length co38)) (fun _ h_ => h_.1)))); (case side4 => exact (Kd.R_reads' HO_209001.out).2.1); rintro e w46 ⟨rfl, hb⟩; refine ⟨_, rfl, ?_⟩; have n0_ := Aside0.mk (Kd.R_below (by (with_reducible repeat apply Kd.R_alloc); exact (Kd.R_mono (Kd.R_far (p := ⟨gb224, 1, none⟩) (Kd.R_far (p := ⟨gb224, 0, none⟩) (Kd.R_types HO_209001.out BK224.out (by decide)) (fun _ hk => hk.2) (.int .i64 t219)) (fun _ hk => hk.2) (.slice Ao38 t220.length co38)) (fun _ h_ => h_.1))) hb); have n1_ := Aside0.mk (Kd.R_below (by (with_reducible repeat apply Kd.R_alloc); exact (Kd.R_mono (Kd.R_far (p := ⟨gb224, 1, none⟩) (Kd.R_far (p := ⟨gb224, 0, none⟩) (Kd.R_types HO_215001.out BK224.out (by decide)) (fun _ hk => hk.2) (.int .i64 t219)) (fun _ hk => hk.2) (.slice Ao38 t220.length co38)) (fun _ h_ => h_.1))) hb); have n2_ := Aside0.mk (Kd.R_below (by (with_reducible repeat apply Kd.R_alloc); exact (Kd.R_mono (Kd.R_far (p := ⟨gb224, 1, none⟩) (Kd.R_far (p := ⟨gb224, 0, none⟩) (Kd.R_types HO222.out BK224.out (by decide)) (fun _ hk => hk.2) (.int .i64 t219)) (fun _ hk => hk.2) (.slice Ao38 t220.length co38)) (fun _ h_ => h_.1))) hb); have n3_ := Aside0.mk (blk_below (g := gb208) (o := .cells #[.int .i64 t203, .slice Ao9 t204.length co9] 29 (0, 0)) (by (with_reducible repeat apply blk_alloc); refine blk_far ?_ NB208_224.out _; (with_reducible repeat apply blk_alloc); refine blk_far ?_ NB208_224.out _; (with_reducible repeat apply blk_alloc); exact BK208.out) hb); have n4_ := Aside0.mk (blk_below (g := gb214) (o := .cells #[.int .i64 t209, .slice Ao14 t210.length co14] 29 (0, 0)) (by (with_reducible repeat apply blk_alloc); refine blk_far ?_ NB214_224.out _; (with_reducible repeat apply blk_alloc); refine blk_far ?_ NB214_224.out _; (with_reducible repeat apply blk_alloc); exact BK214.out) hb); have n5_ := Aside0.mk (blk_below (g := gb224) (o := .cells #[.int .i64 t219, .slice Ao38 t220.length co38] 29 (0, 0)) (by (with_reducible repeat apply blk_alloc); refine blk_put (cs := #[.int .i64 t219, .slice none 0 0]) ?_ 1 _ rfl; (with_reducible repeat apply blk_alloc); refine blk_put (cs := #[.int .i64 0, .slice none 0 0]) ?_ 0 _ rfl; (with_reducible repeat apply blk_alloc); exact BK224.out) hb); have n6_ := Aside0.mk (below_step (by repeat first | exact HB.out | with_reducible refine below_setA ?_ ‹_› | apply below_alloc | apply pw_below_drewN) hb); clear HO_209001; clear HO_215001; clear HO222; clear BK208; clear BK214; clear BK224; clear HB; have HO_209001 := n0_; have HO_215001 := n1_; have HO222 := n2_; have BK208 := n3_; have BK214 := n4_; have BK224 := n5_; have HB := n6_; clear n0_ n1_ n2_ n3_ n4_ n5_ n6_; (try clear hb); (try clear hb2); (try clear hk); (try clear hi)))
         go_meet
         case rel => exact ⟨_, ((t223 != t207)), (by first | rfl | (simp; done) | (simp [*]; done)), H', ⟨by have := HJ4.out; first | omega | exact Nat.le_refl _⟩, ⟨by (with_reducible repeat apply Kd.R_alloc); exact HO_209001.out⟩, ⟨by (with_reducible repeat apply Kd.R_alloc); exact HO_215001.out⟩, ⟨by (with_reducible repeat apply Kd.R_alloc); exact Kd.R_mono HO222.out (fun _ hk => ⟨hk.1.2, hk.2⟩)⟩, ⟨by (with_reducible repeat apply blk_alloc); exact BK208.out⟩, ⟨by (with_reducible repeat apply blk_alloc); exact BK214.out⟩, ⟨by (with_reducible repeat apply blk_alloc); exact BK224.out⟩, ⟨by repeat first | exact HB.out | with_reducible refine below_setA ?_ ‹_› | apply below_alloc | apply pw_below_drewN⟩⟩
        ·replace c40 := Bool.eq_false_iff.mpr c40
         subst c40
         have H1 : (laws_FnExactGridRead.j1 kj4 t216 true t209 t217) = some r := by rw [if_neg (show ¬ (false = true) by decide)] at H; exact H
         clear H
         have H := H1
         clear H1
         cases kj4 with
         | zero => exact absurd H (by simp [laws_FnExactGridRead.j1])
         | succ k_ =>
          have hf_ := Option.some.inj (show (some false : Option Bool) = some r from H)
          rw [HRT.out] at hf_
          exact absurd hf_ (by decide)
       case rest =>
        clear HC27
        try clear c1
        try clear c2
        try clear c2b0
        try clear c2b1
        try clear p2
        try clear c3
        try clear c4
        try clear c12
        try clear c14
        try clear c15
        try clear c16
        try clear c17
        try clear c18
        try clear c21
        try clear c24
        try clear c24b0
        try clear c25
        try clear c25b0
        try clear c25b1
        try clear c28
        try clear c35
        try clear c36
        try clear c40
        try clear c41
        try clear c42
        try clear c44
        try clear hcz13_0
        try clear hcz13_1
        try clear hcz18_0
        try clear hcz18_1
        try clear hcz19_0
        try clear hcz19_1
        try clear hcz29_0
        try clear hcz29_1
        try clear hcz31_0
        try clear hcz31_1
        try clear hcz37_0
        try clear hcz37_1
        try clear hcz43_0
        try clear hcz43_1
        try clear hcz45_0
        try clear hcz45_1
        try clear hcz8_0
        try clear hcz8_1
        try clear hfz13_0
        try clear hfz13_1
        try clear hfz18_0
        try clear hfz18_1
        try clear hfz19_0
        try clear hfz19_1
        try clear hfz29_0
        try clear hfz29_1
        try clear hfz31_0
        try clear hfz31_1
        try clear hfz37_0
        try clear hfz37_1
        try clear hfz43_0
        try clear hfz43_1
        try clear hfz45_0
        try clear hfz45_1
        try clear hfz8_0
        try clear hfz8_1
        try clear p2
        obtain ⟨kq, x57_26, rfl, HA, HJ26, HO_209001, HO_215001, HO_225001, BK208, BK214, BK224, HB⟩ := hcut
        have hl215001_26 := (Kd.R_reads' HO_215001.out).1
        rw [hl215001_26] at HO_215001
        (try simp only [hl215001_26])
        (try simp only [hl215001_26] at BK208)
        (try simp only [hl215001_26] at BK214)
        (try simp only [hl215001_26] at BK224)
        (try simp only [hl215001_26] at HO_209001)
        (try simp only [hl215001_26] at HO_225001)
        cases kq with
        | zero => exact absurd HA.out (by simp [laws_FnExactGridRead.j1])
        | succ kj26 =>
         have H := HA.out
         clear HA
         simp only [laws_FnExactGridRead.j1] at H
         by_cases c47 : x57_26 = true
         ·subst c47
          have H1 : (some false) = some r := by rw [if_pos rfl] at H; exact H
          clear H
          have H := H1
          clear H1
          obtain rfl := Option.some.inj H
          exact absurd HRT.out (by decide)
         ·replace c47 := Bool.eq_false_iff.mpr c47
          subst c47
          have H1 : ((laws_heldGrid.f kj26 t209 t217 1).bind fun t226 => (if t226 < 0 then (some false) else (if t226 = t216 then (some true) else (some false)))) = some r := by rw [if_neg (show ¬ (false = true) by decide)] at H; exact H
          clear H
          have H := H1
          clear H1
          replace H := Option.bind_eq_some_iff.mp H
          obtain ⟨t226, A480, H⟩ := H
          replace H : (if t226 < 0 then (some false) else (if t226 = t216 then (some true) else (some false))) = some r := H
          have A48 := Aside0.mk A480
          clear A480
          by_cases c49 : t226 < 0
          ·rw [if_pos c49] at H
           have c49b0 : decide (t226 < 0) = true := decide_eq_true c49
           clear c49
           obtain rfl := Option.some.inj H
           exact absurd HRT.out (by decide)
          ·rw [if_neg c49] at H
           have c49b0 : decide (t226 < 0) = false := decide_eq_false c49
           clear c49
           by_cases c50 : t226 = t216
           ·rw [if_pos c50] at H
            have c50b0 : (t226 == t216) = true := beq_iff_eq.mpr c50
            have c50b1 : (t226 != t216) = false := bne_eq_false_iff_eq.mpr c50
            clear c50
            obtain rfl := Option.some.inj H
            have hnb51 := NB214_208.out
            have hnc51 := NB208_214.out
            have hnb52 := NB214_224.out
            have hnc52 := NB224_214.out
            have hcz53_0 : wc.cell? ⟨gb214, 0, none⟩ = some (.int .i64 t209) := (blk_cell BK214.out 0).trans rfl
            have hcz53_1 : wc.cell? ⟨gb214, 1, none⟩ = some (.slice Ao14 t217.length co14) := (blk_cell BK214.out 1).trans rfl
            have hfz53_0 := blk_frozen BK214.out 0
            have hfz53_1 := blk_frozen BK214.out 1
            go_wp2_with (first | ((with_reducible refine gate_callee (f := 18) rfl ?_); refine goesL_ (some 60) rfl rfl Try.func18 (by kernel_rfl) rfl #[.agg #[.int .i64 t209, .slice Ao14 t217.length co14], .int .i64 1] rfl (by first | rfl | (simp only [List.map_toArray, List.map_cons, List.map_nil, List.length_drop, List.length_take]; try rfl)) ?_; (with_reducible refine (laws_heldGrid.calls kj26 t209 _ _ t217 1 t226 _ ?side1 ?side2 A48.out).mono ?_); (case side1 => repeat (first | exact (Kd.R_reads' HO_215001.out).2.2 | (with_reducible refine Kd.C_alloc ?_ _) | (with_reducible refine Kd.C_drewN ?_ _) | (with_reducible refine Kd.C_drew ?_))); (case side2 => exact (Kd.R_reads' HO_215001.out).2.1); rintro e w54 ⟨rfl, hb⟩; refine ⟨_, rfl, ?_⟩; have n0_ := Aside0.mk (Kd.R_below (kR HO_209001.out) hb); have n1_ := Aside0.mk (Kd.R_below (kR HO_215001.out) hb); have n2_ := Aside0.mk (Kd.R_below (kR HO_225001.out) hb); have n3_ := Aside0.mk (blk_below (bK BK208.out) hb); have n4_ := Aside0.mk (blk_below (bK BK214.out) hb); have n5_ := Aside0.mk (blk_below (bK BK224.out) hb); have n6_ := Aside0.mk (below_step (by repeat first | exact HB.out | with_reducible refine below_setA ?_ ‹_› | apply below_alloc | apply pw_below_drewN) hb); clear HO_209001; clear HO_215001; clear HO_225001; clear BK208; clear BK214; clear BK224; clear HB; have HO_209001 := n0_; have HO_215001 := n1_; have HO_225001 := n2_; have BK208 := n3_; have BK214 := n4_; have BK224 := n5_; have HB := n6_; clear n0_ n1_ n2_ n3_ n4_ n5_ n6_; (try clear hb); (try clear hb2); (try clear hk); (try clear hi)))
            go_ret
            exact ⟨by first | rfl | (simp [errW_none, errW_some] <;> rfl) | (simp [*, errW_none, errW_some] <;> rfl) | (exfalso; simp_all; done), by repeat first | exact HB.out | with_reducible refine below_setA ?_ ‹_› | apply below_alloc | apply pw_below_drewN⟩
           ·rw [if_neg c50] at H
            have c50b0 : (t226 == t216) = false := beq_eq_false_iff_ne.mpr c50
            have c50b1 : (t226 != t216) = true := bne_iff_ne.mpr c50
            obtain rfl := Option.some.inj H
            exact absurd HRT.out (by decide)
      ·rw [if_neg c25] at H
       have c25b0 : (t218 == t216) = false := beq_eq_false_iff_ne.mpr c25
       have c25b1 : (t218 != t216) = true := bne_iff_ne.mpr c25
       obtain rfl := Option.some.inj H
       exact absurd HRT.out (by decide)

/-- THE ONE PURE STATEMENT of laws_FnExactGridRead: yours. -/
def laws_FnExactGridRead.Pure : Prop := ∀ (a0 : ByteArray), a0.size ≤ 140737488351232 → ∃ k, laws_FnExactGridRead.f k a0 = some true
theorem laws_FnExactGridRead.walk (P : laws_FnExactGridRead.Pure) (a0 : ByteArray) (w : World) (w0 : a0.size ≤ 140737488351232) :
  Calls Try.prog 4 #[.string a0] w fun e w' => e = .returned (.bool true) ∧ Below w.heap.size w w' := by
 obtain ⟨k, h⟩ := P a0 w0
 refine (laws_FnExactGridRead.calls k a0 true w h rfl).mono ?_
 rintro e w' ⟨rfl, hd⟩
 exact ⟨rfl, hd⟩

end Go.Proofs.Ytpjdhpkfenohgaa.P
