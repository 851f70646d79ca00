/- PROVED: contracts of functions of the program, the reference and the statements; written by this session's driver (pk.py) through its own changed copy of the kit's print. No condition. -/
import Derived.Test.YtbomeogcgefddaaPx0
import Derived.Test.YtbomeogcgefddaaPx1
import Derived.Test.YtbomeogcgefddaaPx13
import Derived.Test.YtbomeogcgefddaaPx16
import Derived.Test.YtbomeogcgefddaaPx17
import Derived.Test.YtbomeogcgefddaaPx23
import Derived.Test.YtbomeogcgefddaaPx27
import Derived.Test.YtbomeogcgefddaaH3SightOf
namespace Go.Proofs.Ytbomeogcgefddaa.P
open Go.RowKit Go.Proofs.YtbomeogcgefddaaW.PrintWords Go.Proofs.YtbomeogcgefddaaW.PrintLast Go.Proofs.YtbomeogcgefddaaW.PrintMore
attribute [local go_sem] max2_int min2_int max_two min_two max_three min_three max_four min_four   -- for this text's walks alone
set_option linter.unusedVariables false
set_option linter.unusedSimpArgs false

attribute [local go_sem high] eqA29
/-! ### laws_FnSightOut: function 9 -/
def laws_FnSightOut.j0 : Nat → Int → Int → Int → Bool → Int → List (S42) → Option (Bool)
  | 0, _, _, _, _, _, _ => none
  | k + 1, x4, x5, x6, x53, x487000, x487001 => if x53 = true then ((spec_SightOf.f k x487000 x487001 x4 x5).bind fun t490 => (some (x6 == t490))) else ((impl_RayNext.f k x487000 x487001 x4 x5).bind fun bt491 => (if bt491.2.2 = true then (some (x6 == (-1))) else ((impl_SightRay.f k x487000 x487001 x6).bind fun bt495 => (if bt495.2.2 = true then (some (bt495.1 == x4 && (bt495.2.1 == (Int.tmod (wrap64 (x5 + 2)) 4)))) else (some false)))))
def laws_FnSightOut.f (k : Nat) (l0 : List Int) : Option (Bool) := if (l0.length : Int) > 1048576 then (some true) else ((spec_DrawSightOf.f k l0).bind fun bt480 => ((impl_SightOf.f bt480.1 bt480.2.1 bt480.2.2.1 bt480.2.2.2).bind fun t487 => ((spec_SightOf.f k bt480.1 bt480.2.1 bt480.2.2.1 bt480.2.2.2).bind fun t488 => (if t487 = t488 then ((spec_GridOk.f k bt480.1 bt480.2.1).bind fun t489 => (if t489 = true then (if bt480.2.2.1 < 0 then (laws_FnSightOut.j0 k bt480.2.2.1 bt480.2.2.2 t487 true bt480.1 bt480.2.1) else (if bt480.2.2.1 ≥ (bt480.2.1.length : Int) then (laws_FnSightOut.j0 k bt480.2.2.1 bt480.2.2.2 t487 true bt480.1 bt480.2.1) else (if bt480.2.2.2 < 0 then (laws_FnSightOut.j0 k bt480.2.2.1 bt480.2.2.2 t487 true bt480.1 bt480.2.1) else (laws_FnSightOut.j0 k bt480.2.2.1 bt480.2.2.2 t487 (decide (bt480.2.2.2 > 3)) bt480.1 bt480.2.1)))) else (laws_FnSightOut.j0 k bt480.2.2.1 bt480.2.2.2 t487 true bt480.1 bt480.2.1))) else (laws_FnSightOut.j0 k bt480.2.2.1 bt480.2.2.2 t487 true bt480.1 bt480.2.1)))))
theorem laws_FnSightOut.mono_l : ∀ k, (∀ y0 y1 y2 y3 y4 y5, LeO (laws_FnSightOut.j0 k y0 y1 y2 y3 y4 y5) (laws_FnSightOut.j0 (k + 1) y0 y1 y2 y3 y4 y5))
  | 0 => fun _ _ _ _ _ _ r h => by simp [laws_FnSightOut.j0] at h
  | k + 1 => by
    have ih0 := laws_FnSightOut.mono_l k
    · intro y0 y1 y2 y3 y4 y5
      unfold laws_FnSightOut.j0
      repeat' first
      | (with_reducible exact ih0 _ _ _ _ _ _)
      | (with_reducible exact impl_RayNext.mono _ _ _ _ _)
      | (with_reducible exact impl_SightRay.mono _ _ _ _)
      | (with_reducible exact spec_DrawSightOf.mono _ _)
      | (with_reducible exact spec_GridOk.mono _ _ _)
      | (with_reducible exact spec_SightOf.mono _ _ _ _ _)
      | (with_reducible exact LeO.refl _)
      | (with_reducible exact LeO.none _)
      | (with_reducible refine LeO.ite ?_ ?_)
      | (with_reducible refine LeO.bind ?_ (fun _ => ?_))
      | exact ih0 _ _ _ _ _ _
      | exact impl_RayNext.mono _ _ _ _ _
      | exact impl_SightRay.mono _ _ _ _
      | exact spec_DrawSightOf.mono _ _
      | exact spec_GridOk.mono _ _ _
      | exact spec_SightOf.mono _ _ _ _ _
      | exact LeO.none _
      | refine LeO.ite ?_ ?_
      | refine LeO.bind ?_ (fun _ => ?_)
theorem laws_FnSightOut.mono : ∀ a0 k, LeO (laws_FnSightOut.f k a0) (laws_FnSightOut.f (k + 1) a0) := by
  intro a0 k
  have ih0 := laws_FnSightOut.mono_l k
  unfold laws_FnSightOut.f
  repeat' first
      | (with_reducible exact ih0 _ _ _ _ _ _)
      | (with_reducible exact impl_RayNext.mono _ _ _ _ _)
      | (with_reducible exact impl_SightRay.mono _ _ _ _)
      | (with_reducible exact spec_DrawSightOf.mono _ _)
      | (with_reducible exact spec_GridOk.mono _ _ _)
      | (with_reducible exact spec_SightOf.mono _ _ _ _ _)
      | (with_reducible exact LeO.refl _)
      | (with_reducible exact LeO.none _)
      | (with_reducible refine LeO.ite ?_ ?_)
      | (with_reducible refine LeO.bind ?_ (fun _ => ?_))
      | exact ih0 _ _ _ _ _ _
      | exact impl_RayNext.mono _ _ _ _ _
      | exact impl_SightRay.mono _ _ _ _
      | exact spec_DrawSightOf.mono _ _
      | exact spec_GridOk.mono _ _ _
      | exact spec_SightOf.mono _ _ _ _ _
      | exact LeO.none _
      | refine LeO.ite ?_ ?_
      | refine LeO.bind ?_ (fun _ => ?_)
set_option maxHeartbeats 8000000 in
set_option maxRecDepth 100000 in
theorem laws_FnSightOut.calls (k : Nat) (A0 : Option Addr) (c0 : Nat) (l0 : List Int) (r : Bool) (w : World) (hr0 : Kd.C (Kd.int .u8) w A0 l0.length l0) (hc0 : l0.length ≤ c0) (h : laws_FnSightOut.f k l0 = some r) (hrt : r = true) :
    Calls Try.prog 9 #[.slice A0 l0.length c0] w fun e w' => e = .returned (.bool r) ∧ Below w.heap.size w w' := by
  have HRT := Aside0.mk hrt
  clear hrt
  have hu25 := Try.underlying25
  have hu29 := Try.underlying29
  have HR0 := Aside0.mk hr0
  have HC0 := Aside0.mk hc0
  clear hr0 hc0
  have HB := Aside0.mk (Below.refl w.heap.size w)
  have H : (if (l0.length : Int) > 1048576 then (some true) else ((spec_DrawSightOf.f k l0).bind fun bt480 => ((impl_SightOf.f bt480.1 bt480.2.1 bt480.2.2.1 bt480.2.2.2).bind fun t487 => ((spec_SightOf.f k bt480.1 bt480.2.1 bt480.2.2.1 bt480.2.2.2).bind fun t488 => (if t487 = t488 then ((spec_GridOk.f k bt480.1 bt480.2.1).bind fun t489 => (if t489 = true then (if bt480.2.2.1 < 0 then (laws_FnSightOut.j0 k bt480.2.2.1 bt480.2.2.2 t487 true bt480.1 bt480.2.1) else (if bt480.2.2.1 ≥ (bt480.2.1.length : Int) then (laws_FnSightOut.j0 k bt480.2.2.1 bt480.2.2.2 t487 true bt480.1 bt480.2.1) else (if bt480.2.2.2 < 0 then (laws_FnSightOut.j0 k bt480.2.2.1 bt480.2.2.2 t487 true bt480.1 bt480.2.1) else (laws_FnSightOut.j0 k bt480.2.2.1 bt480.2.2.2 t487 (decide (bt480.2.2.2 > 3)) bt480.1 bt480.2.1)))) else (laws_FnSightOut.j0 k bt480.2.2.1 bt480.2.2.2 t487 true bt480.1 bt480.2.1))) else (laws_FnSightOut.j0 k bt480.2.2.1 bt480.2.2.2 t487 true bt480.1 bt480.2.1)))))) = some r := h
  clear h
  by_cases c2 : (l0.length : Int) > 1048576
  · rw [if_pos c2] at H
    have c2b0 : decide (1048576 < (l0.length : Int)) = true := decide_eq_true c2
    have c2b1 : decide (1048576 < l0.length) = true := decide_eq_true (by omega)
    clear c2
    obtain rfl := Option.some.inj H
    go_enter Try.func9, Try.ntmps9
    go_wp2
    go_ret
    exact ⟨by first | rfl | (simp [errW_none, errW_some] <;> rfl) | (simp [*, errW_none, errW_some] <;> rfl) | (exfalso; simp_all; done), by repeat (first | (with_reducible first | exact HB.out | apply below_alloc | apply pw_below_drewN | apply below_drew1) | exact HB.out)⟩
  · rw [if_neg c2] at H
    have c2b0 : decide (1048576 < (l0.length : Int)) = false := decide_eq_false c2
    have c2b1 : decide (1048576 < l0.length) = false := decide_eq_false (by omega)
    clear c2
    replace H := Option.bind_eq_some_iff.mp H
    obtain ⟨⟨t480, t481, t484, t485⟩, A30, H⟩ := H
    replace H : ((impl_SightOf.f t480 t481 t484 t485).bind fun t487 => ((spec_SightOf.f k t480 t481 t484 t485).bind fun t488 => (if t487 = t488 then ((spec_GridOk.f k t480 t481).bind fun t489 => (if t489 = true then (if t484 < 0 then (laws_FnSightOut.j0 k t484 t485 t487 true t480 t481) else (if t484 ≥ (t481.length : Int) then (laws_FnSightOut.j0 k t484 t485 t487 true t480 t481) else (if t485 < 0 then (laws_FnSightOut.j0 k t484 t485 t487 true t480 t481) else (laws_FnSightOut.j0 k t484 t485 t487 (decide (t485 > 3)) t480 t481)))) else (laws_FnSightOut.j0 k t484 t485 t487 true t480 t481))) else (laws_FnSightOut.j0 k t484 t485 t487 true t480 t481)))) = some r := H
    have A3 := Aside0.mk A30
    clear A30
    replace H := Option.bind_eq_some_iff.mp H
    obtain ⟨t487, A40, H⟩ := H
    replace H : ((spec_SightOf.f k t480 t481 t484 t485).bind fun t488 => (if t487 = t488 then ((spec_GridOk.f k t480 t481).bind fun t489 => (if t489 = true then (if t484 < 0 then (laws_FnSightOut.j0 k t484 t485 t487 true t480 t481) else (if t484 ≥ (t481.length : Int) then (laws_FnSightOut.j0 k t484 t485 t487 true t480 t481) else (if t485 < 0 then (laws_FnSightOut.j0 k t484 t485 t487 true t480 t481) else (laws_FnSightOut.j0 k t484 t485 t487 (decide (t485 > 3)) t480 t481)))) else (laws_FnSightOut.j0 k t484 t485 t487 true t480 t481))) else (laws_FnSightOut.j0 k t484 t485 t487 true t480 t481))) = some r := H
    have A4 := Aside0.mk A40
    clear A40
    have HC5 := Aside0.mk H
    clear H
    go_enter Try.func9, Try.ntmps9
    go_upto_region 5 with (first | ((with_reducible refine gate_callee (f := 23) rfl ?_); refine goesL_ (some 16) rfl rfl Try.func23 (by kernel_rfl) rfl #[.slice A0 l0.length c0] rfl (by (try simp only [List.map_toArray, List.map_cons, List.map_nil]); first | done | rfl | (simp only [List.length_drop, List.length_take]; rfl)) ?_; (with_reducible refine (spec_DrawSightOf.calls k _ _ l0 t480 t481 t484 t485 _ ?side1 ?side2 A3.out).mono ?_); (case side1 => repeat (first | exact HR0.out | (with_reducible refine Kd.C_alloc ?_ _) | (with_reducible refine Kd.C_drewN ?_ _) | (with_reducible refine Kd.C_drew ?_))); (case side2 => exact HC0.out); rintro e w6 ⟨v482, rfl, ho0, hb⟩; refine ⟨_, rfl, ?_⟩; have n0_ := Aside0.mk (Kd.Q_lower ho0 (below_size (by repeat (first | (with_reducible first | exact HB.out | apply below_alloc | apply pw_below_drewN | apply below_drew1) | exact HB.out)))); have n1_ := Aside0.mk (below_step (by repeat (first | (with_reducible first | exact HB.out | apply below_alloc | apply pw_below_drewN | apply below_drew1) | exact HB.out)) hb); clear HB; have HO483 := n0_; have HB := n1_; clear n0_ n1_; (try clear hb); (try clear hb2); (try clear hk); (try clear hi); (try clear ho0)) | ((with_reducible refine gate_dst (N := 3) rfl ?_); (try (refine gate_guard (by rfl) ?_; dsimp only)); refine box_event ?hg (N := 3) ?hd (cs := #[.int .i64 0, .slice none 0 0]) (t := 25) ?hr ?_; (case hd => rfl); (case hg => rfl); (case hr => first | (go_simp; done) | (go_simp; rfl)); intro gb486 hg w7 hbox hb; have n0_ := Aside0.mk (Kd.Q_below (by (with_reducible repeat (first | apply Kd.Q_alloc | apply Kd.Q_drewN | apply Kd.Q_drew)); exact HO483.out) hb); have n1_ := Aside0.mk (below_step (by repeat (first | (with_reducible first | exact HB.out | apply below_alloc | apply pw_below_drewN | apply below_drew1) | exact HB.out)) hb); have n2_ := Aside0.mk (hbox); have n3_ := Aside0.mk ((by rw [hg]; exact (below_size (by repeat (first | (with_reducible first | exact HB.out | apply below_alloc | apply pw_below_drewN | apply below_drew1) | exact HB.out))) : w.heap.size ≤ gb486)); have n4_ := Aside0.mk ((by rw [hg]; exact (below_size (by repeat (first | (with_reducible first | exact HB.out | apply below_alloc | apply pw_below_drewN | apply below_drew1) | exact HB.out))) : w.heap.size ≤ gb486)); clear HO483; clear HB; have HO483 := n0_; have HB := n1_; have BK486 := n2_; have GW486 := n3_; have GE486 := n4_; clear n0_ n1_ n2_ n3_ n4_; clear hb hbox hg; have hcz8_0 : w7.cell? ⟨gb486, 0, none⟩ = some (.int .i64 0) := (blk_cell BK486.out 0).trans rfl; have hcz8_1 : w7.cell? ⟨gb486, 1, none⟩ = some (.slice none 0 0) := (blk_cell BK486.out 1).trans rfl; have hfz8_0 := blk_frozen BK486.out 0; have hfz8_1 := blk_frozen BK486.out 1; obtain ⟨Ao9, co9, eo9, _⟩ := Kd.Q_slice HO483.out; subst eo9) | ((with_reducible refine gate_callee (f := 20) rfl ?_); refine goesL_ (some 23) rfl rfl Try.func20 (by kernel_rfl) rfl #[.agg #[.int .i64 t480, .slice Ao9 t481.length co9], .int .i64 t484, .int .i64 t485] rfl (by (try simp only [List.map_toArray, List.map_cons, List.map_nil]); first | done | rfl | (simp only [List.length_drop, List.length_take]; rfl)) ?_; (with_reducible refine (impl_SightOf.calls t480 _ _ t481 t484 t485 t487 _ ?side1 ?side2 A4.out).mono ?_); (case side1 => refine (Kd.Q_reads' (e := 42) (base := w.heap.size) (ok := fun k_ => True) (n := t481.length) (c := co9) ?_).2.2; exact (by (with_reducible repeat (first | apply Kd.Q_alloc | apply Kd.Q_drewN | apply Kd.Q_drew)); exact (Kd.Q_mono (Kd.Q_far (p := ⟨gb486, 1, none⟩) (Kd.Q_far (p := ⟨gb486, 0, none⟩) (Kd.Q_types HO483.out BK486.out (by decide)) (fun _ hk => hk.2) (.int .i64 t480)) (fun _ hk => hk.2) (.slice Ao9 t481.length co9)) (fun _ h_ => h_.1)))); (case side2 => exact (Kd.Q_reads' HO483.out).2.1); rintro e w10 ⟨rfl, hb⟩; refine ⟨_, rfl, ?_⟩; have n0_ := Aside0.mk (Kd.Q_below (by (with_reducible repeat (first | apply Kd.Q_alloc | apply Kd.Q_drewN | apply Kd.Q_drew)); exact (Kd.Q_mono (Kd.Q_far (p := ⟨gb486, 1, none⟩) (Kd.Q_far (p := ⟨gb486, 0, none⟩) (Kd.Q_types HO483.out BK486.out (by decide)) (fun _ hk => hk.2) (.int .i64 t480)) (fun _ hk => hk.2) (.slice Ao9 t481.length co9)) (fun _ h_ => h_.1))) hb); have n1_ := Aside0.mk (blk_below (g := gb486) (o := .cells #[.int .i64 t480, .slice Ao9 t481.length co9] 25 (0, 0)) (by (with_reducible repeat (first | refine blk_drewN ?_ _ | refine blk_drew ?_ | refine blk_alloc ?_ _)); refine blk_put (cs := #[.int .i64 t480, .slice none 0 0]) ?_ 1 _ rfl; (with_reducible repeat (first | refine blk_drewN ?_ _ | refine blk_drew ?_ | refine blk_alloc ?_ _)); refine blk_put (cs := #[.int .i64 0, .slice none 0 0]) ?_ 0 _ rfl; (with_reducible repeat (first | refine blk_drewN ?_ _ | refine blk_drew ?_ | refine blk_alloc ?_ _)); exact BK486.out) hb); have n2_ := Aside0.mk (below_step (by repeat (first | (with_reducible first | exact HB.out | apply below_alloc | apply pw_below_drewN | apply below_drew1 | refine below_set ?_ GE486.out) | exact HB.out)) hb); clear HO483; clear BK486; clear HB; have HO483 := n0_; have BK486 := n1_; have HB := n2_; clear n0_ n1_ n2_; (try clear hb); (try clear hb2); (try clear hk); (try clear hi)))
    (try simp only [Act.put, List.setIfInBounds_toArray, List.set_cons_zero, List.set_cons_succ])
    go_cut [53] (fun v53 wc => ∃ (kq : Nat) (x53_4 : Bool), v53 = .bool x53_4 ∧ Aside0 (laws_FnSightOut.j0 kq t484 t485 t487 x53_4 t480 t481 = some r) ∧ Aside0 (kq ≤ k) ∧ Aside0 (Kd.Q k42 42 wc w.heap.size (fun _ => True) (.slice Ao9 t481.length co9) t481) ∧ Aside0 (wc.heap[gb486]? = some (.cells #[.int .i64 t480, (.slice Ao9 t481.length co9)] 25 (0, 0))) ∧ Aside0 (Below w.heap.size w wc))
    case first =>
      have H := HC5.out
      clear HC5
      replace H := Option.bind_eq_some_iff.mp H
      obtain ⟨t488, A110, H⟩ := H
      replace H : (if t487 = t488 then ((spec_GridOk.f k t480 t481).bind fun t489 => (if t489 = true then (if t484 < 0 then (laws_FnSightOut.j0 k t484 t485 t487 true t480 t481) else (if t484 ≥ (t481.length : Int) then (laws_FnSightOut.j0 k t484 t485 t487 true t480 t481) else (if t485 < 0 then (laws_FnSightOut.j0 k t484 t485 t487 true t480 t481) else (laws_FnSightOut.j0 k t484 t485 t487 (decide (t485 > 3)) t480 t481)))) else (laws_FnSightOut.j0 k t484 t485 t487 true t480 t481))) else (laws_FnSightOut.j0 k t484 t485 t487 true t480 t481)) = some r := H
      have A11 := Aside0.mk A110
      clear A110
      by_cases c12 : t487 = t488
      · rw [if_pos c12] at H
        have c12b0 : (t487 == t488) = true := beq_iff_eq.mpr c12
        have c12b1 : (t487 != t488) = false := bne_eq_false_iff_eq.mpr c12
        clear c12
        (first | rw [c12b0] | (simp only [i64_w, i32_w]; rw [c12b0]) | skip)
        replace H := Option.bind_eq_some_iff.mp H
        obtain ⟨t489, A130, H⟩ := H
        replace H : (if t489 = true then (if t484 < 0 then (laws_FnSightOut.j0 k t484 t485 t487 true t480 t481) else (if t484 ≥ (t481.length : Int) then (laws_FnSightOut.j0 k t484 t485 t487 true t480 t481) else (if t485 < 0 then (laws_FnSightOut.j0 k t484 t485 t487 true t480 t481) else (laws_FnSightOut.j0 k t484 t485 t487 (decide (t485 > 3)) t480 t481)))) else (laws_FnSightOut.j0 k t484 t485 t487 true t480 t481)) = some r := H
        have A13 := Aside0.mk A130
        clear A130
        by_cases c14 : t489 = true
        · subst c14
          have H1 : (if t484 < 0 then (laws_FnSightOut.j0 k t484 t485 t487 true t480 t481) else (if t484 ≥ (t481.length : Int) then (laws_FnSightOut.j0 k t484 t485 t487 true t480 t481) else (if t485 < 0 then (laws_FnSightOut.j0 k t484 t485 t487 true t480 t481) else (laws_FnSightOut.j0 k t484 t485 t487 (decide (t485 > 3)) t480 t481)))) = some r := by rw [if_pos rfl] at H; exact H
          clear H
          have H := H1
          clear H1
          by_cases c15 : t484 < 0
          · rw [if_pos c15] at H
            have c15b0 : decide (t484 < 0) = true := decide_eq_true c15
            clear c15
            have H' := Aside0.mk H
            clear H
            have hcz16_0 : w10.cell? ⟨gb486, 0, none⟩ = some (.int .i64 t480) := (blk_cell BK486.out 0).trans rfl
            have hcz16_1 : w10.cell? ⟨gb486, 1, none⟩ = some (.slice Ao9 t481.length co9) := (blk_cell BK486.out 1).trans rfl
            have hfz16_0 := blk_frozen BK486.out 0
            have hfz16_1 := blk_frozen BK486.out 1
            go_wp2_with (first | ((with_reducible refine gate_callee (f := 24) rfl ?_); refine goesL_ (some 28) rfl rfl Try.func24 (by kernel_rfl) rfl #[.agg #[.int .i64 t480, .slice Ao9 t481.length co9], .int .i64 t484, .int .i64 t485] rfl (by (try simp only [List.map_toArray, List.map_cons, List.map_nil]); first | done | rfl | (simp only [List.length_drop, List.length_take]; rfl)) ?_; (with_reducible refine (spec_SightOf.calls k t480 _ _ t481 t484 t485 t488 _ ?side1 ?side2 A11.out).mono ?_); (case side1 => repeat (first | exact (Kd.Q_reads' HO483.out).2.2 | (with_reducible refine Kd.C_alloc ?_ _) | (with_reducible refine Kd.C_drewN ?_ _) | (with_reducible refine Kd.C_drew ?_))); (case side2 => exact (Kd.Q_reads' HO483.out).2.1); rintro e w17 ⟨rfl, hb⟩; refine ⟨_, rfl, ?_⟩; have n0_ := Aside0.mk (Kd.Q_below (by (with_reducible repeat (first | apply Kd.Q_alloc | apply Kd.Q_drewN | apply Kd.Q_drew)); exact HO483.out) hb); have n1_ := Aside0.mk (blk_below (g := gb486) (o := .cells #[.int .i64 t480, .slice Ao9 t481.length co9] 25 (0, 0)) (by (with_reducible repeat (first | refine blk_drewN ?_ _ | refine blk_drew ?_ | refine blk_alloc ?_ _)); exact BK486.out) hb); have n2_ := Aside0.mk (below_step (by repeat (first | (with_reducible first | exact HB.out | apply below_alloc | apply pw_below_drewN | apply below_drew1 | refine below_set ?_ GE486.out) | exact HB.out)) hb); clear HO483; clear BK486; clear HB; have HO483 := n0_; have BK486 := n1_; have HB := n2_; clear n0_ n1_ n2_; (try clear hb); (try clear hb2); (try clear hk); (try clear hi); have hcz18_0 : w17.cell? ⟨gb486, 0, none⟩ = some (.int .i64 t480) := (blk_cell BK486.out 0).trans rfl; have hcz18_1 : w17.cell? ⟨gb486, 1, none⟩ = some (.slice Ao9 t481.length co9) := (blk_cell BK486.out 1).trans rfl; have hfz18_0 := blk_frozen BK486.out 0; have hfz18_1 := blk_frozen BK486.out 1) | (go_at_call 19; (with_reducible refine (spec_GridOk.calls k t480 _ _ t481 true _ ?side1 ?side2 A13.out).mono ?_); (case side1 => repeat (first | exact (Kd.Q_reads' HO483.out).2.2 | (with_reducible refine Kd.C_alloc ?_ _) | (with_reducible refine Kd.C_drewN ?_ _) | (with_reducible refine Kd.C_drew ?_))); (case side2 => exact (Kd.Q_reads' HO483.out).2.1); rintro e w19 ⟨rfl, hb⟩; have n0_ := Aside0.mk (Kd.Q_below (by (with_reducible repeat (first | apply Kd.Q_alloc | apply Kd.Q_drewN | apply Kd.Q_drew)); exact HO483.out) hb); have n1_ := Aside0.mk (blk_below (g := gb486) (o := .cells #[.int .i64 t480, .slice Ao9 t481.length co9] 25 (0, 0)) (by (with_reducible repeat (first | refine blk_drewN ?_ _ | refine blk_drew ?_ | refine blk_alloc ?_ _)); exact BK486.out) hb); have n2_ := Aside0.mk (below_step (by repeat (first | (with_reducible first | exact HB.out | apply below_alloc | apply pw_below_drewN | apply below_drew1 | refine below_set ?_ GE486.out) | exact HB.out)) hb); clear HO483; clear BK486; clear HB; have HO483 := n0_; have BK486 := n1_; have HB := n2_; clear n0_ n1_ n2_; (try clear hb); (try clear hb2); (try clear hk); (try clear hi)))
            go_meet
            case rel => exact ⟨_, (true), (by first | rfl | (simp; done) | (simp [*]; done)), H', ⟨by first | omega | exact Nat.le_refl _⟩, ⟨by (with_reducible repeat (first | apply Kd.Q_alloc | apply Kd.Q_drewN | apply Kd.Q_drew)); exact HO483.out⟩, ⟨by (with_reducible repeat (first | refine blk_drewN ?_ _ | refine blk_drew ?_ | refine blk_alloc ?_ _)); exact BK486.out⟩, ⟨by repeat (first | (with_reducible first | exact HB.out | apply below_alloc | apply pw_below_drewN | apply below_drew1 | refine below_set ?_ GE486.out) | exact HB.out)⟩⟩
          · rw [if_neg c15] at H
            have c15b0 : decide (t484 < 0) = false := decide_eq_false c15
            clear c15
            by_cases c20 : t484 ≥ (t481.length : Int)
            · rw [if_pos c20] at H
              have c20b0 : decide ((t481.length : Int) ≤ t484) = true := decide_eq_true c20
              clear c20
              have H' := Aside0.mk H
              clear H
              have hcz21_0 : w10.cell? ⟨gb486, 0, none⟩ = some (.int .i64 t480) := (blk_cell BK486.out 0).trans rfl
              have hcz21_1 : w10.cell? ⟨gb486, 1, none⟩ = some (.slice Ao9 t481.length co9) := (blk_cell BK486.out 1).trans rfl
              have hfz21_0 := blk_frozen BK486.out 0
              have hfz21_1 := blk_frozen BK486.out 1
              go_wp2_with (first | ((with_reducible refine gate_callee (f := 24) rfl ?_); refine goesL_ (some 28) rfl rfl Try.func24 (by kernel_rfl) rfl #[.agg #[.int .i64 t480, .slice Ao9 t481.length co9], .int .i64 t484, .int .i64 t485] rfl (by (try simp only [List.map_toArray, List.map_cons, List.map_nil]); first | done | rfl | (simp only [List.length_drop, List.length_take]; rfl)) ?_; (with_reducible refine (spec_SightOf.calls k t480 _ _ t481 t484 t485 t488 _ ?side1 ?side2 A11.out).mono ?_); (case side1 => repeat (first | exact (Kd.Q_reads' HO483.out).2.2 | (with_reducible refine Kd.C_alloc ?_ _) | (with_reducible refine Kd.C_drewN ?_ _) | (with_reducible refine Kd.C_drew ?_))); (case side2 => exact (Kd.Q_reads' HO483.out).2.1); rintro e w22 ⟨rfl, hb⟩; refine ⟨_, rfl, ?_⟩; have n0_ := Aside0.mk (Kd.Q_below (by (with_reducible repeat (first | apply Kd.Q_alloc | apply Kd.Q_drewN | apply Kd.Q_drew)); exact HO483.out) hb); have n1_ := Aside0.mk (blk_below (g := gb486) (o := .cells #[.int .i64 t480, .slice Ao9 t481.length co9] 25 (0, 0)) (by (with_reducible repeat (first | refine blk_drewN ?_ _ | refine blk_drew ?_ | refine blk_alloc ?_ _)); exact BK486.out) hb); have n2_ := Aside0.mk (below_step (by repeat (first | (with_reducible first | exact HB.out | apply below_alloc | apply pw_below_drewN | apply below_drew1 | refine below_set ?_ GE486.out) | exact HB.out)) hb); clear HO483; clear BK486; clear HB; have HO483 := n0_; have BK486 := n1_; have HB := n2_; clear n0_ n1_ n2_; (try clear hb); (try clear hb2); (try clear hk); (try clear hi); have hcz23_0 : w22.cell? ⟨gb486, 0, none⟩ = some (.int .i64 t480) := (blk_cell BK486.out 0).trans rfl; have hcz23_1 : w22.cell? ⟨gb486, 1, none⟩ = some (.slice Ao9 t481.length co9) := (blk_cell BK486.out 1).trans rfl; have hfz23_0 := blk_frozen BK486.out 0; have hfz23_1 := blk_frozen BK486.out 1) | (go_at_call 19; (with_reducible refine (spec_GridOk.calls k t480 _ _ t481 true _ ?side1 ?side2 A13.out).mono ?_); (case side1 => repeat (first | exact (Kd.Q_reads' HO483.out).2.2 | (with_reducible refine Kd.C_alloc ?_ _) | (with_reducible refine Kd.C_drewN ?_ _) | (with_reducible refine Kd.C_drew ?_))); (case side2 => exact (Kd.Q_reads' HO483.out).2.1); rintro e w24 ⟨rfl, hb⟩; have n0_ := Aside0.mk (Kd.Q_below (by (with_reducible repeat (first | apply Kd.Q_alloc | apply Kd.Q_drewN | apply Kd.Q_drew)); exact HO483.out) hb); have n1_ := Aside0.mk (blk_below (g := gb486) (o := .cells #[.int .i64 t480, .slice Ao9 t481.length co9] 25 (0, 0)) (by (with_reducible repeat (first | refine blk_drewN ?_ _ | refine blk_drew ?_ | refine blk_alloc ?_ _)); exact BK486.out) hb); have n2_ := Aside0.mk (below_step (by repeat (first | (with_reducible first | exact HB.out | apply below_alloc | apply pw_below_drewN | apply below_drew1 | refine below_set ?_ GE486.out) | exact HB.out)) hb); clear HO483; clear BK486; clear HB; have HO483 := n0_; have BK486 := n1_; have HB := n2_; clear n0_ n1_ n2_; (try clear hb); (try clear hb2); (try clear hk); (try clear hi); have hcz25_0 : w24.cell? ⟨gb486, 0, none⟩ = some (.int .i64 t480) := (blk_cell BK486.out 0).trans rfl; have hcz25_1 : w24.cell? ⟨gb486, 1, none⟩ = some (.slice Ao9 t481.length co9) := (blk_cell BK486.out 1).trans rfl; have hfz25_0 := blk_frozen BK486.out 0; have hfz25_1 := blk_frozen BK486.out 1))
              go_meet
              case rel => exact ⟨_, (true), (by first | rfl | (simp; done) | (simp [*]; done)), H', ⟨by first | omega | exact Nat.le_refl _⟩, ⟨by (with_reducible repeat (first | apply Kd.Q_alloc | apply Kd.Q_drewN | apply Kd.Q_drew)); exact HO483.out⟩, ⟨by (with_reducible repeat (first | refine blk_drewN ?_ _ | refine blk_drew ?_ | refine blk_alloc ?_ _)); exact BK486.out⟩, ⟨by repeat (first | (with_reducible first | exact HB.out | apply below_alloc | apply pw_below_drewN | apply below_drew1 | refine below_set ?_ GE486.out) | exact HB.out)⟩⟩
            · rw [if_neg c20] at H
              have c20b0 : decide ((t481.length : Int) ≤ t484) = false := decide_eq_false c20
              clear c20
              by_cases c26 : t485 < 0
              · rw [if_pos c26] at H
                have c26b0 : decide (t485 < 0) = true := decide_eq_true c26
                clear c26
                have H' := Aside0.mk H
                clear H
                have hcz27_0 : w10.cell? ⟨gb486, 0, none⟩ = some (.int .i64 t480) := (blk_cell BK486.out 0).trans rfl
                have hcz27_1 : w10.cell? ⟨gb486, 1, none⟩ = some (.slice Ao9 t481.length co9) := (blk_cell BK486.out 1).trans rfl
                have hfz27_0 := blk_frozen BK486.out 0
                have hfz27_1 := blk_frozen BK486.out 1
                go_wp2_with (first | ((with_reducible refine gate_callee (f := 24) rfl ?_); refine goesL_ (some 28) rfl rfl Try.func24 (by kernel_rfl) rfl #[.agg #[.int .i64 t480, .slice Ao9 t481.length co9], .int .i64 t484, .int .i64 t485] rfl (by (try simp only [List.map_toArray, List.map_cons, List.map_nil]); first | done | rfl | (simp only [List.length_drop, List.length_take]; rfl)) ?_; (with_reducible refine (spec_SightOf.calls k t480 _ _ t481 t484 t485 t488 _ ?side1 ?side2 A11.out).mono ?_); (case side1 => repeat (first | exact (Kd.Q_reads' HO483.out).2.2 | (with_reducible refine Kd.C_alloc ?_ _) | (with_reducible refine Kd.C_drewN ?_ _) | (with_reducible refine Kd.C_drew ?_))); (case side2 => exact (Kd.Q_reads' HO483.out).2.1); rintro e w28 ⟨rfl, hb⟩; refine ⟨_, rfl, ?_⟩; have n0_ := Aside0.mk (Kd.Q_below (by (with_reducible repeat (first | apply Kd.Q_alloc | apply Kd.Q_drewN | apply Kd.Q_drew)); exact HO483.out) hb); have n1_ := Aside0.mk (blk_below (g := gb486) (o := .cells #[.int .i64 t480, .slice Ao9 t481.length co9] 25 (0, 0)) (by (with_reducible repeat (first | refine blk_drewN ?_ _ | refine blk_drew ?_ | refine blk_alloc ?_ _)); exact BK486.out) hb); have n2_ := Aside0.mk (below_step (by repeat (first | (with_reducible first | exact HB.out | apply below_alloc | apply pw_below_drewN | apply below_drew1 | refine below_set ?_ GE486.out) | exact HB.out)) hb); clear HO483; clear BK486; clear HB; have HO483 := n0_; have BK486 := n1_; have HB := n2_; clear n0_ n1_ n2_; (try clear hb); (try clear hb2); (try clear hk); (try clear hi); have hcz29_0 : w28.cell? ⟨gb486, 0, none⟩ = some (.int .i64 t480) := (blk_cell BK486.out 0).trans rfl; have hcz29_1 : w28.cell? ⟨gb486, 1, none⟩ = some (.slice Ao9 t481.length co9) := (blk_cell BK486.out 1).trans rfl; have hfz29_0 := blk_frozen BK486.out 0; have hfz29_1 := blk_frozen BK486.out 1) | (go_at_call 19; (with_reducible refine (spec_GridOk.calls k t480 _ _ t481 true _ ?side1 ?side2 A13.out).mono ?_); (case side1 => repeat (first | exact (Kd.Q_reads' HO483.out).2.2 | (with_reducible refine Kd.C_alloc ?_ _) | (with_reducible refine Kd.C_drewN ?_ _) | (with_reducible refine Kd.C_drew ?_))); (case side2 => exact (Kd.Q_reads' HO483.out).2.1); rintro e w30 ⟨rfl, hb⟩; have n0_ := Aside0.mk (Kd.Q_below (by (with_reducible repeat (first | apply Kd.Q_alloc | apply Kd.Q_drewN | apply Kd.Q_drew)); exact HO483.out) hb); have n1_ := Aside0.mk (blk_below (g := gb486) (o := .cells #[.int .i64 t480, .slice Ao9 t481.length co9] 25 (0, 0)) (by (with_reducible repeat (first | refine blk_drewN ?_ _ | refine blk_drew ?_ | refine blk_alloc ?_ _)); exact BK486.out) hb); have n2_ := Aside0.mk (below_step (by repeat (first | (with_reducible first | exact HB.out | apply below_alloc | apply pw_below_drewN | apply below_drew1 | refine below_set ?_ GE486.out) | exact HB.out)) hb); clear HO483; clear BK486; clear HB; have HO483 := n0_; have BK486 := n1_; have HB := n2_; clear n0_ n1_ n2_; (try clear hb); (try clear hb2); (try clear hk); (try clear hi); have hcz31_0 : w30.cell? ⟨gb486, 0, none⟩ = some (.int .i64 t480) := (blk_cell BK486.out 0).trans rfl; have hcz31_1 : w30.cell? ⟨gb486, 1, none⟩ = some (.slice Ao9 t481.length co9) := (blk_cell BK486.out 1).trans rfl; have hfz31_0 := blk_frozen BK486.out 0; have hfz31_1 := blk_frozen BK486.out 1))
                go_meet
                case rel => exact ⟨_, (true), (by first | rfl | (simp; done) | (simp [*]; done)), H', ⟨by first | omega | exact Nat.le_refl _⟩, ⟨by (with_reducible repeat (first | apply Kd.Q_alloc | apply Kd.Q_drewN | apply Kd.Q_drew)); exact HO483.out⟩, ⟨by (with_reducible repeat (first | refine blk_drewN ?_ _ | refine blk_drew ?_ | refine blk_alloc ?_ _)); exact BK486.out⟩, ⟨by repeat (first | (with_reducible first | exact HB.out | apply below_alloc | apply pw_below_drewN | apply below_drew1 | refine below_set ?_ GE486.out) | exact HB.out)⟩⟩
              · rw [if_neg c26] at H
                have c26b0 : decide (t485 < 0) = false := decide_eq_false c26
                clear c26
                have H' := Aside0.mk H
                clear H
                have hcz32_0 : w10.cell? ⟨gb486, 0, none⟩ = some (.int .i64 t480) := (blk_cell BK486.out 0).trans rfl
                have hcz32_1 : w10.cell? ⟨gb486, 1, none⟩ = some (.slice Ao9 t481.length co9) := (blk_cell BK486.out 1).trans rfl
                have hfz32_0 := blk_frozen BK486.out 0
                have hfz32_1 := blk_frozen BK486.out 1
                go_wp2_with (first | ((with_reducible refine gate_callee (f := 24) rfl ?_); refine goesL_ (some 28) rfl rfl Try.func24 (by kernel_rfl) rfl #[.agg #[.int .i64 t480, .slice Ao9 t481.length co9], .int .i64 t484, .int .i64 t485] rfl (by (try simp only [List.map_toArray, List.map_cons, List.map_nil]); first | done | rfl | (simp only [List.length_drop, List.length_take]; rfl)) ?_; (with_reducible refine (spec_SightOf.calls k t480 _ _ t481 t484 t485 t488 _ ?side1 ?side2 A11.out).mono ?_); (case side1 => repeat (first | exact (Kd.Q_reads' HO483.out).2.2 | (with_reducible refine Kd.C_alloc ?_ _) | (with_reducible refine Kd.C_drewN ?_ _) | (with_reducible refine Kd.C_drew ?_))); (case side2 => exact (Kd.Q_reads' HO483.out).2.1); rintro e w33 ⟨rfl, hb⟩; refine ⟨_, rfl, ?_⟩; have n0_ := Aside0.mk (Kd.Q_below (by (with_reducible repeat (first | apply Kd.Q_alloc | apply Kd.Q_drewN | apply Kd.Q_drew)); exact HO483.out) hb); have n1_ := Aside0.mk (blk_below (g := gb486) (o := .cells #[.int .i64 t480, .slice Ao9 t481.length co9] 25 (0, 0)) (by (with_reducible repeat (first | refine blk_drewN ?_ _ | refine blk_drew ?_ | refine blk_alloc ?_ _)); exact BK486.out) hb); have n2_ := Aside0.mk (below_step (by repeat (first | (with_reducible first | exact HB.out | apply below_alloc | apply pw_below_drewN | apply below_drew1 | refine below_set ?_ GE486.out) | exact HB.out)) hb); clear HO483; clear BK486; clear HB; have HO483 := n0_; have BK486 := n1_; have HB := n2_; clear n0_ n1_ n2_; (try clear hb); (try clear hb2); (try clear hk); (try clear hi); have hcz34_0 : w33.cell? ⟨gb486, 0, none⟩ = some (.int .i64 t480) := (blk_cell BK486.out 0).trans rfl; have hcz34_1 : w33.cell? ⟨gb486, 1, none⟩ = some (.slice Ao9 t481.length co9) := (blk_cell BK486.out 1).trans rfl; have hfz34_0 := blk_frozen BK486.out 0; have hfz34_1 := blk_frozen BK486.out 1) | (go_at_call 19; (with_reducible refine (spec_GridOk.calls k t480 _ _ t481 true _ ?side1 ?side2 A13.out).mono ?_); (case side1 => repeat (first | exact (Kd.Q_reads' HO483.out).2.2 | (with_reducible refine Kd.C_alloc ?_ _) | (with_reducible refine Kd.C_drewN ?_ _) | (with_reducible refine Kd.C_drew ?_))); (case side2 => exact (Kd.Q_reads' HO483.out).2.1); rintro e w35 ⟨rfl, hb⟩; have n0_ := Aside0.mk (Kd.Q_below (by (with_reducible repeat (first | apply Kd.Q_alloc | apply Kd.Q_drewN | apply Kd.Q_drew)); exact HO483.out) hb); have n1_ := Aside0.mk (blk_below (g := gb486) (o := .cells #[.int .i64 t480, .slice Ao9 t481.length co9] 25 (0, 0)) (by (with_reducible repeat (first | refine blk_drewN ?_ _ | refine blk_drew ?_ | refine blk_alloc ?_ _)); exact BK486.out) hb); have n2_ := Aside0.mk (below_step (by repeat (first | (with_reducible first | exact HB.out | apply below_alloc | apply pw_below_drewN | apply below_drew1 | refine below_set ?_ GE486.out) | exact HB.out)) hb); clear HO483; clear BK486; clear HB; have HO483 := n0_; have BK486 := n1_; have HB := n2_; clear n0_ n1_ n2_; (try clear hb); (try clear hb2); (try clear hk); (try clear hi); have hcz36_0 : w35.cell? ⟨gb486, 0, none⟩ = some (.int .i64 t480) := (blk_cell BK486.out 0).trans rfl; have hcz36_1 : w35.cell? ⟨gb486, 1, none⟩ = some (.slice Ao9 t481.length co9) := (blk_cell BK486.out 1).trans rfl; have hfz36_0 := blk_frozen BK486.out 0; have hfz36_1 := blk_frozen BK486.out 1))
                go_meet
                case rel => exact ⟨_, (decide (t485 > 3)), (by first | rfl | (simp; done) | (simp [*]; done)), H', ⟨by first | omega | exact Nat.le_refl _⟩, ⟨by (with_reducible repeat (first | apply Kd.Q_alloc | apply Kd.Q_drewN | apply Kd.Q_drew)); exact HO483.out⟩, ⟨by (with_reducible repeat (first | refine blk_drewN ?_ _ | refine blk_drew ?_ | refine blk_alloc ?_ _)); exact BK486.out⟩, ⟨by repeat (first | (with_reducible first | exact HB.out | apply below_alloc | apply pw_below_drewN | apply below_drew1 | refine below_set ?_ GE486.out) | exact HB.out)⟩⟩
        · replace c14 := Bool.eq_false_iff.mpr c14
          subst c14
          have H1 : (laws_FnSightOut.j0 k t484 t485 t487 true t480 t481) = some r := by rw [if_neg (show ¬ (false = true) by decide)] at H; exact H
          clear H
          have H := H1
          clear H1
          have H' := Aside0.mk H
          clear H
          have hcz37_0 : w10.cell? ⟨gb486, 0, none⟩ = some (.int .i64 t480) := (blk_cell BK486.out 0).trans rfl
          have hcz37_1 : w10.cell? ⟨gb486, 1, none⟩ = some (.slice Ao9 t481.length co9) := (blk_cell BK486.out 1).trans rfl
          have hfz37_0 := blk_frozen BK486.out 0
          have hfz37_1 := blk_frozen BK486.out 1
          go_wp2_with (first | ((with_reducible refine gate_callee (f := 24) rfl ?_); refine goesL_ (some 28) rfl rfl Try.func24 (by kernel_rfl) rfl #[.agg #[.int .i64 t480, .slice Ao9 t481.length co9], .int .i64 t484, .int .i64 t485] rfl (by (try simp only [List.map_toArray, List.map_cons, List.map_nil]); first | done | rfl | (simp only [List.length_drop, List.length_take]; rfl)) ?_; (with_reducible refine (spec_SightOf.calls k t480 _ _ t481 t484 t485 t488 _ ?side1 ?side2 A11.out).mono ?_); (case side1 => repeat (first | exact (Kd.Q_reads' HO483.out).2.2 | (with_reducible refine Kd.C_alloc ?_ _) | (with_reducible refine Kd.C_drewN ?_ _) | (with_reducible refine Kd.C_drew ?_))); (case side2 => exact (Kd.Q_reads' HO483.out).2.1); rintro e w38 ⟨rfl, hb⟩; refine ⟨_, rfl, ?_⟩; have n0_ := Aside0.mk (Kd.Q_below (by (with_reducible repeat (first | apply Kd.Q_alloc | apply Kd.Q_drewN | apply Kd.Q_drew)); exact HO483.out) hb); have n1_ := Aside0.mk (blk_below (g := gb486) (o := .cells #[.int .i64 t480, .slice Ao9 t481.length co9] 25 (0, 0)) (by (with_reducible repeat (first | refine blk_drewN ?_ _ | refine blk_drew ?_ | refine blk_alloc ?_ _)); exact BK486.out) hb); have n2_ := Aside0.mk (below_step (by repeat (first | (with_reducible first | exact HB.out | apply below_alloc | apply pw_below_drewN | apply below_drew1 | refine below_set ?_ GE486.out) | exact HB.out)) hb); clear HO483; clear BK486; clear HB; have HO483 := n0_; have BK486 := n1_; have HB := n2_; clear n0_ n1_ n2_; (try clear hb); (try clear hb2); (try clear hk); (try clear hi); have hcz39_0 : w38.cell? ⟨gb486, 0, none⟩ = some (.int .i64 t480) := (blk_cell BK486.out 0).trans rfl; have hcz39_1 : w38.cell? ⟨gb486, 1, none⟩ = some (.slice Ao9 t481.length co9) := (blk_cell BK486.out 1).trans rfl; have hfz39_0 := blk_frozen BK486.out 0; have hfz39_1 := blk_frozen BK486.out 1) | (go_at_call 19; (with_reducible refine (spec_GridOk.calls k t480 _ _ t481 false _ ?side1 ?side2 A13.out).mono ?_); (case side1 => repeat (first | exact (Kd.Q_reads' HO483.out).2.2 | (with_reducible refine Kd.C_alloc ?_ _) | (with_reducible refine Kd.C_drewN ?_ _) | (with_reducible refine Kd.C_drew ?_))); (case side2 => exact (Kd.Q_reads' HO483.out).2.1); rintro e w40 ⟨rfl, hb⟩; have n0_ := Aside0.mk (Kd.Q_below (by (with_reducible repeat (first | apply Kd.Q_alloc | apply Kd.Q_drewN | apply Kd.Q_drew)); exact HO483.out) hb); have n1_ := Aside0.mk (blk_below (g := gb486) (o := .cells #[.int .i64 t480, .slice Ao9 t481.length co9] 25 (0, 0)) (by (with_reducible repeat (first | refine blk_drewN ?_ _ | refine blk_drew ?_ | refine blk_alloc ?_ _)); exact BK486.out) hb); have n2_ := Aside0.mk (below_step (by repeat (first | (with_reducible first | exact HB.out | apply below_alloc | apply pw_below_drewN | apply below_drew1 | refine below_set ?_ GE486.out) | exact HB.out)) hb); clear HO483; clear BK486; clear HB; have HO483 := n0_; have BK486 := n1_; have HB := n2_; clear n0_ n1_ n2_; (try clear hb); (try clear hb2); (try clear hk); (try clear hi)))
          go_meet
          case rel => exact ⟨_, (true), (by first | rfl | (simp; done) | (simp [*]; done)), H', ⟨by first | omega | exact Nat.le_refl _⟩, ⟨by (with_reducible repeat (first | apply Kd.Q_alloc | apply Kd.Q_drewN | apply Kd.Q_drew)); exact HO483.out⟩, ⟨by (with_reducible repeat (first | refine blk_drewN ?_ _ | refine blk_drew ?_ | refine blk_alloc ?_ _)); exact BK486.out⟩, ⟨by repeat (first | (with_reducible first | exact HB.out | apply below_alloc | apply pw_below_drewN | apply below_drew1 | refine below_set ?_ GE486.out) | exact HB.out)⟩⟩
      · rw [if_neg c12] at H
        have c12b0 : (t487 == t488) = false := beq_eq_false_iff_ne.mpr c12
        have c12b1 : (t487 != t488) = true := bne_iff_ne.mpr c12
        (first | rw [c12b0] | (simp only [i64_w, i32_w]; rw [c12b0]) | skip)
        have H' := Aside0.mk H
        clear H
        have hcz41_0 : w10.cell? ⟨gb486, 0, none⟩ = some (.int .i64 t480) := (blk_cell BK486.out 0).trans rfl
        have hcz41_1 : w10.cell? ⟨gb486, 1, none⟩ = some (.slice Ao9 t481.length co9) := (blk_cell BK486.out 1).trans rfl
        have hfz41_0 := blk_frozen BK486.out 0
        have hfz41_1 := blk_frozen BK486.out 1
        go_wp2_with (first | ((with_reducible refine gate_callee (f := 24) rfl ?_); refine goesL_ (some 28) rfl rfl Try.func24 (by kernel_rfl) rfl #[.agg #[.int .i64 t480, .slice Ao9 t481.length co9], .int .i64 t484, .int .i64 t485] rfl (by (try simp only [List.map_toArray, List.map_cons, List.map_nil]); first | done | rfl | (simp only [List.length_drop, List.length_take]; rfl)) ?_; (with_reducible refine (spec_SightOf.calls k t480 _ _ t481 t484 t485 t488 _ ?side1 ?side2 A11.out).mono ?_); (case side1 => repeat (first | exact (Kd.Q_reads' HO483.out).2.2 | (with_reducible refine Kd.C_alloc ?_ _) | (with_reducible refine Kd.C_drewN ?_ _) | (with_reducible refine Kd.C_drew ?_))); (case side2 => exact (Kd.Q_reads' HO483.out).2.1); rintro e w42 ⟨rfl, hb⟩; refine ⟨_, rfl, ?_⟩; have n0_ := Aside0.mk (Kd.Q_below (by (with_reducible repeat (first | apply Kd.Q_alloc | apply Kd.Q_drewN | apply Kd.Q_drew)); exact HO483.out) hb); have n1_ := Aside0.mk (blk_below (g := gb486) (o := .cells #[.int .i64 t480, .slice Ao9 t481.length co9] 25 (0, 0)) (by (with_reducible repeat (first | refine blk_drewN ?_ _ | refine blk_drew ?_ | refine blk_alloc ?_ _)); exact BK486.out) hb); have n2_ := Aside0.mk (below_step (by repeat (first | (with_reducible first | exact HB.out | apply below_alloc | apply pw_below_drewN | apply below_drew1 | refine below_set ?_ GE486.out) | exact HB.out)) hb); clear HO483; clear BK486; clear HB; have HO483 := n0_; have BK486 := n1_; have HB := n2_; clear n0_ n1_ n2_; (try clear hb); (try clear hb2); (try clear hk); (try clear hi)))
        go_meet
        case rel => exact ⟨_, (true), (by first | rfl | (simp; done) | (simp [*]; done)), H', ⟨by first | omega | exact Nat.le_refl _⟩, ⟨by (with_reducible repeat (first | apply Kd.Q_alloc | apply Kd.Q_drewN | apply Kd.Q_drew)); exact HO483.out⟩, ⟨by (with_reducible repeat (first | refine blk_drewN ?_ _ | refine blk_drew ?_ | refine blk_alloc ?_ _)); exact BK486.out⟩, ⟨by repeat (first | (with_reducible first | exact HB.out | apply below_alloc | apply pw_below_drewN | apply below_drew1 | refine below_set ?_ GE486.out) | exact HB.out)⟩⟩
    case rest =>
      clear HC5
      try clear c1
      try clear c2
      try clear c2b0
      try clear c2b1
      try clear p2
      try clear c9
      try clear c12
      try clear c12b0
      try clear c12b1
      try clear c14
      try clear c15
      try clear c15b0
      try clear c20
      try clear c20b0
      try clear c23
      try clear c24
      try clear c26
      try clear c26b0
      try clear hcz16_0
      try clear hcz16_1
      try clear hcz18_0
      try clear hcz18_1
      try clear hcz21_0
      try clear hcz21_1
      try clear hcz23_0
      try clear hcz23_1
      try clear hcz25_0
      try clear hcz25_1
      try clear hcz27_0
      try clear hcz27_1
      try clear hcz29_0
      try clear hcz29_1
      try clear hcz31_0
      try clear hcz31_1
      try clear hcz32_0
      try clear hcz32_1
      try clear hcz34_0
      try clear hcz34_1
      try clear hcz36_0
      try clear hcz36_1
      try clear hcz37_0
      try clear hcz37_1
      try clear hcz39_0
      try clear hcz39_1
      try clear hcz41_0
      try clear hcz41_1
      try clear hcz8_0
      try clear hcz8_1
      try clear hfz16_0
      try clear hfz16_1
      try clear hfz18_0
      try clear hfz18_1
      try clear hfz21_0
      try clear hfz21_1
      try clear hfz23_0
      try clear hfz23_1
      try clear hfz25_0
      try clear hfz25_1
      try clear hfz27_0
      try clear hfz27_1
      try clear hfz29_0
      try clear hfz29_1
      try clear hfz31_0
      try clear hfz31_1
      try clear hfz32_0
      try clear hfz32_1
      try clear hfz34_0
      try clear hfz34_1
      try clear hfz36_0
      try clear hfz36_1
      try clear hfz37_0
      try clear hfz37_1
      try clear hfz39_0
      try clear hfz39_1
      try clear hfz41_0
      try clear hfz41_1
      try clear hfz8_0
      try clear hfz8_1
      obtain ⟨kq, x53_4, rfl, HA, HJ4, HO_487001, BK486, HB⟩ := hcut
      cases kq with
      | zero => exact absurd HA.out (by simp [laws_FnSightOut.j0])
      | succ kj4 =>
        have H := HA.out
        clear HA
        simp only [laws_FnSightOut.j0] at H
        by_cases c43 : x53_4 = true
        · subst c43
          have H1 : ((spec_SightOf.f kj4 t480 t481 t484 t485).bind fun t490 => (some (t487 == t490))) = some r := by rw [if_pos rfl] at H; exact H
          clear H
          have H := H1
          clear H1
          replace H := Option.bind_eq_some_iff.mp H
          obtain ⟨t490, A440, H⟩ := H
          replace H : (some (t487 == t490)) = some r := H
          have A44 := Aside0.mk A440
          clear A440
          obtain rfl := Option.some.inj H
          have hcz45_0 : wc.cell? ⟨gb486, 0, none⟩ = some (.int .i64 t480) := (blk_cell BK486.out 0).trans rfl
          have hcz45_1 : wc.cell? ⟨gb486, 1, none⟩ = some (.slice Ao9 t481.length co9) := (blk_cell BK486.out 1).trans rfl
          have hfz45_0 := blk_frozen BK486.out 0
          have hfz45_1 := blk_frozen BK486.out 1
          go_wp2_with (first | ((with_reducible refine gate_callee (f := 24) rfl ?_); refine goesL_ (some 58) rfl rfl Try.func24 (by kernel_rfl) rfl #[.agg #[.int .i64 t480, .slice Ao9 t481.length co9], .int .i64 t484, .int .i64 t485] rfl (by (try simp only [List.map_toArray, List.map_cons, List.map_nil]); first | done | rfl | (simp only [List.length_drop, List.length_take]; rfl)) ?_; (with_reducible refine (spec_SightOf.calls kj4 t480 _ _ t481 t484 t485 t490 _ ?side1 ?side2 A44.out).mono ?_); (case side1 => repeat (first | exact (Kd.Q_reads' HO_487001.out).2.2 | (with_reducible refine Kd.C_alloc ?_ _) | (with_reducible refine Kd.C_drewN ?_ _) | (with_reducible refine Kd.C_drew ?_))); (case side2 => exact (Kd.Q_reads' HO_487001.out).2.1); rintro e w46 ⟨rfl, hb⟩; refine ⟨_, rfl, ?_⟩; have n0_ := Aside0.mk (Kd.Q_below (by (with_reducible repeat (first | apply Kd.Q_alloc | apply Kd.Q_drewN | apply Kd.Q_drew)); exact HO_487001.out) hb); have n1_ := Aside0.mk (blk_below (g := gb486) (o := .cells #[.int .i64 t480, .slice Ao9 t481.length co9] 25 (0, 0)) (by (with_reducible repeat (first | refine blk_drewN ?_ _ | refine blk_drew ?_ | refine blk_alloc ?_ _)); exact BK486.out) hb); have n2_ := Aside0.mk (below_step (by repeat (first | (with_reducible first | exact HB.out | apply below_alloc | apply pw_below_drewN | apply below_drew1 | refine below_set ?_ GE486.out) | exact HB.out)) hb); clear HO_487001; clear BK486; clear HB; have HO_487001 := n0_; have BK486 := n1_; have HB := n2_; clear n0_ n1_ n2_; (try clear hb); (try clear hb2); (try clear hk); (try clear hi)))
          go_ret
          exact ⟨by first | rfl | (simp [errW_none, errW_some] <;> rfl) | (simp [*, errW_none, errW_some] <;> rfl) | (exfalso; simp_all; done), by repeat (first | (with_reducible first | exact HB.out | apply below_alloc | apply pw_below_drewN | apply below_drew1 | refine below_set ?_ GE486.out) | exact HB.out)⟩
        · replace c43 := Bool.eq_false_iff.mpr c43
          subst c43
          have H1 : ((impl_RayNext.f kj4 t480 t481 t484 t485).bind fun bt491 => (if bt491.2.2 = true then (some (t487 == (-1))) else ((impl_SightRay.f kj4 t480 t481 t487).bind fun bt495 => (if bt495.2.2 = true then (some (bt495.1 == t484 && (bt495.2.1 == (Int.tmod (wrap64 (t485 + 2)) 4)))) else (some false))))) = some r := by rw [if_neg (show ¬ (false = true) by decide)] at H; exact H
          clear H
          have H := H1
          clear H1
          replace H := Option.bind_eq_some_iff.mp H
          obtain ⟨⟨t491, t492, t493⟩, A470, H⟩ := H
          replace H : (if t493 = true then (some (t487 == (-1))) else ((impl_SightRay.f kj4 t480 t481 t487).bind fun bt495 => (if bt495.2.2 = true then (some (bt495.1 == t484 && (bt495.2.1 == (Int.tmod (wrap64 (t485 + 2)) 4)))) else (some false)))) = some r := H
          have A47 := Aside0.mk A470
          clear A470
          by_cases c48 : t493 = true
          · subst c48
            have H1 : (some (t487 == (-1))) = some r := by rw [if_pos rfl] at H; exact H
            clear H
            have H := H1
            clear H1
            obtain rfl := Option.some.inj H
            have hcz49_0 : wc.cell? ⟨gb486, 0, none⟩ = some (.int .i64 t480) := (blk_cell BK486.out 0).trans rfl
            have hcz49_1 : wc.cell? ⟨gb486, 1, none⟩ = some (.slice Ao9 t481.length co9) := (blk_cell BK486.out 1).trans rfl
            have hfz49_0 := blk_frozen BK486.out 0
            have hfz49_1 := blk_frozen BK486.out 1
            go_wp2_with (first | ((with_reducible refine gate_callee (f := 18) rfl ?_); refine goesL_ (some 64) rfl rfl Try.func18 (by kernel_rfl) rfl #[.agg #[.int .i64 t480, .slice Ao9 t481.length co9], .int .i64 t484, .int .i64 t485] rfl (by (try simp only [List.map_toArray, List.map_cons, List.map_nil]); first | done | rfl | (simp only [List.length_drop, List.length_take]; rfl)) ?_; (with_reducible refine (impl_RayNext.calls kj4 t480 _ _ t481 t484 t485 t491 t492 true _ ?side1 ?side2 A47.out).mono ?_); (case side1 => repeat (first | exact (Kd.Q_reads' HO_487001.out).2.2 | (with_reducible refine Kd.C_alloc ?_ _) | (with_reducible refine Kd.C_drewN ?_ _) | (with_reducible refine Kd.C_drew ?_))); (case side2 => exact (Kd.Q_reads' HO_487001.out).2.1); rintro e w50 ⟨rfl, hb⟩; refine ⟨_, rfl, ?_⟩; have n0_ := Aside0.mk (Kd.Q_below (by (with_reducible repeat (first | apply Kd.Q_alloc | apply Kd.Q_drewN | apply Kd.Q_drew)); exact HO_487001.out) hb); have n1_ := Aside0.mk (blk_below (g := gb486) (o := .cells #[.int .i64 t480, .slice Ao9 t481.length co9] 25 (0, 0)) (by (with_reducible repeat (first | refine blk_drewN ?_ _ | refine blk_drew ?_ | refine blk_alloc ?_ _)); exact BK486.out) hb); have n2_ := Aside0.mk (below_step (by repeat (first | (with_reducible first | exact HB.out | apply below_alloc | apply pw_below_drewN | apply below_drew1 | refine below_set ?_ GE486.out) | exact HB.out)) hb); clear HO_487001; clear BK486; clear HB; have HO_487001 := n0_; have BK486 := n1_; have HB := n2_; clear n0_ n1_ n2_; (try clear hb); (try clear hb2); (try clear hk); (try clear hi)) | ((with_reducible refine gate_dst (N := 7) rfl ?_); (try (refine gate_guard (by rfl) ?_; dsimp only)); refine box_event ?hg (N := 7) ?hd (cs := #[.int .i64 0, .int .i64 0]) (t := 29) ?hr ?_; (case hd => rfl); (case hg => rfl); (case hr => first | (go_simp; done) | (go_simp; rfl)); intro gb494 hg w51 hbox hb; have n0_ := Aside0.mk (Kd.Q_below (by (with_reducible repeat (first | apply Kd.Q_alloc | apply Kd.Q_drewN | apply Kd.Q_drew)); exact HO_487001.out) hb); have n1_ := Aside0.mk (blk_below (g := gb486) (o := .cells #[.int .i64 t480, .slice Ao9 t481.length co9] 25 (0, 0)) (by (with_reducible repeat (first | refine blk_drewN ?_ _ | refine blk_drew ?_ | refine blk_alloc ?_ _)); exact BK486.out) hb); have n2_ := Aside0.mk (below_step (by repeat (first | (with_reducible first | exact HB.out | apply below_alloc | apply pw_below_drewN | apply below_drew1 | refine below_set ?_ GE486.out) | exact HB.out)) hb); have n3_ := Aside0.mk (hbox); have n4_ := Aside0.mk ((by rw [hg]; exact (below_size (by repeat (first | (with_reducible first | exact HB.out | apply below_alloc | apply pw_below_drewN | apply below_drew1 | refine below_set ?_ GE486.out) | exact HB.out))) : w.heap.size ≤ gb494)); have n5_ := Aside0.mk ((by rw [hg]; exact (below_size (by repeat (first | (with_reducible first | exact HB.out | apply below_alloc | apply pw_below_drewN | apply below_drew1 | refine below_set ?_ GE486.out) | exact HB.out))) : w.heap.size ≤ gb494)); have n6_ := Aside0.mk ((by rw [hg]; exact Nat.ne_of_lt (blk_lt (g := gb486) (o := .cells #[.int .i64 t480, .slice Ao9 t481.length co9] 25 (0, 0)) (by (with_reducible repeat (first | refine blk_drewN ?_ _ | refine blk_drew ?_ | refine blk_alloc ?_ _)); exact BK486.out)) : gb486 ≠ gb494)); have n7_ := Aside0.mk ((by rw [hg]; exact Nat.ne_of_gt (blk_lt (g := gb486) (o := .cells #[.int .i64 t480, .slice Ao9 t481.length co9] 25 (0, 0)) (by (with_reducible repeat (first | refine blk_drewN ?_ _ | refine blk_drew ?_ | refine blk_alloc ?_ _)); exact BK486.out)) : gb494 ≠ gb486)); clear HO_487001; clear BK486; clear HB; have HO_487001 := n0_; have BK486 := n1_; have HB := n2_; have BK494 := n3_; have GW494 := n4_; have GE494 := n5_; have NB486_494 := n6_; have NB494_486 := n7_; clear n0_ n1_ n2_ n3_ n4_ n5_ n6_ n7_; clear hb hbox hg; have hnb52 := NB494_486.out; have hnc52 := NB486_494.out; have hcz53_0 : w51.cell? ⟨gb494, 0, none⟩ = some (.int .i64 0) := (blk_cell BK494.out 0).trans rfl; have hcz53_1 : w51.cell? ⟨gb494, 1, none⟩ = some (.int .i64 0) := (blk_cell BK494.out 1).trans rfl; have hfz53_0 := blk_frozen BK494.out 0; have hfz53_1 := blk_frozen BK494.out 1))
            go_ret
            exact ⟨by first | rfl | (simp [errW_none, errW_some] <;> rfl) | (simp [*, errW_none, errW_some] <;> rfl) | (exfalso; simp_all; done), by repeat (first | (with_reducible first | exact HB.out | apply below_alloc | apply pw_below_drewN | apply below_drew1 | refine below_set ?_ GE486.out | refine below_set ?_ GE494.out) | exact HB.out)⟩
          · replace c48 := Bool.eq_false_iff.mpr c48
            subst c48
            have H1 : ((impl_SightRay.f kj4 t480 t481 t487).bind fun bt495 => (if bt495.2.2 = true then (some (bt495.1 == t484 && (bt495.2.1 == (Int.tmod (wrap64 (t485 + 2)) 4)))) else (some false))) = some r := by rw [if_neg (show ¬ (false = true) by decide)] at H; exact H
            clear H
            have H := H1
            clear H1
            replace H := Option.bind_eq_some_iff.mp H
            obtain ⟨⟨t495, t496, t497⟩, A540, H⟩ := H
            replace H : (if t497 = true then (some (t495 == t484 && (t496 == (Int.tmod (wrap64 (t485 + 2)) 4)))) else (some false)) = some r := H
            have A54 := Aside0.mk A540
            clear A540
            by_cases c55 : t497 = true
            · subst c55
              have H1 : (some (t495 == t484 && (t496 == (Int.tmod (wrap64 (t485 + 2)) 4)))) = some r := by rw [if_pos rfl] at H; exact H
              clear H
              have H := H1
              clear H1
              obtain rfl := Option.some.inj H
              have hcz56_0 : wc.cell? ⟨gb486, 0, none⟩ = some (.int .i64 t480) := (blk_cell BK486.out 0).trans rfl
              have hcz56_1 : wc.cell? ⟨gb486, 1, none⟩ = some (.slice Ao9 t481.length co9) := (blk_cell BK486.out 1).trans rfl
              have hfz56_0 := blk_frozen BK486.out 0
              have hfz56_1 := blk_frozen BK486.out 1
              go_wp2_with (first | ((with_reducible refine gate_callee (f := 18) rfl ?_); refine goesL_ (some 64) rfl rfl Try.func18 (by kernel_rfl) rfl #[.agg #[.int .i64 t480, .slice Ao9 t481.length co9], .int .i64 t484, .int .i64 t485] rfl (by (try simp only [List.map_toArray, List.map_cons, List.map_nil]); first | done | rfl | (simp only [List.length_drop, List.length_take]; rfl)) ?_; (with_reducible refine (impl_RayNext.calls kj4 t480 _ _ t481 t484 t485 t491 t492 false _ ?side1 ?side2 A47.out).mono ?_); (case side1 => repeat (first | exact (Kd.Q_reads' HO_487001.out).2.2 | (with_reducible refine Kd.C_alloc ?_ _) | (with_reducible refine Kd.C_drewN ?_ _) | (with_reducible refine Kd.C_drew ?_))); (case side2 => exact (Kd.Q_reads' HO_487001.out).2.1); rintro e w57 ⟨rfl, hb⟩; refine ⟨_, rfl, ?_⟩; have n0_ := Aside0.mk (Kd.Q_below (by (with_reducible repeat (first | apply Kd.Q_alloc | apply Kd.Q_drewN | apply Kd.Q_drew)); exact HO_487001.out) hb); have n1_ := Aside0.mk (blk_below (g := gb486) (o := .cells #[.int .i64 t480, .slice Ao9 t481.length co9] 25 (0, 0)) (by (with_reducible repeat (first | refine blk_drewN ?_ _ | refine blk_drew ?_ | refine blk_alloc ?_ _)); exact BK486.out) hb); have n2_ := Aside0.mk (below_step (by repeat (first | (with_reducible first | exact HB.out | apply below_alloc | apply pw_below_drewN | apply below_drew1 | refine below_set ?_ GE486.out) | exact HB.out)) hb); clear HO_487001; clear BK486; clear HB; have HO_487001 := n0_; have BK486 := n1_; have HB := n2_; clear n0_ n1_ n2_; (try clear hb); (try clear hb2); (try clear hk); (try clear hi)) | ((with_reducible refine gate_dst (N := 7) rfl ?_); (try (refine gate_guard (by rfl) ?_; dsimp only)); refine box_event ?hg (N := 7) ?hd (cs := #[.int .i64 0, .int .i64 0]) (t := 29) ?hr ?_; (case hd => rfl); (case hg => rfl); (case hr => first | (go_simp; done) | (go_simp; rfl)); intro gb494 hg w58 hbox hb; have n0_ := Aside0.mk (Kd.Q_below (by (with_reducible repeat (first | apply Kd.Q_alloc | apply Kd.Q_drewN | apply Kd.Q_drew)); exact HO_487001.out) hb); have n1_ := Aside0.mk (blk_below (g := gb486) (o := .cells #[.int .i64 t480, .slice Ao9 t481.length co9] 25 (0, 0)) (by (with_reducible repeat (first | refine blk_drewN ?_ _ | refine blk_drew ?_ | refine blk_alloc ?_ _)); exact BK486.out) hb); have n2_ := Aside0.mk (below_step (by repeat (first | (with_reducible first | exact HB.out | apply below_alloc | apply pw_below_drewN | apply below_drew1 | refine below_set ?_ GE486.out) | exact HB.out)) hb); have n3_ := Aside0.mk (hbox); have n4_ := Aside0.mk ((by rw [hg]; exact (below_size (by repeat (first | (with_reducible first | exact HB.out | apply below_alloc | apply pw_below_drewN | apply below_drew1 | refine below_set ?_ GE486.out) | exact HB.out))) : w.heap.size ≤ gb494)); have n5_ := Aside0.mk ((by rw [hg]; exact (below_size (by repeat (first | (with_reducible first | exact HB.out | apply below_alloc | apply pw_below_drewN | apply below_drew1 | refine below_set ?_ GE486.out) | exact HB.out))) : w.heap.size ≤ gb494)); have n6_ := Aside0.mk ((by rw [hg]; exact Nat.ne_of_lt (blk_lt (g := gb486) (o := .cells #[.int .i64 t480, .slice Ao9 t481.length co9] 25 (0, 0)) (by (with_reducible repeat (first | refine blk_drewN ?_ _ | refine blk_drew ?_ | refine blk_alloc ?_ _)); exact BK486.out)) : gb486 ≠ gb494)); have n7_ := Aside0.mk ((by rw [hg]; exact Nat.ne_of_gt (blk_lt (g := gb486) (o := .cells #[.int .i64 t480, .slice Ao9 t481.length co9] 25 (0, 0)) (by (with_reducible repeat (first | refine blk_drewN ?_ _ | refine blk_drew ?_ | refine blk_alloc ?_ _)); exact BK486.out)) : gb494 ≠ gb486)); clear HO_487001; clear BK486; clear HB; have HO_487001 := n0_; have BK486 := n1_; have HB := n2_; have BK494 := n3_; have GW494 := n4_; have GE494 := n5_; have NB486_494 := n6_; have NB494_486 := n7_; clear n0_ n1_ n2_ n3_ n4_ n5_ n6_ n7_; clear hb hbox hg; have hnb59 := NB494_486.out; have hnc59 := NB486_494.out; have hcz60_0 : w58.cell? ⟨gb494, 0, none⟩ = some (.int .i64 0) := (blk_cell BK494.out 0).trans rfl; have hcz60_1 : w58.cell? ⟨gb494, 1, none⟩ = some (.int .i64 0) := (blk_cell BK494.out 1).trans rfl; have hfz60_0 := blk_frozen BK494.out 0; have hfz60_1 := blk_frozen BK494.out 1; have hcz61_0 : w58.cell? ⟨gb486, 0, none⟩ = some (.int .i64 t480) := (blk_cell BK486.out 0).trans rfl; have hcz61_1 : w58.cell? ⟨gb486, 1, none⟩ = some (.slice Ao9 t481.length co9) := (blk_cell BK486.out 1).trans rfl; have hfz61_0 := blk_frozen BK486.out 0; have hfz61_1 := blk_frozen BK486.out 1) | ((with_reducible refine gate_callee (f := 15) rfl ?_); refine goesL_ (some 73) rfl rfl Try.func15 (by kernel_rfl) rfl #[.agg #[.int .i64 t480, .slice Ao9 t481.length co9], .int .i64 t487] rfl (by (try simp only [List.map_toArray, List.map_cons, List.map_nil]); first | done | rfl | (simp only [List.length_drop, List.length_take]; rfl)) ?_; (with_reducible refine (impl_SightRay.calls kj4 t480 _ _ t481 t487 t495 t496 true _ ?side1 ?side2 A54.out).mono ?_); (case side1 => refine (Kd.Q_reads' (e := 42) (base := w.heap.size) (ok := fun k_ => True) (n := t481.length) (c := co9) ?_).2.2; exact (by (with_reducible repeat (first | apply Kd.Q_alloc | apply Kd.Q_drewN | apply Kd.Q_drew)); exact (Kd.Q_mono (Kd.Q_far (p := ⟨gb494, 1, none⟩) (Kd.Q_far (p := ⟨gb494, 0, none⟩) (Kd.Q_types HO_487001.out BK494.out (by decide)) (fun _ hk => hk.2) (.int .i64 t491)) (fun _ hk => hk.2) (.int .i64 t492)) (fun _ h_ => h_.1)))); (case side2 => exact (Kd.Q_reads' HO_487001.out).2.1); rintro e w62 ⟨rfl, hb⟩; refine ⟨_, rfl, ?_⟩; have n0_ := Aside0.mk (Kd.Q_below (by (with_reducible repeat (first | apply Kd.Q_alloc | apply Kd.Q_drewN | apply Kd.Q_drew)); exact (Kd.Q_mono (Kd.Q_far (p := ⟨gb494, 1, none⟩) (Kd.Q_far (p := ⟨gb494, 0, none⟩) (Kd.Q_types HO_487001.out BK494.out (by decide)) (fun _ hk => hk.2) (.int .i64 t491)) (fun _ hk => hk.2) (.int .i64 t492)) (fun _ h_ => h_.1))) hb); have n1_ := Aside0.mk (blk_below (g := gb486) (o := .cells #[.int .i64 t480, .slice Ao9 t481.length co9] 25 (0, 0)) (by (with_reducible repeat (first | refine blk_drewN ?_ _ | refine blk_drew ?_ | refine blk_alloc ?_ _)); refine blk_far ?_ NB486_494.out _; (with_reducible repeat (first | refine blk_drewN ?_ _ | refine blk_drew ?_ | refine blk_alloc ?_ _)); refine blk_far ?_ NB486_494.out _; (with_reducible repeat (first | refine blk_drewN ?_ _ | refine blk_drew ?_ | refine blk_alloc ?_ _)); exact BK486.out) hb); have n2_ := Aside0.mk (blk_below (g := gb494) (o := .cells #[.int .i64 t491, .int .i64 t492] 29 (0, 0)) (by (with_reducible repeat (first | refine blk_drewN ?_ _ | refine blk_drew ?_ | refine blk_alloc ?_ _)); refine blk_put (cs := #[.int .i64 t491, .int .i64 0]) ?_ 1 _ rfl; (with_reducible repeat (first | refine blk_drewN ?_ _ | refine blk_drew ?_ | refine blk_alloc ?_ _)); refine blk_put (cs := #[.int .i64 0, .int .i64 0]) ?_ 0 _ rfl; (with_reducible repeat (first | refine blk_drewN ?_ _ | refine blk_drew ?_ | refine blk_alloc ?_ _)); exact BK494.out) hb); have n3_ := Aside0.mk (below_step (by repeat (first | (with_reducible first | exact HB.out | apply below_alloc | apply pw_below_drewN | apply below_drew1 | refine below_set ?_ GE486.out | refine below_set ?_ GE494.out) | exact HB.out)) hb); clear HO_487001; clear BK486; clear BK494; clear HB; have HO_487001 := n0_; have BK486 := n1_; have BK494 := n2_; have HB := n3_; clear n0_ n1_ n2_ n3_; (try clear hb); (try clear hb2); (try clear hk); (try clear hi)) | ((with_reducible refine gate_dst (N := 9) rfl ?_); (try (refine gate_guard (by rfl) ?_; dsimp only)); refine box_event ?hg (N := 9) ?hd (cs := #[.int .i64 0, .int .i64 0]) (t := 29) ?hr ?_; (case hd => rfl); (case hg => rfl); (case hr => first | (go_simp; done) | (go_simp; rfl)); intro gb498 hg w63 hbox hb; have n0_ := Aside0.mk (Kd.Q_below (by (with_reducible repeat (first | apply Kd.Q_alloc | apply Kd.Q_drewN | apply Kd.Q_drew)); exact HO_487001.out) hb); have n1_ := Aside0.mk (blk_below (g := gb486) (o := .cells #[.int .i64 t480, .slice Ao9 t481.length co9] 25 (0, 0)) (by (with_reducible repeat (first | refine blk_drewN ?_ _ | refine blk_drew ?_ | refine blk_alloc ?_ _)); exact BK486.out) hb); have n2_ := Aside0.mk (blk_below (g := gb494) (o := .cells #[.int .i64 t491, .int .i64 t492] 29 (0, 0)) (by (with_reducible repeat (first | refine blk_drewN ?_ _ | refine blk_drew ?_ | refine blk_alloc ?_ _)); exact BK494.out) hb); have n3_ := Aside0.mk (below_step (by repeat (first | (with_reducible first | exact HB.out | apply below_alloc | apply pw_below_drewN | apply below_drew1 | refine below_set ?_ GE486.out | refine below_set ?_ GE494.out) | exact HB.out)) hb); have n4_ := Aside0.mk (hbox); have n5_ := Aside0.mk ((by rw [hg]; exact (below_size (by repeat (first | (with_reducible first | exact HB.out | apply below_alloc | apply pw_below_drewN | apply below_drew1 | refine below_set ?_ GE486.out | refine below_set ?_ GE494.out) | exact HB.out))) : w.heap.size ≤ gb498)); have n6_ := Aside0.mk ((by rw [hg]; exact (below_size (by repeat (first | (with_reducible first | exact HB.out | apply below_alloc | apply pw_below_drewN | apply below_drew1 | refine below_set ?_ GE486.out | refine below_set ?_ GE494.out) | exact HB.out))) : w.heap.size ≤ gb498)); have n7_ := Aside0.mk ((by rw [hg]; exact Nat.ne_of_lt (blk_lt (g := gb486) (o := .cells #[.int .i64 t480, .slice Ao9 t481.length co9] 25 (0, 0)) (by (with_reducible repeat (first | refine blk_drewN ?_ _ | refine blk_drew ?_ | refine blk_alloc ?_ _)); exact BK486.out)) : gb486 ≠ gb498)); have n8_ := Aside0.mk ((by rw [hg]; exact Nat.ne_of_gt (blk_lt (g := gb486) (o := .cells #[.int .i64 t480, .slice Ao9 t481.length co9] 25 (0, 0)) (by (with_reducible repeat (first | refine blk_drewN ?_ _ | refine blk_drew ?_ | refine blk_alloc ?_ _)); exact BK486.out)) : gb498 ≠ gb486)); have n9_ := Aside0.mk ((by rw [hg]; exact Nat.ne_of_lt (blk_lt (g := gb494) (o := .cells #[.int .i64 t491, .int .i64 t492] 29 (0, 0)) (by (with_reducible repeat (first | refine blk_drewN ?_ _ | refine blk_drew ?_ | refine blk_alloc ?_ _)); exact BK494.out)) : gb494 ≠ gb498)); have n10_ := Aside0.mk ((by rw [hg]; exact Nat.ne_of_gt (blk_lt (g := gb494) (o := .cells #[.int .i64 t491, .int .i64 t492] 29 (0, 0)) (by (with_reducible repeat (first | refine blk_drewN ?_ _ | refine blk_drew ?_ | refine blk_alloc ?_ _)); exact BK494.out)) : gb498 ≠ gb494)); clear HO_487001; clear BK486; clear BK494; clear HB; have HO_487001 := n0_; have BK486 := n1_; have BK494 := n2_; have HB := n3_; have BK498 := n4_; have GW498 := n5_; have GE498 := n6_; have NB486_498 := n7_; have NB498_486 := n8_; have NB494_498 := n9_; have NB498_494 := n10_; clear n0_ n1_ n2_ n3_ n4_ n5_ n6_ n7_ n8_ n9_ n10_; clear hb hbox hg; have hnb64 := NB498_486.out; have hnc64 := NB486_498.out; have hnb65 := NB498_494.out; have hnc65 := NB494_498.out; have hcz66_0 : w63.cell? ⟨gb498, 0, none⟩ = some (.int .i64 0) := (blk_cell BK498.out 0).trans rfl; have hcz66_1 : w63.cell? ⟨gb498, 1, none⟩ = some (.int .i64 0) := (blk_cell BK498.out 1).trans rfl; have hfz66_0 := blk_frozen BK498.out 0; have hfz66_1 := blk_frozen BK498.out 1))
              go_ret
              exact ⟨by first | rfl | (simp [errW_none, errW_some] <;> rfl) | (simp [*, errW_none, errW_some] <;> rfl) | (exfalso; simp_all; done), by repeat (first | (with_reducible first | exact HB.out | apply below_alloc | apply pw_below_drewN | apply below_drew1 | refine below_set ?_ GE486.out | refine below_set ?_ GE494.out | refine below_set ?_ GE498.out) | exact HB.out)⟩
            · replace c55 := Bool.eq_false_iff.mpr c55
              subst c55
              have H1 : (some false) = some r := by rw [if_neg (show ¬ (false = true) by decide)] at H; exact H
              clear H
              have H := H1
              clear H1
              obtain rfl := Option.some.inj H
              exact absurd HRT.out (by decide)

/-- THE ONE PURE STATEMENT of laws_FnSightOut: yours. -/
def laws_FnSightOut.Pure : Prop := ∀ (l0 : List Int), l0.length ≤ maxLen → l0.length * 1 ≤ 140737488351232 → (∀ x ∈ l0, (Lit.int .u8 x).wf = true) → ∃ k, laws_FnSightOut.f k l0 = some true
theorem laws_FnSightOut.walk (P : laws_FnSightOut.Pure) (a0 : Option Addr) (len0 cap0 : Nat) (z0 : List Int) (w : World) (w0 : (a0 = none ∧ len0 = 0 ∧ cap0 = 0 ∧ z0 = []) ∨ ∃ x, a0 = some x ∧ len0 ≤ cap0 ∧ cap0 ≤ maxLen ∧ z0.length = cap0 ∧ (∀ i, i < z0.length → w.cell? (x.add i) = some (.int .u8 (z0.getD i 0))) ∧ ∀ n ∈ z0, (Lit.int .u8 n).wf = true) (y0 : len0 * 1 ≤ 140737488351232) :
    Calls Try.prog 9 #[.slice a0 len0 cap0] w fun e w' => e = .returned (.bool true) ∧ Below w.heap.size w w' := by
  obtain ⟨l0, rfl, hr0, hm0, hw0, hc0⟩ := ReadsInt.ofRowC w0
  obtain ⟨k, h⟩ := P l0 hm0 y0 hw0
  refine (laws_FnSightOut.calls k _ _ l0 true w (Kd.C_of_reads (d := (0 : Int)) (h1 := fun _ => rfl) hr0) hc0 h rfl).mono ?_
  rintro e w' ⟨rfl, hd⟩
  exact ⟨rfl, hd⟩

end Go.Proofs.Ytbomeogcgefddaa.P
