/- PROVED: contracts of functions of the program, the reference and the statements; written by this session's driver (pk.py) through its own changed copy of the kit's print. No condition. -/
import Derived.Test.YtbomeogcgefddaaPx0
import Derived.Test.YtbomeogcgefddaaPx1
import Derived.Test.YtbomeogcgefddaaPx12
import Derived.Test.YtbomeogcgefddaaPx16
import Derived.Test.YtbomeogcgefddaaPx17
import Derived.Test.YtbomeogcgefddaaPx26
import Derived.Test.YtbomeogcgefddaaH3SightOf
namespace Go.Proofs.Ytbomeogcgefddaa.P
open Go.RowKit Go.Proofs.YtbomeogcgefddaaW.PrintWords Go.Proofs.YtbomeogcgefddaaW.PrintLast Go.Proofs.YtbomeogcgefddaaW.PrintMore
attribute [local go_sem] max2_int min2_int max_two min_two max_three min_three max_four min_four   -- for this text's walks alone
set_option linter.unusedVariables false
set_option linter.unusedSimpArgs false

attribute [local go_sem high] eqA29
/-! ### laws_FnSightBack: function 8 -/
def laws_FnSightBack.j0 : Nat → Int → Bool → Bool → Bool → Int → List (S42) → Int → Int → Int → Int → Option (Bool)
  | 0, _, _, _, _, _, _, _, _, _, _ => none
  | k + 1, x4, x6, x8, x42, x429000, x429001, x433000, x433001, x437000, x437001 => if x42 = true then (if (x8 == x6) = true then (some (x437000 == x433000 && (x437001 == x433001))) else (some false)) else ((impl_RayNext.f k x429000 x429001 x437000 (Int.tmod (wrap64 (x437001 + 2)) 4)).bind fun bt437 => ((impl_SightOf.f x429000 x429001 x437000 (Int.tmod (wrap64 (x437001 + 2)) 4)).bind fun t441 => (if t441 = x4 then (if bt437.2.2 = true then (some false) else ((impl_SightMany.f k x429000 x429001).bind fun t442 => (some (decide (x4 < t442))))) else (some false))))
def laws_FnSightBack.f (k : Nat) (l0 : List Int) : Option (Bool) := if (l0.length : Int) > 1048576 then (some true) else ((spec_DrawSightRay.f k l0).bind fun bt423 => ((spec_SightRay.f k bt423.1 bt423.2.1 bt423.2.2).bind fun bt429 => ((impl_SightRay.f k bt423.1 bt423.2.1 bt423.2.2).bind fun bt433 => (if (bt433.2.2 != bt429.2.2) = true then (laws_FnSightBack.j0 k bt423.2.2 bt429.2.2 bt433.2.2 true bt423.1 bt423.2.1 bt429.1 bt429.2.1 bt433.1 bt433.2.1) else (if (!(bt433.1 == bt429.1) || (!(bt433.2.1 == bt429.2.1))) = true then (laws_FnSightBack.j0 k bt423.2.2 bt429.2.2 bt433.2.2 true bt423.1 bt423.2.1 bt429.1 bt429.2.1 bt433.1 bt433.2.1) else (laws_FnSightBack.j0 k bt423.2.2 bt429.2.2 bt433.2.2 (!bt433.2.2) bt423.1 bt423.2.1 bt429.1 bt429.2.1 bt433.1 bt433.2.1))))))
theorem laws_FnSightBack.mono_l : ∀ k, (∀ y0 y1 y2 y3 y4 y5 y6 y7 y8 y9, LeO (laws_FnSightBack.j0 k y0 y1 y2 y3 y4 y5 y6 y7 y8 y9) (laws_FnSightBack.j0 (k + 1) y0 y1 y2 y3 y4 y5 y6 y7 y8 y9))
  | 0 => fun _ _ _ _ _ _ _ _ _ _ r h => by simp [laws_FnSightBack.j0] at h
  | k + 1 => by
    have ih0 := laws_FnSightBack.mono_l k
    · intro y0 y1 y2 y3 y4 y5 y6 y7 y8 y9
      unfold laws_FnSightBack.j0
      repeat' first
      | (with_reducible exact ih0 _ _ _ _ _ _ _ _ _ _)
      | (with_reducible exact impl_RayNext.mono _ _ _ _ _)
      | (with_reducible exact impl_SightMany.mono _ _ _)
      | (with_reducible exact impl_SightRay.mono _ _ _ _)
      | (with_reducible exact spec_DrawSightRay.mono _ _)
      | (with_reducible exact spec_SightRay.mono _ _ _ _)
      | (with_reducible exact LeO.refl _)
      | (with_reducible exact LeO.none _)
      | (with_reducible refine LeO.ite ?_ ?_)
      | (with_reducible refine LeO.bind ?_ (fun _ => ?_))
      | exact ih0 _ _ _ _ _ _ _ _ _ _
      | exact impl_RayNext.mono _ _ _ _ _
      | exact impl_SightMany.mono _ _ _
      | exact impl_SightRay.mono _ _ _ _
      | exact spec_DrawSightRay.mono _ _
      | exact spec_SightRay.mono _ _ _ _
      | exact LeO.none _
      | refine LeO.ite ?_ ?_
      | refine LeO.bind ?_ (fun _ => ?_)
theorem laws_FnSightBack.mono : ∀ a0 k, LeO (laws_FnSightBack.f k a0) (laws_FnSightBack.f (k + 1) a0) := by
  intro a0 k
  have ih0 := laws_FnSightBack.mono_l k
  unfold laws_FnSightBack.f
  repeat' first
      | (with_reducible exact ih0 _ _ _ _ _ _ _ _ _ _)
      | (with_reducible exact impl_RayNext.mono _ _ _ _ _)
      | (with_reducible exact impl_SightMany.mono _ _ _)
      | (with_reducible exact impl_SightRay.mono _ _ _ _)
      | (with_reducible exact spec_DrawSightRay.mono _ _)
      | (with_reducible exact spec_SightRay.mono _ _ _ _)
      | (with_reducible exact LeO.refl _)
      | (with_reducible exact LeO.none _)
      | (with_reducible refine LeO.ite ?_ ?_)
      | (with_reducible refine LeO.bind ?_ (fun _ => ?_))
      | exact ih0 _ _ _ _ _ _ _ _ _ _
      | exact impl_RayNext.mono _ _ _ _ _
      | exact impl_SightMany.mono _ _ _
      | exact impl_SightRay.mono _ _ _ _
      | exact spec_DrawSightRay.mono _ _
      | exact spec_SightRay.mono _ _ _ _
      | exact LeO.none _
      | refine LeO.ite ?_ ?_
      | refine LeO.bind ?_ (fun _ => ?_)
set_option maxHeartbeats 8000000 in
set_option maxRecDepth 100000 in
theorem laws_FnSightBack.calls (k : Nat) (A0 : Option Addr) (c0 : Nat) (l0 : List Int) (r : Bool) (w : World) (hr0 : Kd.C (Kd.int .u8) w A0 l0.length l0) (hc0 : l0.length ≤ c0) (h : laws_FnSightBack.f k l0 = some r) (hrt : r = true) :
    Calls Try.prog 8 #[.slice A0 l0.length c0] w fun e w' => e = .returned (.bool r) ∧ Below w.heap.size w w' := by
  have HRT := Aside0.mk hrt
  clear hrt
  have hu25 := Try.underlying25
  have hu29 := Try.underlying29
  have HR0 := Aside0.mk hr0
  have HC0 := Aside0.mk hc0
  clear hr0 hc0
  have HB := Aside0.mk (Below.refl w.heap.size w)
  have H : (if (l0.length : Int) > 1048576 then (some true) else ((spec_DrawSightRay.f k l0).bind fun bt423 => ((spec_SightRay.f k bt423.1 bt423.2.1 bt423.2.2).bind fun bt429 => ((impl_SightRay.f k bt423.1 bt423.2.1 bt423.2.2).bind fun bt433 => (if (bt433.2.2 != bt429.2.2) = true then (laws_FnSightBack.j0 k bt423.2.2 bt429.2.2 bt433.2.2 true bt423.1 bt423.2.1 bt429.1 bt429.2.1 bt433.1 bt433.2.1) else (if (!(bt433.1 == bt429.1) || (!(bt433.2.1 == bt429.2.1))) = true then (laws_FnSightBack.j0 k bt423.2.2 bt429.2.2 bt433.2.2 true bt423.1 bt423.2.1 bt429.1 bt429.2.1 bt433.1 bt433.2.1) else (laws_FnSightBack.j0 k bt423.2.2 bt429.2.2 bt433.2.2 (!bt433.2.2) bt423.1 bt423.2.1 bt429.1 bt429.2.1 bt433.1 bt433.2.1))))))) = some r := h
  clear h
  by_cases c2 : (l0.length : Int) > 1048576
  · rw [if_pos c2] at H
    have c2b0 : decide (1048576 < (l0.length : Int)) = true := decide_eq_true c2
    have c2b1 : decide (1048576 < l0.length) = true := decide_eq_true (by omega)
    clear c2
    obtain rfl := Option.some.inj H
    go_enter Try.func8, Try.ntmps8
    go_wp2
    go_ret
    exact ⟨by first | rfl | (simp [errW_none, errW_some] <;> rfl) | (simp [*, errW_none, errW_some] <;> rfl) | (exfalso; simp_all; done), by repeat (first | (with_reducible first | exact HB.out | apply below_alloc | apply pw_below_drewN | apply below_drew1) | exact HB.out)⟩
  · rw [if_neg c2] at H
    have c2b0 : decide (1048576 < (l0.length : Int)) = false := decide_eq_false c2
    have c2b1 : decide (1048576 < l0.length) = false := decide_eq_false (by omega)
    clear c2
    replace H := Option.bind_eq_some_iff.mp H
    obtain ⟨⟨t423, t424, t427⟩, A30, H⟩ := H
    replace H : ((spec_SightRay.f k t423 t424 t427).bind fun bt429 => ((impl_SightRay.f k t423 t424 t427).bind fun bt433 => (if (bt433.2.2 != bt429.2.2) = true then (laws_FnSightBack.j0 k t427 bt429.2.2 bt433.2.2 true t423 t424 bt429.1 bt429.2.1 bt433.1 bt433.2.1) else (if (!(bt433.1 == bt429.1) || (!(bt433.2.1 == bt429.2.1))) = true then (laws_FnSightBack.j0 k t427 bt429.2.2 bt433.2.2 true t423 t424 bt429.1 bt429.2.1 bt433.1 bt433.2.1) else (laws_FnSightBack.j0 k t427 bt429.2.2 bt433.2.2 (!bt433.2.2) t423 t424 bt429.1 bt429.2.1 bt433.1 bt433.2.1))))) = some r := H
    have A3 := Aside0.mk A30
    clear A30
    replace H := Option.bind_eq_some_iff.mp H
    obtain ⟨⟨t429, t430, t431⟩, A40, H⟩ := H
    replace H : ((impl_SightRay.f k t423 t424 t427).bind fun bt433 => (if (bt433.2.2 != t431) = true then (laws_FnSightBack.j0 k t427 t431 bt433.2.2 true t423 t424 t429 t430 bt433.1 bt433.2.1) else (if (!(bt433.1 == t429) || (!(bt433.2.1 == t430))) = true then (laws_FnSightBack.j0 k t427 t431 bt433.2.2 true t423 t424 t429 t430 bt433.1 bt433.2.1) else (laws_FnSightBack.j0 k t427 t431 bt433.2.2 (!bt433.2.2) t423 t424 t429 t430 bt433.1 bt433.2.1)))) = some r := H
    have A4 := Aside0.mk A40
    clear A40
    replace H := Option.bind_eq_some_iff.mp H
    obtain ⟨⟨t433, t434, t435⟩, A50, H⟩ := H
    replace H : (if (t435 != t431) = true then (laws_FnSightBack.j0 k t427 t431 t435 true t423 t424 t429 t430 t433 t434) else (if (!(t433 == t429) || (!(t434 == t430))) = true then (laws_FnSightBack.j0 k t427 t431 t435 true t423 t424 t429 t430 t433 t434) else (laws_FnSightBack.j0 k t427 t431 t435 (!t435) t423 t424 t429 t430 t433 t434))) = some r := H
    have A5 := Aside0.mk A50
    clear A50
    have HC6 := Aside0.mk H
    clear H
    go_enter Try.func8, Try.ntmps8
    go_upto_region 6 with (first | ((with_reducible refine gate_callee (f := 21) rfl ?_); refine goesL_ (some 16) rfl rfl Try.func21 (by kernel_rfl) rfl #[.slice A0 l0.length c0] rfl (by (try simp only [List.map_toArray, List.map_cons, List.map_nil]); first | done | rfl | (simp only [List.length_drop, List.length_take]; rfl)) ?_; (with_reducible refine (spec_DrawSightRay.calls k _ _ l0 t423 t424 t427 _ ?side1 ?side2 A3.out).mono ?_); (case side1 => repeat (first | exact HR0.out | (with_reducible refine Kd.C_alloc ?_ _) | (with_reducible refine Kd.C_drewN ?_ _) | (with_reducible refine Kd.C_drew ?_))); (case side2 => exact HC0.out); rintro e w7 ⟨v425, rfl, ho0, hb⟩; refine ⟨_, rfl, ?_⟩; have n0_ := Aside0.mk (Kd.Q_lower ho0 (below_size (by repeat (first | (with_reducible first | exact HB.out | apply below_alloc | apply pw_below_drewN | apply below_drew1) | exact HB.out)))); have n1_ := Aside0.mk (below_step (by repeat (first | (with_reducible first | exact HB.out | apply below_alloc | apply pw_below_drewN | apply below_drew1) | exact HB.out)) hb); clear HB; have HO426 := n0_; have HB := n1_; clear n0_ n1_; (try clear hb); (try clear hb2); (try clear hk); (try clear hi); (try clear ho0)) | ((with_reducible refine gate_dst (N := 3) rfl ?_); refine box_event ?hg (N := 3) ?hd (cs := #[.int .i64 0, .slice none 0 0]) (t := 25) ?hr ?_; (case hd => rfl); (case hg => rfl); (case hr => first | (go_simp; done) | (go_simp; rfl)); intro gb428 hg w8 hbox hb; have n0_ := Aside0.mk (Kd.Q_below (by (with_reducible repeat (first | apply Kd.Q_alloc | apply Kd.Q_drewN | apply Kd.Q_drew)); exact HO426.out) hb); have n1_ := Aside0.mk (below_step (by repeat (first | (with_reducible first | exact HB.out | apply below_alloc | apply pw_below_drewN | apply below_drew1) | exact HB.out)) hb); have n2_ := Aside0.mk (hbox); have n3_ := Aside0.mk ((by rw [hg]; exact (below_size (by repeat (first | (with_reducible first | exact HB.out | apply below_alloc | apply pw_below_drewN | apply below_drew1) | exact HB.out))) : w.heap.size ≤ gb428)); have n4_ := Aside0.mk ((by rw [hg]; exact (below_size (by repeat (first | (with_reducible first | exact HB.out | apply below_alloc | apply pw_below_drewN | apply below_drew1) | exact HB.out))) : w.heap.size ≤ gb428)); clear HO426; clear HB; have HO426 := n0_; have HB := n1_; have BK428 := n2_; have GW428 := n3_; have GE428 := n4_; clear n0_ n1_ n2_ n3_ n4_; clear hb hbox hg; have hcz9_0 : w8.cell? ⟨gb428, 0, none⟩ = some (.int .i64 0) := (blk_cell BK428.out 0).trans rfl; have hcz9_1 : w8.cell? ⟨gb428, 1, none⟩ = some (.slice none 0 0) := (blk_cell BK428.out 1).trans rfl; have hfz9_0 := blk_frozen BK428.out 0; have hfz9_1 := blk_frozen BK428.out 1; obtain ⟨Ao10, co10, eo10, _⟩ := Kd.Q_slice HO426.out; subst eo10) | ((with_reducible refine gate_callee (f := 22) rfl ?_); refine goesL_ (some 22) rfl rfl Try.func22 (by kernel_rfl) rfl #[.agg #[.int .i64 t423, .slice Ao10 t424.length co10], .int .i64 t427] rfl (by (try simp only [List.map_toArray, List.map_cons, List.map_nil]); first | done | rfl | (simp only [List.length_drop, List.length_take]; rfl)) ?_; (with_reducible refine (spec_SightRay.calls k t423 _ _ t424 t427 t429 t430 t431 _ ?side1 ?side2 A4.out).mono ?_); (case side1 => refine (Kd.Q_reads' (e := 42) (base := w.heap.size) (ok := fun k_ => True) (n := t424.length) (c := co10) ?_).2.2; exact (by (with_reducible repeat (first | apply Kd.Q_alloc | apply Kd.Q_drewN | apply Kd.Q_drew)); exact (Kd.Q_mono (Kd.Q_far (p := ⟨gb428, 1, none⟩) (Kd.Q_far (p := ⟨gb428, 0, none⟩) (Kd.Q_types HO426.out BK428.out (by decide)) (fun _ hk => hk.2) (.int .i64 t423)) (fun _ hk => hk.2) (.slice Ao10 t424.length co10)) (fun _ h_ => h_.1)))); (case side2 => exact (Kd.Q_reads' HO426.out).2.1); rintro e w11 ⟨rfl, hb⟩; refine ⟨_, rfl, ?_⟩; have n0_ := Aside0.mk (Kd.Q_below (by (with_reducible repeat (first | apply Kd.Q_alloc | apply Kd.Q_drewN | apply Kd.Q_drew)); exact (Kd.Q_mono (Kd.Q_far (p := ⟨gb428, 1, none⟩) (Kd.Q_far (p := ⟨gb428, 0, none⟩) (Kd.Q_types HO426.out BK428.out (by decide)) (fun _ hk => hk.2) (.int .i64 t423)) (fun _ hk => hk.2) (.slice Ao10 t424.length co10)) (fun _ h_ => h_.1))) hb); have n1_ := Aside0.mk (blk_below (g := gb428) (o := .cells #[.int .i64 t423, .slice Ao10 t424.length co10] 25 (0, 0)) (by (with_reducible repeat (first | refine blk_drewN ?_ _ | refine blk_drew ?_ | refine blk_alloc ?_ _)); refine blk_put (cs := #[.int .i64 t423, .slice none 0 0]) ?_ 1 _ rfl; (with_reducible repeat (first | refine blk_drewN ?_ _ | refine blk_drew ?_ | refine blk_alloc ?_ _)); refine blk_put (cs := #[.int .i64 0, .slice none 0 0]) ?_ 0 _ rfl; (with_reducible repeat (first | refine blk_drewN ?_ _ | refine blk_drew ?_ | refine blk_alloc ?_ _)); exact BK428.out) hb); have n2_ := Aside0.mk (below_step (by repeat (first | (with_reducible first | exact HB.out | apply below_alloc | apply pw_below_drewN | apply below_drew1 | refine below_set ?_ GE428.out) | exact HB.out)) hb); clear HO426; clear BK428; clear HB; have HO426 := n0_; have BK428 := n1_; have HB := n2_; clear n0_ n1_ n2_; (try clear hb); (try clear hb2); (try clear hk); (try clear hi)) | ((with_reducible refine gate_dst (N := 5) rfl ?_); refine box_event ?hg (N := 5) ?hd (cs := #[.int .i64 0, .int .i64 0]) (t := 29) ?hr ?_; (case hd => rfl); (case hg => rfl); (case hr => first | (go_simp; done) | (go_simp; rfl)); intro gb432 hg w12 hbox hb; have n0_ := Aside0.mk (Kd.Q_below (by (with_reducible repeat (first | apply Kd.Q_alloc | apply Kd.Q_drewN | apply Kd.Q_drew)); exact HO426.out) hb); have n1_ := Aside0.mk (blk_below (g := gb428) (o := .cells #[.int .i64 t423, .slice Ao10 t424.length co10] 25 (0, 0)) (by (with_reducible repeat (first | refine blk_drewN ?_ _ | refine blk_drew ?_ | refine blk_alloc ?_ _)); exact BK428.out) hb); have n2_ := Aside0.mk (below_step (by repeat (first | (with_reducible first | exact HB.out | apply below_alloc | apply pw_below_drewN | apply below_drew1 | refine below_set ?_ GE428.out) | exact HB.out)) hb); have n3_ := Aside0.mk (hbox); have n4_ := Aside0.mk ((by rw [hg]; exact (below_size (by repeat (first | (with_reducible first | exact HB.out | apply below_alloc | apply pw_below_drewN | apply below_drew1 | refine below_set ?_ GE428.out) | exact HB.out))) : w.heap.size ≤ gb432)); have n5_ := Aside0.mk ((by rw [hg]; exact (below_size (by repeat (first | (with_reducible first | exact HB.out | apply below_alloc | apply pw_below_drewN | apply below_drew1 | refine below_set ?_ GE428.out) | exact HB.out))) : w.heap.size ≤ gb432)); have n6_ := Aside0.mk ((by rw [hg]; exact Nat.ne_of_lt (blk_lt (g := gb428) (o := .cells #[.int .i64 t423, .slice Ao10 t424.length co10] 25 (0, 0)) (by (with_reducible repeat (first | refine blk_drewN ?_ _ | refine blk_drew ?_ | refine blk_alloc ?_ _)); exact BK428.out)) : gb428 ≠ gb432)); have n7_ := Aside0.mk ((by rw [hg]; exact Nat.ne_of_gt (blk_lt (g := gb428) (o := .cells #[.int .i64 t423, .slice Ao10 t424.length co10] 25 (0, 0)) (by (with_reducible repeat (first | refine blk_drewN ?_ _ | refine blk_drew ?_ | refine blk_alloc ?_ _)); exact BK428.out)) : gb432 ≠ gb428)); clear HO426; clear BK428; clear HB; have HO426 := n0_; have BK428 := n1_; have HB := n2_; have BK432 := n3_; have GW432 := n4_; have GE432 := n5_; have NB428_432 := n6_; have NB432_428 := n7_; clear n0_ n1_ n2_ n3_ n4_ n5_ n6_ n7_; clear hb hbox hg; have hnb13 := NB432_428.out; have hnc13 := NB428_432.out; have hcz14_0 : w12.cell? ⟨gb432, 0, none⟩ = some (.int .i64 0) := (blk_cell BK432.out 0).trans rfl; have hcz14_1 : w12.cell? ⟨gb432, 1, none⟩ = some (.int .i64 0) := (blk_cell BK432.out 1).trans rfl; have hfz14_0 := blk_frozen BK432.out 0; have hfz14_1 := blk_frozen BK432.out 1; have hcz15_0 : w12.cell? ⟨gb428, 0, none⟩ = some (.int .i64 t423) := (blk_cell BK428.out 0).trans rfl; have hcz15_1 : w12.cell? ⟨gb428, 1, none⟩ = some (.slice Ao10 t424.length co10) := (blk_cell BK428.out 1).trans rfl; have hfz15_0 := blk_frozen BK428.out 0; have hfz15_1 := blk_frozen BK428.out 1) | ((with_reducible refine gate_callee (f := 15) rfl ?_); refine goesL_ (some 28) rfl rfl Try.func15 (by kernel_rfl) rfl #[.agg #[.int .i64 t423, .slice Ao10 t424.length co10], .int .i64 t427] rfl (by (try simp only [List.map_toArray, List.map_cons, List.map_nil]); first | done | rfl | (simp only [List.length_drop, List.length_take]; rfl)) ?_; (with_reducible refine (impl_SightRay.calls k t423 _ _ t424 t427 t433 t434 t435 _ ?side1 ?side2 A5.out).mono ?_); (case side1 => refine (Kd.Q_reads' (e := 42) (base := w.heap.size) (ok := fun k_ => True) (n := t424.length) (c := co10) ?_).2.2; exact (by (with_reducible repeat (first | apply Kd.Q_alloc | apply Kd.Q_drewN | apply Kd.Q_drew)); exact (Kd.Q_mono (Kd.Q_far (p := ⟨gb432, 1, none⟩) (Kd.Q_far (p := ⟨gb432, 0, none⟩) (Kd.Q_types HO426.out BK432.out (by decide)) (fun _ hk => hk.2) (.int .i64 t429)) (fun _ hk => hk.2) (.int .i64 t430)) (fun _ h_ => h_.1)))); (case side2 => exact (Kd.Q_reads' HO426.out).2.1); rintro e w16 ⟨rfl, hb⟩; refine ⟨_, rfl, ?_⟩; have n0_ := Aside0.mk (Kd.Q_below (by (with_reducible repeat (first | apply Kd.Q_alloc | apply Kd.Q_drewN | apply Kd.Q_drew)); exact (Kd.Q_mono (Kd.Q_far (p := ⟨gb432, 1, none⟩) (Kd.Q_far (p := ⟨gb432, 0, none⟩) (Kd.Q_types HO426.out BK432.out (by decide)) (fun _ hk => hk.2) (.int .i64 t429)) (fun _ hk => hk.2) (.int .i64 t430)) (fun _ h_ => h_.1))) hb); have n1_ := Aside0.mk (blk_below (g := gb428) (o := .cells #[.int .i64 t423, .slice Ao10 t424.length co10] 25 (0, 0)) (by (with_reducible repeat (first | refine blk_drewN ?_ _ | refine blk_drew ?_ | refine blk_alloc ?_ _)); refine blk_far ?_ NB428_432.out _; (with_reducible repeat (first | refine blk_drewN ?_ _ | refine blk_drew ?_ | refine blk_alloc ?_ _)); refine blk_far ?_ NB428_432.out _; (with_reducible repeat (first | refine blk_drewN ?_ _ | refine blk_drew ?_ | refine blk_alloc ?_ _)); exact BK428.out) hb); have n2_ := Aside0.mk (blk_below (g := gb432) (o := .cells #[.int .i64 t429, .int .i64 t430] 29 (0, 0)) (by (with_reducible repeat (first | refine blk_drewN ?_ _ | refine blk_drew ?_ | refine blk_alloc ?_ _)); refine blk_put (cs := #[.int .i64 t429, .int .i64 0]) ?_ 1 _ rfl; (with_reducible repeat (first | refine blk_drewN ?_ _ | refine blk_drew ?_ | refine blk_alloc ?_ _)); refine blk_put (cs := #[.int .i64 0, .int .i64 0]) ?_ 0 _ rfl; (with_reducible repeat (first | refine blk_drewN ?_ _ | refine blk_drew ?_ | refine blk_alloc ?_ _)); exact BK432.out) hb); have n3_ := Aside0.mk (below_step (by repeat (first | (with_reducible first | exact HB.out | apply below_alloc | apply pw_below_drewN | apply below_drew1 | refine below_set ?_ GE428.out | refine below_set ?_ GE432.out) | exact HB.out)) hb); clear HO426; clear BK428; clear BK432; clear HB; have HO426 := n0_; have BK428 := n1_; have BK432 := n2_; have HB := n3_; clear n0_ n1_ n2_ n3_; (try clear hb); (try clear hb2); (try clear hk); (try clear hi)) | ((with_reducible refine gate_dst (N := 7) rfl ?_); refine box_event ?hg (N := 7) ?hd (cs := #[.int .i64 0, .int .i64 0]) (t := 29) ?hr ?_; (case hd => rfl); (case hg => rfl); (case hr => first | (go_simp; done) | (go_simp; rfl)); intro gb436 hg w17 hbox hb; have n0_ := Aside0.mk (Kd.Q_below (by (with_reducible repeat (first | apply Kd.Q_alloc | apply Kd.Q_drewN | apply Kd.Q_drew)); exact HO426.out) hb); have n1_ := Aside0.mk (blk_below (g := gb428) (o := .cells #[.int .i64 t423, .slice Ao10 t424.length co10] 25 (0, 0)) (by (with_reducible repeat (first | refine blk_drewN ?_ _ | refine blk_drew ?_ | refine blk_alloc ?_ _)); exact BK428.out) hb); have n2_ := Aside0.mk (blk_below (g := gb432) (o := .cells #[.int .i64 t429, .int .i64 t430] 29 (0, 0)) (by (with_reducible repeat (first | refine blk_drewN ?_ _ | refine blk_drew ?_ | refine blk_alloc ?_ _)); exact BK432.out) hb); have n3_ := Aside0.mk (below_step (by repeat (first | (with_reducible first | exact HB.out | apply below_alloc | apply pw_below_drewN | apply below_drew1 | refine below_set ?_ GE428.out | refine below_set ?_ GE432.out) | exact HB.out)) hb); have n4_ := Aside0.mk (hbox); have n5_ := Aside0.mk ((by rw [hg]; exact (below_size (by repeat (first | (with_reducible first | exact HB.out | apply below_alloc | apply pw_below_drewN | apply below_drew1 | refine below_set ?_ GE428.out | refine below_set ?_ GE432.out) | exact HB.out))) : w.heap.size ≤ gb436)); have n6_ := Aside0.mk ((by rw [hg]; exact (below_size (by repeat (first | (with_reducible first | exact HB.out | apply below_alloc | apply pw_below_drewN | apply below_drew1 | refine below_set ?_ GE428.out | refine below_set ?_ GE432.out) | exact HB.out))) : w.heap.size ≤ gb436)); have n7_ := Aside0.mk ((by rw [hg]; exact Nat.ne_of_lt (blk_lt (g := gb428) (o := .cells #[.int .i64 t423, .slice Ao10 t424.length co10] 25 (0, 0)) (by (with_reducible repeat (first | refine blk_drewN ?_ _ | refine blk_drew ?_ | refine blk_alloc ?_ _)); exact BK428.out)) : gb428 ≠ gb436)); have n8_ := Aside0.mk ((by rw [hg]; exact Nat.ne_of_gt (blk_lt (g := gb428) (o := .cells #[.int .i64 t423, .slice Ao10 t424.length co10] 25 (0, 0)) (by (with_reducible repeat (first | refine blk_drewN ?_ _ | refine blk_drew ?_ | refine blk_alloc ?_ _)); exact BK428.out)) : gb436 ≠ gb428)); have n9_ := Aside0.mk ((by rw [hg]; exact Nat.ne_of_lt (blk_lt (g := gb432) (o := .cells #[.int .i64 t429, .int .i64 t430] 29 (0, 0)) (by (with_reducible repeat (first | refine blk_drewN ?_ _ | refine blk_drew ?_ | refine blk_alloc ?_ _)); exact BK432.out)) : gb432 ≠ gb436)); have n10_ := Aside0.mk ((by rw [hg]; exact Nat.ne_of_gt (blk_lt (g := gb432) (o := .cells #[.int .i64 t429, .int .i64 t430] 29 (0, 0)) (by (with_reducible repeat (first | refine blk_drewN ?_ _ | refine blk_drew ?_ | refine blk_alloc ?_ _)); exact BK432.out)) : gb436 ≠ gb432)); clear HO426; clear BK428; clear BK432; clear HB; have HO426 := n0_; have BK428 := n1_; have BK432 := n2_; have HB := n3_; have BK436 := n4_; have GW436 := n5_; have GE436 := n6_; have NB428_436 := n7_; have NB436_428 := n8_; have NB432_436 := n9_; have NB436_432 := n10_; clear n0_ n1_ n2_ n3_ n4_ n5_ n6_ n7_ n8_ n9_ n10_; clear hb hbox hg; have hnb18 := NB436_428.out; have hnc18 := NB428_436.out; have hnb19 := NB436_432.out; have hnc19 := NB432_436.out; have hcz20_0 : w17.cell? ⟨gb436, 0, none⟩ = some (.int .i64 0) := (blk_cell BK436.out 0).trans rfl; have hcz20_1 : w17.cell? ⟨gb436, 1, none⟩ = some (.int .i64 0) := (blk_cell BK436.out 1).trans rfl; have hfz20_0 := blk_frozen BK436.out 0; have hfz20_1 := blk_frozen BK436.out 1))
    (try simp only [Act.put, List.setIfInBounds_toArray, List.set_cons_zero, List.set_cons_succ])
    go_cut [42] (fun v42 wc => ∃ (kq : Nat) (x42_5 : Bool), v42 = .bool x42_5 ∧ Aside0 (laws_FnSightBack.j0 kq t427 t431 t435 x42_5 t423 t424 t429 t430 t433 t434 = some r) ∧ Aside0 (kq ≤ k) ∧ Aside0 (Kd.Q k42 42 wc w.heap.size (fun _ => True) (.slice Ao10 t424.length co10) t424) ∧ Aside0 (wc.heap[gb428]? = some (.cells #[.int .i64 t423, (.slice Ao10 t424.length co10)] 25 (0, 0))) ∧ Aside0 (wc.heap[gb432]? = some (.cells #[.int .i64 t429, .int .i64 t430] 29 (0, 0))) ∧ Aside0 (wc.heap[gb436]? = some (.cells #[.int .i64 t433, .int .i64 t434] 29 (0, 0))) ∧ Aside0 (Below w.heap.size w wc))
    case first =>
      have H := HC6.out
      clear HC6
      by_cases c21 : (t435 != t431) = true
      · rw [if_pos c21] at H
        have c21b0 : (t435 != t431) = true := c21
        (try (have c21b1 : decide (t435 = t431) = false := by simpa using c21))
        (try (have c21b2 : (t435 == t431) = false := by simpa using c21))
        (try (have c21b3 : ¬ (t435 = t431) := by simpa using c21))
        clear c21
        (first | rw [c21b0] | (simp only [i64_w, i32_w]; rw [c21b0]) | skip)
        have H' := Aside0.mk H
        clear H
        go_wp2
        go_meet
        case rel => exact ⟨_, (true), (by first | rfl | (simp; done) | (simp [*]; done)), H', ⟨by first | omega | exact Nat.le_refl _⟩, ⟨by (with_reducible repeat (first | apply Kd.Q_alloc | apply Kd.Q_drewN | apply Kd.Q_drew)); exact Kd.Q_mono (Kd.Q_far (p := ⟨gb436, 1, none⟩) (Kd.Q_far (p := ⟨gb436, 0, none⟩) (Kd.Q_types HO426.out BK436.out (by decide)) (fun _ hk => hk.2) (.int .i64 t433)) (fun _ hk => hk.2) (.int .i64 t434)) (fun _ hk => trivial)⟩, ⟨by (with_reducible repeat (first | refine blk_drewN ?_ _ | refine blk_drew ?_ | refine blk_alloc ?_ _)); refine blk_far ?_ NB428_436.out _; (with_reducible repeat (first | refine blk_drewN ?_ _ | refine blk_drew ?_ | refine blk_alloc ?_ _)); refine blk_far ?_ NB428_436.out _; (with_reducible repeat (first | refine blk_drewN ?_ _ | refine blk_drew ?_ | refine blk_alloc ?_ _)); exact BK428.out⟩, ⟨by (with_reducible repeat (first | refine blk_drewN ?_ _ | refine blk_drew ?_ | refine blk_alloc ?_ _)); refine blk_far ?_ NB432_436.out _; (with_reducible repeat (first | refine blk_drewN ?_ _ | refine blk_drew ?_ | refine blk_alloc ?_ _)); refine blk_far ?_ NB432_436.out _; (with_reducible repeat (first | refine blk_drewN ?_ _ | refine blk_drew ?_ | refine blk_alloc ?_ _)); exact BK432.out⟩, ⟨by (with_reducible repeat (first | refine blk_drewN ?_ _ | refine blk_drew ?_ | refine blk_alloc ?_ _)); refine blk_put (cs := #[.int .i64 t433, .int .i64 0]) ?_ 1 _ rfl; (with_reducible repeat (first | refine blk_drewN ?_ _ | refine blk_drew ?_ | refine blk_alloc ?_ _)); refine blk_put (cs := #[.int .i64 0, .int .i64 0]) ?_ 0 _ rfl; (with_reducible repeat (first | refine blk_drewN ?_ _ | refine blk_drew ?_ | refine blk_alloc ?_ _)); exact BK436.out⟩, ⟨by repeat (first | (with_reducible first | exact HB.out | apply below_alloc | apply pw_below_drewN | apply below_drew1 | refine below_set ?_ GE428.out | refine below_set ?_ GE432.out | refine below_set ?_ GE436.out) | exact HB.out)⟩⟩
      · rw [if_neg c21] at H
        have c21b0 : (t435 != t431) = false := by simpa using c21
        (try (have c21b1 : decide (t435 = t431) = true := by simpa using c21))
        (try (have c21b2 : (t435 == t431) = true := by simpa using c21))
        clear c21
        (first | rw [c21b0] | (simp only [i64_w, i32_w]; rw [c21b0]) | skip)
        by_cases c22 : (!(t433 == t429) || (!(t434 == t430))) = true
        · rw [if_pos c22] at H
          have c22b0 : (!(t433 == t429) || (!(t434 == t430))) = true := c22
          clear c22
          have H' := Aside0.mk H
          clear H
          have hnb23 := NB436_428.out
          have hnc23 := NB428_436.out
          have hnb24 := NB436_432.out
          have hnc24 := NB432_436.out
          have hcz25_0 : w17.cell? ⟨gb436, 0, none⟩ = some (.int .i64 0) := (blk_cell BK436.out 0).trans rfl
          have hcz25_1 : w17.cell? ⟨gb436, 1, none⟩ = some (.int .i64 0) := (blk_cell BK436.out 1).trans rfl
          have hfz25_0 := blk_frozen BK436.out 0
          have hfz25_1 := blk_frozen BK436.out 1
          have hnb26 := NB432_428.out
          have hnc26 := NB428_432.out
          have hcz27_0 : w17.cell? ⟨gb432, 0, none⟩ = some (.int .i64 t429) := (blk_cell BK432.out 0).trans rfl
          have hcz27_1 : w17.cell? ⟨gb432, 1, none⟩ = some (.int .i64 t430) := (blk_cell BK432.out 1).trans rfl
          have hfz27_0 := blk_frozen BK432.out 0
          have hfz27_1 := blk_frozen BK432.out 1
          go_wp2
          go_meet
          case rel => exact ⟨_, (true), (by first | rfl | (simp; done) | (simp [*]; done)), H', ⟨by first | omega | exact Nat.le_refl _⟩, ⟨by (with_reducible repeat (first | apply Kd.Q_alloc | apply Kd.Q_drewN | apply Kd.Q_drew)); exact Kd.Q_mono (Kd.Q_far (p := ⟨gb436, 1, none⟩) (Kd.Q_far (p := ⟨gb436, 0, none⟩) (Kd.Q_types HO426.out BK436.out (by decide)) (fun _ hk => hk.2) (.int .i64 t433)) (fun _ hk => hk.2) (.int .i64 t434)) (fun _ hk => trivial)⟩, ⟨by (with_reducible repeat (first | refine blk_drewN ?_ _ | refine blk_drew ?_ | refine blk_alloc ?_ _)); refine blk_far ?_ NB428_436.out _; (with_reducible repeat (first | refine blk_drewN ?_ _ | refine blk_drew ?_ | refine blk_alloc ?_ _)); refine blk_far ?_ NB428_436.out _; (with_reducible repeat (first | refine blk_drewN ?_ _ | refine blk_drew ?_ | refine blk_alloc ?_ _)); exact BK428.out⟩, ⟨by (with_reducible repeat (first | refine blk_drewN ?_ _ | refine blk_drew ?_ | refine blk_alloc ?_ _)); refine blk_far ?_ NB432_436.out _; (with_reducible repeat (first | refine blk_drewN ?_ _ | refine blk_drew ?_ | refine blk_alloc ?_ _)); refine blk_far ?_ NB432_436.out _; (with_reducible repeat (first | refine blk_drewN ?_ _ | refine blk_drew ?_ | refine blk_alloc ?_ _)); exact BK432.out⟩, ⟨by (with_reducible repeat (first | refine blk_drewN ?_ _ | refine blk_drew ?_ | refine blk_alloc ?_ _)); refine blk_put (cs := #[.int .i64 t433, .int .i64 0]) ?_ 1 _ rfl; (with_reducible repeat (first | refine blk_drewN ?_ _ | refine blk_drew ?_ | refine blk_alloc ?_ _)); refine blk_put (cs := #[.int .i64 0, .int .i64 0]) ?_ 0 _ rfl; (with_reducible repeat (first | refine blk_drewN ?_ _ | refine blk_drew ?_ | refine blk_alloc ?_ _)); exact BK436.out⟩, ⟨by repeat (first | (with_reducible first | exact HB.out | apply below_alloc | apply pw_below_drewN | apply below_drew1 | refine below_set ?_ GE428.out | refine below_set ?_ GE432.out | refine below_set ?_ GE436.out) | exact HB.out)⟩⟩
        · rw [if_neg c22] at H
          have c22b0 : (!(t433 == t429) || (!(t434 == t430))) = false := by simpa using c22
          clear c22
          have H' := Aside0.mk H
          clear H
          have hnb28 := NB436_428.out
          have hnc28 := NB428_436.out
          have hnb29 := NB436_432.out
          have hnc29 := NB432_436.out
          have hcz30_0 : w17.cell? ⟨gb436, 0, none⟩ = some (.int .i64 0) := (blk_cell BK436.out 0).trans rfl
          have hcz30_1 : w17.cell? ⟨gb436, 1, none⟩ = some (.int .i64 0) := (blk_cell BK436.out 1).trans rfl
          have hfz30_0 := blk_frozen BK436.out 0
          have hfz30_1 := blk_frozen BK436.out 1
          have hnb31 := NB432_428.out
          have hnc31 := NB428_432.out
          have hcz32_0 : w17.cell? ⟨gb432, 0, none⟩ = some (.int .i64 t429) := (blk_cell BK432.out 0).trans rfl
          have hcz32_1 : w17.cell? ⟨gb432, 1, none⟩ = some (.int .i64 t430) := (blk_cell BK432.out 1).trans rfl
          have hfz32_0 := blk_frozen BK432.out 0
          have hfz32_1 := blk_frozen BK432.out 1
          go_wp2
          go_meet
          case rel => exact ⟨_, (!t435), (by first | rfl | (simp; done) | (simp [*]; done)), H', ⟨by first | omega | exact Nat.le_refl _⟩, ⟨by (with_reducible repeat (first | apply Kd.Q_alloc | apply Kd.Q_drewN | apply Kd.Q_drew)); exact Kd.Q_mono (Kd.Q_far (p := ⟨gb436, 1, none⟩) (Kd.Q_far (p := ⟨gb436, 0, none⟩) (Kd.Q_types HO426.out BK436.out (by decide)) (fun _ hk => hk.2) (.int .i64 t433)) (fun _ hk => hk.2) (.int .i64 t434)) (fun _ hk => trivial)⟩, ⟨by (with_reducible repeat (first | refine blk_drewN ?_ _ | refine blk_drew ?_ | refine blk_alloc ?_ _)); refine blk_far ?_ NB428_436.out _; (with_reducible repeat (first | refine blk_drewN ?_ _ | refine blk_drew ?_ | refine blk_alloc ?_ _)); refine blk_far ?_ NB428_436.out _; (with_reducible repeat (first | refine blk_drewN ?_ _ | refine blk_drew ?_ | refine blk_alloc ?_ _)); exact BK428.out⟩, ⟨by (with_reducible repeat (first | refine blk_drewN ?_ _ | refine blk_drew ?_ | refine blk_alloc ?_ _)); refine blk_far ?_ NB432_436.out _; (with_reducible repeat (first | refine blk_drewN ?_ _ | refine blk_drew ?_ | refine blk_alloc ?_ _)); refine blk_far ?_ NB432_436.out _; (with_reducible repeat (first | refine blk_drewN ?_ _ | refine blk_drew ?_ | refine blk_alloc ?_ _)); exact BK432.out⟩, ⟨by (with_reducible repeat (first | refine blk_drewN ?_ _ | refine blk_drew ?_ | refine blk_alloc ?_ _)); refine blk_put (cs := #[.int .i64 t433, .int .i64 0]) ?_ 1 _ rfl; (with_reducible repeat (first | refine blk_drewN ?_ _ | refine blk_drew ?_ | refine blk_alloc ?_ _)); refine blk_put (cs := #[.int .i64 0, .int .i64 0]) ?_ 0 _ rfl; (with_reducible repeat (first | refine blk_drewN ?_ _ | refine blk_drew ?_ | refine blk_alloc ?_ _)); exact BK436.out⟩, ⟨by repeat (first | (with_reducible first | exact HB.out | apply below_alloc | apply pw_below_drewN | apply below_drew1 | refine below_set ?_ GE428.out | refine below_set ?_ GE432.out | refine below_set ?_ GE436.out) | exact HB.out)⟩⟩
    case rest =>
      clear HC6
      try clear c1
      try clear c2
      try clear c2b0
      try clear c2b1
      try clear p2
      try clear c3
      try clear c8
      try clear c13
      try clear c15
      try clear c18
      try clear c19
      try clear c21
      try clear c21b0
      try clear c21b1
      try clear c21b2
      try clear c22
      try clear c22b0
      try clear c23
      try clear c24
      try clear c26
      try clear c28
      try clear c29
      try clear c31
      try clear hcz14_0
      try clear hcz14_1
      try clear hcz15_0
      try clear hcz15_1
      try clear hcz20_0
      try clear hcz20_1
      try clear hcz25_0
      try clear hcz25_1
      try clear hcz27_0
      try clear hcz27_1
      try clear hcz30_0
      try clear hcz30_1
      try clear hcz32_0
      try clear hcz32_1
      try clear hcz9_0
      try clear hcz9_1
      try clear hfz14_0
      try clear hfz14_1
      try clear hfz15_0
      try clear hfz15_1
      try clear hfz20_0
      try clear hfz20_1
      try clear hfz25_0
      try clear hfz25_1
      try clear hfz27_0
      try clear hfz27_1
      try clear hfz30_0
      try clear hfz30_1
      try clear hfz32_0
      try clear hfz32_1
      try clear hfz9_0
      try clear hfz9_1
      obtain ⟨kq, x42_5, rfl, HA, HJ5, HO_429001, BK428, BK432, BK436, HB⟩ := hcut
      cases kq with
      | zero => exact absurd HA.out (by simp [laws_FnSightBack.j0])
      | succ kj5 =>
        have H := HA.out
        clear HA
        simp only [laws_FnSightBack.j0] at H
        by_cases c33 : x42_5 = true
        · subst c33
          have H1 : (if (t435 == t431) = true then (some (t433 == t429 && (t434 == t430))) else (some false)) = some r := by rw [if_pos rfl] at H; exact H
          clear H
          have H := H1
          clear H1
          by_cases c34 : (t435 == t431) = true
          · rw [if_pos c34] at H
            have c34b0 : (t435 == t431) = true := c34
            (try (have c34b1 : decide (t435 = t431) = true := by simpa using c34))
            (try (have c34b2 : (t435 == t431) = true := by simpa using c34))
            clear c34
            obtain rfl := Option.some.inj H
            have hnb35 := NB436_428.out
            have hnc35 := NB428_436.out
            have hnb36 := NB436_432.out
            have hnc36 := NB432_436.out
            have hcz37_0 : wc.cell? ⟨gb436, 0, none⟩ = some (.int .i64 t433) := (blk_cell BK436.out 0).trans rfl
            have hcz37_1 : wc.cell? ⟨gb436, 1, none⟩ = some (.int .i64 t434) := (blk_cell BK436.out 1).trans rfl
            have hfz37_0 := blk_frozen BK436.out 0
            have hfz37_1 := blk_frozen BK436.out 1
            have hnb38 := NB432_428.out
            have hnc38 := NB428_432.out
            have hcz39_0 : wc.cell? ⟨gb432, 0, none⟩ = some (.int .i64 t429) := (blk_cell BK432.out 0).trans rfl
            have hcz39_1 : wc.cell? ⟨gb432, 1, none⟩ = some (.int .i64 t430) := (blk_cell BK432.out 1).trans rfl
            have hfz39_0 := blk_frozen BK432.out 0
            have hfz39_1 := blk_frozen BK432.out 1
            go_wp2
            go_ret
            exact ⟨by first | rfl | (simp [errW_none, errW_some] <;> rfl) | (simp [*, errW_none, errW_some] <;> rfl) | (exfalso; simp_all; done), by repeat (first | (with_reducible first | exact HB.out | apply below_alloc | apply pw_below_drewN | apply below_drew1 | refine below_set ?_ GE428.out | refine below_set ?_ GE432.out | refine below_set ?_ GE436.out) | exact HB.out)⟩
          · rw [if_neg c34] at H
            have c34b0 : (t435 == t431) = false := by simpa using c34
            (try (have c34b1 : decide (t435 = t431) = false := by simpa using c34))
            (try (have c34b2 : (t435 == t431) = false := by simpa using c34))
            (try (have c34b3 : ¬ (t435 = t431) := by simpa using c34))
            clear c34
            obtain rfl := Option.some.inj H
            exact absurd HRT.out (by decide)
        · replace c33 := Bool.eq_false_iff.mpr c33
          subst c33
          have H1 : ((impl_RayNext.f kj5 t423 t424 t433 (Int.tmod (wrap64 (t434 + 2)) 4)).bind fun bt437 => ((impl_SightOf.f t423 t424 t433 (Int.tmod (wrap64 (t434 + 2)) 4)).bind fun t441 => (if t441 = t427 then (if bt437.2.2 = true then (some false) else ((impl_SightMany.f kj5 t423 t424).bind fun t442 => (some (decide (t427 < t442))))) else (some false)))) = some r := by rw [if_neg (show ¬ (false = true) by decide)] at H; exact H
          clear H
          have H := H1
          clear H1
          replace H := Option.bind_eq_some_iff.mp H
          obtain ⟨⟨t437, t438, t439⟩, A400, H⟩ := H
          replace H : ((impl_SightOf.f t423 t424 t433 (Int.tmod (wrap64 (t434 + 2)) 4)).bind fun t441 => (if t441 = t427 then (if t439 = true then (some false) else ((impl_SightMany.f kj5 t423 t424).bind fun t442 => (some (decide (t427 < t442))))) else (some false))) = some r := H
          have A40 := Aside0.mk A400
          clear A400
          replace H := Option.bind_eq_some_iff.mp H
          obtain ⟨t441, A410, H⟩ := H
          replace H : (if t441 = t427 then (if t439 = true then (some false) else ((impl_SightMany.f kj5 t423 t424).bind fun t442 => (some (decide (t427 < t442))))) else (some false)) = some r := H
          have A41 := Aside0.mk A410
          clear A410
          by_cases c42 : t441 = t427
          · rw [if_pos c42] at H
            have c42b0 : (t441 == t427) = true := beq_iff_eq.mpr c42
            have c42b1 : (t441 != t427) = false := bne_eq_false_iff_eq.mpr c42
            clear c42
            by_cases c43 : t439 = true
            · subst c43
              have H1 : (some false) = some r := by rw [if_pos rfl] at H; exact H
              clear H
              have H := H1
              clear H1
              obtain rfl := Option.some.inj H
              exact absurd HRT.out (by decide)
            · replace c43 := Bool.eq_false_iff.mpr c43
              subst c43
              have H1 : ((impl_SightMany.f kj5 t423 t424).bind fun t442 => (some (decide (t427 < t442)))) = some r := by rw [if_neg (show ¬ (false = true) by decide)] at H; exact H
              clear H
              have H := H1
              clear H1
              replace H := Option.bind_eq_some_iff.mp H
              obtain ⟨t442, A440, H⟩ := H
              replace H : (some (decide (t427 < t442))) = some r := H
              have A44 := Aside0.mk A440
              clear A440
              obtain rfl := Option.some.inj H
              have hnb45 := NB428_432.out
              have hnc45 := NB432_428.out
              have hnb46 := NB428_436.out
              have hnc46 := NB436_428.out
              have hcz47_0 : wc.cell? ⟨gb428, 0, none⟩ = some (.int .i64 t423) := (blk_cell BK428.out 0).trans rfl
              have hcz47_1 : wc.cell? ⟨gb428, 1, none⟩ = some (.slice Ao10 t424.length co10) := (blk_cell BK428.out 1).trans rfl
              have hfz47_0 := blk_frozen BK428.out 0
              have hfz47_1 := blk_frozen BK428.out 1
              have hnb48 := NB436_432.out
              have hnc48 := NB432_436.out
              have hcz49_0 : wc.cell? ⟨gb436, 0, none⟩ = some (.int .i64 t433) := (blk_cell BK436.out 0).trans rfl
              have hcz49_1 : wc.cell? ⟨gb436, 1, none⟩ = some (.int .i64 t434) := (blk_cell BK436.out 1).trans rfl
              have hfz49_0 := blk_frozen BK436.out 0
              have hfz49_1 := blk_frozen BK436.out 1
              go_wp2_with (first | ((with_reducible refine gate_callee (f := 18) rfl ?_); refine goesL_ (some 59) rfl rfl Try.func18 (by kernel_rfl) rfl #[.agg #[.int .i64 t423, .slice Ao10 t424.length co10], .int .i64 t433, .int .i64 (Int.tmod (wrap64 (t434 + 2)) 4)] rfl (by (try simp only [List.map_toArray, List.map_cons, List.map_nil]); first | done | rfl | (simp only [List.length_drop, List.length_take]; rfl)) ?_; (with_reducible refine (impl_RayNext.calls kj5 t423 _ _ t424 t433 (Int.tmod (wrap64 (t434 + 2)) 4) t437 t438 false _ ?side1 ?side2 A40.out).mono ?_); (case side1 => repeat (first | exact (Kd.Q_reads' HO_429001.out).2.2 | (with_reducible refine Kd.C_alloc ?_ _) | (with_reducible refine Kd.C_drewN ?_ _) | (with_reducible refine Kd.C_drew ?_))); (case side2 => exact (Kd.Q_reads' HO_429001.out).2.1); rintro e w50 ⟨rfl, hb⟩; refine ⟨_, rfl, ?_⟩; have n0_ := Aside0.mk (Kd.Q_below (by (with_reducible repeat (first | apply Kd.Q_alloc | apply Kd.Q_drewN | apply Kd.Q_drew)); exact HO_429001.out) hb); have n1_ := Aside0.mk (blk_below (g := gb428) (o := .cells #[.int .i64 t423, .slice Ao10 t424.length co10] 25 (0, 0)) (by (with_reducible repeat (first | refine blk_drewN ?_ _ | refine blk_drew ?_ | refine blk_alloc ?_ _)); exact BK428.out) hb); have n2_ := Aside0.mk (blk_below (g := gb432) (o := .cells #[.int .i64 t429, .int .i64 t430] 29 (0, 0)) (by (with_reducible repeat (first | refine blk_drewN ?_ _ | refine blk_drew ?_ | refine blk_alloc ?_ _)); exact BK432.out) hb); have n3_ := Aside0.mk (blk_below (g := gb436) (o := .cells #[.int .i64 t433, .int .i64 t434] 29 (0, 0)) (by (with_reducible repeat (first | refine blk_drewN ?_ _ | refine blk_drew ?_ | refine blk_alloc ?_ _)); exact BK436.out) hb); have n4_ := Aside0.mk (below_step (by repeat (first | (with_reducible first | exact HB.out | apply below_alloc | apply pw_below_drewN | apply below_drew1 | refine below_set ?_ GE428.out | refine below_set ?_ GE432.out | refine below_set ?_ GE436.out) | exact HB.out)) hb); clear HO_429001; clear BK428; clear BK432; clear BK436; clear HB; have HO_429001 := n0_; have BK428 := n1_; have BK432 := n2_; have BK436 := n3_; have HB := n4_; clear n0_ n1_ n2_ n3_ n4_; (try clear hb); (try clear hb2); (try clear hk); (try clear hi)) | ((with_reducible refine gate_dst (N := 9) rfl ?_); refine box_event ?hg (N := 9) ?hd (cs := #[.int .i64 0, .int .i64 0]) (t := 29) ?hr ?_; (case hd => rfl); (case hg => rfl); (case hr => first | (go_simp; done) | (go_simp; rfl)); intro gb440 hg w51 hbox hb; have n0_ := Aside0.mk (Kd.Q_below (by (with_reducible repeat (first | apply Kd.Q_alloc | apply Kd.Q_drewN | apply Kd.Q_drew)); exact HO_429001.out) hb); have n1_ := Aside0.mk (blk_below (g := gb428) (o := .cells #[.int .i64 t423, .slice Ao10 t424.length co10] 25 (0, 0)) (by (with_reducible repeat (first | refine blk_drewN ?_ _ | refine blk_drew ?_ | refine blk_alloc ?_ _)); exact BK428.out) hb); have n2_ := Aside0.mk (blk_below (g := gb432) (o := .cells #[.int .i64 t429, .int .i64 t430] 29 (0, 0)) (by (with_reducible repeat (first | refine blk_drewN ?_ _ | refine blk_drew ?_ | refine blk_alloc ?_ _)); exact BK432.out) hb); have n3_ := Aside0.mk (blk_below (g := gb436) (o := .cells #[.int .i64 t433, .int .i64 t434] 29 (0, 0)) (by (with_reducible repeat (first | refine blk_drewN ?_ _ | refine blk_drew ?_ | refine blk_alloc ?_ _)); exact BK436.out) hb); have n4_ := Aside0.mk (below_step (by repeat (first | (with_reducible first | exact HB.out | apply below_alloc | apply pw_below_drewN | apply below_drew1 | refine below_set ?_ GE428.out | refine below_set ?_ GE432.out | refine below_set ?_ GE436.out) | exact HB.out)) hb); have n5_ := Aside0.mk (hbox); have n6_ := Aside0.mk ((by rw [hg]; exact (below_size (by repeat (first | (with_reducible first | exact HB.out | apply below_alloc | apply pw_below_drewN | apply below_drew1 | refine below_set ?_ GE428.out | refine below_set ?_ GE432.out | refine below_set ?_ GE436.out) | exact HB.out))) : w.heap.size ≤ gb440)); have n7_ := Aside0.mk ((by rw [hg]; exact (below_size (by repeat (first | (with_reducible first | exact HB.out | apply below_alloc | apply pw_below_drewN | apply below_drew1 | refine below_set ?_ GE428.out | refine below_set ?_ GE432.out | refine below_set ?_ GE436.out) | exact HB.out))) : w.heap.size ≤ gb440)); have n8_ := Aside0.mk ((by rw [hg]; exact Nat.ne_of_lt (blk_lt (g := gb428) (o := .cells #[.int .i64 t423, .slice Ao10 t424.length co10] 25 (0, 0)) (by (with_reducible repeat (first | refine blk_drewN ?_ _ | refine blk_drew ?_ | refine blk_alloc ?_ _)); exact BK428.out)) : gb428 ≠ gb440)); have n9_ := Aside0.mk ((by rw [hg]; exact Nat.ne_of_gt (blk_lt (g := gb428) (o := .cells #[.int .i64 t423, .slice Ao10 t424.length co10] 25 (0, 0)) (by (with_reducible repeat (first | refine blk_drewN ?_ _ | refine blk_drew ?_ | refine blk_alloc ?_ _)); exact BK428.out)) : gb440 ≠ gb428)); have n10_ := Aside0.mk ((by rw [hg]; exact Nat.ne_of_lt (blk_lt (g := gb432) (o := .cells #[.int .i64 t429, .int .i64 t430] 29 (0, 0)) (by (with_reducible repeat (first | refine blk_drewN ?_ _ | refine blk_drew ?_ | refine blk_alloc ?_ _)); exact BK432.out)) : gb432 ≠ gb440)); have n11_ := Aside0.mk ((by rw [hg]; exact Nat.ne_of_gt (blk_lt (g := gb432) (o := .cells #[.int .i64 t429, .int .i64 t430] 29 (0, 0)) (by (with_reducible repeat (first | refine blk_drewN ?_ _ | refine blk_drew ?_ | refine blk_alloc ?_ _)); exact BK432.out)) : gb440 ≠ gb432)); have n12_ := Aside0.mk ((by rw [hg]; exact Nat.ne_of_lt (blk_lt (g := gb436) (o := .cells #[.int .i64 t433, .int .i64 t434] 29 (0, 0)) (by (with_reducible repeat (first | refine blk_drewN ?_ _ | refine blk_drew ?_ | refine blk_alloc ?_ _)); exact BK436.out)) : gb436 ≠ gb440)); have n13_ := Aside0.mk ((by rw [hg]; exact Nat.ne_of_gt (blk_lt (g := gb436) (o := .cells #[.int .i64 t433, .int .i64 t434] 29 (0, 0)) (by (with_reducible repeat (first | refine blk_drewN ?_ _ | refine blk_drew ?_ | refine blk_alloc ?_ _)); exact BK436.out)) : gb440 ≠ gb436)); clear HO_429001; clear BK428; clear BK432; clear BK436; clear HB; have HO_429001 := n0_; have BK428 := n1_; have BK432 := n2_; have BK436 := n3_; have HB := n4_; have BK440 := n5_; have GW440 := n6_; have GE440 := n7_; have NB428_440 := n8_; have NB440_428 := n9_; have NB432_440 := n10_; have NB440_432 := n11_; have NB436_440 := n12_; have NB440_436 := n13_; clear n0_ n1_ n2_ n3_ n4_ n5_ n6_ n7_ n8_ n9_ n10_ n11_ n12_ n13_; clear hb hbox hg; have hnb52 := NB440_428.out; have hnc52 := NB428_440.out; have hnb53 := NB440_432.out; have hnc53 := NB432_440.out; have hnb54 := NB440_436.out; have hnc54 := NB436_440.out; have hcz55_0 : w51.cell? ⟨gb440, 0, none⟩ = some (.int .i64 0) := (blk_cell BK440.out 0).trans rfl; have hcz55_1 : w51.cell? ⟨gb440, 1, none⟩ = some (.int .i64 0) := (blk_cell BK440.out 1).trans rfl; have hfz55_0 := blk_frozen BK440.out 0; have hfz55_1 := blk_frozen BK440.out 1; have hcz56_0 : w51.cell? ⟨gb428, 0, none⟩ = some (.int .i64 t423) := (blk_cell BK428.out 0).trans rfl; have hcz56_1 : w51.cell? ⟨gb428, 1, none⟩ = some (.slice Ao10 t424.length co10) := (blk_cell BK428.out 1).trans rfl; have hfz56_0 := blk_frozen BK428.out 0; have hfz56_1 := blk_frozen BK428.out 1; have hcz57_0 : w51.cell? ⟨gb436, 0, none⟩ = some (.int .i64 t433) := (blk_cell BK436.out 0).trans rfl; have hcz57_1 : w51.cell? ⟨gb436, 1, none⟩ = some (.int .i64 t434) := (blk_cell BK436.out 1).trans rfl; have hfz57_0 := blk_frozen BK436.out 0; have hfz57_1 := blk_frozen BK436.out 1) | ((with_reducible refine gate_callee (f := 20) rfl ?_); refine goesL_ (some 69) rfl rfl Try.func20 (by kernel_rfl) rfl #[.agg #[.int .i64 t423, .slice Ao10 t424.length co10], .int .i64 t433, .int .i64 (Int.tmod (wrap64 (t434 + 2)) 4)] rfl (by (try simp only [List.map_toArray, List.map_cons, List.map_nil]); first | done | rfl | (simp only [List.length_drop, List.length_take]; rfl)) ?_; (with_reducible refine (impl_SightOf.calls t423 _ _ t424 t433 (Int.tmod (wrap64 (t434 + 2)) 4) t441 _ ?side1 ?side2 A41.out).mono ?_); (case side1 => refine (Kd.Q_reads' (e := 42) (base := w.heap.size) (ok := fun k_ => True) (n := t424.length) (c := co10) ?_).2.2; exact (by (with_reducible repeat (first | apply Kd.Q_alloc | apply Kd.Q_drewN | apply Kd.Q_drew)); exact (Kd.Q_mono (Kd.Q_far (p := ⟨gb440, 1, none⟩) (Kd.Q_far (p := ⟨gb440, 0, none⟩) (Kd.Q_types HO_429001.out BK440.out (by decide)) (fun _ hk => hk.2) (.int .i64 t437)) (fun _ hk => hk.2) (.int .i64 t438)) (fun _ h_ => h_.1)))); (case side2 => exact (Kd.Q_reads' HO_429001.out).2.1); rintro e w58 ⟨rfl, hb⟩; refine ⟨_, rfl, ?_⟩; have n0_ := Aside0.mk (Kd.Q_below (by (with_reducible repeat (first | apply Kd.Q_alloc | apply Kd.Q_drewN | apply Kd.Q_drew)); exact (Kd.Q_mono (Kd.Q_far (p := ⟨gb440, 1, none⟩) (Kd.Q_far (p := ⟨gb440, 0, none⟩) (Kd.Q_types HO_429001.out BK440.out (by decide)) (fun _ hk => hk.2) (.int .i64 t437)) (fun _ hk => hk.2) (.int .i64 t438)) (fun _ h_ => h_.1))) hb); have n1_ := Aside0.mk (blk_below (g := gb428) (o := .cells #[.int .i64 t423, .slice Ao10 t424.length co10] 25 (0, 0)) (by (with_reducible repeat (first | refine blk_drewN ?_ _ | refine blk_drew ?_ | refine blk_alloc ?_ _)); refine blk_far ?_ NB428_440.out _; (with_reducible repeat (first | refine blk_drewN ?_ _ | refine blk_drew ?_ | refine blk_alloc ?_ _)); refine blk_far ?_ NB428_440.out _; (with_reducible repeat (first | refine blk_drewN ?_ _ | refine blk_drew ?_ | refine blk_alloc ?_ _)); exact BK428.out) hb); have n2_ := Aside0.mk (blk_below (g := gb432) (o := .cells #[.int .i64 t429, .int .i64 t430] 29 (0, 0)) (by (with_reducible repeat (first | refine blk_drewN ?_ _ | refine blk_drew ?_ | refine blk_alloc ?_ _)); refine blk_far ?_ NB432_440.out _; (with_reducible repeat (first | refine blk_drewN ?_ _ | refine blk_drew ?_ | refine blk_alloc ?_ _)); refine blk_far ?_ NB432_440.out _; (with_reducible repeat (first | refine blk_drewN ?_ _ | refine blk_drew ?_ | refine blk_alloc ?_ _)); exact BK432.out) hb); have n3_ := Aside0.mk (blk_below (g := gb436) (o := .cells #[.int .i64 t433, .int .i64 t434] 29 (0, 0)) (by (with_reducible repeat (first | refine blk_drewN ?_ _ | refine blk_drew ?_ | refine blk_alloc ?_ _)); refine blk_far ?_ NB436_440.out _; (with_reducible repeat (first | refine blk_drewN ?_ _ | refine blk_drew ?_ | refine blk_alloc ?_ _)); refine blk_far ?_ NB436_440.out _; (with_reducible repeat (first | refine blk_drewN ?_ _ | refine blk_drew ?_ | refine blk_alloc ?_ _)); exact BK436.out) hb); have n4_ := Aside0.mk (blk_below (g := gb440) (o := .cells #[.int .i64 t437, .int .i64 t438] 29 (0, 0)) (by (with_reducible repeat (first | refine blk_drewN ?_ _ | refine blk_drew ?_ | refine blk_alloc ?_ _)); refine blk_put (cs := #[.int .i64 t437, .int .i64 0]) ?_ 1 _ rfl; (with_reducible repeat (first | refine blk_drewN ?_ _ | refine blk_drew ?_ | refine blk_alloc ?_ _)); refine blk_put (cs := #[.int .i64 0, .int .i64 0]) ?_ 0 _ rfl; (with_reducible repeat (first | refine blk_drewN ?_ _ | refine blk_drew ?_ | refine blk_alloc ?_ _)); exact BK440.out) hb); have n5_ := Aside0.mk (below_step (by repeat (first | (with_reducible first | exact HB.out | apply below_alloc | apply pw_below_drewN | apply below_drew1 | refine below_set ?_ GE428.out | refine below_set ?_ GE432.out | refine below_set ?_ GE436.out | refine below_set ?_ GE440.out) | exact HB.out)) hb); clear HO_429001; clear BK428; clear BK432; clear BK436; clear BK440; clear HB; have HO_429001 := n0_; have BK428 := n1_; have BK432 := n2_; have BK436 := n3_; have BK440 := n4_; have HB := n5_; clear n0_ n1_ n2_ n3_ n4_ n5_; (try clear hb); (try clear hb2); (try clear hk); (try clear hi); have hcz59_0 : w58.cell? ⟨gb428, 0, none⟩ = some (.int .i64 t423) := (blk_cell BK428.out 0).trans rfl; have hcz59_1 : w58.cell? ⟨gb428, 1, none⟩ = some (.slice Ao10 t424.length co10) := (blk_cell BK428.out 1).trans rfl; have hfz59_0 := blk_frozen BK428.out 0; have hfz59_1 := blk_frozen BK428.out 1) | (go_at_call 13; (with_reducible refine (impl_SightMany.calls kj5 t423 _ _ t424 t442 _ ?side1 ?side2 A44.out).mono ?_); (case side1 => repeat (first | exact (Kd.Q_reads' HO_429001.out).2.2 | (with_reducible refine Kd.C_alloc ?_ _) | (with_reducible refine Kd.C_drewN ?_ _) | (with_reducible refine Kd.C_drew ?_))); (case side2 => exact (Kd.Q_reads' HO_429001.out).2.1); rintro e w60 ⟨rfl, hb⟩; have n0_ := Aside0.mk (Kd.Q_below (by (with_reducible repeat (first | apply Kd.Q_alloc | apply Kd.Q_drewN | apply Kd.Q_drew)); exact HO_429001.out) hb); have n1_ := Aside0.mk (blk_below (g := gb428) (o := .cells #[.int .i64 t423, .slice Ao10 t424.length co10] 25 (0, 0)) (by (with_reducible repeat (first | refine blk_drewN ?_ _ | refine blk_drew ?_ | refine blk_alloc ?_ _)); exact BK428.out) hb); have n2_ := Aside0.mk (blk_below (g := gb432) (o := .cells #[.int .i64 t429, .int .i64 t430] 29 (0, 0)) (by (with_reducible repeat (first | refine blk_drewN ?_ _ | refine blk_drew ?_ | refine blk_alloc ?_ _)); exact BK432.out) hb); have n3_ := Aside0.mk (blk_below (g := gb436) (o := .cells #[.int .i64 t433, .int .i64 t434] 29 (0, 0)) (by (with_reducible repeat (first | refine blk_drewN ?_ _ | refine blk_drew ?_ | refine blk_alloc ?_ _)); exact BK436.out) hb); have n4_ := Aside0.mk (blk_below (g := gb440) (o := .cells #[.int .i64 t437, .int .i64 t438] 29 (0, 0)) (by (with_reducible repeat (first | refine blk_drewN ?_ _ | refine blk_drew ?_ | refine blk_alloc ?_ _)); exact BK440.out) hb); have n5_ := Aside0.mk (below_step (by repeat (first | (with_reducible first | exact HB.out | apply below_alloc | apply pw_below_drewN | apply below_drew1 | refine below_set ?_ GE428.out | refine below_set ?_ GE432.out | refine below_set ?_ GE436.out | refine below_set ?_ GE440.out) | exact HB.out)) hb); clear HO_429001; clear BK428; clear BK432; clear BK436; clear BK440; clear HB; have HO_429001 := n0_; have BK428 := n1_; have BK432 := n2_; have BK436 := n3_; have BK440 := n4_; have HB := n5_; clear n0_ n1_ n2_ n3_ n4_ n5_; (try clear hb); (try clear hb2); (try clear hk); (try clear hi)))
              go_ret
              exact ⟨by first | rfl | (simp [errW_none, errW_some] <;> rfl) | (simp [*, errW_none, errW_some] <;> rfl) | (exfalso; simp_all; done), by repeat (first | (with_reducible first | exact HB.out | apply below_alloc | apply pw_below_drewN | apply below_drew1 | refine below_set ?_ GE428.out | refine below_set ?_ GE432.out | refine below_set ?_ GE436.out | refine below_set ?_ GE440.out) | exact HB.out)⟩
          · rw [if_neg c42] at H
            have c42b0 : (t441 == t427) = false := beq_eq_false_iff_ne.mpr c42
            have c42b1 : (t441 != t427) = true := bne_iff_ne.mpr c42
            obtain rfl := Option.some.inj H
            exact absurd HRT.out (by decide)

/-- THE ONE PURE STATEMENT of laws_FnSightBack: yours. -/
def laws_FnSightBack.Pure : Prop := ∀ (l0 : List Int), l0.length ≤ maxLen → l0.length * 1 ≤ 140737488351232 → (∀ x ∈ l0, (Lit.int .u8 x).wf = true) → ∃ k, laws_FnSightBack.f k l0 = some true
theorem laws_FnSightBack.walk (P : laws_FnSightBack.Pure) (a0 : Option Addr) (len0 cap0 : Nat) (z0 : List Int) (w : World) (w0 : (a0 = none ∧ len0 = 0 ∧ cap0 = 0 ∧ z0 = []) ∨ ∃ x, a0 = some x ∧ len0 ≤ cap0 ∧ cap0 ≤ maxLen ∧ z0.length = cap0 ∧ (∀ i, i < z0.length → w.cell? (x.add i) = some (.int .u8 (z0.getD i 0))) ∧ ∀ n ∈ z0, (Lit.int .u8 n).wf = true) (y0 : len0 * 1 ≤ 140737488351232) :
    Calls Try.prog 8 #[.slice a0 len0 cap0] w fun e w' => e = .returned (.bool true) ∧ Below w.heap.size w w' := by
  obtain ⟨l0, rfl, hr0, hm0, hw0, hc0⟩ := ReadsInt.ofRowC w0
  obtain ⟨k, h⟩ := P l0 hm0 y0 hw0
  refine (laws_FnSightBack.calls k _ _ l0 true w (Kd.C_of_reads (d := (0 : Int)) (h1 := fun _ => rfl) hr0) hc0 h rfl).mono ?_
  rintro e w' ⟨rfl, hd⟩
  exact ⟨rfl, hd⟩

end Go.Proofs.Ytbomeogcgefddaa.P
