/- PROVED: contracts of functions of the program, the reference and the statements; written by this session's driver (pk.py) through its own changed copy of the kit's print. No condition. -/
import Derived.Test.YtbomeogcgefddaaPx0
import Derived.Test.YtbomeogcgefddaaPx1
import Derived.Test.YtbomeogcgefddaaPx10
import Derived.Test.YtbomeogcgefddaaPx17
import Derived.Test.YtbomeogcgefddaaPx23
import Derived.Test.YtbomeogcgefddaaPx26
namespace Go.Proofs.Ytbomeogcgefddaa.P
open Go.RowKit Go.Proofs.YtbomeogcgefddaaW.PrintWords Go.Proofs.YtbomeogcgefddaaW.PrintLast Go.Proofs.YtbomeogcgefddaaW.PrintMore
attribute [local go_sem] max2_int min2_int max_two min_two max_three min_three max_four min_four   -- for this text's walks alone
set_option linter.unusedVariables false
set_option linter.unusedSimpArgs false

attribute [local go_sem high] eqA29
/-! ### laws_FnRayEdge: function 5 -/
mutual
def laws_FnRayEdge.j0 : Nat → Bool → Bool → Bool → Int → List (S42) → Int → Int → Int → Int → Option (Bool)
  | 0, _, _, _, _, _, _, _, _, _ => none
  | k + 1, x7, x9, x50, x330000, x330001, x334000, x334001, x338000, x338001 => if x50 = true then (if (x9 == x7) = true then (some (x338000 == x334000 && (x338001 == x334001))) else (some false)) else (laws_FnRayEdge.l0 k 0 x330000 x330001)
def laws_FnRayEdge.l0 : Nat → Int → Int → List (S42) → Option (Bool)
  | 0, _, _, _ => none
  | k + 1, x10, x330000, x330001 => if x10 ≤ 3 then (laws_FnRayEdge.l1 k x10 0 0 x330000 x330001) else (some true)
def laws_FnRayEdge.l1 : Nat → Int → Int → Int → Int → List (S42) → Option (Bool)
  | 0, _, _, _, _, _ => none
  | k + 1, x10, x11, x12, x330000, x330001 => if x12 < (x330001.length : Int) then ((impl_RayNext.f k x330000 x330001 x12 x10).bind fun bt339 => (if bt339.2.2 = true then (laws_FnRayEdge.l1 k x10 x11 (wrap64 (x12 + 1)) x330000 x330001) else (laws_FnRayEdge.l1 k x10 (wrap64 (x11 + 1)) (wrap64 (x12 + 1)) x330000 x330001))) else (if (Int.tmod x10 2) = 0 then (if x11 = x330000 then (if (Int.tmod x10 2) = 1 then (if x330000 = 0 then (none) else (if x11 = (wrap64 ((x330001.length : Int) / x330000)) then (laws_FnRayEdge.l0 k (wrap64 (x10 + 1)) x330000 x330001) else (some false))) else (laws_FnRayEdge.l0 k (wrap64 (x10 + 1)) x330000 x330001)) else (some false)) else (if (Int.tmod x10 2) = 1 then (if x330000 = 0 then (none) else (if x11 = (wrap64 ((x330001.length : Int) / x330000)) then (laws_FnRayEdge.l0 k (wrap64 (x10 + 1)) x330000 x330001) else (some false))) else (laws_FnRayEdge.l0 k (wrap64 (x10 + 1)) x330000 x330001)))
end
def laws_FnRayEdge.f (k : Nat) (l0 : List Int) : Option (Bool) := if (l0.length : Int) > 1048576 then (some true) else ((spec_DrawRayNext.f k l0).bind fun bt323 => ((spec_RayNext.f k bt323.1 bt323.2.1 bt323.2.2.1 bt323.2.2.2).bind fun bt330 => ((impl_RayNext.f k bt323.1 bt323.2.1 bt323.2.2.1 bt323.2.2.2).bind fun bt334 => (if (bt334.2.2 != bt330.2.2) = true then (laws_FnRayEdge.j0 k bt330.2.2 bt334.2.2 true bt323.1 bt323.2.1 bt330.1 bt330.2.1 bt334.1 bt334.2.1) else (if (!(bt334.1 == bt330.1) || (!(bt334.2.1 == bt330.2.1))) = true then (laws_FnRayEdge.j0 k bt330.2.2 bt334.2.2 true bt323.1 bt323.2.1 bt330.1 bt330.2.1 bt334.1 bt334.2.1) else ((spec_GridOk.f k bt323.1 bt323.2.1).bind fun t338 => (laws_FnRayEdge.j0 k bt330.2.2 bt334.2.2 (!t338) bt323.1 bt323.2.1 bt330.1 bt330.2.1 bt334.1 bt334.2.1)))))))
theorem laws_FnRayEdge.mono_l : ∀ k, (∀ y0 y1 y2 y3 y4 y5 y6 y7 y8, LeO (laws_FnRayEdge.j0 k y0 y1 y2 y3 y4 y5 y6 y7 y8) (laws_FnRayEdge.j0 (k + 1) y0 y1 y2 y3 y4 y5 y6 y7 y8)) ∧ (∀ y0 y1 y2, LeO (laws_FnRayEdge.l0 k y0 y1 y2) (laws_FnRayEdge.l0 (k + 1) y0 y1 y2)) ∧ (∀ y0 y1 y2 y3 y4, LeO (laws_FnRayEdge.l1 k y0 y1 y2 y3 y4) (laws_FnRayEdge.l1 (k + 1) y0 y1 y2 y3 y4))
  | 0 => ⟨fun _ _ _ _ _ _ _ _ _ r h => by simp [laws_FnRayEdge.j0] at h, fun _ _ _ r h => by simp [laws_FnRayEdge.l0] at h, fun _ _ _ _ _ r h => by simp [laws_FnRayEdge.l1] at h⟩
  | k + 1 => by
    obtain ⟨ih0, ih1, ih2⟩ := laws_FnRayEdge.mono_l k
    refine ⟨?_, ?_, ?_⟩
    · intro y0 y1 y2 y3 y4 y5 y6 y7 y8
      unfold laws_FnRayEdge.j0
      repeat' first
      | (with_reducible exact ih0 _ _ _ _ _ _ _ _ _)
      | (with_reducible exact ih1 _ _ _)
      | (with_reducible exact ih2 _ _ _ _ _)
      | (with_reducible exact impl_RayNext.mono _ _ _ _ _)
      | (with_reducible exact spec_DrawRayNext.mono _ _)
      | (with_reducible exact spec_GridOk.mono _ _ _)
      | (with_reducible exact spec_RayNext.mono _ _ _ _ _)
      | (with_reducible exact LeO.refl _)
      | (with_reducible exact LeO.none _)
      | (with_reducible refine LeO.ite ?_ ?_)
      | (with_reducible refine LeO.bind ?_ (fun _ => ?_))
      | exact ih0 _ _ _ _ _ _ _ _ _
      | exact ih1 _ _ _
      | exact ih2 _ _ _ _ _
      | exact impl_RayNext.mono _ _ _ _ _
      | exact spec_DrawRayNext.mono _ _
      | exact spec_GridOk.mono _ _ _
      | exact spec_RayNext.mono _ _ _ _ _
      | exact LeO.none _
      | refine LeO.ite ?_ ?_
      | refine LeO.bind ?_ (fun _ => ?_)
    · intro y0 y1 y2
      unfold laws_FnRayEdge.l0
      repeat' first
      | (with_reducible exact ih0 _ _ _ _ _ _ _ _ _)
      | (with_reducible exact ih1 _ _ _)
      | (with_reducible exact ih2 _ _ _ _ _)
      | (with_reducible exact impl_RayNext.mono _ _ _ _ _)
      | (with_reducible exact spec_DrawRayNext.mono _ _)
      | (with_reducible exact spec_GridOk.mono _ _ _)
      | (with_reducible exact spec_RayNext.mono _ _ _ _ _)
      | (with_reducible exact LeO.refl _)
      | (with_reducible exact LeO.none _)
      | (with_reducible refine LeO.ite ?_ ?_)
      | (with_reducible refine LeO.bind ?_ (fun _ => ?_))
      | exact ih0 _ _ _ _ _ _ _ _ _
      | exact ih1 _ _ _
      | exact ih2 _ _ _ _ _
      | exact impl_RayNext.mono _ _ _ _ _
      | exact spec_DrawRayNext.mono _ _
      | exact spec_GridOk.mono _ _ _
      | exact spec_RayNext.mono _ _ _ _ _
      | exact LeO.none _
      | refine LeO.ite ?_ ?_
      | refine LeO.bind ?_ (fun _ => ?_)
    · intro y0 y1 y2 y3 y4
      unfold laws_FnRayEdge.l1
      repeat' first
      | (with_reducible exact ih0 _ _ _ _ _ _ _ _ _)
      | (with_reducible exact ih1 _ _ _)
      | (with_reducible exact ih2 _ _ _ _ _)
      | (with_reducible exact impl_RayNext.mono _ _ _ _ _)
      | (with_reducible exact spec_DrawRayNext.mono _ _)
      | (with_reducible exact spec_GridOk.mono _ _ _)
      | (with_reducible exact spec_RayNext.mono _ _ _ _ _)
      | (with_reducible exact LeO.refl _)
      | (with_reducible exact LeO.none _)
      | (with_reducible refine LeO.ite ?_ ?_)
      | (with_reducible refine LeO.bind ?_ (fun _ => ?_))
      | exact ih0 _ _ _ _ _ _ _ _ _
      | exact ih1 _ _ _
      | exact ih2 _ _ _ _ _
      | exact impl_RayNext.mono _ _ _ _ _
      | exact spec_DrawRayNext.mono _ _
      | exact spec_GridOk.mono _ _ _
      | exact spec_RayNext.mono _ _ _ _ _
      | exact LeO.none _
      | refine LeO.ite ?_ ?_
      | refine LeO.bind ?_ (fun _ => ?_)
theorem laws_FnRayEdge.mono : ∀ a0 k, LeO (laws_FnRayEdge.f k a0) (laws_FnRayEdge.f (k + 1) a0) := by
  intro a0 k
  obtain ⟨ih0, ih1, ih2⟩ := laws_FnRayEdge.mono_l k
  unfold laws_FnRayEdge.f
  repeat' first
      | (with_reducible exact ih0 _ _ _ _ _ _ _ _ _)
      | (with_reducible exact ih1 _ _ _)
      | (with_reducible exact ih2 _ _ _ _ _)
      | (with_reducible exact impl_RayNext.mono _ _ _ _ _)
      | (with_reducible exact spec_DrawRayNext.mono _ _)
      | (with_reducible exact spec_GridOk.mono _ _ _)
      | (with_reducible exact spec_RayNext.mono _ _ _ _ _)
      | (with_reducible exact LeO.refl _)
      | (with_reducible exact LeO.none _)
      | (with_reducible refine LeO.ite ?_ ?_)
      | (with_reducible refine LeO.bind ?_ (fun _ => ?_))
      | exact ih0 _ _ _ _ _ _ _ _ _
      | exact ih1 _ _ _
      | exact ih2 _ _ _ _ _
      | exact impl_RayNext.mono _ _ _ _ _
      | exact spec_DrawRayNext.mono _ _
      | exact spec_GridOk.mono _ _ _
      | exact spec_RayNext.mono _ _ _ _ _
      | exact LeO.none _
      | refine LeO.ite ?_ ?_
      | refine LeO.bind ?_ (fun _ => ?_)
set_option maxHeartbeats 8000000 in
set_option maxRecDepth 100000 in
theorem laws_FnRayEdge.calls (k : Nat) (A0 : Option Addr) (c0 : Nat) (l0 : List Int) (r : Bool) (w : World) (hr0 : Kd.C (Kd.int .u8) w A0 l0.length l0) (hc0 : l0.length ≤ c0) (h : laws_FnRayEdge.f k l0 = some r) (hrt : r = true) :
    Calls Try.prog 5 #[.slice A0 l0.length c0] w fun e w' => e = .returned (.bool r) ∧ Below w.heap.size w w' := by
  have HRT := Aside0.mk hrt
  clear hrt
  have hu25 := Try.underlying25
  have hu29 := Try.underlying29
  have HR0 := Aside0.mk hr0
  have HC0 := Aside0.mk hc0
  clear hr0 hc0
  have HB := Aside0.mk (Below.refl w.heap.size w)
  have H : (if (l0.length : Int) > 1048576 then (some true) else ((spec_DrawRayNext.f k l0).bind fun bt323 => ((spec_RayNext.f k bt323.1 bt323.2.1 bt323.2.2.1 bt323.2.2.2).bind fun bt330 => ((impl_RayNext.f k bt323.1 bt323.2.1 bt323.2.2.1 bt323.2.2.2).bind fun bt334 => (if (bt334.2.2 != bt330.2.2) = true then (laws_FnRayEdge.j0 k bt330.2.2 bt334.2.2 true bt323.1 bt323.2.1 bt330.1 bt330.2.1 bt334.1 bt334.2.1) else (if (!(bt334.1 == bt330.1) || (!(bt334.2.1 == bt330.2.1))) = true then (laws_FnRayEdge.j0 k bt330.2.2 bt334.2.2 true bt323.1 bt323.2.1 bt330.1 bt330.2.1 bt334.1 bt334.2.1) else ((spec_GridOk.f k bt323.1 bt323.2.1).bind fun t338 => (laws_FnRayEdge.j0 k bt330.2.2 bt334.2.2 (!t338) bt323.1 bt323.2.1 bt330.1 bt330.2.1 bt334.1 bt334.2.1)))))))) = some r := h
  clear h
  by_cases c2 : (l0.length : Int) > 1048576
  · rw [if_pos c2] at H
    have c2b0 : decide (1048576 < (l0.length : Int)) = true := decide_eq_true c2
    have c2b1 : decide (1048576 < l0.length) = true := decide_eq_true (by omega)
    clear c2
    obtain rfl := Option.some.inj H
    go_enter Try.func5, Try.ntmps5
    go_wp2
    go_ret
    exact ⟨by first | rfl | (simp [errW_none, errW_some] <;> rfl) | (simp [*, errW_none, errW_some] <;> rfl) | (exfalso; simp_all; done), by repeat (first | (with_reducible first | exact HB.out | apply below_alloc | apply pw_below_drewN | apply below_drew1) | exact HB.out)⟩
  · rw [if_neg c2] at H
    have c2b0 : decide (1048576 < (l0.length : Int)) = false := decide_eq_false c2
    have c2b1 : decide (1048576 < l0.length) = false := decide_eq_false (by omega)
    clear c2
    replace H := Option.bind_eq_some_iff.mp H
    obtain ⟨⟨t323, t324, t327, t328⟩, A30, H⟩ := H
    replace H : ((spec_RayNext.f k t323 t324 t327 t328).bind fun bt330 => ((impl_RayNext.f k t323 t324 t327 t328).bind fun bt334 => (if (bt334.2.2 != bt330.2.2) = true then (laws_FnRayEdge.j0 k bt330.2.2 bt334.2.2 true t323 t324 bt330.1 bt330.2.1 bt334.1 bt334.2.1) else (if (!(bt334.1 == bt330.1) || (!(bt334.2.1 == bt330.2.1))) = true then (laws_FnRayEdge.j0 k bt330.2.2 bt334.2.2 true t323 t324 bt330.1 bt330.2.1 bt334.1 bt334.2.1) else ((spec_GridOk.f k t323 t324).bind fun t338 => (laws_FnRayEdge.j0 k bt330.2.2 bt334.2.2 (!t338) t323 t324 bt330.1 bt330.2.1 bt334.1 bt334.2.1)))))) = some r := H
    have A3 := Aside0.mk A30
    clear A30
    replace H := Option.bind_eq_some_iff.mp H
    obtain ⟨⟨t330, t331, t332⟩, A40, H⟩ := H
    replace H : ((impl_RayNext.f k t323 t324 t327 t328).bind fun bt334 => (if (bt334.2.2 != t332) = true then (laws_FnRayEdge.j0 k t332 bt334.2.2 true t323 t324 t330 t331 bt334.1 bt334.2.1) else (if (!(bt334.1 == t330) || (!(bt334.2.1 == t331))) = true then (laws_FnRayEdge.j0 k t332 bt334.2.2 true t323 t324 t330 t331 bt334.1 bt334.2.1) else ((spec_GridOk.f k t323 t324).bind fun t338 => (laws_FnRayEdge.j0 k t332 bt334.2.2 (!t338) t323 t324 t330 t331 bt334.1 bt334.2.1))))) = some r := H
    have A4 := Aside0.mk A40
    clear A40
    replace H := Option.bind_eq_some_iff.mp H
    obtain ⟨⟨t334, t335, t336⟩, A50, H⟩ := H
    replace H : (if (t336 != t332) = true then (laws_FnRayEdge.j0 k t332 t336 true t323 t324 t330 t331 t334 t335) else (if (!(t334 == t330) || (!(t335 == t331))) = true then (laws_FnRayEdge.j0 k t332 t336 true t323 t324 t330 t331 t334 t335) else ((spec_GridOk.f k t323 t324).bind fun t338 => (laws_FnRayEdge.j0 k t332 t336 (!t338) t323 t324 t330 t331 t334 t335)))) = some r := H
    have A5 := Aside0.mk A50
    clear A50
    have HC6 := Aside0.mk H
    clear H
    go_enter Try.func5, Try.ntmps5
    go_upto_region 6 with (first | ((with_reducible refine gate_callee (f := 16) rfl ?_); refine goesL_ (some 20) rfl rfl Try.func16 (by kernel_rfl) rfl #[.slice A0 l0.length c0] rfl (by (try simp only [List.map_toArray, List.map_cons, List.map_nil]); first | done | rfl | (simp only [List.length_drop, List.length_take]; rfl)) ?_; (with_reducible refine (spec_DrawRayNext.calls k _ _ l0 t323 t324 t327 t328 _ ?side1 ?side2 A3.out).mono ?_); (case side1 => repeat (first | exact HR0.out | (with_reducible refine Kd.C_alloc ?_ _) | (with_reducible refine Kd.C_drewN ?_ _) | (with_reducible refine Kd.C_drew ?_))); (case side2 => exact HC0.out); rintro e w7 ⟨v325, rfl, ho0, hb⟩; refine ⟨_, rfl, ?_⟩; have n0_ := Aside0.mk (Kd.Q_lower ho0 (below_size (by repeat (first | (with_reducible first | exact HB.out | apply below_alloc | apply pw_below_drewN | apply below_drew1) | exact HB.out)))); have n1_ := Aside0.mk (below_step (by repeat (first | (with_reducible first | exact HB.out | apply below_alloc | apply pw_below_drewN | apply below_drew1) | exact HB.out)) hb); clear HB; have HO326 := n0_; have HB := n1_; clear n0_ n1_; (try clear hb); (try clear hb2); (try clear hk); (try clear hi); (try clear ho0)) | ((with_reducible refine gate_dst (N := 3) rfl ?_); (try (refine gate_guard (by rfl) ?_; dsimp only)); refine box_event ?hg (N := 3) ?hd (cs := #[.int .i64 0, .slice none 0 0]) (t := 25) ?hr ?_; (case hd => rfl); (case hg => rfl); (case hr => first | (go_simp; done) | (go_simp; rfl)); intro gb329 hg w8 hbox hb; have n0_ := Aside0.mk (Kd.Q_below (by (with_reducible repeat (first | apply Kd.Q_alloc | apply Kd.Q_drewN | apply Kd.Q_drew)); exact HO326.out) hb); have n1_ := Aside0.mk (below_step (by repeat (first | (with_reducible first | exact HB.out | apply below_alloc | apply pw_below_drewN | apply below_drew1) | exact HB.out)) hb); have n2_ := Aside0.mk (hbox); have n3_ := Aside0.mk ((by rw [hg]; exact (below_size (by repeat (first | (with_reducible first | exact HB.out | apply below_alloc | apply pw_below_drewN | apply below_drew1) | exact HB.out))) : w.heap.size ≤ gb329)); have n4_ := Aside0.mk ((by rw [hg]; exact (below_size (by repeat (first | (with_reducible first | exact HB.out | apply below_alloc | apply pw_below_drewN | apply below_drew1) | exact HB.out))) : w.heap.size ≤ gb329)); clear HO326; clear HB; have HO326 := n0_; have HB := n1_; have BK329 := n2_; have GW329 := n3_; have GE329 := n4_; clear n0_ n1_ n2_ n3_ n4_; clear hb hbox hg; have hcz9_0 : w8.cell? ⟨gb329, 0, none⟩ = some (.int .i64 0) := (blk_cell BK329.out 0).trans rfl; have hcz9_1 : w8.cell? ⟨gb329, 1, none⟩ = some (.slice none 0 0) := (blk_cell BK329.out 1).trans rfl; have hfz9_0 := blk_frozen BK329.out 0; have hfz9_1 := blk_frozen BK329.out 1; obtain ⟨Ao10, co10, eo10, _⟩ := Kd.Q_slice HO326.out; subst eo10) | ((with_reducible refine gate_callee (f := 17) rfl ?_); refine goesL_ (some 28) rfl rfl Try.func17 (by kernel_rfl) rfl #[.agg #[.int .i64 t323, .slice Ao10 t324.length co10], .int .i64 t327, .int .i64 t328] rfl (by (try simp only [List.map_toArray, List.map_cons, List.map_nil]); first | done | rfl | (simp only [List.length_drop, List.length_take]; rfl)) ?_; (with_reducible refine (spec_RayNext.calls k t323 _ _ t324 t327 t328 t330 t331 t332 _ ?side1 ?side2 A4.out).mono ?_); (case side1 => refine (Kd.Q_reads' (e := 42) (base := w.heap.size) (ok := fun k_ => True) (n := t324.length) (c := co10) ?_).2.2; exact (by (with_reducible repeat (first | apply Kd.Q_alloc | apply Kd.Q_drewN | apply Kd.Q_drew)); exact (Kd.Q_mono (Kd.Q_far (p := ⟨gb329, 1, none⟩) (Kd.Q_far (p := ⟨gb329, 0, none⟩) (Kd.Q_types HO326.out BK329.out (by decide)) (fun _ hk => hk.2) (.int .i64 t323)) (fun _ hk => hk.2) (.slice Ao10 t324.length co10)) (fun _ h_ => h_.1)))); (case side2 => exact (Kd.Q_reads' HO326.out).2.1); rintro e w11 ⟨rfl, hb⟩; refine ⟨_, rfl, ?_⟩; have n0_ := Aside0.mk (Kd.Q_below (by (with_reducible repeat (first | apply Kd.Q_alloc | apply Kd.Q_drewN | apply Kd.Q_drew)); exact (Kd.Q_mono (Kd.Q_far (p := ⟨gb329, 1, none⟩) (Kd.Q_far (p := ⟨gb329, 0, none⟩) (Kd.Q_types HO326.out BK329.out (by decide)) (fun _ hk => hk.2) (.int .i64 t323)) (fun _ hk => hk.2) (.slice Ao10 t324.length co10)) (fun _ h_ => h_.1))) hb); have n1_ := Aside0.mk (blk_below (g := gb329) (o := .cells #[.int .i64 t323, .slice Ao10 t324.length co10] 25 (0, 0)) (by (with_reducible repeat (first | refine blk_drewN ?_ _ | refine blk_drew ?_ | refine blk_alloc ?_ _)); refine blk_put (cs := #[.int .i64 t323, .slice none 0 0]) ?_ 1 _ rfl; (with_reducible repeat (first | refine blk_drewN ?_ _ | refine blk_drew ?_ | refine blk_alloc ?_ _)); refine blk_put (cs := #[.int .i64 0, .slice none 0 0]) ?_ 0 _ rfl; (with_reducible repeat (first | refine blk_drewN ?_ _ | refine blk_drew ?_ | refine blk_alloc ?_ _)); exact BK329.out) hb); have n2_ := Aside0.mk (below_step (by repeat (first | (with_reducible first | exact HB.out | apply below_alloc | apply pw_below_drewN | apply below_drew1 | refine below_set ?_ GE329.out) | exact HB.out)) hb); clear HO326; clear BK329; clear HB; have HO326 := n0_; have BK329 := n1_; have HB := n2_; clear n0_ n1_ n2_; (try clear hb); (try clear hb2); (try clear hk); (try clear hi)) | ((with_reducible refine gate_dst (N := 6) rfl ?_); (try (refine gate_guard (by rfl) ?_; dsimp only)); refine box_event ?hg (N := 6) ?hd (cs := #[.int .i64 0, .int .i64 0]) (t := 29) ?hr ?_; (case hd => rfl); (case hg => rfl); (case hr => first | (go_simp; done) | (go_simp; rfl)); intro gb333 hg w12 hbox hb; have n0_ := Aside0.mk (Kd.Q_below (by (with_reducible repeat (first | apply Kd.Q_alloc | apply Kd.Q_drewN | apply Kd.Q_drew)); exact HO326.out) hb); have n1_ := Aside0.mk (blk_below (g := gb329) (o := .cells #[.int .i64 t323, .slice Ao10 t324.length co10] 25 (0, 0)) (by (with_reducible repeat (first | refine blk_drewN ?_ _ | refine blk_drew ?_ | refine blk_alloc ?_ _)); exact BK329.out) hb); have n2_ := Aside0.mk (below_step (by repeat (first | (with_reducible first | exact HB.out | apply below_alloc | apply pw_below_drewN | apply below_drew1 | refine below_set ?_ GE329.out) | exact HB.out)) hb); have n3_ := Aside0.mk (hbox); have n4_ := Aside0.mk ((by rw [hg]; exact (below_size (by repeat (first | (with_reducible first | exact HB.out | apply below_alloc | apply pw_below_drewN | apply below_drew1 | refine below_set ?_ GE329.out) | exact HB.out))) : w.heap.size ≤ gb333)); have n5_ := Aside0.mk ((by rw [hg]; exact (below_size (by repeat (first | (with_reducible first | exact HB.out | apply below_alloc | apply pw_below_drewN | apply below_drew1 | refine below_set ?_ GE329.out) | exact HB.out))) : w.heap.size ≤ gb333)); have n6_ := Aside0.mk ((by rw [hg]; exact Nat.ne_of_lt (blk_lt (g := gb329) (o := .cells #[.int .i64 t323, .slice Ao10 t324.length co10] 25 (0, 0)) (by (with_reducible repeat (first | refine blk_drewN ?_ _ | refine blk_drew ?_ | refine blk_alloc ?_ _)); exact BK329.out)) : gb329 ≠ gb333)); have n7_ := Aside0.mk ((by rw [hg]; exact Nat.ne_of_gt (blk_lt (g := gb329) (o := .cells #[.int .i64 t323, .slice Ao10 t324.length co10] 25 (0, 0)) (by (with_reducible repeat (first | refine blk_drewN ?_ _ | refine blk_drew ?_ | refine blk_alloc ?_ _)); exact BK329.out)) : gb333 ≠ gb329)); clear HO326; clear BK329; clear HB; have HO326 := n0_; have BK329 := n1_; have HB := n2_; have BK333 := n3_; have GW333 := n4_; have GE333 := n5_; have NB329_333 := n6_; have NB333_329 := n7_; clear n0_ n1_ n2_ n3_ n4_ n5_ n6_ n7_; clear hb hbox hg; have hnb13 := NB333_329.out; have hnc13 := NB329_333.out; have hcz14_0 : w12.cell? ⟨gb333, 0, none⟩ = some (.int .i64 0) := (blk_cell BK333.out 0).trans rfl; have hcz14_1 : w12.cell? ⟨gb333, 1, none⟩ = some (.int .i64 0) := (blk_cell BK333.out 1).trans rfl; have hfz14_0 := blk_frozen BK333.out 0; have hfz14_1 := blk_frozen BK333.out 1; have hcz15_0 : w12.cell? ⟨gb329, 0, none⟩ = some (.int .i64 t323) := (blk_cell BK329.out 0).trans rfl; have hcz15_1 : w12.cell? ⟨gb329, 1, none⟩ = some (.slice Ao10 t324.length co10) := (blk_cell BK329.out 1).trans rfl; have hfz15_0 := blk_frozen BK329.out 0; have hfz15_1 := blk_frozen BK329.out 1) | ((with_reducible refine gate_callee (f := 18) rfl ?_); refine goesL_ (some 35) rfl rfl Try.func18 (by kernel_rfl) rfl #[.agg #[.int .i64 t323, .slice Ao10 t324.length co10], .int .i64 t327, .int .i64 t328] rfl (by (try simp only [List.map_toArray, List.map_cons, List.map_nil]); first | done | rfl | (simp only [List.length_drop, List.length_take]; rfl)) ?_; (with_reducible refine (impl_RayNext.calls k t323 _ _ t324 t327 t328 t334 t335 t336 _ ?side1 ?side2 A5.out).mono ?_); (case side1 => refine (Kd.Q_reads' (e := 42) (base := w.heap.size) (ok := fun k_ => True) (n := t324.length) (c := co10) ?_).2.2; exact (by (with_reducible repeat (first | apply Kd.Q_alloc | apply Kd.Q_drewN | apply Kd.Q_drew)); exact (Kd.Q_mono (Kd.Q_far (p := ⟨gb333, 1, none⟩) (Kd.Q_far (p := ⟨gb333, 0, none⟩) (Kd.Q_types HO326.out BK333.out (by decide)) (fun _ hk => hk.2) (.int .i64 t330)) (fun _ hk => hk.2) (.int .i64 t331)) (fun _ h_ => h_.1)))); (case side2 => exact (Kd.Q_reads' HO326.out).2.1); rintro e w16 ⟨rfl, hb⟩; refine ⟨_, rfl, ?_⟩; have n0_ := Aside0.mk (Kd.Q_below (by (with_reducible repeat (first | apply Kd.Q_alloc | apply Kd.Q_drewN | apply Kd.Q_drew)); exact (Kd.Q_mono (Kd.Q_far (p := ⟨gb333, 1, none⟩) (Kd.Q_far (p := ⟨gb333, 0, none⟩) (Kd.Q_types HO326.out BK333.out (by decide)) (fun _ hk => hk.2) (.int .i64 t330)) (fun _ hk => hk.2) (.int .i64 t331)) (fun _ h_ => h_.1))) hb); have n1_ := Aside0.mk (blk_below (g := gb329) (o := .cells #[.int .i64 t323, .slice Ao10 t324.length co10] 25 (0, 0)) (by (with_reducible repeat (first | refine blk_drewN ?_ _ | refine blk_drew ?_ | refine blk_alloc ?_ _)); refine blk_far ?_ NB329_333.out _; (with_reducible repeat (first | refine blk_drewN ?_ _ | refine blk_drew ?_ | refine blk_alloc ?_ _)); refine blk_far ?_ NB329_333.out _; (with_reducible repeat (first | refine blk_drewN ?_ _ | refine blk_drew ?_ | refine blk_alloc ?_ _)); exact BK329.out) hb); have n2_ := Aside0.mk (blk_below (g := gb333) (o := .cells #[.int .i64 t330, .int .i64 t331] 29 (0, 0)) (by (with_reducible repeat (first | refine blk_drewN ?_ _ | refine blk_drew ?_ | refine blk_alloc ?_ _)); refine blk_put (cs := #[.int .i64 t330, .int .i64 0]) ?_ 1 _ rfl; (with_reducible repeat (first | refine blk_drewN ?_ _ | refine blk_drew ?_ | refine blk_alloc ?_ _)); refine blk_put (cs := #[.int .i64 0, .int .i64 0]) ?_ 0 _ rfl; (with_reducible repeat (first | refine blk_drewN ?_ _ | refine blk_drew ?_ | refine blk_alloc ?_ _)); exact BK333.out) hb); have n3_ := Aside0.mk (below_step (by repeat (first | (with_reducible first | exact HB.out | apply below_alloc | apply pw_below_drewN | apply below_drew1 | refine below_set ?_ GE329.out | refine below_set ?_ GE333.out) | exact HB.out)) hb); clear HO326; clear BK329; clear BK333; clear HB; have HO326 := n0_; have BK329 := n1_; have BK333 := n2_; have HB := n3_; clear n0_ n1_ n2_ n3_; (try clear hb); (try clear hb2); (try clear hk); (try clear hi)) | ((with_reducible refine gate_dst (N := 8) rfl ?_); (try (refine gate_guard (by rfl) ?_; dsimp only)); refine box_event ?hg (N := 8) ?hd (cs := #[.int .i64 0, .int .i64 0]) (t := 29) ?hr ?_; (case hd => rfl); (case hg => rfl); (case hr => first | (go_simp; done) | (go_simp; rfl)); intro gb337 hg w17 hbox hb; have n0_ := Aside0.mk (Kd.Q_below (by (with_reducible repeat (first | apply Kd.Q_alloc | apply Kd.Q_drewN | apply Kd.Q_drew)); exact HO326.out) hb); have n1_ := Aside0.mk (blk_below (g := gb329) (o := .cells #[.int .i64 t323, .slice Ao10 t324.length co10] 25 (0, 0)) (by (with_reducible repeat (first | refine blk_drewN ?_ _ | refine blk_drew ?_ | refine blk_alloc ?_ _)); exact BK329.out) hb); have n2_ := Aside0.mk (blk_below (g := gb333) (o := .cells #[.int .i64 t330, .int .i64 t331] 29 (0, 0)) (by (with_reducible repeat (first | refine blk_drewN ?_ _ | refine blk_drew ?_ | refine blk_alloc ?_ _)); exact BK333.out) hb); have n3_ := Aside0.mk (below_step (by repeat (first | (with_reducible first | exact HB.out | apply below_alloc | apply pw_below_drewN | apply below_drew1 | refine below_set ?_ GE329.out | refine below_set ?_ GE333.out) | exact HB.out)) hb); have n4_ := Aside0.mk (hbox); have n5_ := Aside0.mk ((by rw [hg]; exact (below_size (by repeat (first | (with_reducible first | exact HB.out | apply below_alloc | apply pw_below_drewN | apply below_drew1 | refine below_set ?_ GE329.out | refine below_set ?_ GE333.out) | exact HB.out))) : w.heap.size ≤ gb337)); have n6_ := Aside0.mk ((by rw [hg]; exact (below_size (by repeat (first | (with_reducible first | exact HB.out | apply below_alloc | apply pw_below_drewN | apply below_drew1 | refine below_set ?_ GE329.out | refine below_set ?_ GE333.out) | exact HB.out))) : w.heap.size ≤ gb337)); have n7_ := Aside0.mk ((by rw [hg]; exact Nat.ne_of_lt (blk_lt (g := gb329) (o := .cells #[.int .i64 t323, .slice Ao10 t324.length co10] 25 (0, 0)) (by (with_reducible repeat (first | refine blk_drewN ?_ _ | refine blk_drew ?_ | refine blk_alloc ?_ _)); exact BK329.out)) : gb329 ≠ gb337)); have n8_ := Aside0.mk ((by rw [hg]; exact Nat.ne_of_gt (blk_lt (g := gb329) (o := .cells #[.int .i64 t323, .slice Ao10 t324.length co10] 25 (0, 0)) (by (with_reducible repeat (first | refine blk_drewN ?_ _ | refine blk_drew ?_ | refine blk_alloc ?_ _)); exact BK329.out)) : gb337 ≠ gb329)); have n9_ := Aside0.mk ((by rw [hg]; exact Nat.ne_of_lt (blk_lt (g := gb333) (o := .cells #[.int .i64 t330, .int .i64 t331] 29 (0, 0)) (by (with_reducible repeat (first | refine blk_drewN ?_ _ | refine blk_drew ?_ | refine blk_alloc ?_ _)); exact BK333.out)) : gb333 ≠ gb337)); have n10_ := Aside0.mk ((by rw [hg]; exact Nat.ne_of_gt (blk_lt (g := gb333) (o := .cells #[.int .i64 t330, .int .i64 t331] 29 (0, 0)) (by (with_reducible repeat (first | refine blk_drewN ?_ _ | refine blk_drew ?_ | refine blk_alloc ?_ _)); exact BK333.out)) : gb337 ≠ gb333)); clear HO326; clear BK329; clear BK333; clear HB; have HO326 := n0_; have BK329 := n1_; have BK333 := n2_; have HB := n3_; have BK337 := n4_; have GW337 := n5_; have GE337 := n6_; have NB329_337 := n7_; have NB337_329 := n8_; have NB333_337 := n9_; have NB337_333 := n10_; clear n0_ n1_ n2_ n3_ n4_ n5_ n6_ n7_ n8_ n9_ n10_; clear hb hbox hg; have hnb18 := NB337_329.out; have hnc18 := NB329_337.out; have hnb19 := NB337_333.out; have hnc19 := NB333_337.out; have hcz20_0 : w17.cell? ⟨gb337, 0, none⟩ = some (.int .i64 0) := (blk_cell BK337.out 0).trans rfl; have hcz20_1 : w17.cell? ⟨gb337, 1, none⟩ = some (.int .i64 0) := (blk_cell BK337.out 1).trans rfl; have hfz20_0 := blk_frozen BK337.out 0; have hfz20_1 := blk_frozen BK337.out 1))
    (try simp only [Act.put, List.setIfInBounds_toArray, List.set_cons_zero, List.set_cons_succ])
    go_cut [50] (fun v50 wc => ∃ (kq : Nat) (x50_5 : Bool), v50 = .bool x50_5 ∧ Aside0 (laws_FnRayEdge.j0 kq t332 t336 x50_5 t323 t324 t330 t331 t334 t335 = some r) ∧ Aside0 (kq ≤ k) ∧ Aside0 (Kd.Q k42 42 wc w.heap.size (fun _ => True) (.slice Ao10 t324.length co10) t324) ∧ Aside0 (wc.heap[gb329]? = some (.cells #[.int .i64 t323, (.slice Ao10 t324.length co10)] 25 (0, 0))) ∧ Aside0 (wc.heap[gb333]? = some (.cells #[.int .i64 t330, .int .i64 t331] 29 (0, 0))) ∧ Aside0 (wc.heap[gb337]? = some (.cells #[.int .i64 t334, .int .i64 t335] 29 (0, 0))) ∧ Aside0 (Below w.heap.size w wc))
    case first =>
      have H := HC6.out
      clear HC6
      by_cases c21 : (t336 != t332) = true
      · rw [if_pos c21] at H
        have c21b0 : (t336 != t332) = true := c21
        (try (have c21b1 : decide (t336 = t332) = false := by simpa using c21))
        (try (have c21b2 : (t336 == t332) = false := by simpa using c21))
        (try (have c21b3 : ¬ (t336 = t332) := by simpa using c21))
        clear c21
        (first | rw [c21b0] | (simp only [i64_w, i32_w]; rw [c21b0]) | skip)
        have H' := Aside0.mk H
        clear H
        go_wp2
        go_meet
        case rel => exact ⟨_, (true), (by first | rfl | (simp; done) | (simp [*]; done)), H', ⟨by first | omega | exact Nat.le_refl _⟩, ⟨by (with_reducible repeat (first | apply Kd.Q_alloc | apply Kd.Q_drewN | apply Kd.Q_drew)); exact Kd.Q_mono (Kd.Q_far (p := ⟨gb337, 1, none⟩) (Kd.Q_far (p := ⟨gb337, 0, none⟩) (Kd.Q_types HO326.out BK337.out (by decide)) (fun _ hk => hk.2) (.int .i64 t334)) (fun _ hk => hk.2) (.int .i64 t335)) (fun _ hk => trivial)⟩, ⟨by (with_reducible repeat (first | refine blk_drewN ?_ _ | refine blk_drew ?_ | refine blk_alloc ?_ _)); refine blk_far ?_ NB329_337.out _; (with_reducible repeat (first | refine blk_drewN ?_ _ | refine blk_drew ?_ | refine blk_alloc ?_ _)); refine blk_far ?_ NB329_337.out _; (with_reducible repeat (first | refine blk_drewN ?_ _ | refine blk_drew ?_ | refine blk_alloc ?_ _)); exact BK329.out⟩, ⟨by (with_reducible repeat (first | refine blk_drewN ?_ _ | refine blk_drew ?_ | refine blk_alloc ?_ _)); refine blk_far ?_ NB333_337.out _; (with_reducible repeat (first | refine blk_drewN ?_ _ | refine blk_drew ?_ | refine blk_alloc ?_ _)); refine blk_far ?_ NB333_337.out _; (with_reducible repeat (first | refine blk_drewN ?_ _ | refine blk_drew ?_ | refine blk_alloc ?_ _)); exact BK333.out⟩, ⟨by (with_reducible repeat (first | refine blk_drewN ?_ _ | refine blk_drew ?_ | refine blk_alloc ?_ _)); refine blk_put (cs := #[.int .i64 t334, .int .i64 0]) ?_ 1 _ rfl; (with_reducible repeat (first | refine blk_drewN ?_ _ | refine blk_drew ?_ | refine blk_alloc ?_ _)); refine blk_put (cs := #[.int .i64 0, .int .i64 0]) ?_ 0 _ rfl; (with_reducible repeat (first | refine blk_drewN ?_ _ | refine blk_drew ?_ | refine blk_alloc ?_ _)); exact BK337.out⟩, ⟨by repeat (first | (with_reducible first | exact HB.out | apply below_alloc | apply pw_below_drewN | apply below_drew1 | refine below_set ?_ GE329.out | refine below_set ?_ GE333.out | refine below_set ?_ GE337.out) | exact HB.out)⟩⟩
      · rw [if_neg c21] at H
        have c21b0 : (t336 != t332) = false := by simpa using c21
        (try (have c21b1 : decide (t336 = t332) = true := by simpa using c21))
        (try (have c21b2 : (t336 == t332) = true := by simpa using c21))
        clear c21
        (first | rw [c21b0] | (simp only [i64_w, i32_w]; rw [c21b0]) | skip)
        by_cases c22 : (!(t334 == t330) || (!(t335 == t331))) = true
        · rw [if_pos c22] at H
          have c22b0 : (!(t334 == t330) || (!(t335 == t331))) = true := c22
          clear c22
          have H' := Aside0.mk H
          clear H
          have hnb23 := NB337_329.out
          have hnc23 := NB329_337.out
          have hnb24 := NB337_333.out
          have hnc24 := NB333_337.out
          have hcz25_0 : w17.cell? ⟨gb337, 0, none⟩ = some (.int .i64 0) := (blk_cell BK337.out 0).trans rfl
          have hcz25_1 : w17.cell? ⟨gb337, 1, none⟩ = some (.int .i64 0) := (blk_cell BK337.out 1).trans rfl
          have hfz25_0 := blk_frozen BK337.out 0
          have hfz25_1 := blk_frozen BK337.out 1
          have hnb26 := NB333_329.out
          have hnc26 := NB329_333.out
          have hcz27_0 : w17.cell? ⟨gb333, 0, none⟩ = some (.int .i64 t330) := (blk_cell BK333.out 0).trans rfl
          have hcz27_1 : w17.cell? ⟨gb333, 1, none⟩ = some (.int .i64 t331) := (blk_cell BK333.out 1).trans rfl
          have hfz27_0 := blk_frozen BK333.out 0
          have hfz27_1 := blk_frozen BK333.out 1
          go_wp2
          go_meet
          case rel => exact ⟨_, (true), (by first | rfl | (simp; done) | (simp [*]; done)), H', ⟨by first | omega | exact Nat.le_refl _⟩, ⟨by (with_reducible repeat (first | apply Kd.Q_alloc | apply Kd.Q_drewN | apply Kd.Q_drew)); exact Kd.Q_mono (Kd.Q_far (p := ⟨gb337, 1, none⟩) (Kd.Q_far (p := ⟨gb337, 0, none⟩) (Kd.Q_types HO326.out BK337.out (by decide)) (fun _ hk => hk.2) (.int .i64 t334)) (fun _ hk => hk.2) (.int .i64 t335)) (fun _ hk => trivial)⟩, ⟨by (with_reducible repeat (first | refine blk_drewN ?_ _ | refine blk_drew ?_ | refine blk_alloc ?_ _)); refine blk_far ?_ NB329_337.out _; (with_reducible repeat (first | refine blk_drewN ?_ _ | refine blk_drew ?_ | refine blk_alloc ?_ _)); refine blk_far ?_ NB329_337.out _; (with_reducible repeat (first | refine blk_drewN ?_ _ | refine blk_drew ?_ | refine blk_alloc ?_ _)); exact BK329.out⟩, ⟨by (with_reducible repeat (first | refine blk_drewN ?_ _ | refine blk_drew ?_ | refine blk_alloc ?_ _)); refine blk_far ?_ NB333_337.out _; (with_reducible repeat (first | refine blk_drewN ?_ _ | refine blk_drew ?_ | refine blk_alloc ?_ _)); refine blk_far ?_ NB333_337.out _; (with_reducible repeat (first | refine blk_drewN ?_ _ | refine blk_drew ?_ | refine blk_alloc ?_ _)); exact BK333.out⟩, ⟨by (with_reducible repeat (first | refine blk_drewN ?_ _ | refine blk_drew ?_ | refine blk_alloc ?_ _)); refine blk_put (cs := #[.int .i64 t334, .int .i64 0]) ?_ 1 _ rfl; (with_reducible repeat (first | refine blk_drewN ?_ _ | refine blk_drew ?_ | refine blk_alloc ?_ _)); refine blk_put (cs := #[.int .i64 0, .int .i64 0]) ?_ 0 _ rfl; (with_reducible repeat (first | refine blk_drewN ?_ _ | refine blk_drew ?_ | refine blk_alloc ?_ _)); exact BK337.out⟩, ⟨by repeat (first | (with_reducible first | exact HB.out | apply below_alloc | apply pw_below_drewN | apply below_drew1 | refine below_set ?_ GE329.out | refine below_set ?_ GE333.out | refine below_set ?_ GE337.out) | exact HB.out)⟩⟩
        · rw [if_neg c22] at H
          have c22b0 : (!(t334 == t330) || (!(t335 == t331))) = false := by simpa using c22
          clear c22
          replace H := Option.bind_eq_some_iff.mp H
          obtain ⟨t338, A280, H⟩ := H
          replace H : (laws_FnRayEdge.j0 k t332 t336 (!t338) t323 t324 t330 t331 t334 t335) = some r := H
          have A28 := Aside0.mk A280
          clear A280
          have H' := Aside0.mk H
          clear H
          have hnb29 := NB337_329.out
          have hnc29 := NB329_337.out
          have hnb30 := NB337_333.out
          have hnc30 := NB333_337.out
          have hcz31_0 : w17.cell? ⟨gb337, 0, none⟩ = some (.int .i64 0) := (blk_cell BK337.out 0).trans rfl
          have hcz31_1 : w17.cell? ⟨gb337, 1, none⟩ = some (.int .i64 0) := (blk_cell BK337.out 1).trans rfl
          have hfz31_0 := blk_frozen BK337.out 0
          have hfz31_1 := blk_frozen BK337.out 1
          have hnb32 := NB333_329.out
          have hnc32 := NB329_333.out
          have hcz33_0 : w17.cell? ⟨gb333, 0, none⟩ = some (.int .i64 t330) := (blk_cell BK333.out 0).trans rfl
          have hcz33_1 : w17.cell? ⟨gb333, 1, none⟩ = some (.int .i64 t331) := (blk_cell BK333.out 1).trans rfl
          have hfz33_0 := blk_frozen BK333.out 0
          have hfz33_1 := blk_frozen BK333.out 1
          have hcz34_0 : w17.cell? ⟨gb329, 0, none⟩ = some (.int .i64 t323) := (blk_cell BK329.out 0).trans rfl
          have hcz34_1 : w17.cell? ⟨gb329, 1, none⟩ = some (.slice Ao10 t324.length co10) := (blk_cell BK329.out 1).trans rfl
          have hfz34_0 := blk_frozen BK329.out 0
          have hfz34_1 := blk_frozen BK329.out 1
          go_wp2_with (first | (go_at_call 19; (with_reducible refine (spec_GridOk.calls k t323 _ _ t324 t338 _ ?side1 ?side2 A28.out).mono ?_); (case side1 => refine (Kd.Q_reads' (e := 42) (base := w.heap.size) (ok := fun k_ => True) (n := t324.length) (c := co10) ?_).2.2; exact (by (with_reducible repeat (first | apply Kd.Q_alloc | apply Kd.Q_drewN | apply Kd.Q_drew)); exact (Kd.Q_mono (Kd.Q_far (p := ⟨gb337, 1, none⟩) (Kd.Q_far (p := ⟨gb337, 0, none⟩) (Kd.Q_types HO326.out BK337.out (by decide)) (fun _ hk => hk.2) (.int .i64 t334)) (fun _ hk => hk.2) (.int .i64 t335)) (fun _ h_ => h_.1)))); (case side2 => exact (Kd.Q_reads' HO326.out).2.1); rintro e w35 ⟨rfl, hb⟩; have n0_ := Aside0.mk (Kd.Q_below (by (with_reducible repeat (first | apply Kd.Q_alloc | apply Kd.Q_drewN | apply Kd.Q_drew)); exact (Kd.Q_mono (Kd.Q_far (p := ⟨gb337, 1, none⟩) (Kd.Q_far (p := ⟨gb337, 0, none⟩) (Kd.Q_types HO326.out BK337.out (by decide)) (fun _ hk => hk.2) (.int .i64 t334)) (fun _ hk => hk.2) (.int .i64 t335)) (fun _ h_ => h_.1))) hb); have n1_ := Aside0.mk (blk_below (g := gb329) (o := .cells #[.int .i64 t323, .slice Ao10 t324.length co10] 25 (0, 0)) (by (with_reducible repeat (first | refine blk_drewN ?_ _ | refine blk_drew ?_ | refine blk_alloc ?_ _)); refine blk_far ?_ NB329_337.out _; (with_reducible repeat (first | refine blk_drewN ?_ _ | refine blk_drew ?_ | refine blk_alloc ?_ _)); refine blk_far ?_ NB329_337.out _; (with_reducible repeat (first | refine blk_drewN ?_ _ | refine blk_drew ?_ | refine blk_alloc ?_ _)); exact BK329.out) hb); have n2_ := Aside0.mk (blk_below (g := gb333) (o := .cells #[.int .i64 t330, .int .i64 t331] 29 (0, 0)) (by (with_reducible repeat (first | refine blk_drewN ?_ _ | refine blk_drew ?_ | refine blk_alloc ?_ _)); refine blk_far ?_ NB333_337.out _; (with_reducible repeat (first | refine blk_drewN ?_ _ | refine blk_drew ?_ | refine blk_alloc ?_ _)); refine blk_far ?_ NB333_337.out _; (with_reducible repeat (first | refine blk_drewN ?_ _ | refine blk_drew ?_ | refine blk_alloc ?_ _)); exact BK333.out) hb); have n3_ := Aside0.mk (blk_below (g := gb337) (o := .cells #[.int .i64 t334, .int .i64 t335] 29 (0, 0)) (by (with_reducible repeat (first | refine blk_drewN ?_ _ | refine blk_drew ?_ | refine blk_alloc ?_ _)); refine blk_put (cs := #[.int .i64 t334, .int .i64 0]) ?_ 1 _ rfl; (with_reducible repeat (first | refine blk_drewN ?_ _ | refine blk_drew ?_ | refine blk_alloc ?_ _)); refine blk_put (cs := #[.int .i64 0, .int .i64 0]) ?_ 0 _ rfl; (with_reducible repeat (first | refine blk_drewN ?_ _ | refine blk_drew ?_ | refine blk_alloc ?_ _)); exact BK337.out) hb); have n4_ := Aside0.mk (below_step (by repeat (first | (with_reducible first | exact HB.out | apply below_alloc | apply pw_below_drewN | apply below_drew1 | refine below_set ?_ GE329.out | refine below_set ?_ GE333.out | refine below_set ?_ GE337.out) | exact HB.out)) hb); clear HO326; clear BK329; clear BK333; clear BK337; clear HB; have HO326 := n0_; have BK329 := n1_; have BK333 := n2_; have BK337 := n3_; have HB := n4_; clear n0_ n1_ n2_ n3_ n4_; (try clear hb); (try clear hb2); (try clear hk); (try clear hi)))
          go_meet
          case rel => exact ⟨_, (!t338), (by first | rfl | (simp; done) | (simp [*]; done)), H', ⟨by first | omega | exact Nat.le_refl _⟩, ⟨by (with_reducible repeat (first | apply Kd.Q_alloc | apply Kd.Q_drewN | apply Kd.Q_drew)); exact HO326.out⟩, ⟨by (with_reducible repeat (first | refine blk_drewN ?_ _ | refine blk_drew ?_ | refine blk_alloc ?_ _)); exact BK329.out⟩, ⟨by (with_reducible repeat (first | refine blk_drewN ?_ _ | refine blk_drew ?_ | refine blk_alloc ?_ _)); exact BK333.out⟩, ⟨by (with_reducible repeat (first | refine blk_drewN ?_ _ | refine blk_drew ?_ | refine blk_alloc ?_ _)); exact BK337.out⟩, ⟨by repeat (first | (with_reducible first | exact HB.out | apply below_alloc | apply pw_below_drewN | apply below_drew1 | refine below_set ?_ GE329.out | refine below_set ?_ GE333.out | refine below_set ?_ GE337.out) | exact HB.out)⟩⟩
    case rest =>
      clear HC6
      try clear c1
      try clear c2
      try clear c2b0
      try clear c2b1
      try clear p2
      try clear c3
      try clear c5
      try clear c13
      try clear c16
      try clear c17
      try clear c18
      try clear c19
      try clear c21
      try clear c21b0
      try clear c21b1
      try clear c21b2
      try clear c22
      try clear c22b0
      try clear c23
      try clear c24
      try clear c26
      try clear c29
      try clear c30
      try clear c32
      try clear hcz14_0
      try clear hcz14_1
      try clear hcz15_0
      try clear hcz15_1
      try clear hcz20_0
      try clear hcz20_1
      try clear hcz25_0
      try clear hcz25_1
      try clear hcz27_0
      try clear hcz27_1
      try clear hcz31_0
      try clear hcz31_1
      try clear hcz33_0
      try clear hcz33_1
      try clear hcz34_0
      try clear hcz34_1
      try clear hcz9_0
      try clear hcz9_1
      try clear hfz14_0
      try clear hfz14_1
      try clear hfz15_0
      try clear hfz15_1
      try clear hfz20_0
      try clear hfz20_1
      try clear hfz25_0
      try clear hfz25_1
      try clear hfz27_0
      try clear hfz27_1
      try clear hfz31_0
      try clear hfz31_1
      try clear hfz33_0
      try clear hfz33_1
      try clear hfz34_0
      try clear hfz34_1
      try clear hfz9_0
      try clear hfz9_1
      obtain ⟨kq, x50_5, rfl, HA, HJ5, HO_330001, BK329, BK333, BK337, HB⟩ := hcut
      cases kq with
      | zero => exact absurd HA.out (by simp [laws_FnRayEdge.j0])
      | succ kj5 =>
        have H := HA.out
        clear HA
        simp only [laws_FnRayEdge.j0] at H
        by_cases c36 : x50_5 = true
        · subst c36
          have H1 : (if (t336 == t332) = true then (some (t334 == t330 && (t335 == t331))) else (some false)) = some r := by rw [if_pos rfl] at H; exact H
          clear H
          have H := H1
          clear H1
          by_cases c37 : (t336 == t332) = true
          · rw [if_pos c37] at H
            have c37b0 : (t336 == t332) = true := c37
            (try (have c37b1 : decide (t336 = t332) = true := by simpa using c37))
            (try (have c37b2 : (t336 == t332) = true := by simpa using c37))
            clear c37
            obtain rfl := Option.some.inj H
            have hnb38 := NB337_329.out
            have hnc38 := NB329_337.out
            have hnb39 := NB337_333.out
            have hnc39 := NB333_337.out
            have hcz40_0 : wc.cell? ⟨gb337, 0, none⟩ = some (.int .i64 t334) := (blk_cell BK337.out 0).trans rfl
            have hcz40_1 : wc.cell? ⟨gb337, 1, none⟩ = some (.int .i64 t335) := (blk_cell BK337.out 1).trans rfl
            have hfz40_0 := blk_frozen BK337.out 0
            have hfz40_1 := blk_frozen BK337.out 1
            have hnb41 := NB333_329.out
            have hnc41 := NB329_333.out
            have hcz42_0 : wc.cell? ⟨gb333, 0, none⟩ = some (.int .i64 t330) := (blk_cell BK333.out 0).trans rfl
            have hcz42_1 : wc.cell? ⟨gb333, 1, none⟩ = some (.int .i64 t331) := (blk_cell BK333.out 1).trans rfl
            have hfz42_0 := blk_frozen BK333.out 0
            have hfz42_1 := blk_frozen BK333.out 1
            go_wp2
            go_ret
            exact ⟨by first | rfl | (simp [errW_none, errW_some] <;> rfl) | (simp [*, errW_none, errW_some] <;> rfl) | (exfalso; simp_all; done), by repeat (first | (with_reducible first | exact HB.out | apply below_alloc | apply pw_below_drewN | apply below_drew1 | refine below_set ?_ GE329.out | refine below_set ?_ GE333.out | refine below_set ?_ GE337.out) | exact HB.out)⟩
          · rw [if_neg c37] at H
            have c37b0 : (t336 == t332) = false := by simpa using c37
            (try (have c37b1 : decide (t336 = t332) = false := by simpa using c37))
            (try (have c37b2 : (t336 == t332) = false := by simpa using c37))
            (try (have c37b3 : ¬ (t336 = t332) := by simpa using c37))
            clear c37
            obtain rfl := Option.some.inj H
            exact absurd HRT.out (by decide)
        · replace c36 := Bool.eq_false_iff.mpr c36
          subst c36
          have H1 : (laws_FnRayEdge.l0 kj5 0 t323 t324) = some r := by rw [if_neg (show ¬ (false = true) by decide)] at H; exact H
          clear H
          have H := H1
          clear H1
          have H' := Aside0.mk H
          clear H
          go_wp2
          go_loopg [10] kj5 (fun kq v10 w' => ∃ (x10_2 : Int), v10 = .int .i64 x10_2 ∧ Aside0 (laws_FnRayEdge.l0 kq x10_2 t323 t324 = some r) ∧ Aside0 (kq ≤ kj5) ∧ Aside0 (Kd.Q k42 42 w' w.heap.size (fun _ => True) (.slice Ao10 t324.length co10) t324) ∧ Aside0 (w'.heap[gb329]? = some (.cells #[.int .i64 t323, (.slice Ao10 t324.length co10)] 25 (0, 0))) ∧ Aside0 (w'.heap[gb333]? = some (.cells #[.int .i64 t330, .int .i64 t331] 29 (0, 0))) ∧ Aside0 (w'.heap[gb337]? = some (.cells #[.int .i64 t334, .int .i64 t335] 29 (0, 0))) ∧ Aside0 (Below w.heap.size w w'))
          case atStart => exact ⟨(0), (by first | rfl | (simp; done) | (simp [*]; done)), H', ⟨Nat.le_refl _⟩, ⟨by (with_reducible repeat (first | apply Kd.Q_alloc | apply Kd.Q_drewN | apply Kd.Q_drew)); exact HO_330001.out⟩, ⟨by (with_reducible repeat (first | refine blk_drewN ?_ _ | refine blk_drew ?_ | refine blk_alloc ?_ _)); exact BK329.out⟩, ⟨by (with_reducible repeat (first | refine blk_drewN ?_ _ | refine blk_drew ?_ | refine blk_alloc ?_ _)); exact BK333.out⟩, ⟨by (with_reducible repeat (first | refine blk_drewN ?_ _ | refine blk_drew ?_ | refine blk_alloc ?_ _)); exact BK337.out⟩, ⟨by repeat (first | (with_reducible first | exact HB.out | apply below_alloc | apply pw_below_drewN | apply below_drew1 | refine below_set ?_ GE329.out | refine below_set ?_ GE333.out | refine below_set ?_ GE337.out) | exact HB.out)⟩⟩
          case round =>
            clear H'
            try clear c1
            try clear c2
            try clear c2b0
            try clear c2b1
            try clear p2
            try clear c3
            try clear c4
            try clear c5
            try clear c13
            try clear c16
            try clear c17
            try clear c18
            try clear c19
            try clear c21
            try clear c21b0
            try clear c21b1
            try clear c21b2
            try clear c22
            try clear c22b0
            try clear c23
            try clear c24
            try clear c26
            try clear c29
            try clear c30
            try clear c32
            try clear c36
            try clear c37
            try clear c37b0
            try clear c37b1
            try clear c37b2
            try clear c38
            try clear c39
            try clear c41
            try clear hcz14_0
            try clear hcz14_1
            try clear hcz15_0
            try clear hcz15_1
            try clear hcz20_0
            try clear hcz20_1
            try clear hcz25_0
            try clear hcz25_1
            try clear hcz27_0
            try clear hcz27_1
            try clear hcz31_0
            try clear hcz31_1
            try clear hcz33_0
            try clear hcz33_1
            try clear hcz34_0
            try clear hcz34_1
            try clear hcz40_0
            try clear hcz40_1
            try clear hcz42_0
            try clear hcz42_1
            try clear hcz9_0
            try clear hcz9_1
            try clear hfz14_0
            try clear hfz14_1
            try clear hfz15_0
            try clear hfz15_1
            try clear hfz20_0
            try clear hfz20_1
            try clear hfz25_0
            try clear hfz25_1
            try clear hfz27_0
            try clear hfz27_1
            try clear hfz31_0
            try clear hfz31_1
            try clear hfz33_0
            try clear hfz33_1
            try clear hfz34_0
            try clear hfz34_1
            try clear hfz40_0
            try clear hfz40_1
            try clear hfz42_0
            try clear hfz42_1
            try clear hfz9_0
            try clear hfz9_1
            try clear p2
            obtain ⟨x10_2, rfl, HA, HK2, HO_330001, BK329, BK333, BK337, HB⟩ := hrel
            cases gk with
            | zero => exact absurd HA.out (by simp [laws_FnRayEdge.l0])
            | succ k2 =>
              have H := HA.out
              clear HA
              simp only [laws_FnRayEdge.l0] at H
              by_cases c43 : x10_2 ≤ 3
              · rw [if_pos c43] at H
                have c43b0 : decide (x10_2 ≤ 3) = true := decide_eq_true c43
                clear c43
                have H' := Aside0.mk H
                clear H
                go_wp2
                go_loopg [11, 12] k2 (fun kq v11 v12 w' => ∃ (x11_3 : Int) (x12_3 : Int), v11 = .int .i64 x11_3 ∧ v12 = .int .i64 x12_3 ∧ Aside0 (laws_FnRayEdge.l1 kq x10_2 x11_3 x12_3 t323 t324 = some r) ∧ Aside0 (kq ≤ k2) ∧ Aside0 (Kd.Q k42 42 w' w.heap.size (fun _ => True) (.slice Ao10 t324.length co10) t324) ∧ Aside0 (w'.heap[gb329]? = some (.cells #[.int .i64 t323, (.slice Ao10 t324.length co10)] 25 (0, 0))) ∧ Aside0 (w'.heap[gb333]? = some (.cells #[.int .i64 t330, .int .i64 t331] 29 (0, 0))) ∧ Aside0 (w'.heap[gb337]? = some (.cells #[.int .i64 t334, .int .i64 t335] 29 (0, 0))) ∧ Aside0 (Below w.heap.size w w'))
                case atStart => exact ⟨(0), (0), (by first | rfl | (simp; done) | (simp [*]; done)), (by first | rfl | (simp; done) | (simp [*]; done)), H', ⟨Nat.le_refl _⟩, ⟨by (with_reducible repeat (first | apply Kd.Q_alloc | apply Kd.Q_drewN | apply Kd.Q_drew)); exact HO_330001.out⟩, ⟨by (with_reducible repeat (first | refine blk_drewN ?_ _ | refine blk_drew ?_ | refine blk_alloc ?_ _)); exact BK329.out⟩, ⟨by (with_reducible repeat (first | refine blk_drewN ?_ _ | refine blk_drew ?_ | refine blk_alloc ?_ _)); exact BK333.out⟩, ⟨by (with_reducible repeat (first | refine blk_drewN ?_ _ | refine blk_drew ?_ | refine blk_alloc ?_ _)); exact BK337.out⟩, ⟨by repeat (first | (with_reducible first | exact HB.out | apply below_alloc | apply pw_below_drewN | apply below_drew1 | refine below_set ?_ GE329.out | refine below_set ?_ GE333.out | refine below_set ?_ GE337.out) | exact HB.out)⟩⟩
                case round =>
                  clear H'
                  try clear c1
                  try clear c2
                  try clear c2b0
                  try clear c2b1
                  try clear p2
                  try clear c3
                  try clear c4
                  try clear c5
                  try clear c13
                  try clear c16
                  try clear c17
                  try clear c18
                  try clear c19
                  try clear c21
                  try clear c21b0
                  try clear c21b1
                  try clear c21b2
                  try clear c22
                  try clear c22b0
                  try clear c23
                  try clear c24
                  try clear c26
                  try clear c29
                  try clear c30
                  try clear c32
                  try clear c36
                  try clear c37
                  try clear c37b0
                  try clear c37b1
                  try clear c37b2
                  try clear c38
                  try clear c39
                  try clear c41
                  try clear c43
                  try clear c43b0
                  try clear hcz14_0
                  try clear hcz14_1
                  try clear hcz15_0
                  try clear hcz15_1
                  try clear hcz20_0
                  try clear hcz20_1
                  try clear hcz25_0
                  try clear hcz25_1
                  try clear hcz27_0
                  try clear hcz27_1
                  try clear hcz31_0
                  try clear hcz31_1
                  try clear hcz33_0
                  try clear hcz33_1
                  try clear hcz34_0
                  try clear hcz34_1
                  try clear hcz40_0
                  try clear hcz40_1
                  try clear hcz42_0
                  try clear hcz42_1
                  try clear hcz9_0
                  try clear hcz9_1
                  try clear hfz14_0
                  try clear hfz14_1
                  try clear hfz15_0
                  try clear hfz15_1
                  try clear hfz20_0
                  try clear hfz20_1
                  try clear hfz25_0
                  try clear hfz25_1
                  try clear hfz27_0
                  try clear hfz27_1
                  try clear hfz31_0
                  try clear hfz31_1
                  try clear hfz33_0
                  try clear hfz33_1
                  try clear hfz34_0
                  try clear hfz34_1
                  try clear hfz40_0
                  try clear hfz40_1
                  try clear hfz42_0
                  try clear hfz42_1
                  try clear hfz9_0
                  try clear hfz9_1
                  try clear p2
                  obtain ⟨x11_3, x12_3, rfl, rfl, HA, HK3, HO_330001, BK329, BK333, BK337, HB⟩ := hrel
                  cases gk with
                  | zero => exact absurd HA.out (by simp [laws_FnRayEdge.l1])
                  | succ k3 =>
                    have H := HA.out
                    clear HA
                    simp only [laws_FnRayEdge.l1] at H
                    by_cases c44 : x12_3 < (t324.length : Int)
                    · rw [if_pos c44] at H
                      have c44b0 : decide (x12_3 < (t324.length : Int)) = true := decide_eq_true c44
                      clear c44
                      replace H := Option.bind_eq_some_iff.mp H
                      obtain ⟨⟨t339, t340, t341⟩, A450, H⟩ := H
                      replace H : (if t341 = true then (laws_FnRayEdge.l1 k3 x10_2 x11_3 (wrap64 (x12_3 + 1)) t323 t324) else (laws_FnRayEdge.l1 k3 x10_2 (wrap64 (x11_3 + 1)) (wrap64 (x12_3 + 1)) t323 t324)) = some r := H
                      have A45 := Aside0.mk A450
                      clear A450
                      by_cases c46 : t341 = true
                      · subst c46
                        have H1 : (laws_FnRayEdge.l1 k3 x10_2 x11_3 (wrap64 (x12_3 + 1)) t323 t324) = some r := by rw [if_pos rfl] at H; exact H
                        clear H
                        have H := H1
                        clear H1
                        have H' := Aside0.mk H
                        clear H
                        have hnb47 := NB329_333.out
                        have hnc47 := NB333_329.out
                        have hnb48 := NB329_337.out
                        have hnc48 := NB337_329.out
                        have hcz49_0 : wr.cell? ⟨gb329, 0, none⟩ = some (.int .i64 t323) := (blk_cell BK329.out 0).trans rfl
                        have hcz49_1 : wr.cell? ⟨gb329, 1, none⟩ = some (.slice Ao10 t324.length co10) := (blk_cell BK329.out 1).trans rfl
                        have hfz49_0 := blk_frozen BK329.out 0
                        have hfz49_1 := blk_frozen BK329.out 1
                        go_wp2_with (first | ((with_reducible refine gate_callee (f := 18) rfl ?_); refine goesL_ (some 74) rfl rfl Try.func18 (by kernel_rfl) rfl #[.agg #[.int .i64 t323, .slice Ao10 t324.length co10], .int .i64 x12_3, .int .i64 x10_2] rfl (by (try simp only [List.map_toArray, List.map_cons, List.map_nil]); first | done | rfl | (simp only [List.length_drop, List.length_take]; rfl)) ?_; (with_reducible refine (impl_RayNext.calls k3 t323 _ _ t324 x12_3 x10_2 t339 t340 true _ ?side1 ?side2 A45.out).mono ?_); (case side1 => repeat (first | exact (Kd.Q_reads' HO_330001.out).2.2 | (with_reducible refine Kd.C_alloc ?_ _) | (with_reducible refine Kd.C_drewN ?_ _) | (with_reducible refine Kd.C_drew ?_))); (case side2 => exact (Kd.Q_reads' HO_330001.out).2.1); rintro e w50 ⟨rfl, hb⟩; refine ⟨_, rfl, ?_⟩; have n0_ := Aside0.mk (Kd.Q_below (by (with_reducible repeat (first | apply Kd.Q_alloc | apply Kd.Q_drewN | apply Kd.Q_drew)); exact HO_330001.out) hb); have n1_ := Aside0.mk (blk_below (g := gb329) (o := .cells #[.int .i64 t323, .slice Ao10 t324.length co10] 25 (0, 0)) (by (with_reducible repeat (first | refine blk_drewN ?_ _ | refine blk_drew ?_ | refine blk_alloc ?_ _)); exact BK329.out) hb); have n2_ := Aside0.mk (blk_below (g := gb333) (o := .cells #[.int .i64 t330, .int .i64 t331] 29 (0, 0)) (by (with_reducible repeat (first | refine blk_drewN ?_ _ | refine blk_drew ?_ | refine blk_alloc ?_ _)); exact BK333.out) hb); have n3_ := Aside0.mk (blk_below (g := gb337) (o := .cells #[.int .i64 t334, .int .i64 t335] 29 (0, 0)) (by (with_reducible repeat (first | refine blk_drewN ?_ _ | refine blk_drew ?_ | refine blk_alloc ?_ _)); exact BK337.out) hb); have n4_ := Aside0.mk (below_step (by repeat (first | (with_reducible first | exact HB.out | apply below_alloc | apply pw_below_drewN | apply below_drew1 | refine below_set ?_ GE329.out | refine below_set ?_ GE333.out | refine below_set ?_ GE337.out) | exact HB.out)) hb); clear HO_330001; clear BK329; clear BK333; clear BK337; clear HB; have HO_330001 := n0_; have BK329 := n1_; have BK333 := n2_; have BK337 := n3_; have HB := n4_; clear n0_ n1_ n2_ n3_ n4_; (try clear hb); (try clear hb2); (try clear hk); (try clear hi)) | ((with_reducible refine gate_dst (N := 13) rfl ?_); (try (refine gate_guard (by rfl) ?_; dsimp only)); refine box_event ?hg (N := 13) ?hd (cs := #[.int .i64 0, .int .i64 0]) (t := 29) ?hr ?_; (case hd => rfl); (case hg => rfl); (case hr => first | (go_simp; done) | (go_simp; rfl)); intro gb342 hg w51 hbox hb; have n0_ := Aside0.mk (Kd.Q_below (by (with_reducible repeat (first | apply Kd.Q_alloc | apply Kd.Q_drewN | apply Kd.Q_drew)); exact HO_330001.out) hb); have n1_ := Aside0.mk (blk_below (g := gb329) (o := .cells #[.int .i64 t323, .slice Ao10 t324.length co10] 25 (0, 0)) (by (with_reducible repeat (first | refine blk_drewN ?_ _ | refine blk_drew ?_ | refine blk_alloc ?_ _)); exact BK329.out) hb); have n2_ := Aside0.mk (blk_below (g := gb333) (o := .cells #[.int .i64 t330, .int .i64 t331] 29 (0, 0)) (by (with_reducible repeat (first | refine blk_drewN ?_ _ | refine blk_drew ?_ | refine blk_alloc ?_ _)); exact BK333.out) hb); have n3_ := Aside0.mk (blk_below (g := gb337) (o := .cells #[.int .i64 t334, .int .i64 t335] 29 (0, 0)) (by (with_reducible repeat (first | refine blk_drewN ?_ _ | refine blk_drew ?_ | refine blk_alloc ?_ _)); exact BK337.out) hb); have n4_ := Aside0.mk (below_step (by repeat (first | (with_reducible first | exact HB.out | apply below_alloc | apply pw_below_drewN | apply below_drew1 | refine below_set ?_ GE329.out | refine below_set ?_ GE333.out | refine below_set ?_ GE337.out) | exact HB.out)) hb); have n5_ := Aside0.mk (hbox); have n6_ := Aside0.mk ((by rw [hg]; exact (below_size (by repeat (first | (with_reducible first | exact HB.out | apply below_alloc | apply pw_below_drewN | apply below_drew1 | refine below_set ?_ GE329.out | refine below_set ?_ GE333.out | refine below_set ?_ GE337.out) | exact HB.out))) : w.heap.size ≤ gb342)); have n7_ := Aside0.mk ((by rw [hg]; exact (below_size (by repeat (first | (with_reducible first | exact HB.out | apply below_alloc | apply pw_below_drewN | apply below_drew1 | refine below_set ?_ GE329.out | refine below_set ?_ GE333.out | refine below_set ?_ GE337.out) | exact HB.out))) : w.heap.size ≤ gb342)); have n8_ := Aside0.mk ((by rw [hg]; exact Nat.ne_of_lt (blk_lt (g := gb329) (o := .cells #[.int .i64 t323, .slice Ao10 t324.length co10] 25 (0, 0)) (by (with_reducible repeat (first | refine blk_drewN ?_ _ | refine blk_drew ?_ | refine blk_alloc ?_ _)); exact BK329.out)) : gb329 ≠ gb342)); have n9_ := Aside0.mk ((by rw [hg]; exact Nat.ne_of_gt (blk_lt (g := gb329) (o := .cells #[.int .i64 t323, .slice Ao10 t324.length co10] 25 (0, 0)) (by (with_reducible repeat (first | refine blk_drewN ?_ _ | refine blk_drew ?_ | refine blk_alloc ?_ _)); exact BK329.out)) : gb342 ≠ gb329)); have n10_ := Aside0.mk ((by rw [hg]; exact Nat.ne_of_lt (blk_lt (g := gb333) (o := .cells #[.int .i64 t330, .int .i64 t331] 29 (0, 0)) (by (with_reducible repeat (first | refine blk_drewN ?_ _ | refine blk_drew ?_ | refine blk_alloc ?_ _)); exact BK333.out)) : gb333 ≠ gb342)); have n11_ := Aside0.mk ((by rw [hg]; exact Nat.ne_of_gt (blk_lt (g := gb333) (o := .cells #[.int .i64 t330, .int .i64 t331] 29 (0, 0)) (by (with_reducible repeat (first | refine blk_drewN ?_ _ | refine blk_drew ?_ | refine blk_alloc ?_ _)); exact BK333.out)) : gb342 ≠ gb333)); have n12_ := Aside0.mk ((by rw [hg]; exact Nat.ne_of_lt (blk_lt (g := gb337) (o := .cells #[.int .i64 t334, .int .i64 t335] 29 (0, 0)) (by (with_reducible repeat (first | refine blk_drewN ?_ _ | refine blk_drew ?_ | refine blk_alloc ?_ _)); exact BK337.out)) : gb337 ≠ gb342)); have n13_ := Aside0.mk ((by rw [hg]; exact Nat.ne_of_gt (blk_lt (g := gb337) (o := .cells #[.int .i64 t334, .int .i64 t335] 29 (0, 0)) (by (with_reducible repeat (first | refine blk_drewN ?_ _ | refine blk_drew ?_ | refine blk_alloc ?_ _)); exact BK337.out)) : gb342 ≠ gb337)); clear HO_330001; clear BK329; clear BK333; clear BK337; clear HB; have HO_330001 := n0_; have BK329 := n1_; have BK333 := n2_; have BK337 := n3_; have HB := n4_; have BK342 := n5_; have GW342 := n6_; have GE342 := n7_; have NB329_342 := n8_; have NB342_329 := n9_; have NB333_342 := n10_; have NB342_333 := n11_; have NB337_342 := n12_; have NB342_337 := n13_; clear n0_ n1_ n2_ n3_ n4_ n5_ n6_ n7_ n8_ n9_ n10_ n11_ n12_ n13_; clear hb hbox hg; have hnb52 := NB342_329.out; have hnc52 := NB329_342.out; have hnb53 := NB342_333.out; have hnc53 := NB333_342.out; have hnb54 := NB342_337.out; have hnc54 := NB337_342.out; have hcz55_0 : w51.cell? ⟨gb342, 0, none⟩ = some (.int .i64 0) := (blk_cell BK342.out 0).trans rfl; have hcz55_1 : w51.cell? ⟨gb342, 1, none⟩ = some (.int .i64 0) := (blk_cell BK342.out 1).trans rfl; have hfz55_0 := blk_frozen BK342.out 0; have hfz55_1 := blk_frozen BK342.out 1))
                        go_roundg k3
                        case measure => have := HJ5.out; have := HK2.out; have := HK3.out; omega
                        case rel => exact ⟨(x11_3), (wrap64 (x12_3 + 1)), (by first | rfl | (simp; done) | (simp [*]; done)), (by first | rfl | (simp; done) | (simp [*]; done)), H', ⟨by have := HJ5.out; have := HK2.out; have := HK3.out; omega⟩, ⟨by (with_reducible repeat (first | apply Kd.Q_alloc | apply Kd.Q_drewN | apply Kd.Q_drew)); exact Kd.Q_mono (Kd.Q_far (p := ⟨gb342, 1, none⟩) (Kd.Q_far (p := ⟨gb342, 0, none⟩) (Kd.Q_types HO_330001.out BK342.out (by decide)) (fun _ hk => hk.2) (.int .i64 t339)) (fun _ hk => hk.2) (.int .i64 t340)) (fun _ hk => trivial)⟩, ⟨by (with_reducible repeat (first | refine blk_drewN ?_ _ | refine blk_drew ?_ | refine blk_alloc ?_ _)); refine blk_far ?_ NB329_342.out _; (with_reducible repeat (first | refine blk_drewN ?_ _ | refine blk_drew ?_ | refine blk_alloc ?_ _)); refine blk_far ?_ NB329_342.out _; (with_reducible repeat (first | refine blk_drewN ?_ _ | refine blk_drew ?_ | refine blk_alloc ?_ _)); exact BK329.out⟩, ⟨by (with_reducible repeat (first | refine blk_drewN ?_ _ | refine blk_drew ?_ | refine blk_alloc ?_ _)); refine blk_far ?_ NB333_342.out _; (with_reducible repeat (first | refine blk_drewN ?_ _ | refine blk_drew ?_ | refine blk_alloc ?_ _)); refine blk_far ?_ NB333_342.out _; (with_reducible repeat (first | refine blk_drewN ?_ _ | refine blk_drew ?_ | refine blk_alloc ?_ _)); exact BK333.out⟩, ⟨by (with_reducible repeat (first | refine blk_drewN ?_ _ | refine blk_drew ?_ | refine blk_alloc ?_ _)); refine blk_far ?_ NB337_342.out _; (with_reducible repeat (first | refine blk_drewN ?_ _ | refine blk_drew ?_ | refine blk_alloc ?_ _)); refine blk_far ?_ NB337_342.out _; (with_reducible repeat (first | refine blk_drewN ?_ _ | refine blk_drew ?_ | refine blk_alloc ?_ _)); exact BK337.out⟩, ⟨by repeat (first | (with_reducible first | exact HB.out | apply below_alloc | apply pw_below_drewN | apply below_drew1 | refine below_set ?_ GE329.out | refine below_set ?_ GE333.out | refine below_set ?_ GE337.out | refine below_set ?_ GE342.out) | exact HB.out)⟩⟩
                      · replace c46 := Bool.eq_false_iff.mpr c46
                        subst c46
                        have H1 : (laws_FnRayEdge.l1 k3 x10_2 (wrap64 (x11_3 + 1)) (wrap64 (x12_3 + 1)) t323 t324) = some r := by rw [if_neg (show ¬ (false = true) by decide)] at H; exact H
                        clear H
                        have H := H1
                        clear H1
                        have H' := Aside0.mk H
                        clear H
                        have hnb56 := NB329_333.out
                        have hnc56 := NB333_329.out
                        have hnb57 := NB329_337.out
                        have hnc57 := NB337_329.out
                        have hcz58_0 : wr.cell? ⟨gb329, 0, none⟩ = some (.int .i64 t323) := (blk_cell BK329.out 0).trans rfl
                        have hcz58_1 : wr.cell? ⟨gb329, 1, none⟩ = some (.slice Ao10 t324.length co10) := (blk_cell BK329.out 1).trans rfl
                        have hfz58_0 := blk_frozen BK329.out 0
                        have hfz58_1 := blk_frozen BK329.out 1
                        go_wp2_with (first | ((with_reducible refine gate_callee (f := 18) rfl ?_); refine goesL_ (some 74) rfl rfl Try.func18 (by kernel_rfl) rfl #[.agg #[.int .i64 t323, .slice Ao10 t324.length co10], .int .i64 x12_3, .int .i64 x10_2] rfl (by (try simp only [List.map_toArray, List.map_cons, List.map_nil]); first | done | rfl | (simp only [List.length_drop, List.length_take]; rfl)) ?_; (with_reducible refine (impl_RayNext.calls k3 t323 _ _ t324 x12_3 x10_2 t339 t340 false _ ?side1 ?side2 A45.out).mono ?_); (case side1 => repeat (first | exact (Kd.Q_reads' HO_330001.out).2.2 | (with_reducible refine Kd.C_alloc ?_ _) | (with_reducible refine Kd.C_drewN ?_ _) | (with_reducible refine Kd.C_drew ?_))); (case side2 => exact (Kd.Q_reads' HO_330001.out).2.1); rintro e w59 ⟨rfl, hb⟩; refine ⟨_, rfl, ?_⟩; have n0_ := Aside0.mk (Kd.Q_below (by (with_reducible repeat (first | apply Kd.Q_alloc | apply Kd.Q_drewN | apply Kd.Q_drew)); exact HO_330001.out) hb); have n1_ := Aside0.mk (blk_below (g := gb329) (o := .cells #[.int .i64 t323, .slice Ao10 t324.length co10] 25 (0, 0)) (by (with_reducible repeat (first | refine blk_drewN ?_ _ | refine blk_drew ?_ | refine blk_alloc ?_ _)); exact BK329.out) hb); have n2_ := Aside0.mk (blk_below (g := gb333) (o := .cells #[.int .i64 t330, .int .i64 t331] 29 (0, 0)) (by (with_reducible repeat (first | refine blk_drewN ?_ _ | refine blk_drew ?_ | refine blk_alloc ?_ _)); exact BK333.out) hb); have n3_ := Aside0.mk (blk_below (g := gb337) (o := .cells #[.int .i64 t334, .int .i64 t335] 29 (0, 0)) (by (with_reducible repeat (first | refine blk_drewN ?_ _ | refine blk_drew ?_ | refine blk_alloc ?_ _)); exact BK337.out) hb); have n4_ := Aside0.mk (below_step (by repeat (first | (with_reducible first | exact HB.out | apply below_alloc | apply pw_below_drewN | apply below_drew1 | refine below_set ?_ GE329.out | refine below_set ?_ GE333.out | refine below_set ?_ GE337.out) | exact HB.out)) hb); clear HO_330001; clear BK329; clear BK333; clear BK337; clear HB; have HO_330001 := n0_; have BK329 := n1_; have BK333 := n2_; have BK337 := n3_; have HB := n4_; clear n0_ n1_ n2_ n3_ n4_; (try clear hb); (try clear hb2); (try clear hk); (try clear hi)) | ((with_reducible refine gate_dst (N := 13) rfl ?_); (try (refine gate_guard (by rfl) ?_; dsimp only)); refine box_event ?hg (N := 13) ?hd (cs := #[.int .i64 0, .int .i64 0]) (t := 29) ?hr ?_; (case hd => rfl); (case hg => rfl); (case hr => first | (go_simp; done) | (go_simp; rfl)); intro gb342 hg w60 hbox hb; have n0_ := Aside0.mk (Kd.Q_below (by (with_reducible repeat (first | apply Kd.Q_alloc | apply Kd.Q_drewN | apply Kd.Q_drew)); exact HO_330001.out) hb); have n1_ := Aside0.mk (blk_below (g := gb329) (o := .cells #[.int .i64 t323, .slice Ao10 t324.length co10] 25 (0, 0)) (by (with_reducible repeat (first | refine blk_drewN ?_ _ | refine blk_drew ?_ | refine blk_alloc ?_ _)); exact BK329.out) hb); have n2_ := Aside0.mk (blk_below (g := gb333) (o := .cells #[.int .i64 t330, .int .i64 t331] 29 (0, 0)) (by (with_reducible repeat (first | refine blk_drewN ?_ _ | refine blk_drew ?_ | refine blk_alloc ?_ _)); exact BK333.out) hb); have n3_ := Aside0.mk (blk_below (g := gb337) (o := .cells #[.int .i64 t334, .int .i64 t335] 29 (0, 0)) (by (with_reducible repeat (first | refine blk_drewN ?_ _ | refine blk_drew ?_ | refine blk_alloc ?_ _)); exact BK337.out) hb); have n4_ := Aside0.mk (below_step (by repeat (first | (with_reducible first | exact HB.out | apply below_alloc | apply pw_below_drewN | apply below_drew1 | refine below_set ?_ GE329.out | refine below_set ?_ GE333.out | refine below_set ?_ GE337.out) | exact HB.out)) hb); have n5_ := Aside0.mk (hbox); have n6_ := Aside0.mk ((by rw [hg]; exact (below_size (by repeat (first | (with_reducible first | exact HB.out | apply below_alloc | apply pw_below_drewN | apply below_drew1 | refine below_set ?_ GE329.out | refine below_set ?_ GE333.out | refine below_set ?_ GE337.out) | exact HB.out))) : w.heap.size ≤ gb342)); have n7_ := Aside0.mk ((by rw [hg]; exact (below_size (by repeat (first | (with_reducible first | exact HB.out | apply below_alloc | apply pw_below_drewN | apply below_drew1 | refine below_set ?_ GE329.out | refine below_set ?_ GE333.out | refine below_set ?_ GE337.out) | exact HB.out))) : w.heap.size ≤ gb342)); have n8_ := Aside0.mk ((by rw [hg]; exact Nat.ne_of_lt (blk_lt (g := gb329) (o := .cells #[.int .i64 t323, .slice Ao10 t324.length co10] 25 (0, 0)) (by (with_reducible repeat (first | refine blk_drewN ?_ _ | refine blk_drew ?_ | refine blk_alloc ?_ _)); exact BK329.out)) : gb329 ≠ gb342)); have n9_ := Aside0.mk ((by rw [hg]; exact Nat.ne_of_gt (blk_lt (g := gb329) (o := .cells #[.int .i64 t323, .slice Ao10 t324.length co10] 25 (0, 0)) (by (with_reducible repeat (first | refine blk_drewN ?_ _ | refine blk_drew ?_ | refine blk_alloc ?_ _)); exact BK329.out)) : gb342 ≠ gb329)); have n10_ := Aside0.mk ((by rw [hg]; exact Nat.ne_of_lt (blk_lt (g := gb333) (o := .cells #[.int .i64 t330, .int .i64 t331] 29 (0, 0)) (by (with_reducible repeat (first | refine blk_drewN ?_ _ | refine blk_drew ?_ | refine blk_alloc ?_ _)); exact BK333.out)) : gb333 ≠ gb342)); have n11_ := Aside0.mk ((by rw [hg]; exact Nat.ne_of_gt (blk_lt (g := gb333) (o := .cells #[.int .i64 t330, .int .i64 t331] 29 (0, 0)) (by (with_reducible repeat (first | refine blk_drewN ?_ _ | refine blk_drew ?_ | refine blk_alloc ?_ _)); exact BK333.out)) : gb342 ≠ gb333)); have n12_ := Aside0.mk ((by rw [hg]; exact Nat.ne_of_lt (blk_lt (g := gb337) (o := .cells #[.int .i64 t334, .int .i64 t335] 29 (0, 0)) (by (with_reducible repeat (first | refine blk_drewN ?_ _ | refine blk_drew ?_ | refine blk_alloc ?_ _)); exact BK337.out)) : gb337 ≠ gb342)); have n13_ := Aside0.mk ((by rw [hg]; exact Nat.ne_of_gt (blk_lt (g := gb337) (o := .cells #[.int .i64 t334, .int .i64 t335] 29 (0, 0)) (by (with_reducible repeat (first | refine blk_drewN ?_ _ | refine blk_drew ?_ | refine blk_alloc ?_ _)); exact BK337.out)) : gb342 ≠ gb337)); clear HO_330001; clear BK329; clear BK333; clear BK337; clear HB; have HO_330001 := n0_; have BK329 := n1_; have BK333 := n2_; have BK337 := n3_; have HB := n4_; have BK342 := n5_; have GW342 := n6_; have GE342 := n7_; have NB329_342 := n8_; have NB342_329 := n9_; have NB333_342 := n10_; have NB342_333 := n11_; have NB337_342 := n12_; have NB342_337 := n13_; clear n0_ n1_ n2_ n3_ n4_ n5_ n6_ n7_ n8_ n9_ n10_ n11_ n12_ n13_; clear hb hbox hg; have hnb61 := NB342_329.out; have hnc61 := NB329_342.out; have hnb62 := NB342_333.out; have hnc62 := NB333_342.out; have hnb63 := NB342_337.out; have hnc63 := NB337_342.out; have hcz64_0 : w60.cell? ⟨gb342, 0, none⟩ = some (.int .i64 0) := (blk_cell BK342.out 0).trans rfl; have hcz64_1 : w60.cell? ⟨gb342, 1, none⟩ = some (.int .i64 0) := (blk_cell BK342.out 1).trans rfl; have hfz64_0 := blk_frozen BK342.out 0; have hfz64_1 := blk_frozen BK342.out 1))
                        go_roundg k3
                        case measure => have := HJ5.out; have := HK2.out; have := HK3.out; omega
                        case rel => exact ⟨(wrap64 (x11_3 + 1)), (wrap64 (x12_3 + 1)), (by first | rfl | (simp; done) | (simp [*]; done)), (by first | rfl | (simp; done) | (simp [*]; done)), H', ⟨by have := HJ5.out; have := HK2.out; have := HK3.out; omega⟩, ⟨by (with_reducible repeat (first | apply Kd.Q_alloc | apply Kd.Q_drewN | apply Kd.Q_drew)); exact Kd.Q_mono (Kd.Q_far (p := ⟨gb342, 1, none⟩) (Kd.Q_far (p := ⟨gb342, 0, none⟩) (Kd.Q_types HO_330001.out BK342.out (by decide)) (fun _ hk => hk.2) (.int .i64 t339)) (fun _ hk => hk.2) (.int .i64 t340)) (fun _ hk => trivial)⟩, ⟨by (with_reducible repeat (first | refine blk_drewN ?_ _ | refine blk_drew ?_ | refine blk_alloc ?_ _)); refine blk_far ?_ NB329_342.out _; (with_reducible repeat (first | refine blk_drewN ?_ _ | refine blk_drew ?_ | refine blk_alloc ?_ _)); refine blk_far ?_ NB329_342.out _; (with_reducible repeat (first | refine blk_drewN ?_ _ | refine blk_drew ?_ | refine blk_alloc ?_ _)); exact BK329.out⟩, ⟨by (with_reducible repeat (first | refine blk_drewN ?_ _ | refine blk_drew ?_ | refine blk_alloc ?_ _)); refine blk_far ?_ NB333_342.out _; (with_reducible repeat (first | refine blk_drewN ?_ _ | refine blk_drew ?_ | refine blk_alloc ?_ _)); refine blk_far ?_ NB333_342.out _; (with_reducible repeat (first | refine blk_drewN ?_ _ | refine blk_drew ?_ | refine blk_alloc ?_ _)); exact BK333.out⟩, ⟨by (with_reducible repeat (first | refine blk_drewN ?_ _ | refine blk_drew ?_ | refine blk_alloc ?_ _)); refine blk_far ?_ NB337_342.out _; (with_reducible repeat (first | refine blk_drewN ?_ _ | refine blk_drew ?_ | refine blk_alloc ?_ _)); refine blk_far ?_ NB337_342.out _; (with_reducible repeat (first | refine blk_drewN ?_ _ | refine blk_drew ?_ | refine blk_alloc ?_ _)); exact BK337.out⟩, ⟨by repeat (first | (with_reducible first | exact HB.out | apply below_alloc | apply pw_below_drewN | apply below_drew1 | refine below_set ?_ GE329.out | refine below_set ?_ GE333.out | refine below_set ?_ GE337.out | refine below_set ?_ GE342.out) | exact HB.out)⟩⟩
                    · rw [if_neg c44] at H
                      have c44b0 : decide (x12_3 < (t324.length : Int)) = false := decide_eq_false c44
                      clear c44
                      by_cases c65 : (Int.tmod x10_2 2) = 0
                      · rw [if_pos c65] at H
                        have c65b0 : ((Int.tmod x10_2 2) == 0) = true := beq_iff_eq.mpr c65
                        have c65b1 : ((Int.tmod x10_2 2) != 0) = false := bne_eq_false_iff_eq.mpr c65
                        clear c65
                        by_cases c66 : x11_3 = t323
                        · rw [if_pos c66] at H
                          have c66b0 : (x11_3 == t323) = true := beq_iff_eq.mpr c66
                          have c66b1 : (x11_3 != t323) = false := bne_eq_false_iff_eq.mpr c66
                          clear c66
                          by_cases c67 : (Int.tmod x10_2 2) = 1
                          · rw [if_pos c67] at H
                            have c67b0 : ((Int.tmod x10_2 2) == 1) = true := beq_iff_eq.mpr c67
                            have c67b1 : ((Int.tmod x10_2 2) != 1) = false := bne_eq_false_iff_eq.mpr c67
                            clear c67
                            by_cases c68 : t323 = 0
                            · rw [if_pos c68] at H
                              exact absurd H (by simp)
                            · rw [if_neg c68] at H
                              have c68b0 : (t323 == 0) = false := beq_eq_false_iff_ne.mpr c68
                              have c68b1 : (t323 != 0) = true := bne_iff_ne.mpr c68
                              by_cases c69 : x11_3 = (wrap64 ((t324.length : Int) / t323))
                              · rw [if_pos c69] at H
                                have c69b0 : (x11_3 == (wrap64 ((t324.length : Int) / t323))) = true := beq_iff_eq.mpr c69
                                have c69b1 : (x11_3 != (wrap64 ((t324.length : Int) / t323))) = false := bne_eq_false_iff_eq.mpr c69
                                clear c69
                                have H' := Aside0.mk H
                                clear H
                                have hnb70 := NB329_333.out
                                have hnc70 := NB333_329.out
                                have hnb71 := NB329_337.out
                                have hnc71 := NB337_329.out
                                have hcz72_0 : wr.cell? ⟨gb329, 0, none⟩ = some (.int .i64 t323) := (blk_cell BK329.out 0).trans rfl
                                have hcz72_1 : wr.cell? ⟨gb329, 1, none⟩ = some (.slice Ao10 t324.length co10) := (blk_cell BK329.out 1).trans rfl
                                have hfz72_0 := blk_frozen BK329.out 0
                                have hfz72_1 := blk_frozen BK329.out 1
                                go_wp2
                                go_roundg k3
                                case measure => have := HJ5.out; have := HK2.out; have := HK3.out; omega
                                case rel => exact ⟨(wrap64 (x10_2 + 1)), (by first | rfl | (simp; done) | (simp [*]; done)), H', ⟨by have := HJ5.out; have := HK2.out; have := HK3.out; omega⟩, ⟨by (with_reducible repeat (first | apply Kd.Q_alloc | apply Kd.Q_drewN | apply Kd.Q_drew)); exact HO_330001.out⟩, ⟨by (with_reducible repeat (first | refine blk_drewN ?_ _ | refine blk_drew ?_ | refine blk_alloc ?_ _)); exact BK329.out⟩, ⟨by (with_reducible repeat (first | refine blk_drewN ?_ _ | refine blk_drew ?_ | refine blk_alloc ?_ _)); exact BK333.out⟩, ⟨by (with_reducible repeat (first | refine blk_drewN ?_ _ | refine blk_drew ?_ | refine blk_alloc ?_ _)); exact BK337.out⟩, ⟨by repeat (first | (with_reducible first | exact HB.out | apply below_alloc | apply pw_below_drewN | apply below_drew1 | refine below_set ?_ GE329.out | refine below_set ?_ GE333.out | refine below_set ?_ GE337.out) | exact HB.out)⟩⟩
                              · rw [if_neg c69] at H
                                have c69b0 : (x11_3 == (wrap64 ((t324.length : Int) / t323))) = false := beq_eq_false_iff_ne.mpr c69
                                have c69b1 : (x11_3 != (wrap64 ((t324.length : Int) / t323))) = true := bne_iff_ne.mpr c69
                                obtain rfl := Option.some.inj H
                                exact absurd HRT.out (by decide)
                          · rw [if_neg c67] at H
                            have c67b0 : ((Int.tmod x10_2 2) == 1) = false := beq_eq_false_iff_ne.mpr c67
                            have c67b1 : ((Int.tmod x10_2 2) != 1) = true := bne_iff_ne.mpr c67
                            have H' := Aside0.mk H
                            clear H
                            have hnb73 := NB329_333.out
                            have hnc73 := NB333_329.out
                            have hnb74 := NB329_337.out
                            have hnc74 := NB337_329.out
                            have hcz75_0 : wr.cell? ⟨gb329, 0, none⟩ = some (.int .i64 t323) := (blk_cell BK329.out 0).trans rfl
                            have hcz75_1 : wr.cell? ⟨gb329, 1, none⟩ = some (.slice Ao10 t324.length co10) := (blk_cell BK329.out 1).trans rfl
                            have hfz75_0 := blk_frozen BK329.out 0
                            have hfz75_1 := blk_frozen BK329.out 1
                            go_wp2
                            go_roundg k3
                            case measure => have := HJ5.out; have := HK2.out; have := HK3.out; omega
                            case rel => exact ⟨(wrap64 (x10_2 + 1)), (by first | rfl | (simp; done) | (simp [*]; done)), H', ⟨by have := HJ5.out; have := HK2.out; have := HK3.out; omega⟩, ⟨by (with_reducible repeat (first | apply Kd.Q_alloc | apply Kd.Q_drewN | apply Kd.Q_drew)); exact HO_330001.out⟩, ⟨by (with_reducible repeat (first | refine blk_drewN ?_ _ | refine blk_drew ?_ | refine blk_alloc ?_ _)); exact BK329.out⟩, ⟨by (with_reducible repeat (first | refine blk_drewN ?_ _ | refine blk_drew ?_ | refine blk_alloc ?_ _)); exact BK333.out⟩, ⟨by (with_reducible repeat (first | refine blk_drewN ?_ _ | refine blk_drew ?_ | refine blk_alloc ?_ _)); exact BK337.out⟩, ⟨by repeat (first | (with_reducible first | exact HB.out | apply below_alloc | apply pw_below_drewN | apply below_drew1 | refine below_set ?_ GE329.out | refine below_set ?_ GE333.out | refine below_set ?_ GE337.out) | exact HB.out)⟩⟩
                        · rw [if_neg c66] at H
                          have c66b0 : (x11_3 == t323) = false := beq_eq_false_iff_ne.mpr c66
                          have c66b1 : (x11_3 != t323) = true := bne_iff_ne.mpr c66
                          obtain rfl := Option.some.inj H
                          exact absurd HRT.out (by decide)
                      · rw [if_neg c65] at H
                        have c65b0 : ((Int.tmod x10_2 2) == 0) = false := beq_eq_false_iff_ne.mpr c65
                        have c65b1 : ((Int.tmod x10_2 2) != 0) = true := bne_iff_ne.mpr c65
                        by_cases c76 : (Int.tmod x10_2 2) = 1
                        · rw [if_pos c76] at H
                          have c76b0 : ((Int.tmod x10_2 2) == 1) = true := beq_iff_eq.mpr c76
                          have c76b1 : ((Int.tmod x10_2 2) != 1) = false := bne_eq_false_iff_eq.mpr c76
                          clear c76
                          by_cases c77 : t323 = 0
                          · rw [if_pos c77] at H
                            exact absurd H (by simp)
                          · rw [if_neg c77] at H
                            have c77b0 : (t323 == 0) = false := beq_eq_false_iff_ne.mpr c77
                            have c77b1 : (t323 != 0) = true := bne_iff_ne.mpr c77
                            by_cases c78 : x11_3 = (wrap64 ((t324.length : Int) / t323))
                            · rw [if_pos c78] at H
                              have c78b0 : (x11_3 == (wrap64 ((t324.length : Int) / t323))) = true := beq_iff_eq.mpr c78
                              have c78b1 : (x11_3 != (wrap64 ((t324.length : Int) / t323))) = false := bne_eq_false_iff_eq.mpr c78
                              clear c78
                              have H' := Aside0.mk H
                              clear H
                              have hnb79 := NB329_333.out
                              have hnc79 := NB333_329.out
                              have hnb80 := NB329_337.out
                              have hnc80 := NB337_329.out
                              have hcz81_0 : wr.cell? ⟨gb329, 0, none⟩ = some (.int .i64 t323) := (blk_cell BK329.out 0).trans rfl
                              have hcz81_1 : wr.cell? ⟨gb329, 1, none⟩ = some (.slice Ao10 t324.length co10) := (blk_cell BK329.out 1).trans rfl
                              have hfz81_0 := blk_frozen BK329.out 0
                              have hfz81_1 := blk_frozen BK329.out 1
                              go_wp2
                              go_roundg k3
                              case measure => have := HJ5.out; have := HK2.out; have := HK3.out; omega
                              case rel => exact ⟨(wrap64 (x10_2 + 1)), (by first | rfl | (simp; done) | (simp [*]; done)), H', ⟨by have := HJ5.out; have := HK2.out; have := HK3.out; omega⟩, ⟨by (with_reducible repeat (first | apply Kd.Q_alloc | apply Kd.Q_drewN | apply Kd.Q_drew)); exact HO_330001.out⟩, ⟨by (with_reducible repeat (first | refine blk_drewN ?_ _ | refine blk_drew ?_ | refine blk_alloc ?_ _)); exact BK329.out⟩, ⟨by (with_reducible repeat (first | refine blk_drewN ?_ _ | refine blk_drew ?_ | refine blk_alloc ?_ _)); exact BK333.out⟩, ⟨by (with_reducible repeat (first | refine blk_drewN ?_ _ | refine blk_drew ?_ | refine blk_alloc ?_ _)); exact BK337.out⟩, ⟨by repeat (first | (with_reducible first | exact HB.out | apply below_alloc | apply pw_below_drewN | apply below_drew1 | refine below_set ?_ GE329.out | refine below_set ?_ GE333.out | refine below_set ?_ GE337.out) | exact HB.out)⟩⟩
                            · rw [if_neg c78] at H
                              have c78b0 : (x11_3 == (wrap64 ((t324.length : Int) / t323))) = false := beq_eq_false_iff_ne.mpr c78
                              have c78b1 : (x11_3 != (wrap64 ((t324.length : Int) / t323))) = true := bne_iff_ne.mpr c78
                              obtain rfl := Option.some.inj H
                              exact absurd HRT.out (by decide)
                        · rw [if_neg c76] at H
                          have c76b0 : ((Int.tmod x10_2 2) == 1) = false := beq_eq_false_iff_ne.mpr c76
                          have c76b1 : ((Int.tmod x10_2 2) != 1) = true := bne_iff_ne.mpr c76
                          have H' := Aside0.mk H
                          clear H
                          have hnb82 := NB329_333.out
                          have hnc82 := NB333_329.out
                          have hnb83 := NB329_337.out
                          have hnc83 := NB337_329.out
                          have hcz84_0 : wr.cell? ⟨gb329, 0, none⟩ = some (.int .i64 t323) := (blk_cell BK329.out 0).trans rfl
                          have hcz84_1 : wr.cell? ⟨gb329, 1, none⟩ = some (.slice Ao10 t324.length co10) := (blk_cell BK329.out 1).trans rfl
                          have hfz84_0 := blk_frozen BK329.out 0
                          have hfz84_1 := blk_frozen BK329.out 1
                          go_wp2
                          go_roundg k3
                          case measure => have := HJ5.out; have := HK2.out; have := HK3.out; omega
                          case rel => exact ⟨(wrap64 (x10_2 + 1)), (by first | rfl | (simp; done) | (simp [*]; done)), H', ⟨by have := HJ5.out; have := HK2.out; have := HK3.out; omega⟩, ⟨by (with_reducible repeat (first | apply Kd.Q_alloc | apply Kd.Q_drewN | apply Kd.Q_drew)); exact HO_330001.out⟩, ⟨by (with_reducible repeat (first | refine blk_drewN ?_ _ | refine blk_drew ?_ | refine blk_alloc ?_ _)); exact BK329.out⟩, ⟨by (with_reducible repeat (first | refine blk_drewN ?_ _ | refine blk_drew ?_ | refine blk_alloc ?_ _)); exact BK333.out⟩, ⟨by (with_reducible repeat (first | refine blk_drewN ?_ _ | refine blk_drew ?_ | refine blk_alloc ?_ _)); exact BK337.out⟩, ⟨by repeat (first | (with_reducible first | exact HB.out | apply below_alloc | apply pw_below_drewN | apply below_drew1 | refine below_set ?_ GE329.out | refine below_set ?_ GE333.out | refine below_set ?_ GE337.out) | exact HB.out)⟩⟩
              · rw [if_neg c43] at H
                have c43b0 : decide (x10_2 ≤ 3) = false := decide_eq_false c43
                clear c43
                obtain rfl := Option.some.inj H
                go_wp2
                go_ret
                exact ⟨by first | rfl | (simp [errW_none, errW_some] <;> rfl) | (simp [*, errW_none, errW_some] <;> rfl) | (exfalso; simp_all; done), by repeat (first | (with_reducible first | exact HB.out | apply below_alloc | apply pw_below_drewN | apply below_drew1 | refine below_set ?_ GE329.out | refine below_set ?_ GE333.out | refine below_set ?_ GE337.out) | exact HB.out)⟩

/-- THE ONE PURE STATEMENT of laws_FnRayEdge: yours. -/
def laws_FnRayEdge.Pure : Prop := ∀ (l0 : List Int), l0.length ≤ maxLen → l0.length * 1 ≤ 140737488351232 → (∀ x ∈ l0, (Lit.int .u8 x).wf = true) → ∃ k, laws_FnRayEdge.f k l0 = some true
theorem laws_FnRayEdge.walk (P : laws_FnRayEdge.Pure) (a0 : Option Addr) (len0 cap0 : Nat) (z0 : List Int) (w : World) (w0 : (a0 = none ∧ len0 = 0 ∧ cap0 = 0 ∧ z0 = []) ∨ ∃ x, a0 = some x ∧ len0 ≤ cap0 ∧ cap0 ≤ maxLen ∧ z0.length = cap0 ∧ (∀ i, i < z0.length → w.cell? (x.add i) = some (.int .u8 (z0.getD i 0))) ∧ ∀ n ∈ z0, (Lit.int .u8 n).wf = true) (y0 : len0 * 1 ≤ 140737488351232) :
    Calls Try.prog 5 #[.slice a0 len0 cap0] w fun e w' => e = .returned (.bool true) ∧ Below w.heap.size w w' := by
  obtain ⟨l0, rfl, hr0, hm0, hw0, hc0⟩ := ReadsInt.ofRowC w0
  obtain ⟨k, h⟩ := P l0 hm0 y0 hw0
  refine (laws_FnRayEdge.calls k _ _ l0 true w (Kd.C_of_reads (d := (0 : Int)) (h1 := fun _ => rfl) hr0) hc0 h rfl).mono ?_
  rintro e w' ⟨rfl, hd⟩
  exact ⟨rfl, hd⟩

end Go.Proofs.Ytbomeogcgefddaa.P
