/- PROVED: contracts of functions of the program, the reference and the statements; written by this session's driver (pk.py) through its own changed copy of the kit's print. No condition. -/
import Derived.Test.YtbomeogcgefddaaPx0
import Derived.Test.YtbomeogcgefddaaPx3
import Derived.Test.YtbomeogcgefddaaPx7
import Derived.Test.YtbomeogcgefddaaPx8
import Derived.Test.YtbomeogcgefddaaPx9
import Derived.Test.YtbomeogcgefddaaPx23
import Derived.Test.YtbomeogcgefddaaPx24
import Derived.Test.YtbomeogcgefddaaPx26
namespace Go.Proofs.Ytbomeogcgefddaa.P
open Go.RowKit Go.Proofs.YtbomeogcgefddaaW.PrintWords Go.Proofs.YtbomeogcgefddaaW.PrintLast Go.Proofs.YtbomeogcgefddaaW.PrintMore
attribute [local go_sem] max2_int min2_int max_two min_two max_three min_three max_four min_four   -- for this text's walks alone
set_option linter.unusedVariables false
set_option linter.unusedSimpArgs false

/-! ### spec_DrawSightOf: function 23 -/
def spec_DrawSightOf.j0 : Nat → Bool → List Int → Int → Int → List (S42) → Option (Int × (List (S42)) × Int × Int)
  | 0, _, _, _, _, _ => none
  | k + 1, x18, x447000, x447001, x453000, x453001 => if x18 = true then ((spec_l3Many.f x453000 x453001).bind fun t456 => ((spec_l6Rd_pick.f k x447000 x447001 t456).bind fun bt457 => ((spec_l3Ray.f x453000 x453001 bt457.1).bind fun bt459 => ((spec_l2Back.f bt459.2).bind fun t462 => (some (x453000, x453001, bt459.1, t462)))))) else ((spec_l71Place.f k x447000 x447001 x453000 x453001).bind fun bt463 => ((spec_l6Rd_pick.f k x447000 bt463.2 4).bind fun bt465 => ((spec_l6Rd_pick.f k x447000 bt465.2 24).bind fun bt467 => (some (x453000, x453001, bt463.1, wrap64 (bt465.1 + (wrap64 (Int.tdiv bt467.1 23))))))))
def spec_DrawSightOf.f (k : Nat) (l0 : List Int) : Option (Int × (List (S42)) × Int × Int) := (spec_l6Open.f l0).bind fun bt444 => ((spec_l71Some.f k bt444.1 bt444.2).bind fun bt447 => ((spec_l6Rd_pick.f k bt444.1 bt447.2.2 2).bind fun bt453 => (if bt453.1 = 0 then ((spec_GridOk.f k bt447.1 bt447.2.1).bind fun t455 => (spec_DrawSightOf.j0 k t455 bt444.1 bt453.2 bt447.1 bt447.2.1)) else (spec_DrawSightOf.j0 k false bt444.1 bt453.2 bt447.1 bt447.2.1))))
theorem spec_DrawSightOf.mono_l : ∀ k, (∀ y0 y1 y2 y3 y4, LeO (spec_DrawSightOf.j0 k y0 y1 y2 y3 y4) (spec_DrawSightOf.j0 (k + 1) y0 y1 y2 y3 y4))
  | 0 => fun _ _ _ _ _ r h => by simp [spec_DrawSightOf.j0] at h
  | k + 1 => by
    have ih0 := spec_DrawSightOf.mono_l k
    · intro y0 y1 y2 y3 y4
      unfold spec_DrawSightOf.j0
      repeat' first
      | (with_reducible exact ih0 _ _ _ _ _)
      | (with_reducible exact spec_GridOk.mono _ _ _)
      | (with_reducible exact spec_l6Rd_pick.mono _ _ _ _)
      | (with_reducible exact spec_l71Place.mono _ _ _ _ _)
      | (with_reducible exact spec_l71Some.mono _ _ _)
      | (with_reducible exact LeO.refl _)
      | (with_reducible exact LeO.none _)
      | (with_reducible refine LeO.ite ?_ ?_)
      | (with_reducible refine LeO.bind ?_ (fun _ => ?_))
      | exact ih0 _ _ _ _ _
      | exact spec_GridOk.mono _ _ _
      | exact spec_l6Rd_pick.mono _ _ _ _
      | exact spec_l71Place.mono _ _ _ _ _
      | exact spec_l71Some.mono _ _ _
      | exact LeO.none _
      | refine LeO.ite ?_ ?_
      | refine LeO.bind ?_ (fun _ => ?_)
theorem spec_DrawSightOf.mono : ∀ a0 k, LeO (spec_DrawSightOf.f k a0) (spec_DrawSightOf.f (k + 1) a0) := by
  intro a0 k
  have ih0 := spec_DrawSightOf.mono_l k
  unfold spec_DrawSightOf.f
  repeat' first
      | (with_reducible exact ih0 _ _ _ _ _)
      | (with_reducible exact spec_GridOk.mono _ _ _)
      | (with_reducible exact spec_l6Rd_pick.mono _ _ _ _)
      | (with_reducible exact spec_l71Place.mono _ _ _ _ _)
      | (with_reducible exact spec_l71Some.mono _ _ _)
      | (with_reducible exact LeO.refl _)
      | (with_reducible exact LeO.none _)
      | (with_reducible refine LeO.ite ?_ ?_)
      | (with_reducible refine LeO.bind ?_ (fun _ => ?_))
      | exact ih0 _ _ _ _ _
      | exact spec_GridOk.mono _ _ _
      | exact spec_l6Rd_pick.mono _ _ _ _
      | exact spec_l71Place.mono _ _ _ _ _
      | exact spec_l71Some.mono _ _ _
      | exact LeO.none _
      | refine LeO.ite ?_ ?_
      | refine LeO.bind ?_ (fun _ => ?_)
def spec_DrawSightOf.T4 : Bool × List (List Nat × List Nat) := (true, [([], []), ([], []), ([], []), ([2], [2]), ([1, 3, 3], [1, 3]), ([0, 4, 4], [0, 4]), ([], []), ([6, 5, 5, 0, 1, 2, 3, 4, 5, 6], [5, 6])])
def spec_DrawSightOf.B4 : List Nat := [0, 0, 0, 4, 14, 31, 0, 127]
theorem spec_DrawSightOf.tab4 : rtab .any (opsOf Try.f23 4) = spec_DrawSightOf.T4 := by kernel_rfl
theorem spec_DrawSightOf.bits4 : waitsOk spec_DrawSightOf.T4.2 spec_DrawSightOf.B4 = true := by kernel_rfl
def spec_DrawSightOf.T5 : Bool × List (List Nat × List Nat) := (true, [([], []), ([], []), ([1], [1]), ([], []), ([3], [3]), ([4], [4]), ([0, 5, 0], [0]), ([2, 6, 0, 1, 2, 6], [2]), ([5, 7, 0, 1, 2, 3, 4, 5, 6, 7], [5])])
def spec_DrawSightOf.B5 : List Nat := [0, 0, 2, 0, 8, 24, 57, 127, 255]
theorem spec_DrawSightOf.tab5 : rtab .any (opsOf Try.f23 5) = spec_DrawSightOf.T5 := by kernel_rfl
theorem spec_DrawSightOf.bits5 : waitsOk spec_DrawSightOf.T5.2 spec_DrawSightOf.B5 = true := by kernel_rfl
def spec_DrawSightOf.T6 : Bool × List (List Nat × List Nat) := (true, [([], []), ([], []), ([], []), ([1, 2], [1, 2]), ([], []), ([4, 3], [4]), ([], []), ([6, 5], [6]), ([7], [7]), ([5, 8], [5, 8]), ([0, 7, 0], [0]), ([3, 10, 0, 1, 2, 3, 10], [3]), ([9, 11, 0, 1, 2, 3, 4, 5, 6, 7, 8, 9, 10, 11], [9])])
def spec_DrawSightOf.B6 : List Nat := [0, 0, 0, 6, 0, 30, 0, 126, 254, 510, 255, 1279, 4095]
theorem spec_DrawSightOf.tab6 : rtab .any (opsOf Try.f23 6) = spec_DrawSightOf.T6 := by kernel_rfl
theorem spec_DrawSightOf.bits6 : waitsOk spec_DrawSightOf.T6.2 spec_DrawSightOf.B6 = true := by kernel_rfl
set_option maxHeartbeats 8000000 in
set_option maxRecDepth 100000 in
theorem spec_DrawSightOf.calls (k : Nat) (A0 : Option Addr) (c0 : Nat) (l0 : List Int) (r1 : Int) (r2 : List (S42)) (r3 : Int) (r4 : Int) (w : World) (hr0 : Kd.C (Kd.int .u8) w A0 l0.length l0) (hc0 : l0.length ≤ c0) (h : spec_DrawSightOf.f k l0 = some (r1, r2, r3, r4)) :
    Calls Try.prog 23 #[.slice A0 l0.length c0] w fun e w' => ∃ v1_ : Value, e = .returned (.tuple #[.agg #[.int .i64 r1, v1_], .int .i64 r3, .int .i64 r4]) ∧ Kd.Q k42 42 w' w.heap.size (fun _ => True) v1_ r2 ∧ Below w.heap.size w w' := by
  have hu25 := Try.underlying25
  have hu29 := Try.underlying29
  have HR0 := Aside0.mk hr0
  have HC0 := Aside0.mk hc0
  clear hr0 hc0
  have HB := Aside0.mk (Below.refl w.heap.size w)
  have H : ((spec_l6Open.f l0).bind fun bt444 => ((spec_l71Some.f k bt444.1 bt444.2).bind fun bt447 => ((spec_l6Rd_pick.f k bt444.1 bt447.2.2 2).bind fun bt453 => (if bt453.1 = 0 then ((spec_GridOk.f k bt447.1 bt447.2.1).bind fun t455 => (spec_DrawSightOf.j0 k t455 bt444.1 bt453.2 bt447.1 bt447.2.1)) else (spec_DrawSightOf.j0 k false bt444.1 bt453.2 bt447.1 bt447.2.1))))) = some (r1, r2, r3, r4) := h
  clear h
  replace H := Option.bind_eq_some_iff.mp H
  obtain ⟨⟨t444, t445⟩, A20, H⟩ := H
  replace H : ((spec_l71Some.f k t444 t445).bind fun bt447 => ((spec_l6Rd_pick.f k t444 bt447.2.2 2).bind fun bt453 => (if bt453.1 = 0 then ((spec_GridOk.f k bt447.1 bt447.2.1).bind fun t455 => (spec_DrawSightOf.j0 k t455 t444 bt453.2 bt447.1 bt447.2.1)) else (spec_DrawSightOf.j0 k false t444 bt453.2 bt447.1 bt447.2.1)))) = some (r1, r2, r3, r4) := H
  have A2 := Aside0.mk A20
  clear A20
  replace H := Option.bind_eq_some_iff.mp H
  obtain ⟨⟨t447, t448, t451⟩, A30, H⟩ := H
  replace H : ((spec_l6Rd_pick.f k t444 t451 2).bind fun bt453 => (if bt453.1 = 0 then ((spec_GridOk.f k t447 t448).bind fun t455 => (spec_DrawSightOf.j0 k t455 t444 bt453.2 t447 t448)) else (spec_DrawSightOf.j0 k false t444 bt453.2 t447 t448))) = some (r1, r2, r3, r4) := H
  have A3 := Aside0.mk A30
  clear A30
  have HC4 := Aside0.mk H
  clear H
  go_enter Try.func23, Try.ntmps23
  go_upto_region 3 with (first | ((with_reducible refine gate_dst (N := 2) rfl ?_); refine box_event ?hg (N := 2) ?hd (cs := #[.int .i64 0, .slice none 0 0]) (t := 25) ?hr ?_; (case hd => rfl); (case hg => rfl); (case hr => first | (go_simp; done) | (go_simp; rfl)); intro gb443 hg w5 hbox hb; have n0_ := Aside0.mk (below_step (by repeat (first | (with_reducible first | exact HB.out | apply below_alloc | apply pw_below_drewN | apply below_drew1) | exact HB.out)) hb); have n1_ := Aside0.mk (hbox); have n2_ := Aside0.mk ((by rw [hg]; exact (below_size (by repeat (first | (with_reducible first | exact HB.out | apply below_alloc | apply pw_below_drewN | apply below_drew1) | exact HB.out))) : w.heap.size ≤ gb443)); have n3_ := Aside0.mk ((by rw [hg]; exact (below_size (by repeat (first | (with_reducible first | exact HB.out | apply below_alloc | apply pw_below_drewN | apply below_drew1) | exact HB.out))) : w.heap.size ≤ gb443)); clear HB; have HB := n0_; have BK443 := n1_; have GW443 := n2_; have GE443 := n3_; clear n0_ n1_ n2_ n3_; clear hb hbox hg) | ((with_reducible refine gate_callee (f := 31) rfl ?_); refine goesL_ (some 9) rfl rfl Try.func31 (by kernel_rfl) rfl #[.slice A0 l0.length c0] rfl (by (try simp only [List.map_toArray, List.map_cons, List.map_nil]); first | done | rfl | (simp only [List.length_drop, List.length_take]; rfl)) ?_; (with_reducible refine (spec_l6Open.calls _ _ l0 t444 t445 w _ ?side1 ?side2 ?side3 A2.out).mono ?_); (case side1 => repeat (first | (with_reducible first | exact HB.out | apply below_alloc | apply pw_below_drewN | apply below_drew1 | refine below_set ?_ GE443.out) | exact HB.out)); (case side2 => exact HR0.out); (case side3 => exact HC0.out); rintro e w6 ⟨g446, rfl, hi, hb, hb2⟩; refine ⟨_, rfl, ?_⟩; have n0_ := Aside0.mk (blk_below (g := gb443) (o := .cells #[.int .i64 0, .slice none 0 0] 25 (0, 0)) (by (with_reducible repeat (first | refine blk_drewN ?_ _ | refine blk_drew ?_ | refine blk_alloc ?_ _)); exact BK443.out) hb2); have n1_ := Aside0.mk (hb); have n2_ := Aside0.mk (hi); have n3_ := Aside0.mk (IsS67.ne_blk hi (blk_below (g := gb443) (o := .cells #[.int .i64 0, .slice none 0 0] 25 (0, 0)) (by (with_reducible repeat (first | refine blk_drewN ?_ _ | refine blk_drew ?_ | refine blk_alloc ?_ _)); exact BK443.out) hb2) (by decide)); have n4_ := Aside0.mk (Ne.symm (IsS67.ne_blk hi (blk_below (g := gb443) (o := .cells #[.int .i64 0, .slice none 0 0] 25 (0, 0)) (by (with_reducible repeat (first | refine blk_drewN ?_ _ | refine blk_drew ?_ | refine blk_alloc ?_ _)); exact BK443.out) hb2) (by decide))); clear BK443; clear HB; have BK443 := n0_; have HB := n1_; have HI446 := n2_; have NB446_443 := n3_; have NB443_446 := n4_; clear n0_ n1_ n2_ n3_ n4_; (try clear hb); (try clear hb2); (try clear hk); (try clear hi)) | ((with_reducible refine gate_callee (f := 30) rfl ?_); refine goesL_ (some 11) rfl rfl Try.func30 (by kernel_rfl) rfl #[.pointer (some ⟨g446, 0, none⟩)] rfl (by (try simp only [List.map_toArray, List.map_cons, List.map_nil]); first | done | rfl | (simp only [List.length_drop, List.length_take]; rfl)) ?_; (with_reducible refine (spec_l71Some.calls k g446 t444 t445 t447 t448 t451 w _ ?side1 ?side2 A3.out).mono ?_); (case side1 => repeat (first | (with_reducible first | exact HI446.out | apply IsS67.alloc | apply IsS67.drewN | apply IsS67.drew | apply IsS67.set_1 | refine IsS67.far ?_ NB446_443.out _) | exact HI446.out)); (case side2 => repeat (first | (with_reducible first | exact HB.out | apply below_alloc | apply pw_below_drewN | apply below_drew1 | refine below_set ?_ (IsS67.ge HI446.out) | refine below_set ?_ GE443.out) | exact HB.out)); rintro e w7 ⟨v449, rfl, ho0, hi, hb, hk⟩; refine ⟨_, rfl, ?_⟩; have n0_ := Aside0.mk (KeepBut.blk hk (g' := gb443) (o := .cells #[.int .i64 0, .slice none 0 0] 25 (0, 0)) (by (with_reducible repeat (first | refine blk_drewN ?_ _ | refine blk_drew ?_ | refine blk_alloc ?_ _)); exact BK443.out) NB443_446.out (by simp)); have n1_ := Aside0.mk (Kd.Q_lower ho0 (below_size (by repeat (first | (with_reducible first | exact HB.out | apply below_alloc | apply pw_below_drewN | apply below_drew1 | refine below_set ?_ (IsS67.ge HI446.out) | refine below_set ?_ GE443.out) | exact HB.out)))); have n2_ := Aside0.mk (hb); have n3_ := Aside0.mk (hi); clear BK443; clear HB; clear HI446; have BK443 := n0_; have HO450 := n1_; have HB := n2_; have HI446 := n3_; clear n0_ n1_ n2_ n3_; (try clear hb); (try clear hb2); (try clear hk); (try clear hi); (try clear ho0)) | ((with_reducible refine gate_dst (N := 6) rfl ?_); refine box_event ?hg (N := 6) ?hd (cs := #[.int .i64 0, .slice none 0 0]) (t := 25) ?hr ?_; (case hd => rfl); (case hg => rfl); (case hr => first | (go_simp; done) | (go_simp; rfl)); intro gb452 hg w8 hbox hb; have n0_ := Aside0.mk (Kd.Q_below (by (with_reducible repeat (first | apply Kd.Q_alloc | apply Kd.Q_drewN | apply Kd.Q_drew)); exact HO450.out) hb); have n1_ := Aside0.mk (blk_below (g := gb443) (o := .cells #[.int .i64 0, .slice none 0 0] 25 (0, 0)) (by (with_reducible repeat (first | refine blk_drewN ?_ _ | refine blk_drew ?_ | refine blk_alloc ?_ _)); exact BK443.out) hb); have n2_ := Aside0.mk (IsS67.below (by repeat (first | (with_reducible first | exact HI446.out | apply IsS67.alloc | apply IsS67.drewN | apply IsS67.drew | apply IsS67.set_1 | refine IsS67.far ?_ NB446_443.out _) | exact HI446.out)) hb); have n3_ := Aside0.mk (below_step (by repeat (first | (with_reducible first | exact HB.out | apply below_alloc | apply pw_below_drewN | apply below_drew1 | refine below_set ?_ (IsS67.ge HI446.out) | refine below_set ?_ GE443.out) | exact HB.out)) hb); have n4_ := Aside0.mk (hbox); have n5_ := Aside0.mk ((by rw [hg]; exact (below_size (by repeat (first | (with_reducible first | exact HB.out | apply below_alloc | apply pw_below_drewN | apply below_drew1 | refine below_set ?_ (IsS67.ge HI446.out) | refine below_set ?_ GE443.out) | exact HB.out))) : w.heap.size ≤ gb452)); have n6_ := Aside0.mk ((by rw [hg]; exact (below_size (by repeat (first | (with_reducible first | exact HB.out | apply below_alloc | apply pw_below_drewN | apply below_drew1 | refine below_set ?_ (IsS67.ge HI446.out) | refine below_set ?_ GE443.out) | exact HB.out))) : w.heap.size ≤ gb452)); have n7_ := Aside0.mk ((by rw [hg]; exact Nat.ne_of_lt (blk_lt (g := gb443) (o := .cells #[.int .i64 0, .slice none 0 0] 25 (0, 0)) (by (with_reducible repeat (first | refine blk_drewN ?_ _ | refine blk_drew ?_ | refine blk_alloc ?_ _)); exact BK443.out)) : gb443 ≠ gb452)); have n8_ := Aside0.mk ((by rw [hg]; exact Nat.ne_of_gt (blk_lt (g := gb443) (o := .cells #[.int .i64 0, .slice none 0 0] 25 (0, 0)) (by (with_reducible repeat (first | refine blk_drewN ?_ _ | refine blk_drew ?_ | refine blk_alloc ?_ _)); exact BK443.out)) : gb452 ≠ gb443)); have n9_ := Aside0.mk ((by rw [hg]; exact Nat.ne_of_lt (IsS67.lt (show IsS67 w _ g446 t444 t451 from by repeat (first | (with_reducible first | exact HI446.out | apply IsS67.alloc | apply IsS67.drewN | apply IsS67.drew | apply IsS67.set_1 | refine IsS67.far ?_ NB446_443.out _) | exact HI446.out))) : g446 ≠ gb452)); have n10_ := Aside0.mk ((by rw [hg]; exact Nat.ne_of_gt (IsS67.lt (show IsS67 w _ g446 t444 t451 from by repeat (first | (with_reducible first | exact HI446.out | apply IsS67.alloc | apply IsS67.drewN | apply IsS67.drew | apply IsS67.set_1 | refine IsS67.far ?_ NB446_443.out _) | exact HI446.out))) : gb452 ≠ g446)); clear HO450; clear BK443; clear HI446; clear HB; have HO450 := n0_; have BK443 := n1_; have HI446 := n2_; have HB := n3_; have BK452 := n4_; have GW452 := n5_; have GE452 := n6_; have NB443_452 := n7_; have NB452_443 := n8_; have NB446_452 := n9_; have NB452_446 := n10_; clear n0_ n1_ n2_ n3_ n4_ n5_ n6_ n7_ n8_ n9_ n10_; clear hb hbox hg; have hnb9 := NB452_443.out; have hnc9 := NB443_452.out; have hnb10 := NB452_446.out; have hnc10 := NB446_452.out; have hcz11_0 : w8.cell? ⟨gb452, 0, none⟩ = some (.int .i64 0) := (blk_cell BK452.out 0).trans rfl; have hcz11_1 : w8.cell? ⟨gb452, 1, none⟩ = some (.slice none 0 0) := (blk_cell BK452.out 1).trans rfl; have hfz11_0 := blk_frozen BK452.out 0; have hfz11_1 := blk_frozen BK452.out 1; obtain ⟨Ao12, co12, eo12, _⟩ := Kd.Q_slice HO450.out; subst eo12))
  (try simp only [Act.put, List.setIfInBounds_toArray, List.set_cons_zero, List.set_cons_succ])
  go_cut [18] (fun v18 wc => ∃ (kq : Nat) (x18_3 : Bool) (x447001_3 : Int), v18 = .bool x18_3 ∧ Aside0 (spec_DrawSightOf.j0 kq x18_3 t444 x447001_3 t447 t448 = some (r1, r2, r3, r4)) ∧ Aside0 (kq ≤ k) ∧ Aside0 (Kd.Q k42 42 wc w.heap.size (fun _ => True) (.slice Ao12 t448.length co12) t448) ∧ Aside0 (wc.heap[gb443]? = some (.cells #[.int .i64 0, (.slice none 0 0)] 25 (0, 0))) ∧ Aside0 (wc.heap[gb452]? = some (.cells #[.int .i64 t447, (.slice Ao12 t448.length co12)] 25 (0, 0))) ∧ Aside0 (IsS67 w wc g446 t444 x447001_3) ∧ Aside0 (Below w.heap.size w wc))
  case first =>
    have H := HC4.out
    clear HC4
    replace H := Option.bind_eq_some_iff.mp H
    obtain ⟨⟨t453, t454⟩, A130, H⟩ := H
    replace H : (if t453 = 0 then ((spec_GridOk.f k t447 t448).bind fun t455 => (spec_DrawSightOf.j0 k t455 t444 t454 t447 t448)) else (spec_DrawSightOf.j0 k false t444 t454 t447 t448)) = some (r1, r2, r3, r4) := H
    have A13 := Aside0.mk A130
    clear A130
    by_cases c14 : t453 = 0
    · rw [if_pos c14] at H
      have c14b0 : (t453 == 0) = true := beq_iff_eq.mpr c14
      have c14b1 : (t453 != 0) = false := bne_eq_false_iff_eq.mpr c14
      clear c14
      (first | rw [c14b0] | (simp only [i64_w, i32_w]; rw [c14b0]) | skip)
      replace H := Option.bind_eq_some_iff.mp H
      obtain ⟨t455, A150, H⟩ := H
      replace H : (spec_DrawSightOf.j0 k t455 t444 t454 t447 t448) = some (r1, r2, r3, r4) := H
      have A15 := Aside0.mk A150
      clear A150
      have H' := Aside0.mk H
      clear H
      go_wp2_with (first | ((with_reducible refine gate_callee (f := 37) rfl ?_); refine goesL_ (some 13) rfl rfl Try.func37 (by kernel_rfl) rfl #[.pointer (some ⟨g446, 0, none⟩), .int .i64 2] rfl (by (try simp only [List.map_toArray, List.map_cons, List.map_nil]); first | done | rfl | (simp only [List.length_drop, List.length_take]; rfl)) ?_; (with_reducible refine (spec_l6Rd_pick.calls k g446 t444 t451 2 t453 t454 w _ ?side1 ?side2 A13.out).mono ?_); (case side1 => repeat (first | (with_reducible first | exact HI446.out | apply IsS67.alloc | apply IsS67.drewN | apply IsS67.drew | apply IsS67.set_1 | refine IsS67.far ?_ NB446_443.out _ | refine IsS67.far ?_ NB446_452.out _) | exact HI446.out)); (case side2 => repeat (first | (with_reducible first | exact HB.out | apply below_alloc | apply pw_below_drewN | apply below_drew1 | refine below_set ?_ (IsS67.ge HI446.out) | refine below_set ?_ GE443.out | refine below_set ?_ GE452.out) | exact HB.out)); rintro e w16 ⟨rfl, hi, hb, hk⟩; refine ⟨_, rfl, ?_⟩; have n0_ := Aside0.mk (KeepBut.blk hk (g' := gb443) (o := .cells #[.int .i64 0, .slice none 0 0] 25 (0, 0)) (by (with_reducible repeat (first | refine blk_drewN ?_ _ | refine blk_drew ?_ | refine blk_alloc ?_ _)); refine blk_far ?_ NB443_452.out _; (with_reducible repeat (first | refine blk_drewN ?_ _ | refine blk_drew ?_ | refine blk_alloc ?_ _)); refine blk_far ?_ NB443_452.out _; (with_reducible repeat (first | refine blk_drewN ?_ _ | refine blk_drew ?_ | refine blk_alloc ?_ _)); exact BK443.out) NB443_446.out (by simp)); have n1_ := Aside0.mk (Kd.Q_mono (Kd.Q_keep (IsS67.apartQ (show IsS67 w _ g446 t444 t451 from by repeat (first | (with_reducible first | exact HI446.out | apply IsS67.alloc | apply IsS67.drewN | apply IsS67.drew | apply IsS67.set_1 | refine IsS67.far ?_ NB446_443.out _ | refine IsS67.far ?_ NB446_452.out _) | exact HI446.out)) (by (with_reducible repeat (first | apply Kd.Q_alloc | apply Kd.Q_drewN | apply Kd.Q_drew)); exact (Kd.Q_mono (Kd.Q_far (p := ⟨gb452, 1, none⟩) (Kd.Q_far (p := ⟨gb452, 0, none⟩) (Kd.Q_types HO450.out BK452.out (by decide)) (fun _ hk => hk.2) (.int .i64 t447)) (fun _ hk => hk.2) (.slice Ao12 t448.length co12)) (fun _ h_ => h_.1))) (by decide)) hk (fun _ h => h.2)) (fun _ h => h.1)); have n2_ := Aside0.mk (KeepBut.blk hk (g' := gb452) (o := .cells #[.int .i64 t447, .slice Ao12 t448.length co12] 25 (0, 0)) (by (with_reducible repeat (first | refine blk_drewN ?_ _ | refine blk_drew ?_ | refine blk_alloc ?_ _)); refine blk_put (cs := #[.int .i64 t447, .slice none 0 0]) ?_ 1 _ rfl; (with_reducible repeat (first | refine blk_drewN ?_ _ | refine blk_drew ?_ | refine blk_alloc ?_ _)); refine blk_put (cs := #[.int .i64 0, .slice none 0 0]) ?_ 0 _ rfl; (with_reducible repeat (first | refine blk_drewN ?_ _ | refine blk_drew ?_ | refine blk_alloc ?_ _)); exact BK452.out) NB452_446.out (by simp)); have n3_ := Aside0.mk (hb); have n4_ := Aside0.mk (hi); clear BK443; clear HO450; clear BK452; clear HB; clear HI446; have BK443 := n0_; have HO450 := n1_; have BK452 := n2_; have HB := n3_; have HI446 := n4_; clear n0_ n1_ n2_ n3_ n4_; (try clear hb); (try clear hb2); (try clear hk); (try clear hi); have hnb17 := NB452_443.out; have hnc17 := NB443_452.out; have hnb18 := NB452_446.out; have hnc18 := NB446_452.out; have hcz19_0 : w16.cell? ⟨gb452, 0, none⟩ = some (.int .i64 t447) := (blk_cell BK452.out 0).trans rfl; have hcz19_1 : w16.cell? ⟨gb452, 1, none⟩ = some (.slice Ao12 t448.length co12) := (blk_cell BK452.out 1).trans rfl; have hfz19_0 := blk_frozen BK452.out 0; have hfz19_1 := blk_frozen BK452.out 1) | (go_at_call 19; (with_reducible refine (spec_GridOk.calls k t447 _ _ t448 t455 _ ?side1 ?side2 A15.out).mono ?_); (case side1 => repeat (first | exact (Kd.Q_reads' HO450.out).2.2 | (with_reducible refine Kd.C_alloc ?_ _) | (with_reducible refine Kd.C_drewN ?_ _) | (with_reducible refine Kd.C_drew ?_))); (case side2 => exact (Kd.Q_reads' HO450.out).2.1); rintro e w20 ⟨rfl, hb⟩; have n0_ := Aside0.mk (Kd.Q_below (by (with_reducible repeat (first | apply Kd.Q_alloc | apply Kd.Q_drewN | apply Kd.Q_drew)); exact HO450.out) hb); have n1_ := Aside0.mk (blk_below (g := gb443) (o := .cells #[.int .i64 0, .slice none 0 0] 25 (0, 0)) (by (with_reducible repeat (first | refine blk_drewN ?_ _ | refine blk_drew ?_ | refine blk_alloc ?_ _)); exact BK443.out) hb); have n2_ := Aside0.mk (IsS67.below (by repeat (first | (with_reducible first | exact HI446.out | apply IsS67.alloc | apply IsS67.drewN | apply IsS67.drew | apply IsS67.set_1 | refine IsS67.far ?_ NB446_443.out _ | refine IsS67.far ?_ NB446_452.out _) | exact HI446.out)) hb); have n3_ := Aside0.mk (blk_below (g := gb452) (o := .cells #[.int .i64 t447, .slice Ao12 t448.length co12] 25 (0, 0)) (by (with_reducible repeat (first | refine blk_drewN ?_ _ | refine blk_drew ?_ | refine blk_alloc ?_ _)); exact BK452.out) hb); have n4_ := Aside0.mk (below_step (by repeat (first | (with_reducible first | exact HB.out | apply below_alloc | apply pw_below_drewN | apply below_drew1 | refine below_set ?_ (IsS67.ge HI446.out) | refine below_set ?_ GE443.out | refine below_set ?_ GE452.out) | exact HB.out)) hb); clear HO450; clear BK443; clear HI446; clear BK452; clear HB; have HO450 := n0_; have BK443 := n1_; have HI446 := n2_; have BK452 := n3_; have HB := n4_; clear n0_ n1_ n2_ n3_ n4_; (try clear hb); (try clear hb2); (try clear hk); (try clear hi)))
      go_meet
      case rel => exact ⟨_, (t455), (t454), (by first | rfl | (simp; done) | (simp [*]; done)), H', ⟨by first | omega | exact Nat.le_refl _⟩, ⟨by (with_reducible repeat (first | apply Kd.Q_alloc | apply Kd.Q_drewN | apply Kd.Q_drew)); exact HO450.out⟩, ⟨by (with_reducible repeat (first | refine blk_drewN ?_ _ | refine blk_drew ?_ | refine blk_alloc ?_ _)); exact BK443.out⟩, ⟨by (with_reducible repeat (first | refine blk_drewN ?_ _ | refine blk_drew ?_ | refine blk_alloc ?_ _)); exact BK452.out⟩, ⟨by repeat (first | (with_reducible first | exact HI446.out | apply IsS67.alloc | apply IsS67.drewN | apply IsS67.drew | apply IsS67.set_1 | refine IsS67.far ?_ NB446_443.out _ | refine IsS67.far ?_ NB446_452.out _) | exact HI446.out)⟩, ⟨by repeat (first | (with_reducible first | exact HB.out | apply below_alloc | apply pw_below_drewN | apply below_drew1 | refine below_set ?_ (IsS67.ge HI446.out) | refine below_set ?_ GE443.out | refine below_set ?_ GE452.out) | exact HB.out)⟩⟩
    · rw [if_neg c14] at H
      have c14b0 : (t453 == 0) = false := beq_eq_false_iff_ne.mpr c14
      have c14b1 : (t453 != 0) = true := bne_iff_ne.mpr c14
      (first | rw [c14b0] | (simp only [i64_w, i32_w]; rw [c14b0]) | skip)
      have H' := Aside0.mk H
      clear H
      go_wp2_with (first | ((with_reducible refine gate_callee (f := 37) rfl ?_); refine goesL_ (some 13) rfl rfl Try.func37 (by kernel_rfl) rfl #[.pointer (some ⟨g446, 0, none⟩), .int .i64 2] rfl (by (try simp only [List.map_toArray, List.map_cons, List.map_nil]); first | done | rfl | (simp only [List.length_drop, List.length_take]; rfl)) ?_; (with_reducible refine (spec_l6Rd_pick.calls k g446 t444 t451 2 t453 t454 w _ ?side1 ?side2 A13.out).mono ?_); (case side1 => repeat (first | (with_reducible first | exact HI446.out | apply IsS67.alloc | apply IsS67.drewN | apply IsS67.drew | apply IsS67.set_1 | refine IsS67.far ?_ NB446_443.out _ | refine IsS67.far ?_ NB446_452.out _) | exact HI446.out)); (case side2 => repeat (first | (with_reducible first | exact HB.out | apply below_alloc | apply pw_below_drewN | apply below_drew1 | refine below_set ?_ (IsS67.ge HI446.out) | refine below_set ?_ GE443.out | refine below_set ?_ GE452.out) | exact HB.out)); rintro e w21 ⟨rfl, hi, hb, hk⟩; refine ⟨_, rfl, ?_⟩; have n0_ := Aside0.mk (KeepBut.blk hk (g' := gb443) (o := .cells #[.int .i64 0, .slice none 0 0] 25 (0, 0)) (by (with_reducible repeat (first | refine blk_drewN ?_ _ | refine blk_drew ?_ | refine blk_alloc ?_ _)); refine blk_far ?_ NB443_452.out _; (with_reducible repeat (first | refine blk_drewN ?_ _ | refine blk_drew ?_ | refine blk_alloc ?_ _)); refine blk_far ?_ NB443_452.out _; (with_reducible repeat (first | refine blk_drewN ?_ _ | refine blk_drew ?_ | refine blk_alloc ?_ _)); exact BK443.out) NB443_446.out (by simp)); have n1_ := Aside0.mk (Kd.Q_mono (Kd.Q_keep (IsS67.apartQ (show IsS67 w _ g446 t444 t451 from by repeat (first | (with_reducible first | exact HI446.out | apply IsS67.alloc | apply IsS67.drewN | apply IsS67.drew | apply IsS67.set_1 | refine IsS67.far ?_ NB446_443.out _ | refine IsS67.far ?_ NB446_452.out _) | exact HI446.out)) (by (with_reducible repeat (first | apply Kd.Q_alloc | apply Kd.Q_drewN | apply Kd.Q_drew)); exact (Kd.Q_mono (Kd.Q_far (p := ⟨gb452, 1, none⟩) (Kd.Q_far (p := ⟨gb452, 0, none⟩) (Kd.Q_types HO450.out BK452.out (by decide)) (fun _ hk => hk.2) (.int .i64 t447)) (fun _ hk => hk.2) (.slice Ao12 t448.length co12)) (fun _ h_ => h_.1))) (by decide)) hk (fun _ h => h.2)) (fun _ h => h.1)); have n2_ := Aside0.mk (KeepBut.blk hk (g' := gb452) (o := .cells #[.int .i64 t447, .slice Ao12 t448.length co12] 25 (0, 0)) (by (with_reducible repeat (first | refine blk_drewN ?_ _ | refine blk_drew ?_ | refine blk_alloc ?_ _)); refine blk_put (cs := #[.int .i64 t447, .slice none 0 0]) ?_ 1 _ rfl; (with_reducible repeat (first | refine blk_drewN ?_ _ | refine blk_drew ?_ | refine blk_alloc ?_ _)); refine blk_put (cs := #[.int .i64 0, .slice none 0 0]) ?_ 0 _ rfl; (with_reducible repeat (first | refine blk_drewN ?_ _ | refine blk_drew ?_ | refine blk_alloc ?_ _)); exact BK452.out) NB452_446.out (by simp)); have n3_ := Aside0.mk (hb); have n4_ := Aside0.mk (hi); clear BK443; clear HO450; clear BK452; clear HB; clear HI446; have BK443 := n0_; have HO450 := n1_; have BK452 := n2_; have HB := n3_; have HI446 := n4_; clear n0_ n1_ n2_ n3_ n4_; (try clear hb); (try clear hb2); (try clear hk); (try clear hi)))
      go_meet
      case rel => exact ⟨_, (false), (t454), (by first | rfl | (simp; done) | (simp [*]; done)), H', ⟨by first | omega | exact Nat.le_refl _⟩, ⟨by (with_reducible repeat (first | apply Kd.Q_alloc | apply Kd.Q_drewN | apply Kd.Q_drew)); exact HO450.out⟩, ⟨by (with_reducible repeat (first | refine blk_drewN ?_ _ | refine blk_drew ?_ | refine blk_alloc ?_ _)); exact BK443.out⟩, ⟨by (with_reducible repeat (first | refine blk_drewN ?_ _ | refine blk_drew ?_ | refine blk_alloc ?_ _)); exact BK452.out⟩, ⟨by repeat (first | (with_reducible first | exact HI446.out | apply IsS67.alloc | apply IsS67.drewN | apply IsS67.drew | apply IsS67.set_1 | refine IsS67.far ?_ NB446_443.out _ | refine IsS67.far ?_ NB446_452.out _) | exact HI446.out)⟩, ⟨by repeat (first | (with_reducible first | exact HB.out | apply below_alloc | apply pw_below_drewN | apply below_drew1 | refine below_set ?_ (IsS67.ge HI446.out) | refine below_set ?_ GE443.out | refine below_set ?_ GE452.out) | exact HB.out)⟩⟩
  case rest =>
    clear HC4
    try clear c1
    try clear c2
    try clear p2
    try clear c3
    try clear c9
    try clear c10
    try clear c14
    try clear c14b0
    try clear c14b1
    try clear c17
    try clear c18
    try clear hcz11_0
    try clear hcz11_1
    try clear hcz19_0
    try clear hcz19_1
    try clear hfz11_0
    try clear hfz11_1
    try clear hfz19_0
    try clear hfz19_1
    obtain ⟨kq, x18_3, x447001_3, rfl, HA, HJ3, HO_453001, BK443, BK452, HI446, HB⟩ := hcut
    cases kq with
    | zero => exact absurd HA.out (by simp [spec_DrawSightOf.j0])
    | succ kj3 =>
      have H := HA.out
      clear HA
      simp only [spec_DrawSightOf.j0] at H
      by_cases c22 : x18_3 = true
      · subst c22
        have H1 : ((spec_l3Many.f t447 t448).bind fun t456 => ((spec_l6Rd_pick.f kj3 t444 x447001_3 t456).bind fun bt457 => ((spec_l3Ray.f t447 t448 bt457.1).bind fun bt459 => ((spec_l2Back.f bt459.2).bind fun t462 => (some (t447, t448, bt459.1, t462)))))) = some (r1, r2, r3, r4) := by rw [if_pos rfl] at H; exact H
        clear H
        have H := H1
        clear H1
        replace H := Option.bind_eq_some_iff.mp H
        obtain ⟨t456, A230, H⟩ := H
        replace H : ((spec_l6Rd_pick.f kj3 t444 x447001_3 t456).bind fun bt457 => ((spec_l3Ray.f t447 t448 bt457.1).bind fun bt459 => ((spec_l2Back.f bt459.2).bind fun t462 => (some (t447, t448, bt459.1, t462))))) = some (r1, r2, r3, r4) := H
        have A23 := Aside0.mk A230
        clear A230
        replace H := Option.bind_eq_some_iff.mp H
        obtain ⟨⟨t457, t458⟩, A240, H⟩ := H
        replace H : ((spec_l3Ray.f t447 t448 t457).bind fun bt459 => ((spec_l2Back.f bt459.2).bind fun t462 => (some (t447, t448, bt459.1, t462)))) = some (r1, r2, r3, r4) := H
        have A24 := Aside0.mk A240
        clear A240
        replace H := Option.bind_eq_some_iff.mp H
        obtain ⟨⟨t459, t460⟩, A250, H⟩ := H
        replace H : ((spec_l2Back.f t460).bind fun t462 => (some (t447, t448, t459, t462))) = some (r1, r2, r3, r4) := H
        have A25 := Aside0.mk A250
        clear A250
        replace H := Option.bind_eq_some_iff.mp H
        obtain ⟨t462, A260, H⟩ := H
        replace H : (some (t447, t448, t459, t462)) = some (r1, r2, r3, r4) := H
        have A26 := Aside0.mk A260
        clear A260
        simp only [Option.some.injEq, Prod.mk.injEq] at H
        obtain ⟨rfl, rfl, rfl, rfl⟩ := H
        try go_wp2
        have n0_ := Aside0.mk (Kd.Q_drew HO_453001.out)
        have n1_ := Aside0.mk (blk_drew BK443.out)
        have n2_ := Aside0.mk (blk_drew BK452.out)
        have n3_ := Aside0.mk (IsS67.drew HI446.out)
        have n4_ := Aside0.mk (below_drew1 HB.out)
        clear HO_453001
        clear BK443
        clear BK452
        clear HI446
        clear HB
        have HO_453001 := n0_
        have BK443 := n1_
        have BK452 := n2_
        have HI446 := n3_
        have HB := n4_
        clear n0_ n1_ n2_ n3_ n4_
        refine start_ (n := 8) (S := fun w' => w'.cell? ⟨gb452, 0, none⟩ = some (.int .i64 t447) ∧ w'.cell? ⟨gb452, 1, none⟩ = some (.slice Ao12 t448.length co12)) (ds := []) #[false, false, false, false, false, false, false, false] (by kernel_rfl) rfl rfl ⟨(blk_cell BK452.out 0).trans rfl, (blk_cell BK452.out 1).trans rfl⟩ (fun hHeld => ?_); refine with_tabW spec_DrawSightOf.tab4 spec_DrawSightOf.bits4 (fun HT_ HW_ => ?_)
        generalize wc.drew = w27 at HO_453001 BK443 BK452 HI446 HB hHeld ⊢
        refine pure_ (i := 1) (N := some 20) (v := ?_) (a' := ?_) #[false, true, false, false, false, false, false, false] rfl rfl (any_of HT_.out (by kernel_rfl)) (fun _ _ _ h => h) (Or.inl ⟨by rfl, ?_⟩) ?_ ?_
        rotate_left
        · intro w'
          go_simp
          with_reducible rfl
        rotate_left
        · simp only [Act.put, List.setIfInBounds_toArray, List.set_cons_zero, List.set_cons_succ, i64_w, i32_w]
          rfl
        refine take_ (i := 0) (N := some 19) (v := ?_) (a' := ?_) #[true, true, false, false, false, false, false, false] rfl rfl (take_ofW HT_.out HW_.out (by kernel_rfl)) (fun _ _ _ h => h) (Or.inl ⟨by rfl, ?_⟩) hHeld ?_ ?_
        rotate_left
        · rintro w' ⟨s0, s1⟩
          go_simp
          with_reducible rfl
        rotate_left
        · simp only [Act.put, List.setIfInBounds_toArray, List.set_cons_zero, List.set_cons_succ, i64_w, i32_w]
          rfl
        refine take_ (i := 2) (N := some 21) (v := ?_) (a' := ?_) #[true, true, true, false, false, false, false, false] rfl rfl (take_ofW HT_.out HW_.out (by kernel_rfl)) (fun _ _ _ h => h) (Or.inl ⟨by rfl, ?_⟩) hHeld ?_ ?_
        rotate_left
        · rintro w' ⟨s0, s1⟩
          go_simp
          with_reducible rfl
        rotate_left
        · simp only [Act.put, List.setIfInBounds_toArray, List.set_cons_zero, List.set_cons_succ, i64_w, i32_w]
          rfl
        refine join_ (σ := Nat) 1 #[true, true, true, true, true, true, true, false] (fun s_ => [(22, .int .i64 t456), (23, .int .i64 t457), (24, .agg #[.int .i64 t459, .int .i64 t460]), (7, .pointer (some ⟨s_, 0, none⟩))]) (fun s_ w' => (w'.cell? ⟨gb452, 0, none⟩ = some (.int .i64 t447) ∧ w'.cell? ⟨gb452, 1, none⟩ = some (.slice Ao12 t448.length co12)) ∧ (Kd.Q k42 42 w' w.heap.size (fun _ => True) (.slice Ao12 t448.length co12) t448) ∧ (w'.heap[gb443]? = some (.cells #[.int .i64 0, .slice none 0 0] 25 (0, 0))) ∧ (w'.heap[gb452]? = some (.cells #[.int .i64 t447, .slice Ao12 t448.length co12] 25 (0, 0))) ∧ (w'.heap[s_]? = some (.cells #[.int .i64 0, .int .i64 0] 29 (0, 0))) ∧ (w.heap.size ≤ s_) ∧ (w.heap.size ≤ s_) ∧ (g446 ≠ s_) ∧ (s_ ≠ g446) ∧ (gb443 ≠ s_) ∧ (s_ ≠ gb443) ∧ (gb452 ≠ s_) ∧ (s_ ≠ gb452) ∧ (IsS67 w w' g446 t444 t458) ∧ (Below w.heap.size w w')) ?_ ?_
        rotate_left
        · intro hCont
          refine two_ (i := 3) (j := 6) (Ni := some 22) (Nj := some 7) #[true, true, true, true, false, false, false, false] #[true, true, true, false, false, false, true, false] rfl rfl rfl rfl (two_of HT_.out (by kernel_rfl)) (by decide) (by decide) (fun K hK => ?_) (fun K hK => ?_)
          · skip
            refine goes_ Try.func33 (by kernel_rfl) rfl #[.agg #[.int .i64 t447, .slice Ao12 t448.length co12]] (by rfl) rfl rfl (by (try simp only [List.map_toArray, List.map_cons, List.map_nil]); first | done | rfl | (simp only [List.length_drop, List.length_take]; rfl)) ?_
            with_reducible refine (spec_l3Many.calls t447 _ _ t448 t456 _ ?side1 ?side2 A23.out).mono ?_
            (case side1 => repeat (first | exact (Kd.Q_reads' HO_453001.out).2.2 | (with_reducible refine Kd.C_alloc ?_ _) | (with_reducible refine Kd.C_drewN ?_ _) | (with_reducible refine Kd.C_drew ?_)))
            (case side2 => exact (Kd.Q_reads' HO_453001.out).2.1)
            rintro e w28 ⟨rfl, hb⟩
            refine ⟨_, rfl, ?_⟩
            have n0_ := Aside0.mk (Kd.Q_below (by (with_reducible repeat (first | apply Kd.Q_alloc | apply Kd.Q_drewN | apply Kd.Q_drew)); exact HO_453001.out) hb)
            have n1_ := Aside0.mk (blk_below (g := gb443) (o := .cells #[.int .i64 0, .slice none 0 0] 25 (0, 0)) (by (with_reducible repeat (first | refine blk_drewN ?_ _ | refine blk_drew ?_ | refine blk_alloc ?_ _)); exact BK443.out) hb)
            have n2_ := Aside0.mk (blk_below (g := gb452) (o := .cells #[.int .i64 t447, .slice Ao12 t448.length co12] 25 (0, 0)) (by (with_reducible repeat (first | refine blk_drewN ?_ _ | refine blk_drew ?_ | refine blk_alloc ?_ _)); exact BK452.out) hb)
            have n3_ := Aside0.mk (IsS67.below (by repeat (first | (with_reducible first | exact HI446.out | apply IsS67.alloc | apply IsS67.drewN | apply IsS67.drew | apply IsS67.set_1 | refine IsS67.far ?_ NB446_443.out _ | refine IsS67.far ?_ NB446_452.out _) | exact HI446.out)) hb)
            have n4_ := Aside0.mk (below_step (by repeat (first | (with_reducible first | exact HB.out | apply below_alloc | apply pw_below_drewN | apply below_drew1 | refine below_set ?_ (IsS67.ge HI446.out) | refine below_set ?_ GE443.out | refine below_set ?_ GE452.out) | exact HB.out)) hb)
            clear HO_453001
            clear BK443
            clear BK452
            clear HI446
            clear HB
            have HO_453001 := n0_
            have BK443 := n1_
            have BK452 := n2_
            have HI446 := n3_
            have HB := n4_
            clear n0_ n1_ n2_ n3_ n4_
            (try clear hb)
            (try clear hb2)
            (try clear hk)
            (try clear hi)
            refine hK.out _ _ ⟨(blk_cell BK452.out 0).trans rfl, (blk_cell BK452.out 1).trans rfl⟩ (fun hHeld => ?_)
            clear hK K
            refine norm_ (a' := ?_) ?_ ?_
            rotate_left
            · show Act.put _ (some 22) _ = _
              simp only [Act.put, List.setIfInBounds_toArray, List.set_cons_zero, List.set_cons_succ, i64_w, i32_w]
              rfl
            refine two_ (i := 4) (j := 6) (Ni := some 23) (Nj := some 7) #[true, true, true, true, true, false, false, false] #[true, true, true, true, false, false, true, false] rfl rfl rfl rfl (two_of HT_.out (by kernel_rfl)) (by decide) (by decide) (fun K hK => ?_) (fun K hK => ?_)
            · skip
              refine goes_ Try.func37 (by kernel_rfl) rfl #[.pointer (some ⟨g446, 0, none⟩), .int .i64 t456] (by rfl) rfl rfl (by (try simp only [List.map_toArray, List.map_cons, List.map_nil]); first | done | rfl | (simp only [List.length_drop, List.length_take]; rfl)) ?_
              with_reducible refine (spec_l6Rd_pick.calls kj3 g446 t444 x447001_3 t456 t457 t458 w _ ?side1 ?side2 A24.out).mono ?_
              (case side1 => repeat (first | (with_reducible first | exact HI446.out | apply IsS67.alloc | apply IsS67.drewN | apply IsS67.drew | apply IsS67.set_1 | refine IsS67.far ?_ NB446_443.out _ | refine IsS67.far ?_ NB446_452.out _) | exact HI446.out))
              (case side2 => repeat (first | (with_reducible first | exact HB.out | apply below_alloc | apply pw_below_drewN | apply below_drew1 | refine below_set ?_ (IsS67.ge HI446.out) | refine below_set ?_ GE443.out | refine below_set ?_ GE452.out) | exact HB.out))
              rintro e w29 ⟨rfl, hi, hb, hk⟩
              refine ⟨_, rfl, ?_⟩
              have n0_ := Aside0.mk (Kd.Q_mono (Kd.Q_keep (IsS67.apartQ (show IsS67 w _ g446 t444 x447001_3 from by repeat (first | (with_reducible first | exact HI446.out | apply IsS67.alloc | apply IsS67.drewN | apply IsS67.drew | apply IsS67.set_1 | refine IsS67.far ?_ NB446_443.out _ | refine IsS67.far ?_ NB446_452.out _) | exact HI446.out)) (by (with_reducible repeat (first | apply Kd.Q_alloc | apply Kd.Q_drewN | apply Kd.Q_drew)); exact HO_453001.out) (by decide)) hk (fun _ h => h.2)) (fun _ h => h.1))
              have n1_ := Aside0.mk (KeepBut.blk hk (g' := gb443) (o := .cells #[.int .i64 0, .slice none 0 0] 25 (0, 0)) (by (with_reducible repeat (first | refine blk_drewN ?_ _ | refine blk_drew ?_ | refine blk_alloc ?_ _)); exact BK443.out) NB443_446.out (by simp))
              have n2_ := Aside0.mk (KeepBut.blk hk (g' := gb452) (o := .cells #[.int .i64 t447, .slice Ao12 t448.length co12] 25 (0, 0)) (by (with_reducible repeat (first | refine blk_drewN ?_ _ | refine blk_drew ?_ | refine blk_alloc ?_ _)); exact BK452.out) NB452_446.out (by simp))
              have n3_ := Aside0.mk (hb)
              have n4_ := Aside0.mk (hi)
              clear HO_453001
              clear BK443
              clear BK452
              clear HB
              clear HI446
              have HO_453001 := n0_
              have BK443 := n1_
              have BK452 := n2_
              have HB := n3_
              have HI446 := n4_
              clear n0_ n1_ n2_ n3_ n4_
              (try clear hb)
              (try clear hb2)
              (try clear hk)
              (try clear hi)
              refine hK.out _ _ ⟨(blk_cell BK452.out 0).trans rfl, (blk_cell BK452.out 1).trans rfl⟩ (fun hHeld => ?_)
              clear hK K
              refine norm_ (a' := ?_) ?_ ?_
              rotate_left
              · show Act.put _ (some 23) _ = _
                simp only [Act.put, List.setIfInBounds_toArray, List.set_cons_zero, List.set_cons_succ, i64_w, i32_w]
                rfl
              refine two_ (i := 5) (j := 6) (Ni := some 24) (Nj := some 7) #[true, true, true, true, true, true, false, false] #[true, true, true, true, true, false, true, false] rfl rfl rfl rfl (two_of HT_.out (by kernel_rfl)) (by decide) (by decide) (fun K hK => ?_) (fun K hK => ?_)
              · skip
                refine goes_ Try.func47 (by kernel_rfl) rfl #[.agg #[.int .i64 t447, .slice Ao12 t448.length co12], .int .i64 t457] (by rfl) rfl rfl (by (try simp only [List.map_toArray, List.map_cons, List.map_nil]); first | done | rfl | (simp only [List.length_drop, List.length_take]; rfl)) ?_
                with_reducible refine (spec_l3Ray.calls t447 _ _ t448 t457 t459 t460 _ ?side1 ?side2 A25.out).mono ?_
                (case side1 => repeat (first | exact (Kd.Q_reads' HO_453001.out).2.2 | (with_reducible refine Kd.C_alloc ?_ _) | (with_reducible refine Kd.C_drewN ?_ _) | (with_reducible refine Kd.C_drew ?_)))
                (case side2 => exact (Kd.Q_reads' HO_453001.out).2.1)
                rintro e w30 ⟨rfl, hb⟩
                refine ⟨_, rfl, ?_⟩
                have n0_ := Aside0.mk (Kd.Q_below (by (with_reducible repeat (first | apply Kd.Q_alloc | apply Kd.Q_drewN | apply Kd.Q_drew)); exact HO_453001.out) hb)
                have n1_ := Aside0.mk (blk_below (g := gb443) (o := .cells #[.int .i64 0, .slice none 0 0] 25 (0, 0)) (by (with_reducible repeat (first | refine blk_drewN ?_ _ | refine blk_drew ?_ | refine blk_alloc ?_ _)); exact BK443.out) hb)
                have n2_ := Aside0.mk (blk_below (g := gb452) (o := .cells #[.int .i64 t447, .slice Ao12 t448.length co12] 25 (0, 0)) (by (with_reducible repeat (first | refine blk_drewN ?_ _ | refine blk_drew ?_ | refine blk_alloc ?_ _)); exact BK452.out) hb)
                have n3_ := Aside0.mk (IsS67.below (by repeat (first | (with_reducible first | exact HI446.out | apply IsS67.alloc | apply IsS67.drewN | apply IsS67.drew | apply IsS67.set_1 | refine IsS67.far ?_ NB446_443.out _ | refine IsS67.far ?_ NB446_452.out _) | exact HI446.out)) hb)
                have n4_ := Aside0.mk (below_step (by repeat (first | (with_reducible first | exact HB.out | apply below_alloc | apply pw_below_drewN | apply below_drew1 | refine below_set ?_ (IsS67.ge HI446.out) | refine below_set ?_ GE443.out | refine below_set ?_ GE452.out) | exact HB.out)) hb)
                clear HO_453001
                clear BK443
                clear BK452
                clear HI446
                clear HB
                have HO_453001 := n0_
                have BK443 := n1_
                have BK452 := n2_
                have HI446 := n3_
                have HB := n4_
                clear n0_ n1_ n2_ n3_ n4_
                (try clear hb)
                (try clear hb2)
                (try clear hk)
                (try clear hi)
                refine hK.out _ _ ⟨(blk_cell BK452.out 0).trans rfl, (blk_cell BK452.out 1).trans rfl⟩ (fun hHeld => ?_)
                clear hK K
                refine norm_ (a' := ?_) ?_ ?_
                rotate_left
                · show Act.put _ (some 24) _ = _
                  simp only [Act.put, List.setIfInBounds_toArray, List.set_cons_zero, List.set_cons_succ, i64_w, i32_w]
                  rfl
                refine one_ (i := 6) (N := some 7) #[true, true, true, true, true, true, true, false] rfl rfl (one_of HT_.out (by kernel_rfl)) (by decide) (fun K hK => ?_)
                refine box_step ?hg (N := 7) ?hd (cs := #[.int .i64 0, .int .i64 0]) (t := 29) ?hr ?_; (case hd => rfl); (case hg => rfl); (case hr => first | (go_simp; done) | (go_simp; rfl))
                intro gb461 hg w31 hbox hb
                have n0_ := Aside0.mk (Kd.Q_below (by (with_reducible repeat (first | apply Kd.Q_alloc | apply Kd.Q_drewN | apply Kd.Q_drew)); exact HO_453001.out) hb)
                have n1_ := Aside0.mk (blk_below (g := gb443) (o := .cells #[.int .i64 0, .slice none 0 0] 25 (0, 0)) (by (with_reducible repeat (first | refine blk_drewN ?_ _ | refine blk_drew ?_ | refine blk_alloc ?_ _)); exact BK443.out) hb)
                have n2_ := Aside0.mk (blk_below (g := gb452) (o := .cells #[.int .i64 t447, .slice Ao12 t448.length co12] 25 (0, 0)) (by (with_reducible repeat (first | refine blk_drewN ?_ _ | refine blk_drew ?_ | refine blk_alloc ?_ _)); exact BK452.out) hb)
                have n3_ := Aside0.mk (IsS67.below (by repeat (first | (with_reducible first | exact HI446.out | apply IsS67.alloc | apply IsS67.drewN | apply IsS67.drew | apply IsS67.set_1 | refine IsS67.far ?_ NB446_443.out _ | refine IsS67.far ?_ NB446_452.out _) | exact HI446.out)) hb)
                have n4_ := Aside0.mk (below_step (by repeat (first | (with_reducible first | exact HB.out | apply below_alloc | apply pw_below_drewN | apply below_drew1 | refine below_set ?_ (IsS67.ge HI446.out) | refine below_set ?_ GE443.out | refine below_set ?_ GE452.out) | exact HB.out)) hb)
                have n5_ := Aside0.mk (hbox)
                have n6_ := Aside0.mk ((by rw [hg]; exact (below_size (by repeat (first | (with_reducible first | exact HB.out | apply below_alloc | apply pw_below_drewN | apply below_drew1 | refine below_set ?_ (IsS67.ge HI446.out) | refine below_set ?_ GE443.out | refine below_set ?_ GE452.out) | exact HB.out))) : w.heap.size ≤ gb461))
                have n7_ := Aside0.mk ((by rw [hg]; exact (below_size (by repeat (first | (with_reducible first | exact HB.out | apply below_alloc | apply pw_below_drewN | apply below_drew1 | refine below_set ?_ (IsS67.ge HI446.out) | refine below_set ?_ GE443.out | refine below_set ?_ GE452.out) | exact HB.out))) : w.heap.size ≤ gb461))
                have n8_ := Aside0.mk ((by rw [hg]; exact Nat.ne_of_lt (blk_lt (g := gb443) (o := .cells #[.int .i64 0, .slice none 0 0] 25 (0, 0)) (by (with_reducible repeat (first | refine blk_drewN ?_ _ | refine blk_drew ?_ | refine blk_alloc ?_ _)); exact BK443.out)) : gb443 ≠ gb461))
                have n9_ := Aside0.mk ((by rw [hg]; exact Nat.ne_of_gt (blk_lt (g := gb443) (o := .cells #[.int .i64 0, .slice none 0 0] 25 (0, 0)) (by (with_reducible repeat (first | refine blk_drewN ?_ _ | refine blk_drew ?_ | refine blk_alloc ?_ _)); exact BK443.out)) : gb461 ≠ gb443))
                have n10_ := Aside0.mk ((by rw [hg]; exact Nat.ne_of_lt (blk_lt (g := gb452) (o := .cells #[.int .i64 t447, .slice Ao12 t448.length co12] 25 (0, 0)) (by (with_reducible repeat (first | refine blk_drewN ?_ _ | refine blk_drew ?_ | refine blk_alloc ?_ _)); exact BK452.out)) : gb452 ≠ gb461))
                have n11_ := Aside0.mk ((by rw [hg]; exact Nat.ne_of_gt (blk_lt (g := gb452) (o := .cells #[.int .i64 t447, .slice Ao12 t448.length co12] 25 (0, 0)) (by (with_reducible repeat (first | refine blk_drewN ?_ _ | refine blk_drew ?_ | refine blk_alloc ?_ _)); exact BK452.out)) : gb461 ≠ gb452))
                have n12_ := Aside0.mk ((by rw [hg]; exact Nat.ne_of_lt (IsS67.lt (show IsS67 w _ g446 t444 t458 from by repeat (first | (with_reducible first | exact HI446.out | apply IsS67.alloc | apply IsS67.drewN | apply IsS67.drew | apply IsS67.set_1 | refine IsS67.far ?_ NB446_443.out _ | refine IsS67.far ?_ NB446_452.out _) | exact HI446.out))) : g446 ≠ gb461))
                have n13_ := Aside0.mk ((by rw [hg]; exact Nat.ne_of_gt (IsS67.lt (show IsS67 w _ g446 t444 t458 from by repeat (first | (with_reducible first | exact HI446.out | apply IsS67.alloc | apply IsS67.drewN | apply IsS67.drew | apply IsS67.set_1 | refine IsS67.far ?_ NB446_443.out _ | refine IsS67.far ?_ NB446_452.out _) | exact HI446.out))) : gb461 ≠ g446))
                clear HO_453001
                clear BK443
                clear BK452
                clear HI446
                clear HB
                have HO_453001 := n0_
                have BK443 := n1_
                have BK452 := n2_
                have HI446 := n3_
                have HB := n4_
                have BK461 := n5_
                have GW461 := n6_
                have GE461 := n7_
                have NB443_461 := n8_
                have NB461_443 := n9_
                have NB452_461 := n10_
                have NB461_452 := n11_
                have NB446_461 := n12_
                have NB461_446 := n13_
                clear n0_ n1_ n2_ n3_ n4_ n5_ n6_ n7_ n8_ n9_ n10_ n11_ n12_ n13_
                clear hb hbox hg
                refine hK.out _ _ ⟨(blk_cell BK452.out 0).trans rfl, (blk_cell BK452.out 1).trans rfl⟩ (fun hHeld => ?_)
                clear hK K
                refine norm_ (a' := ?_) ?_ ?_
                rotate_left
                · show Act.put _ (some 7) _ = _
                  simp only [Act.put, List.setIfInBounds_toArray, List.set_cons_zero, List.set_cons_succ, i64_w, i32_w]
                  rfl
                exact norm_ (by simp only [putAll, Act.put, List.setIfInBounds_toArray, List.set_cons_zero, List.set_cons_succ]) (hCont (gb461) _ ⟨hHeld, (by (with_reducible repeat (first | apply Kd.Q_alloc | apply Kd.Q_drewN | apply Kd.Q_drew)); exact HO_453001.out), (by (with_reducible repeat (first | refine blk_drewN ?_ _ | refine blk_drew ?_ | refine blk_alloc ?_ _)); exact BK443.out), (by (with_reducible repeat (first | refine blk_drewN ?_ _ | refine blk_drew ?_ | refine blk_alloc ?_ _)); exact BK452.out), (by (with_reducible repeat (first | refine blk_drewN ?_ _ | refine blk_drew ?_ | refine blk_alloc ?_ _)); exact BK461.out), GW461.out, GE461.out, NB446_461.out, NB461_446.out, NB443_461.out, NB461_443.out, NB452_461.out, NB461_452.out, (by repeat (first | (with_reducible first | exact HI446.out | apply IsS67.alloc | apply IsS67.drewN | apply IsS67.drew | apply IsS67.set_1 | refine IsS67.far ?_ NB446_443.out _ | refine IsS67.far ?_ NB446_452.out _ | refine IsS67.far ?_ NB446_461.out _) | exact HI446.out)), (by repeat (first | (with_reducible first | exact HB.out | apply below_alloc | apply pw_below_drewN | apply below_drew1 | refine below_set ?_ (IsS67.ge HI446.out) | refine below_set ?_ GE443.out | refine below_set ?_ GE452.out | refine below_set ?_ GE461.out) | exact HB.out))⟩)
              · skip
                refine box_step ?hg (N := 7) ?hd (cs := #[.int .i64 0, .int .i64 0]) (t := 29) ?hr ?_; (case hd => rfl); (case hg => rfl); (case hr => first | (go_simp; done) | (go_simp; rfl))
                intro gb461 hg w30 hbox hb
                have n0_ := Aside0.mk (Kd.Q_below (by (with_reducible repeat (first | apply Kd.Q_alloc | apply Kd.Q_drewN | apply Kd.Q_drew)); exact HO_453001.out) hb)
                have n1_ := Aside0.mk (blk_below (g := gb443) (o := .cells #[.int .i64 0, .slice none 0 0] 25 (0, 0)) (by (with_reducible repeat (first | refine blk_drewN ?_ _ | refine blk_drew ?_ | refine blk_alloc ?_ _)); exact BK443.out) hb)
                have n2_ := Aside0.mk (blk_below (g := gb452) (o := .cells #[.int .i64 t447, .slice Ao12 t448.length co12] 25 (0, 0)) (by (with_reducible repeat (first | refine blk_drewN ?_ _ | refine blk_drew ?_ | refine blk_alloc ?_ _)); exact BK452.out) hb)
                have n3_ := Aside0.mk (IsS67.below (by repeat (first | (with_reducible first | exact HI446.out | apply IsS67.alloc | apply IsS67.drewN | apply IsS67.drew | apply IsS67.set_1 | refine IsS67.far ?_ NB446_443.out _ | refine IsS67.far ?_ NB446_452.out _) | exact HI446.out)) hb)
                have n4_ := Aside0.mk (below_step (by repeat (first | (with_reducible first | exact HB.out | apply below_alloc | apply pw_below_drewN | apply below_drew1 | refine below_set ?_ (IsS67.ge HI446.out) | refine below_set ?_ GE443.out | refine below_set ?_ GE452.out) | exact HB.out)) hb)
                have n5_ := Aside0.mk (hbox)
                have n6_ := Aside0.mk ((by rw [hg]; exact (below_size (by repeat (first | (with_reducible first | exact HB.out | apply below_alloc | apply pw_below_drewN | apply below_drew1 | refine below_set ?_ (IsS67.ge HI446.out) | refine below_set ?_ GE443.out | refine below_set ?_ GE452.out) | exact HB.out))) : w.heap.size ≤ gb461))
                have n7_ := Aside0.mk ((by rw [hg]; exact (below_size (by repeat (first | (with_reducible first | exact HB.out | apply below_alloc | apply pw_below_drewN | apply below_drew1 | refine below_set ?_ (IsS67.ge HI446.out) | refine below_set ?_ GE443.out | refine below_set ?_ GE452.out) | exact HB.out))) : w.heap.size ≤ gb461))
                have n8_ := Aside0.mk ((by rw [hg]; exact Nat.ne_of_lt (blk_lt (g := gb443) (o := .cells #[.int .i64 0, .slice none 0 0] 25 (0, 0)) (by (with_reducible repeat (first | refine blk_drewN ?_ _ | refine blk_drew ?_ | refine blk_alloc ?_ _)); exact BK443.out)) : gb443 ≠ gb461))
                have n9_ := Aside0.mk ((by rw [hg]; exact Nat.ne_of_gt (blk_lt (g := gb443) (o := .cells #[.int .i64 0, .slice none 0 0] 25 (0, 0)) (by (with_reducible repeat (first | refine blk_drewN ?_ _ | refine blk_drew ?_ | refine blk_alloc ?_ _)); exact BK443.out)) : gb461 ≠ gb443))
                have n10_ := Aside0.mk ((by rw [hg]; exact Nat.ne_of_lt (blk_lt (g := gb452) (o := .cells #[.int .i64 t447, .slice Ao12 t448.length co12] 25 (0, 0)) (by (with_reducible repeat (first | refine blk_drewN ?_ _ | refine blk_drew ?_ | refine blk_alloc ?_ _)); exact BK452.out)) : gb452 ≠ gb461))
                have n11_ := Aside0.mk ((by rw [hg]; exact Nat.ne_of_gt (blk_lt (g := gb452) (o := .cells #[.int .i64 t447, .slice Ao12 t448.length co12] 25 (0, 0)) (by (with_reducible repeat (first | refine blk_drewN ?_ _ | refine blk_drew ?_ | refine blk_alloc ?_ _)); exact BK452.out)) : gb461 ≠ gb452))
                have n12_ := Aside0.mk ((by rw [hg]; exact Nat.ne_of_lt (IsS67.lt (show IsS67 w _ g446 t444 t458 from by repeat (first | (with_reducible first | exact HI446.out | apply IsS67.alloc | apply IsS67.drewN | apply IsS67.drew | apply IsS67.set_1 | refine IsS67.far ?_ NB446_443.out _ | refine IsS67.far ?_ NB446_452.out _) | exact HI446.out))) : g446 ≠ gb461))
                have n13_ := Aside0.mk ((by rw [hg]; exact Nat.ne_of_gt (IsS67.lt (show IsS67 w _ g446 t444 t458 from by repeat (first | (with_reducible first | exact HI446.out | apply IsS67.alloc | apply IsS67.drewN | apply IsS67.drew | apply IsS67.set_1 | refine IsS67.far ?_ NB446_443.out _ | refine IsS67.far ?_ NB446_452.out _) | exact HI446.out))) : gb461 ≠ g446))
                clear HO_453001
                clear BK443
                clear BK452
                clear HI446
                clear HB
                have HO_453001 := n0_
                have BK443 := n1_
                have BK452 := n2_
                have HI446 := n3_
                have HB := n4_
                have BK461 := n5_
                have GW461 := n6_
                have GE461 := n7_
                have NB443_461 := n8_
                have NB461_443 := n9_
                have NB452_461 := n10_
                have NB461_452 := n11_
                have NB446_461 := n12_
                have NB461_446 := n13_
                clear n0_ n1_ n2_ n3_ n4_ n5_ n6_ n7_ n8_ n9_ n10_ n11_ n12_ n13_
                clear hb hbox hg
                refine hK.out _ _ ⟨(blk_cell BK452.out 0).trans rfl, (blk_cell BK452.out 1).trans rfl⟩ (fun hHeld => ?_)
                clear hK K
                refine norm_ (a' := ?_) ?_ ?_
                rotate_left
                · show Act.put _ (some 7) _ = _
                  simp only [Act.put, List.setIfInBounds_toArray, List.set_cons_zero, List.set_cons_succ, i64_w, i32_w]
                  rfl
                refine one_ (i := 5) (N := some 24) #[true, true, true, true, true, true, true, false] rfl rfl (one_of HT_.out (by kernel_rfl)) (by decide) (fun K hK => ?_)
                refine goes_ Try.func47 (by kernel_rfl) rfl #[.agg #[.int .i64 t447, .slice Ao12 t448.length co12], .int .i64 t457] (by rfl) rfl rfl (by (try simp only [List.map_toArray, List.map_cons, List.map_nil]); first | done | rfl | (simp only [List.length_drop, List.length_take]; rfl)) ?_
                with_reducible refine (spec_l3Ray.calls t447 _ _ t448 t457 t459 t460 _ ?side1 ?side2 A25.out).mono ?_
                (case side1 => repeat (first | exact (Kd.Q_reads' HO_453001.out).2.2 | (with_reducible refine Kd.C_alloc ?_ _) | (with_reducible refine Kd.C_drewN ?_ _) | (with_reducible refine Kd.C_drew ?_)))
                (case side2 => exact (Kd.Q_reads' HO_453001.out).2.1)
                rintro e w31 ⟨rfl, hb⟩
                refine ⟨_, rfl, ?_⟩
                have n0_ := Aside0.mk (Kd.Q_below (by (with_reducible repeat (first | apply Kd.Q_alloc | apply Kd.Q_drewN | apply Kd.Q_drew)); exact HO_453001.out) hb)
                have n1_ := Aside0.mk (blk_below (g := gb443) (o := .cells #[.int .i64 0, .slice none 0 0] 25 (0, 0)) (by (with_reducible repeat (first | refine blk_drewN ?_ _ | refine blk_drew ?_ | refine blk_alloc ?_ _)); exact BK443.out) hb)
                have n2_ := Aside0.mk (blk_below (g := gb452) (o := .cells #[.int .i64 t447, .slice Ao12 t448.length co12] 25 (0, 0)) (by (with_reducible repeat (first | refine blk_drewN ?_ _ | refine blk_drew ?_ | refine blk_alloc ?_ _)); exact BK452.out) hb)
                have n3_ := Aside0.mk (IsS67.below (by repeat (first | (with_reducible first | exact HI446.out | apply IsS67.alloc | apply IsS67.drewN | apply IsS67.drew | apply IsS67.set_1 | refine IsS67.far ?_ NB446_443.out _ | refine IsS67.far ?_ NB446_452.out _ | refine IsS67.far ?_ NB446_461.out _) | exact HI446.out)) hb)
                have n4_ := Aside0.mk (blk_below (g := gb461) (o := .cells #[.int .i64 0, .int .i64 0] 29 (0, 0)) (by (with_reducible repeat (first | refine blk_drewN ?_ _ | refine blk_drew ?_ | refine blk_alloc ?_ _)); exact BK461.out) hb)
                have n5_ := Aside0.mk (below_step (by repeat (first | (with_reducible first | exact HB.out | apply below_alloc | apply pw_below_drewN | apply below_drew1 | refine below_set ?_ (IsS67.ge HI446.out) | refine below_set ?_ GE443.out | refine below_set ?_ GE452.out | refine below_set ?_ GE461.out) | exact HB.out)) hb)
                clear HO_453001
                clear BK443
                clear BK452
                clear HI446
                clear BK461
                clear HB
                have HO_453001 := n0_
                have BK443 := n1_
                have BK452 := n2_
                have HI446 := n3_
                have BK461 := n4_
                have HB := n5_
                clear n0_ n1_ n2_ n3_ n4_ n5_
                (try clear hb)
                (try clear hb2)
                (try clear hk)
                (try clear hi)
                refine hK.out _ _ ⟨(blk_cell BK452.out 0).trans rfl, (blk_cell BK452.out 1).trans rfl⟩ (fun hHeld => ?_)
                clear hK K
                refine norm_ (a' := ?_) ?_ ?_
                rotate_left
                · show Act.put _ (some 24) _ = _
                  simp only [Act.put, List.setIfInBounds_toArray, List.set_cons_zero, List.set_cons_succ, i64_w, i32_w]
                  rfl
                exact norm_ (by simp only [putAll, Act.put, List.setIfInBounds_toArray, List.set_cons_zero, List.set_cons_succ]) (hCont (gb461) _ ⟨hHeld, (by (with_reducible repeat (first | apply Kd.Q_alloc | apply Kd.Q_drewN | apply Kd.Q_drew)); exact HO_453001.out), (by (with_reducible repeat (first | refine blk_drewN ?_ _ | refine blk_drew ?_ | refine blk_alloc ?_ _)); exact BK443.out), (by (with_reducible repeat (first | refine blk_drewN ?_ _ | refine blk_drew ?_ | refine blk_alloc ?_ _)); exact BK452.out), (by (with_reducible repeat (first | refine blk_drewN ?_ _ | refine blk_drew ?_ | refine blk_alloc ?_ _)); exact BK461.out), GW461.out, GE461.out, NB446_461.out, NB461_446.out, NB443_461.out, NB461_443.out, NB452_461.out, NB461_452.out, (by repeat (first | (with_reducible first | exact HI446.out | apply IsS67.alloc | apply IsS67.drewN | apply IsS67.drew | apply IsS67.set_1 | refine IsS67.far ?_ NB446_443.out _ | refine IsS67.far ?_ NB446_452.out _ | refine IsS67.far ?_ NB446_461.out _) | exact HI446.out)), (by repeat (first | (with_reducible first | exact HB.out | apply below_alloc | apply pw_below_drewN | apply below_drew1 | refine below_set ?_ (IsS67.ge HI446.out) | refine below_set ?_ GE443.out | refine below_set ?_ GE452.out | refine below_set ?_ GE461.out) | exact HB.out))⟩)
            · skip
              refine box_step ?hg (N := 7) ?hd (cs := #[.int .i64 0, .int .i64 0]) (t := 29) ?hr ?_; (case hd => rfl); (case hg => rfl); (case hr => first | (go_simp; done) | (go_simp; rfl))
              intro gb461 hg w29 hbox hb
              have n0_ := Aside0.mk (Kd.Q_below (by (with_reducible repeat (first | apply Kd.Q_alloc | apply Kd.Q_drewN | apply Kd.Q_drew)); exact HO_453001.out) hb)
              have n1_ := Aside0.mk (blk_below (g := gb443) (o := .cells #[.int .i64 0, .slice none 0 0] 25 (0, 0)) (by (with_reducible repeat (first | refine blk_drewN ?_ _ | refine blk_drew ?_ | refine blk_alloc ?_ _)); exact BK443.out) hb)
              have n2_ := Aside0.mk (blk_below (g := gb452) (o := .cells #[.int .i64 t447, .slice Ao12 t448.length co12] 25 (0, 0)) (by (with_reducible repeat (first | refine blk_drewN ?_ _ | refine blk_drew ?_ | refine blk_alloc ?_ _)); exact BK452.out) hb)
              have n3_ := Aside0.mk (IsS67.below (by repeat (first | (with_reducible first | exact HI446.out | apply IsS67.alloc | apply IsS67.drewN | apply IsS67.drew | apply IsS67.set_1 | refine IsS67.far ?_ NB446_443.out _ | refine IsS67.far ?_ NB446_452.out _) | exact HI446.out)) hb)
              have n4_ := Aside0.mk (below_step (by repeat (first | (with_reducible first | exact HB.out | apply below_alloc | apply pw_below_drewN | apply below_drew1 | refine below_set ?_ (IsS67.ge HI446.out) | refine below_set ?_ GE443.out | refine below_set ?_ GE452.out) | exact HB.out)) hb)
              have n5_ := Aside0.mk (hbox)
              have n6_ := Aside0.mk ((by rw [hg]; exact (below_size (by repeat (first | (with_reducible first | exact HB.out | apply below_alloc | apply pw_below_drewN | apply below_drew1 | refine below_set ?_ (IsS67.ge HI446.out) | refine below_set ?_ GE443.out | refine below_set ?_ GE452.out) | exact HB.out))) : w.heap.size ≤ gb461))
              have n7_ := Aside0.mk ((by rw [hg]; exact (below_size (by repeat (first | (with_reducible first | exact HB.out | apply below_alloc | apply pw_below_drewN | apply below_drew1 | refine below_set ?_ (IsS67.ge HI446.out) | refine below_set ?_ GE443.out | refine below_set ?_ GE452.out) | exact HB.out))) : w.heap.size ≤ gb461))
              have n8_ := Aside0.mk ((by rw [hg]; exact Nat.ne_of_lt (blk_lt (g := gb443) (o := .cells #[.int .i64 0, .slice none 0 0] 25 (0, 0)) (by (with_reducible repeat (first | refine blk_drewN ?_ _ | refine blk_drew ?_ | refine blk_alloc ?_ _)); exact BK443.out)) : gb443 ≠ gb461))
              have n9_ := Aside0.mk ((by rw [hg]; exact Nat.ne_of_gt (blk_lt (g := gb443) (o := .cells #[.int .i64 0, .slice none 0 0] 25 (0, 0)) (by (with_reducible repeat (first | refine blk_drewN ?_ _ | refine blk_drew ?_ | refine blk_alloc ?_ _)); exact BK443.out)) : gb461 ≠ gb443))
              have n10_ := Aside0.mk ((by rw [hg]; exact Nat.ne_of_lt (blk_lt (g := gb452) (o := .cells #[.int .i64 t447, .slice Ao12 t448.length co12] 25 (0, 0)) (by (with_reducible repeat (first | refine blk_drewN ?_ _ | refine blk_drew ?_ | refine blk_alloc ?_ _)); exact BK452.out)) : gb452 ≠ gb461))
              have n11_ := Aside0.mk ((by rw [hg]; exact Nat.ne_of_gt (blk_lt (g := gb452) (o := .cells #[.int .i64 t447, .slice Ao12 t448.length co12] 25 (0, 0)) (by (with_reducible repeat (first | refine blk_drewN ?_ _ | refine blk_drew ?_ | refine blk_alloc ?_ _)); exact BK452.out)) : gb461 ≠ gb452))
              have n12_ := Aside0.mk ((by rw [hg]; exact Nat.ne_of_lt (IsS67.lt (show IsS67 w _ g446 t444 x447001_3 from by repeat (first | (with_reducible first | exact HI446.out | apply IsS67.alloc | apply IsS67.drewN | apply IsS67.drew | apply IsS67.set_1 | refine IsS67.far ?_ NB446_443.out _ | refine IsS67.far ?_ NB446_452.out _) | exact HI446.out))) : g446 ≠ gb461))
              have n13_ := Aside0.mk ((by rw [hg]; exact Nat.ne_of_gt (IsS67.lt (show IsS67 w _ g446 t444 x447001_3 from by repeat (first | (with_reducible first | exact HI446.out | apply IsS67.alloc | apply IsS67.drewN | apply IsS67.drew | apply IsS67.set_1 | refine IsS67.far ?_ NB446_443.out _ | refine IsS67.far ?_ NB446_452.out _) | exact HI446.out))) : gb461 ≠ g446))
              clear HO_453001
              clear BK443
              clear BK452
              clear HI446
              clear HB
              have HO_453001 := n0_
              have BK443 := n1_
              have BK452 := n2_
              have HI446 := n3_
              have HB := n4_
              have BK461 := n5_
              have GW461 := n6_
              have GE461 := n7_
              have NB443_461 := n8_
              have NB461_443 := n9_
              have NB452_461 := n10_
              have NB461_452 := n11_
              have NB446_461 := n12_
              have NB461_446 := n13_
              clear n0_ n1_ n2_ n3_ n4_ n5_ n6_ n7_ n8_ n9_ n10_ n11_ n12_ n13_
              clear hb hbox hg
              refine hK.out _ _ ⟨(blk_cell BK452.out 0).trans rfl, (blk_cell BK452.out 1).trans rfl⟩ (fun hHeld => ?_)
              clear hK K
              refine norm_ (a' := ?_) ?_ ?_
              rotate_left
              · show Act.put _ (some 7) _ = _
                simp only [Act.put, List.setIfInBounds_toArray, List.set_cons_zero, List.set_cons_succ, i64_w, i32_w]
                rfl
              refine one_ (i := 4) (N := some 23) #[true, true, true, true, true, false, true, false] rfl rfl (one_of HT_.out (by kernel_rfl)) (by decide) (fun K hK => ?_)
              refine goes_ Try.func37 (by kernel_rfl) rfl #[.pointer (some ⟨g446, 0, none⟩), .int .i64 t456] (by rfl) rfl rfl (by (try simp only [List.map_toArray, List.map_cons, List.map_nil]); first | done | rfl | (simp only [List.length_drop, List.length_take]; rfl)) ?_
              with_reducible refine (spec_l6Rd_pick.calls kj3 g446 t444 x447001_3 t456 t457 t458 w _ ?side1 ?side2 A24.out).mono ?_
              (case side1 => repeat (first | (with_reducible first | exact HI446.out | apply IsS67.alloc | apply IsS67.drewN | apply IsS67.drew | apply IsS67.set_1 | refine IsS67.far ?_ NB446_443.out _ | refine IsS67.far ?_ NB446_452.out _ | refine IsS67.far ?_ NB446_461.out _) | exact HI446.out))
              (case side2 => repeat (first | (with_reducible first | exact HB.out | apply below_alloc | apply pw_below_drewN | apply below_drew1 | refine below_set ?_ (IsS67.ge HI446.out) | refine below_set ?_ GE443.out | refine below_set ?_ GE452.out | refine below_set ?_ GE461.out) | exact HB.out))
              rintro e w30 ⟨rfl, hi, hb, hk⟩
              refine ⟨_, rfl, ?_⟩
              have n0_ := Aside0.mk (Kd.Q_mono (Kd.Q_keep (IsS67.apartQ (show IsS67 w _ g446 t444 x447001_3 from by repeat (first | (with_reducible first | exact HI446.out | apply IsS67.alloc | apply IsS67.drewN | apply IsS67.drew | apply IsS67.set_1 | refine IsS67.far ?_ NB446_443.out _ | refine IsS67.far ?_ NB446_452.out _ | refine IsS67.far ?_ NB446_461.out _) | exact HI446.out)) (by (with_reducible repeat (first | apply Kd.Q_alloc | apply Kd.Q_drewN | apply Kd.Q_drew)); exact HO_453001.out) (by decide)) hk (fun _ h => h.2)) (fun _ h => h.1))
              have n1_ := Aside0.mk (KeepBut.blk hk (g' := gb443) (o := .cells #[.int .i64 0, .slice none 0 0] 25 (0, 0)) (by (with_reducible repeat (first | refine blk_drewN ?_ _ | refine blk_drew ?_ | refine blk_alloc ?_ _)); exact BK443.out) NB443_446.out (by simp))
              have n2_ := Aside0.mk (KeepBut.blk hk (g' := gb452) (o := .cells #[.int .i64 t447, .slice Ao12 t448.length co12] 25 (0, 0)) (by (with_reducible repeat (first | refine blk_drewN ?_ _ | refine blk_drew ?_ | refine blk_alloc ?_ _)); exact BK452.out) NB452_446.out (by simp))
              have n3_ := Aside0.mk (KeepBut.blk hk (g' := gb461) (o := .cells #[.int .i64 0, .int .i64 0] 29 (0, 0)) (by (with_reducible repeat (first | refine blk_drewN ?_ _ | refine blk_drew ?_ | refine blk_alloc ?_ _)); exact BK461.out) NB461_446.out (by simp))
              have n4_ := Aside0.mk (hb)
              have n5_ := Aside0.mk (hi)
              clear HO_453001
              clear BK443
              clear BK452
              clear BK461
              clear HB
              clear HI446
              have HO_453001 := n0_
              have BK443 := n1_
              have BK452 := n2_
              have BK461 := n3_
              have HB := n4_
              have HI446 := n5_
              clear n0_ n1_ n2_ n3_ n4_ n5_
              (try clear hb)
              (try clear hb2)
              (try clear hk)
              (try clear hi)
              refine hK.out _ _ ⟨(blk_cell BK452.out 0).trans rfl, (blk_cell BK452.out 1).trans rfl⟩ (fun hHeld => ?_)
              clear hK K
              refine norm_ (a' := ?_) ?_ ?_
              rotate_left
              · show Act.put _ (some 23) _ = _
                simp only [Act.put, List.setIfInBounds_toArray, List.set_cons_zero, List.set_cons_succ, i64_w, i32_w]
                rfl
              refine one_ (i := 5) (N := some 24) #[true, true, true, true, true, true, true, false] rfl rfl (one_of HT_.out (by kernel_rfl)) (by decide) (fun K hK => ?_)
              refine goes_ Try.func47 (by kernel_rfl) rfl #[.agg #[.int .i64 t447, .slice Ao12 t448.length co12], .int .i64 t457] (by rfl) rfl rfl (by (try simp only [List.map_toArray, List.map_cons, List.map_nil]); first | done | rfl | (simp only [List.length_drop, List.length_take]; rfl)) ?_
              with_reducible refine (spec_l3Ray.calls t447 _ _ t448 t457 t459 t460 _ ?side1 ?side2 A25.out).mono ?_
              (case side1 => repeat (first | exact (Kd.Q_reads' HO_453001.out).2.2 | (with_reducible refine Kd.C_alloc ?_ _) | (with_reducible refine Kd.C_drewN ?_ _) | (with_reducible refine Kd.C_drew ?_)))
              (case side2 => exact (Kd.Q_reads' HO_453001.out).2.1)
              rintro e w31 ⟨rfl, hb⟩
              refine ⟨_, rfl, ?_⟩
              have n0_ := Aside0.mk (Kd.Q_below (by (with_reducible repeat (first | apply Kd.Q_alloc | apply Kd.Q_drewN | apply Kd.Q_drew)); exact HO_453001.out) hb)
              have n1_ := Aside0.mk (blk_below (g := gb443) (o := .cells #[.int .i64 0, .slice none 0 0] 25 (0, 0)) (by (with_reducible repeat (first | refine blk_drewN ?_ _ | refine blk_drew ?_ | refine blk_alloc ?_ _)); exact BK443.out) hb)
              have n2_ := Aside0.mk (blk_below (g := gb452) (o := .cells #[.int .i64 t447, .slice Ao12 t448.length co12] 25 (0, 0)) (by (with_reducible repeat (first | refine blk_drewN ?_ _ | refine blk_drew ?_ | refine blk_alloc ?_ _)); exact BK452.out) hb)
              have n3_ := Aside0.mk (IsS67.below (by repeat (first | (with_reducible first | exact HI446.out | apply IsS67.alloc | apply IsS67.drewN | apply IsS67.drew | apply IsS67.set_1 | refine IsS67.far ?_ NB446_443.out _ | refine IsS67.far ?_ NB446_452.out _ | refine IsS67.far ?_ NB446_461.out _) | exact HI446.out)) hb)
              have n4_ := Aside0.mk (blk_below (g := gb461) (o := .cells #[.int .i64 0, .int .i64 0] 29 (0, 0)) (by (with_reducible repeat (first | refine blk_drewN ?_ _ | refine blk_drew ?_ | refine blk_alloc ?_ _)); exact BK461.out) hb)
              have n5_ := Aside0.mk (below_step (by repeat (first | (with_reducible first | exact HB.out | apply below_alloc | apply pw_below_drewN | apply below_drew1 | refine below_set ?_ (IsS67.ge HI446.out) | refine below_set ?_ GE443.out | refine below_set ?_ GE452.out | refine below_set ?_ GE461.out) | exact HB.out)) hb)
              clear HO_453001
              clear BK443
              clear BK452
              clear HI446
              clear BK461
              clear HB
              have HO_453001 := n0_
              have BK443 := n1_
              have BK452 := n2_
              have HI446 := n3_
              have BK461 := n4_
              have HB := n5_
              clear n0_ n1_ n2_ n3_ n4_ n5_
              (try clear hb)
              (try clear hb2)
              (try clear hk)
              (try clear hi)
              refine hK.out _ _ ⟨(blk_cell BK452.out 0).trans rfl, (blk_cell BK452.out 1).trans rfl⟩ (fun hHeld => ?_)
              clear hK K
              refine norm_ (a' := ?_) ?_ ?_
              rotate_left
              · show Act.put _ (some 24) _ = _
                simp only [Act.put, List.setIfInBounds_toArray, List.set_cons_zero, List.set_cons_succ, i64_w, i32_w]
                rfl
              exact norm_ (by simp only [putAll, Act.put, List.setIfInBounds_toArray, List.set_cons_zero, List.set_cons_succ]) (hCont (gb461) _ ⟨hHeld, (by (with_reducible repeat (first | apply Kd.Q_alloc | apply Kd.Q_drewN | apply Kd.Q_drew)); exact HO_453001.out), (by (with_reducible repeat (first | refine blk_drewN ?_ _ | refine blk_drew ?_ | refine blk_alloc ?_ _)); exact BK443.out), (by (with_reducible repeat (first | refine blk_drewN ?_ _ | refine blk_drew ?_ | refine blk_alloc ?_ _)); exact BK452.out), (by (with_reducible repeat (first | refine blk_drewN ?_ _ | refine blk_drew ?_ | refine blk_alloc ?_ _)); exact BK461.out), GW461.out, GE461.out, NB446_461.out, NB461_446.out, NB443_461.out, NB461_443.out, NB452_461.out, NB461_452.out, (by repeat (first | (with_reducible first | exact HI446.out | apply IsS67.alloc | apply IsS67.drewN | apply IsS67.drew | apply IsS67.set_1 | refine IsS67.far ?_ NB446_443.out _ | refine IsS67.far ?_ NB446_452.out _ | refine IsS67.far ?_ NB446_461.out _) | exact HI446.out)), (by repeat (first | (with_reducible first | exact HB.out | apply below_alloc | apply pw_below_drewN | apply below_drew1 | refine below_set ?_ (IsS67.ge HI446.out) | refine below_set ?_ GE443.out | refine below_set ?_ GE452.out | refine below_set ?_ GE461.out) | exact HB.out))⟩)
          · skip
            refine box_step ?hg (N := 7) ?hd (cs := #[.int .i64 0, .int .i64 0]) (t := 29) ?hr ?_; (case hd => rfl); (case hg => rfl); (case hr => first | (go_simp; done) | (go_simp; rfl))
            intro gb461 hg w28 hbox hb
            have n0_ := Aside0.mk (Kd.Q_below (by (with_reducible repeat (first | apply Kd.Q_alloc | apply Kd.Q_drewN | apply Kd.Q_drew)); exact HO_453001.out) hb)
            have n1_ := Aside0.mk (blk_below (g := gb443) (o := .cells #[.int .i64 0, .slice none 0 0] 25 (0, 0)) (by (with_reducible repeat (first | refine blk_drewN ?_ _ | refine blk_drew ?_ | refine blk_alloc ?_ _)); exact BK443.out) hb)
            have n2_ := Aside0.mk (blk_below (g := gb452) (o := .cells #[.int .i64 t447, .slice Ao12 t448.length co12] 25 (0, 0)) (by (with_reducible repeat (first | refine blk_drewN ?_ _ | refine blk_drew ?_ | refine blk_alloc ?_ _)); exact BK452.out) hb)
            have n3_ := Aside0.mk (IsS67.below (by repeat (first | (with_reducible first | exact HI446.out | apply IsS67.alloc | apply IsS67.drewN | apply IsS67.drew | apply IsS67.set_1 | refine IsS67.far ?_ NB446_443.out _ | refine IsS67.far ?_ NB446_452.out _) | exact HI446.out)) hb)
            have n4_ := Aside0.mk (below_step (by repeat (first | (with_reducible first | exact HB.out | apply below_alloc | apply pw_below_drewN | apply below_drew1 | refine below_set ?_ (IsS67.ge HI446.out) | refine below_set ?_ GE443.out | refine below_set ?_ GE452.out) | exact HB.out)) hb)
            have n5_ := Aside0.mk (hbox)
            have n6_ := Aside0.mk ((by rw [hg]; exact (below_size (by repeat (first | (with_reducible first | exact HB.out | apply below_alloc | apply pw_below_drewN | apply below_drew1 | refine below_set ?_ (IsS67.ge HI446.out) | refine below_set ?_ GE443.out | refine below_set ?_ GE452.out) | exact HB.out))) : w.heap.size ≤ gb461))
            have n7_ := Aside0.mk ((by rw [hg]; exact (below_size (by repeat (first | (with_reducible first | exact HB.out | apply below_alloc | apply pw_below_drewN | apply below_drew1 | refine below_set ?_ (IsS67.ge HI446.out) | refine below_set ?_ GE443.out | refine below_set ?_ GE452.out) | exact HB.out))) : w.heap.size ≤ gb461))
            have n8_ := Aside0.mk ((by rw [hg]; exact Nat.ne_of_lt (blk_lt (g := gb443) (o := .cells #[.int .i64 0, .slice none 0 0] 25 (0, 0)) (by (with_reducible repeat (first | refine blk_drewN ?_ _ | refine blk_drew ?_ | refine blk_alloc ?_ _)); exact BK443.out)) : gb443 ≠ gb461))
            have n9_ := Aside0.mk ((by rw [hg]; exact Nat.ne_of_gt (blk_lt (g := gb443) (o := .cells #[.int .i64 0, .slice none 0 0] 25 (0, 0)) (by (with_reducible repeat (first | refine blk_drewN ?_ _ | refine blk_drew ?_ | refine blk_alloc ?_ _)); exact BK443.out)) : gb461 ≠ gb443))
            have n10_ := Aside0.mk ((by rw [hg]; exact Nat.ne_of_lt (blk_lt (g := gb452) (o := .cells #[.int .i64 t447, .slice Ao12 t448.length co12] 25 (0, 0)) (by (with_reducible repeat (first | refine blk_drewN ?_ _ | refine blk_drew ?_ | refine blk_alloc ?_ _)); exact BK452.out)) : gb452 ≠ gb461))
            have n11_ := Aside0.mk ((by rw [hg]; exact Nat.ne_of_gt (blk_lt (g := gb452) (o := .cells #[.int .i64 t447, .slice Ao12 t448.length co12] 25 (0, 0)) (by (with_reducible repeat (first | refine blk_drewN ?_ _ | refine blk_drew ?_ | refine blk_alloc ?_ _)); exact BK452.out)) : gb461 ≠ gb452))
            have n12_ := Aside0.mk ((by rw [hg]; exact Nat.ne_of_lt (IsS67.lt (show IsS67 w _ g446 t444 x447001_3 from by repeat (first | (with_reducible first | exact HI446.out | apply IsS67.alloc | apply IsS67.drewN | apply IsS67.drew | apply IsS67.set_1 | refine IsS67.far ?_ NB446_443.out _ | refine IsS67.far ?_ NB446_452.out _) | exact HI446.out))) : g446 ≠ gb461))
            have n13_ := Aside0.mk ((by rw [hg]; exact Nat.ne_of_gt (IsS67.lt (show IsS67 w _ g446 t444 x447001_3 from by repeat (first | (with_reducible first | exact HI446.out | apply IsS67.alloc | apply IsS67.drewN | apply IsS67.drew | apply IsS67.set_1 | refine IsS67.far ?_ NB446_443.out _ | refine IsS67.far ?_ NB446_452.out _) | exact HI446.out))) : gb461 ≠ g446))
            clear HO_453001
            clear BK443
            clear BK452
            clear HI446
            clear HB
            have HO_453001 := n0_
            have BK443 := n1_
            have BK452 := n2_
            have HI446 := n3_
            have HB := n4_
            have BK461 := n5_
            have GW461 := n6_
            have GE461 := n7_
            have NB443_461 := n8_
            have NB461_443 := n9_
            have NB452_461 := n10_
            have NB461_452 := n11_
            have NB446_461 := n12_
            have NB461_446 := n13_
            clear n0_ n1_ n2_ n3_ n4_ n5_ n6_ n7_ n8_ n9_ n10_ n11_ n12_ n13_
            clear hb hbox hg
            refine hK.out _ _ ⟨(blk_cell BK452.out 0).trans rfl, (blk_cell BK452.out 1).trans rfl⟩ (fun hHeld => ?_)
            clear hK K
            refine norm_ (a' := ?_) ?_ ?_
            rotate_left
            · show Act.put _ (some 7) _ = _
              simp only [Act.put, List.setIfInBounds_toArray, List.set_cons_zero, List.set_cons_succ, i64_w, i32_w]
              rfl
            refine one_ (i := 3) (N := some 22) #[true, true, true, true, false, false, true, false] rfl rfl (one_of HT_.out (by kernel_rfl)) (by decide) (fun K hK => ?_)
            refine goes_ Try.func33 (by kernel_rfl) rfl #[.agg #[.int .i64 t447, .slice Ao12 t448.length co12]] (by rfl) rfl rfl (by (try simp only [List.map_toArray, List.map_cons, List.map_nil]); first | done | rfl | (simp only [List.length_drop, List.length_take]; rfl)) ?_
            with_reducible refine (spec_l3Many.calls t447 _ _ t448 t456 _ ?side1 ?side2 A23.out).mono ?_
            (case side1 => repeat (first | exact (Kd.Q_reads' HO_453001.out).2.2 | (with_reducible refine Kd.C_alloc ?_ _) | (with_reducible refine Kd.C_drewN ?_ _) | (with_reducible refine Kd.C_drew ?_)))
            (case side2 => exact (Kd.Q_reads' HO_453001.out).2.1)
            rintro e w29 ⟨rfl, hb⟩
            refine ⟨_, rfl, ?_⟩
            have n0_ := Aside0.mk (Kd.Q_below (by (with_reducible repeat (first | apply Kd.Q_alloc | apply Kd.Q_drewN | apply Kd.Q_drew)); exact HO_453001.out) hb)
            have n1_ := Aside0.mk (blk_below (g := gb443) (o := .cells #[.int .i64 0, .slice none 0 0] 25 (0, 0)) (by (with_reducible repeat (first | refine blk_drewN ?_ _ | refine blk_drew ?_ | refine blk_alloc ?_ _)); exact BK443.out) hb)
            have n2_ := Aside0.mk (blk_below (g := gb452) (o := .cells #[.int .i64 t447, .slice Ao12 t448.length co12] 25 (0, 0)) (by (with_reducible repeat (first | refine blk_drewN ?_ _ | refine blk_drew ?_ | refine blk_alloc ?_ _)); exact BK452.out) hb)
            have n3_ := Aside0.mk (IsS67.below (by repeat (first | (with_reducible first | exact HI446.out | apply IsS67.alloc | apply IsS67.drewN | apply IsS67.drew | apply IsS67.set_1 | refine IsS67.far ?_ NB446_443.out _ | refine IsS67.far ?_ NB446_452.out _ | refine IsS67.far ?_ NB446_461.out _) | exact HI446.out)) hb)
            have n4_ := Aside0.mk (blk_below (g := gb461) (o := .cells #[.int .i64 0, .int .i64 0] 29 (0, 0)) (by (with_reducible repeat (first | refine blk_drewN ?_ _ | refine blk_drew ?_ | refine blk_alloc ?_ _)); exact BK461.out) hb)
            have n5_ := Aside0.mk (below_step (by repeat (first | (with_reducible first | exact HB.out | apply below_alloc | apply pw_below_drewN | apply below_drew1 | refine below_set ?_ (IsS67.ge HI446.out) | refine below_set ?_ GE443.out | refine below_set ?_ GE452.out | refine below_set ?_ GE461.out) | exact HB.out)) hb)
            clear HO_453001
            clear BK443
            clear BK452
            clear HI446
            clear BK461
            clear HB
            have HO_453001 := n0_
            have BK443 := n1_
            have BK452 := n2_
            have HI446 := n3_
            have BK461 := n4_
            have HB := n5_
            clear n0_ n1_ n2_ n3_ n4_ n5_
            (try clear hb)
            (try clear hb2)
            (try clear hk)
            (try clear hi)
            refine hK.out _ _ ⟨(blk_cell BK452.out 0).trans rfl, (blk_cell BK452.out 1).trans rfl⟩ (fun hHeld => ?_)
            clear hK K
            refine norm_ (a' := ?_) ?_ ?_
            rotate_left
            · show Act.put _ (some 22) _ = _
              simp only [Act.put, List.setIfInBounds_toArray, List.set_cons_zero, List.set_cons_succ, i64_w, i32_w]
              rfl
            refine one_ (i := 4) (N := some 23) #[true, true, true, true, true, false, true, false] rfl rfl (one_of HT_.out (by kernel_rfl)) (by decide) (fun K hK => ?_)
            refine goes_ Try.func37 (by kernel_rfl) rfl #[.pointer (some ⟨g446, 0, none⟩), .int .i64 t456] (by rfl) rfl rfl (by (try simp only [List.map_toArray, List.map_cons, List.map_nil]); first | done | rfl | (simp only [List.length_drop, List.length_take]; rfl)) ?_
            with_reducible refine (spec_l6Rd_pick.calls kj3 g446 t444 x447001_3 t456 t457 t458 w _ ?side1 ?side2 A24.out).mono ?_
            (case side1 => repeat (first | (with_reducible first | exact HI446.out | apply IsS67.alloc | apply IsS67.drewN | apply IsS67.drew | apply IsS67.set_1 | refine IsS67.far ?_ NB446_443.out _ | refine IsS67.far ?_ NB446_452.out _ | refine IsS67.far ?_ NB446_461.out _) | exact HI446.out))
            (case side2 => repeat (first | (with_reducible first | exact HB.out | apply below_alloc | apply pw_below_drewN | apply below_drew1 | refine below_set ?_ (IsS67.ge HI446.out) | refine below_set ?_ GE443.out | refine below_set ?_ GE452.out | refine below_set ?_ GE461.out) | exact HB.out))
            rintro e w30 ⟨rfl, hi, hb, hk⟩
            refine ⟨_, rfl, ?_⟩
            have n0_ := Aside0.mk (Kd.Q_mono (Kd.Q_keep (IsS67.apartQ (show IsS67 w _ g446 t444 x447001_3 from by repeat (first | (with_reducible first | exact HI446.out | apply IsS67.alloc | apply IsS67.drewN | apply IsS67.drew | apply IsS67.set_1 | refine IsS67.far ?_ NB446_443.out _ | refine IsS67.far ?_ NB446_452.out _ | refine IsS67.far ?_ NB446_461.out _) | exact HI446.out)) (by (with_reducible repeat (first | apply Kd.Q_alloc | apply Kd.Q_drewN | apply Kd.Q_drew)); exact HO_453001.out) (by decide)) hk (fun _ h => h.2)) (fun _ h => h.1))
            have n1_ := Aside0.mk (KeepBut.blk hk (g' := gb443) (o := .cells #[.int .i64 0, .slice none 0 0] 25 (0, 0)) (by (with_reducible repeat (first | refine blk_drewN ?_ _ | refine blk_drew ?_ | refine blk_alloc ?_ _)); exact BK443.out) NB443_446.out (by simp))
            have n2_ := Aside0.mk (KeepBut.blk hk (g' := gb452) (o := .cells #[.int .i64 t447, .slice Ao12 t448.length co12] 25 (0, 0)) (by (with_reducible repeat (first | refine blk_drewN ?_ _ | refine blk_drew ?_ | refine blk_alloc ?_ _)); exact BK452.out) NB452_446.out (by simp))
            have n3_ := Aside0.mk (KeepBut.blk hk (g' := gb461) (o := .cells #[.int .i64 0, .int .i64 0] 29 (0, 0)) (by (with_reducible repeat (first | refine blk_drewN ?_ _ | refine blk_drew ?_ | refine blk_alloc ?_ _)); exact BK461.out) NB461_446.out (by simp))
            have n4_ := Aside0.mk (hb)
            have n5_ := Aside0.mk (hi)
            clear HO_453001
            clear BK443
            clear BK452
            clear BK461
            clear HB
            clear HI446
            have HO_453001 := n0_
            have BK443 := n1_
            have BK452 := n2_
            have BK461 := n3_
            have HB := n4_
            have HI446 := n5_
            clear n0_ n1_ n2_ n3_ n4_ n5_
            (try clear hb)
            (try clear hb2)
            (try clear hk)
            (try clear hi)
            refine hK.out _ _ ⟨(blk_cell BK452.out 0).trans rfl, (blk_cell BK452.out 1).trans rfl⟩ (fun hHeld => ?_)
            clear hK K
            refine norm_ (a' := ?_) ?_ ?_
            rotate_left
            · show Act.put _ (some 23) _ = _
              simp only [Act.put, List.setIfInBounds_toArray, List.set_cons_zero, List.set_cons_succ, i64_w, i32_w]
              rfl
            refine one_ (i := 5) (N := some 24) #[true, true, true, true, true, true, true, false] rfl rfl (one_of HT_.out (by kernel_rfl)) (by decide) (fun K hK => ?_)
            refine goes_ Try.func47 (by kernel_rfl) rfl #[.agg #[.int .i64 t447, .slice Ao12 t448.length co12], .int .i64 t457] (by rfl) rfl rfl (by (try simp only [List.map_toArray, List.map_cons, List.map_nil]); first | done | rfl | (simp only [List.length_drop, List.length_take]; rfl)) ?_
            with_reducible refine (spec_l3Ray.calls t447 _ _ t448 t457 t459 t460 _ ?side1 ?side2 A25.out).mono ?_
            (case side1 => repeat (first | exact (Kd.Q_reads' HO_453001.out).2.2 | (with_reducible refine Kd.C_alloc ?_ _) | (with_reducible refine Kd.C_drewN ?_ _) | (with_reducible refine Kd.C_drew ?_)))
            (case side2 => exact (Kd.Q_reads' HO_453001.out).2.1)
            rintro e w31 ⟨rfl, hb⟩
            refine ⟨_, rfl, ?_⟩
            have n0_ := Aside0.mk (Kd.Q_below (by (with_reducible repeat (first | apply Kd.Q_alloc | apply Kd.Q_drewN | apply Kd.Q_drew)); exact HO_453001.out) hb)
            have n1_ := Aside0.mk (blk_below (g := gb443) (o := .cells #[.int .i64 0, .slice none 0 0] 25 (0, 0)) (by (with_reducible repeat (first | refine blk_drewN ?_ _ | refine blk_drew ?_ | refine blk_alloc ?_ _)); exact BK443.out) hb)
            have n2_ := Aside0.mk (blk_below (g := gb452) (o := .cells #[.int .i64 t447, .slice Ao12 t448.length co12] 25 (0, 0)) (by (with_reducible repeat (first | refine blk_drewN ?_ _ | refine blk_drew ?_ | refine blk_alloc ?_ _)); exact BK452.out) hb)
            have n3_ := Aside0.mk (IsS67.below (by repeat (first | (with_reducible first | exact HI446.out | apply IsS67.alloc | apply IsS67.drewN | apply IsS67.drew | apply IsS67.set_1 | refine IsS67.far ?_ NB446_443.out _ | refine IsS67.far ?_ NB446_452.out _ | refine IsS67.far ?_ NB446_461.out _) | exact HI446.out)) hb)
            have n4_ := Aside0.mk (blk_below (g := gb461) (o := .cells #[.int .i64 0, .int .i64 0] 29 (0, 0)) (by (with_reducible repeat (first | refine blk_drewN ?_ _ | refine blk_drew ?_ | refine blk_alloc ?_ _)); exact BK461.out) hb)
            have n5_ := Aside0.mk (below_step (by repeat (first | (with_reducible first | exact HB.out | apply below_alloc | apply pw_below_drewN | apply below_drew1 | refine below_set ?_ (IsS67.ge HI446.out) | refine below_set ?_ GE443.out | refine below_set ?_ GE452.out | refine below_set ?_ GE461.out) | exact HB.out)) hb)
            clear HO_453001
            clear BK443
            clear BK452
            clear HI446
            clear BK461
            clear HB
            have HO_453001 := n0_
            have BK443 := n1_
            have BK452 := n2_
            have HI446 := n3_
            have BK461 := n4_
            have HB := n5_
            clear n0_ n1_ n2_ n3_ n4_ n5_
            (try clear hb)
            (try clear hb2)
            (try clear hk)
            (try clear hi)
            refine hK.out _ _ ⟨(blk_cell BK452.out 0).trans rfl, (blk_cell BK452.out 1).trans rfl⟩ (fun hHeld => ?_)
            clear hK K
            refine norm_ (a' := ?_) ?_ ?_
            rotate_left
            · show Act.put _ (some 24) _ = _
              simp only [Act.put, List.setIfInBounds_toArray, List.set_cons_zero, List.set_cons_succ, i64_w, i32_w]
              rfl
            exact norm_ (by simp only [putAll, Act.put, List.setIfInBounds_toArray, List.set_cons_zero, List.set_cons_succ]) (hCont (gb461) _ ⟨hHeld, (by (with_reducible repeat (first | apply Kd.Q_alloc | apply Kd.Q_drewN | apply Kd.Q_drew)); exact HO_453001.out), (by (with_reducible repeat (first | refine blk_drewN ?_ _ | refine blk_drew ?_ | refine blk_alloc ?_ _)); exact BK443.out), (by (with_reducible repeat (first | refine blk_drewN ?_ _ | refine blk_drew ?_ | refine blk_alloc ?_ _)); exact BK452.out), (by (with_reducible repeat (first | refine blk_drewN ?_ _ | refine blk_drew ?_ | refine blk_alloc ?_ _)); exact BK461.out), GW461.out, GE461.out, NB446_461.out, NB461_446.out, NB443_461.out, NB461_443.out, NB452_461.out, NB461_452.out, (by repeat (first | (with_reducible first | exact HI446.out | apply IsS67.alloc | apply IsS67.drewN | apply IsS67.drew | apply IsS67.set_1 | refine IsS67.far ?_ NB446_443.out _ | refine IsS67.far ?_ NB446_452.out _ | refine IsS67.far ?_ NB446_461.out _) | exact HI446.out)), (by repeat (first | (with_reducible first | exact HB.out | apply below_alloc | apply pw_below_drewN | apply below_drew1 | refine below_set ?_ (IsS67.ge HI446.out) | refine below_set ?_ GE443.out | refine below_set ?_ GE452.out | refine below_set ?_ GE461.out) | exact HB.out))⟩)
        rintro gb461 w32 ⟨hS_, h0_, h1_, h2_, h3_, h4_, h5_, h6_, h7_, h8_, h9_, h10_, h11_, h12_, h13_⟩
        have n0_ : Aside0 (Kd.Q k42 42 w32 w.heap.size (fun _ => True) (.slice Ao12 t448.length co12) t448) := ⟨h0_⟩
        have n1_ : Aside0 (w32.heap[gb443]? = some (.cells #[.int .i64 0, .slice none 0 0] 25 (0, 0))) := ⟨h1_⟩
        have n2_ : Aside0 (w32.heap[gb452]? = some (.cells #[.int .i64 t447, .slice Ao12 t448.length co12] 25 (0, 0))) := ⟨h2_⟩
        have n3_ : Aside0 (w32.heap[gb461]? = some (.cells #[.int .i64 0, .int .i64 0] 29 (0, 0))) := ⟨h3_⟩
        have n4_ : Aside0 (w.heap.size ≤ gb461) := ⟨h4_⟩
        have n5_ : Aside0 (w.heap.size ≤ gb461) := ⟨h5_⟩
        have n6_ : Aside0 (g446 ≠ gb461) := ⟨h6_⟩
        have n7_ : Aside0 (gb461 ≠ g446) := ⟨h7_⟩
        have n8_ : Aside0 (gb443 ≠ gb461) := ⟨h8_⟩
        have n9_ : Aside0 (gb461 ≠ gb443) := ⟨h9_⟩
        have n10_ : Aside0 (gb452 ≠ gb461) := ⟨h10_⟩
        have n11_ : Aside0 (gb461 ≠ gb452) := ⟨h11_⟩
        have n12_ : Aside0 (IsS67 w w32 g446 t444 t458) := ⟨h12_⟩
        have n13_ : Aside0 (Below w.heap.size w w32) := ⟨h13_⟩
        clear HO_453001
        clear BK443
        clear BK452
        clear HI446
        clear HB
        clear h0_ h1_ h2_ h3_ h4_ h5_ h6_ h7_ h8_ h9_ h10_ h11_ h12_ h13_
        have HO_453001 := n0_
        have BK443 := n1_
        have BK452 := n2_
        have BK461 := n3_
        have GW461 := n4_
        have GE461 := n5_
        have NB446_461 := n6_
        have NB461_446 := n7_
        have NB443_461 := n8_
        have NB461_443 := n9_
        have NB452_461 := n10_
        have NB461_452 := n11_
        have HI446 := n12_
        have HB := n13_
        clear n0_ n1_ n2_ n3_ n4_ n5_ n6_ n7_ n8_ n9_ n10_ n11_ n12_ n13_
        have hHeld : w32.cell? ⟨gb452, 0, none⟩ = some (.int .i64 t447) ∧ w32.cell? ⟨gb452, 1, none⟩ = some (.slice Ao12 t448.length co12) := hS_
        refine norm_ (a' := ?_) ?_ ?_
        rotate_left
        · simp only [putAll, Act.put, List.setIfInBounds_toArray, List.set_cons_zero, List.set_cons_succ]
          rfl
        refine one_ (i := 7) (N := none) #[true, true, true, true, true, true, true, true] rfl rfl (one_of HT_.out (by kernel_rfl)) (by decide) (fun K hK => ?_)
        have hs33 : w32.cell? ⟨gb461, 0, none⟩ = some (.int .i64 0) := (blk_cell BK461.out 0).trans rfl
        have hfs33 := blk_frozen BK461.out 0
        have hns33_0 := NB443_461.out
        have hns33_1 := NB452_461.out
        have hms33_0 := NB461_443.out
        have hms33_1 := NB461_452.out
        have hs34 : w32.cell? ⟨gb461, 1, none⟩ = some (.int .i64 0) := (blk_cell BK461.out 1).trans rfl
        have hfs34 := blk_frozen BK461.out 1
        have hns34_0 := NB443_461.out
        have hns34_1 := NB452_461.out
        have hms34_0 := NB461_443.out
        have hms34_1 := NB461_452.out
        refine skip_ (w1 := ?_) (by rfl) rfl ?_ ?_
        rotate_left
        · go_simp
          rfl
        refine hK.out _ _ ⟨((cell_far (p := ⟨gb461, _, none⟩) NB452_461.out _).trans (((cell_far (p := ⟨gb461, _, none⟩) NB452_461.out _).trans (hHeld.1)))), ((cell_far (p := ⟨gb461, _, none⟩) NB452_461.out _).trans (((cell_far (p := ⟨gb461, _, none⟩) NB452_461.out _).trans (hHeld.2))))⟩ (fun hHeld => ?_)
        clear hK K
        refine done_ (done_of HT_.out (by kernel_rfl)) ?_
        try go_wp2
        have n0_ : Aside0 (Kd.Q k42 42 ((w32.setCell ⟨gb461, 0, none⟩ (.int .i64 t459)).setCell ⟨gb461, 1, none⟩ (.int .i64 t460)) w.heap.size (fun _ => True) (.slice Ao12 t448.length co12) t448) := ⟨by (with_reducible repeat (first | apply Kd.Q_alloc | apply Kd.Q_drewN | apply Kd.Q_drew)); exact Kd.Q_mono (Kd.Q_far (p := ⟨gb461, 1, none⟩) (Kd.Q_far (p := ⟨gb461, 0, none⟩) (Kd.Q_types HO_453001.out BK461.out (by decide)) (fun _ hk => hk.2) (.int .i64 t459)) (fun _ hk => hk.2) (.int .i64 t460)) (fun _ hk => trivial)⟩
        have n1_ : Aside0 (((w32.setCell ⟨gb461, 0, none⟩ (.int .i64 t459)).setCell ⟨gb461, 1, none⟩ (.int .i64 t460)).heap[gb443]? = some (.cells #[.int .i64 0, .slice none 0 0] 25 (0, 0))) := ⟨by (with_reducible repeat (first | refine blk_drewN ?_ _ | refine blk_drew ?_ | refine blk_alloc ?_ _)); refine blk_far ?_ NB443_461.out _; (with_reducible repeat (first | refine blk_drewN ?_ _ | refine blk_drew ?_ | refine blk_alloc ?_ _)); refine blk_far ?_ NB443_461.out _; (with_reducible repeat (first | refine blk_drewN ?_ _ | refine blk_drew ?_ | refine blk_alloc ?_ _)); exact BK443.out⟩
        have n2_ : Aside0 (((w32.setCell ⟨gb461, 0, none⟩ (.int .i64 t459)).setCell ⟨gb461, 1, none⟩ (.int .i64 t460)).heap[gb452]? = some (.cells #[.int .i64 t447, .slice Ao12 t448.length co12] 25 (0, 0))) := ⟨by (with_reducible repeat (first | refine blk_drewN ?_ _ | refine blk_drew ?_ | refine blk_alloc ?_ _)); refine blk_far ?_ NB452_461.out _; (with_reducible repeat (first | refine blk_drewN ?_ _ | refine blk_drew ?_ | refine blk_alloc ?_ _)); refine blk_far ?_ NB452_461.out _; (with_reducible repeat (first | refine blk_drewN ?_ _ | refine blk_drew ?_ | refine blk_alloc ?_ _)); exact BK452.out⟩
        have n3_ : Aside0 (((w32.setCell ⟨gb461, 0, none⟩ (.int .i64 t459)).setCell ⟨gb461, 1, none⟩ (.int .i64 t460)).heap[gb461]? = some (.cells #[.int .i64 t459, .int .i64 t460] 29 (0, 0))) := ⟨by (with_reducible repeat (first | refine blk_drewN ?_ _ | refine blk_drew ?_ | refine blk_alloc ?_ _)); refine blk_put (cs := #[.int .i64 t459, .int .i64 0]) ?_ 1 _ rfl; (with_reducible repeat (first | refine blk_drewN ?_ _ | refine blk_drew ?_ | refine blk_alloc ?_ _)); refine blk_put (cs := #[.int .i64 0, .int .i64 0]) ?_ 0 _ rfl; (with_reducible repeat (first | refine blk_drewN ?_ _ | refine blk_drew ?_ | refine blk_alloc ?_ _)); exact BK461.out⟩
        have n4_ : Aside0 (IsS67 w ((w32.setCell ⟨gb461, 0, none⟩ (.int .i64 t459)).setCell ⟨gb461, 1, none⟩ (.int .i64 t460)) g446 t444 t458) := ⟨by repeat (first | (with_reducible first | exact HI446.out | apply IsS67.alloc | apply IsS67.drewN | apply IsS67.drew | apply IsS67.set_1 | refine IsS67.far ?_ NB446_443.out _ | refine IsS67.far ?_ NB446_452.out _ | refine IsS67.far ?_ NB446_461.out _) | exact HI446.out)⟩
        have n5_ : Aside0 (Below w.heap.size w ((w32.setCell ⟨gb461, 0, none⟩ (.int .i64 t459)).setCell ⟨gb461, 1, none⟩ (.int .i64 t460))) := ⟨by repeat (first | (with_reducible first | exact HB.out | apply below_alloc | apply pw_below_drewN | apply below_drew1 | refine below_set ?_ (IsS67.ge HI446.out) | refine below_set ?_ GE443.out | refine below_set ?_ GE452.out | refine below_set ?_ GE461.out) | exact HB.out)⟩
        (try clear HO_453001)
        (try clear BK443)
        (try clear BK452)
        (try clear BK461)
        (try clear HI446)
        (try clear HB)
        generalize ((w32.setCell ⟨gb461, 0, none⟩ (.int .i64 t459)).setCell ⟨gb461, 1, none⟩ (.int .i64 t460)) = w35 at n0_ n1_ n2_ n3_ n4_ n5_ ⊢
        have HO_453001 := n0_
        have BK443 := n1_
        have BK452 := n2_
        have BK461 := n3_
        have HI446 := n4_
        have HB := n5_
        clear n0_ n1_ n2_ n3_ n4_ n5_
        have n0_ := Aside0.mk (Kd.Q_drew HO_453001.out)
        have n1_ := Aside0.mk (blk_drew BK443.out)
        have n2_ := Aside0.mk (blk_drew BK452.out)
        have n3_ := Aside0.mk (blk_drew BK461.out)
        have n4_ := Aside0.mk (IsS67.drew HI446.out)
        have n5_ := Aside0.mk (below_drew1 HB.out)
        clear HO_453001
        clear BK443
        clear BK452
        clear BK461
        clear HI446
        clear HB
        have HO_453001 := n0_
        have BK443 := n1_
        have BK452 := n2_
        have BK461 := n3_
        have HI446 := n4_
        have HB := n5_
        clear n0_ n1_ n2_ n3_ n4_ n5_
        refine start_ (n := 9) (S := fun w' => w'.cell? ⟨gb452, 0, none⟩ = some (.int .i64 t447) ∧ w'.cell? ⟨gb452, 1, none⟩ = some (.slice Ao12 t448.length co12) ∧ w'.cell? ⟨gb461, 0, none⟩ = some (.int .i64 t459) ∧ w'.cell? ⟨gb461, 1, none⟩ = some (.int .i64 t460)) (ds := []) #[false, false, false, false, false, false, false, false, false] (by kernel_rfl) rfl rfl ⟨(blk_cell BK452.out 0).trans rfl, (blk_cell BK452.out 1).trans rfl, (blk_cell BK461.out 0).trans rfl, (blk_cell BK461.out 1).trans rfl⟩ (fun hHeld => ?_); refine with_tabW spec_DrawSightOf.tab5 spec_DrawSightOf.bits5 (fun HT_ HW_ => ?_)
        generalize w35.drew = w36 at HO_453001 BK443 BK452 BK461 HI446 HB hHeld ⊢
        refine pure_ (i := 1) (N := some 26) (v := ?_) (a' := ?_) #[false, true, false, false, false, false, false, false, false] rfl rfl (any_of HT_.out (by kernel_rfl)) (fun _ _ _ h => h) (Or.inl ⟨by rfl, ?_⟩) ?_ ?_
        rotate_left
        · intro w'
          go_simp
          with_reducible rfl
        rotate_left
        · simp only [Act.put, List.setIfInBounds_toArray, List.set_cons_zero, List.set_cons_succ, i64_w, i32_w]
          rfl
        refine pure_ (i := 3) (N := some 28) (v := ?_) (a' := ?_) #[false, true, false, true, false, false, false, false, false] rfl rfl (any_of HT_.out (by kernel_rfl)) (fun _ _ _ h => h) (Or.inl ⟨by rfl, ?_⟩) ?_ ?_
        rotate_left
        · intro w'
          go_simp
          with_reducible rfl
        rotate_left
        · simp only [Act.put, List.setIfInBounds_toArray, List.set_cons_zero, List.set_cons_succ, i64_w, i32_w]
          rfl
        refine take_ (i := 0) (N := some 25) (v := ?_) (a' := ?_) #[true, true, false, true, false, false, false, false, false] rfl rfl (take_ofW HT_.out HW_.out (by kernel_rfl)) (fun _ _ _ h => h) (Or.inl ⟨by rfl, ?_⟩) hHeld ?_ ?_
        rotate_left
        · rintro w' ⟨s0, s1, s2, s3⟩
          go_simp
          with_reducible rfl
        rotate_left
        · simp only [Act.put, List.setIfInBounds_toArray, List.set_cons_zero, List.set_cons_succ, i64_w, i32_w]
          rfl
        refine take_ (i := 2) (N := some 27) (v := ?_) (a' := ?_) #[true, true, true, true, false, false, false, false, false] rfl rfl (take_ofW HT_.out HW_.out (by kernel_rfl)) (fun _ _ _ h => h) (Or.inl ⟨by rfl, ?_⟩) hHeld ?_ ?_
        rotate_left
        · rintro w' ⟨s0, s1, s2, s3⟩
          go_simp
          with_reducible rfl
        rotate_left
        · simp only [Act.put, List.setIfInBounds_toArray, List.set_cons_zero, List.set_cons_succ, i64_w, i32_w]
          rfl
        refine take_ (i := 4) (N := some 29) (v := ?_) (a' := ?_) #[true, true, true, true, true, false, false, false, false] rfl rfl (take_ofW HT_.out HW_.out (by kernel_rfl)) (fun _ _ _ h => h) (Or.inl ⟨by rfl, ?_⟩) hHeld ?_ ?_
        rotate_left
        · rintro w' ⟨s0, s1, s2, s3⟩
          go_simp
          with_reducible rfl
        rotate_left
        · simp only [Act.put, List.setIfInBounds_toArray, List.set_cons_zero, List.set_cons_succ, i64_w, i32_w]
          rfl
        refine one_ (i := 5) (N := some 30) #[true, true, true, true, true, true, false, false, false] rfl rfl (one_of HT_.out (by kernel_rfl)) (by decide) (fun K hK => ?_)
        refine goes_ Try.func48 (by kernel_rfl) rfl #[.int .i64 t460] (by rfl) rfl rfl (by (try simp only [List.map_toArray, List.map_cons, List.map_nil]); first | done | rfl | (simp only [List.length_drop, List.length_take]; rfl)) ?_
        with_reducible refine (spec_l2Back.calls t460 t462 _ A26.out).mono ?_
        rintro e w' ⟨rfl, ⟨nd, rfl⟩⟩
        refine ⟨_, rfl, ?_⟩
        refine hK.out _ _ ⟨(blk_cell BK452.out 0).trans rfl, (blk_cell BK452.out 1).trans rfl, (blk_cell BK461.out 0).trans rfl, (blk_cell BK461.out 1).trans rfl⟩ (fun hHeld => ?_)
        clear hK K
        refine norm_ (a' := ?_) ?_ ?_
        rotate_left
        · show Act.put _ (some 30) _ = _
          simp only [Act.put, List.setIfInBounds_toArray, List.set_cons_zero, List.set_cons_succ, i64_w, i32_w]
          rfl
        refine one_ (i := 6) (N := none) #[true, true, true, true, true, true, true, false, false] rfl rfl (one_of HT_.out (by kernel_rfl)) (by decide) (fun K hK => ?_)
        have hs37 : w36.cell? ⟨gb443, 0, none⟩ = some (.int .i64 0) := (blk_cell BK443.out 0).trans rfl
        have hfs37 := blk_frozen BK443.out 0
        have hns37_1 := NB452_443.out
        have hns37_2 := NB461_443.out
        have hms37_1 := NB443_452.out
        have hms37_2 := NB443_461.out
        have hs38 : w36.cell? ⟨gb443, 1, none⟩ = some (.slice none 0 0) := (blk_cell BK443.out 1).trans rfl
        have hfs38 := blk_frozen BK443.out 1
        have hns38_1 := NB452_443.out
        have hns38_2 := NB461_443.out
        have hms38_1 := NB443_452.out
        have hms38_2 := NB443_461.out
        refine skip_ (w1 := ?_) (by rfl) rfl ?_ ?_
        rotate_left
        · go_simp
          rfl
        refine hK.out _ _ ⟨((cell_far (p := ⟨gb443, _, none⟩) NB452_443.out _).trans (((cell_far (p := ⟨gb443, _, none⟩) NB452_443.out _).trans (hHeld.1)))), ((cell_far (p := ⟨gb443, _, none⟩) NB452_443.out _).trans (((cell_far (p := ⟨gb443, _, none⟩) NB452_443.out _).trans (hHeld.2.1)))), ((cell_far (p := ⟨gb443, _, none⟩) NB461_443.out _).trans (((cell_far (p := ⟨gb443, _, none⟩) NB461_443.out _).trans (hHeld.2.2.1)))), ((cell_far (p := ⟨gb443, _, none⟩) NB461_443.out _).trans (((cell_far (p := ⟨gb443, _, none⟩) NB461_443.out _).trans (hHeld.2.2.2))))⟩ (fun hHeld => ?_)
        clear hK K
        refine pure_ (i := 7) (N := some 3) (v := ?_) (a' := ?_) #[true, true, true, true, true, true, true, true, false] rfl rfl (any_of HT_.out (by kernel_rfl)) (fun _ _ _ h => h) (Or.inl ⟨by rfl, ?_⟩) ?_ ?_
        rotate_left
        · intro w'
          go_simp
          with_reducible rfl
        rotate_left
        · simp only [Act.put, List.setIfInBounds_toArray, List.set_cons_zero, List.set_cons_succ, i64_w, i32_w]
          rfl
        refine pure_ (i := 8) (N := some 4) (v := ?_) (a' := ?_) #[true, true, true, true, true, true, true, true, true] rfl rfl (any_of HT_.out (by kernel_rfl)) (fun _ _ _ h => h) (Or.inl ⟨by rfl, ?_⟩) ?_ ?_
        rotate_left
        · intro w'
          go_simp
          with_reducible rfl
        rotate_left
        · simp only [Act.put, List.setIfInBounds_toArray, List.set_cons_zero, List.set_cons_succ, i64_w, i32_w]
          rfl
        refine done_ (done_of HT_.out (by kernel_rfl)) ?_
        try go_wp2
        refine bodyPost_ret (results_ctt rfl _ _ gb443 25 #[.int .i64 t447, .slice Ao12 t448.length co12] (0, 0) _ rfl (by (with_reducible repeat (first | refine blk_drewN ?_ _ | refine blk_drew ?_ | refine blk_alloc ?_ _)); refine blk_put (cs := #[.int .i64 t447, .slice none 0 0]) ?_ 1 _ rfl; (with_reducible repeat (first | refine blk_drewN ?_ _ | refine blk_drew ?_ | refine blk_alloc ?_ _)); refine blk_put (cs := #[.int .i64 0, .slice none 0 0]) ?_ 0 _ rfl; (with_reducible repeat (first | refine blk_drewN ?_ _ | refine blk_drew ?_ | refine blk_alloc ?_ _)); exact BK443.out) Try.underlying25 rfl (by kernel_rfl)) rfl ?_
        exact ⟨_, by first | rfl | (simp [errW_none, errW_some] <;> rfl) | (simp [*, errW_none, errW_some] <;> rfl) | (exfalso; simp_all; done), by (with_reducible repeat (first | apply Kd.Q_alloc | apply Kd.Q_drewN | apply Kd.Q_drew)); exact Kd.Q_mono (Kd.Q_far (p := ⟨gb443, 1, none⟩) (Kd.Q_far (p := ⟨gb443, 0, none⟩) (Kd.Q_types HO_453001.out BK443.out (by decide)) (fun _ hk => hk.2) (.int .i64 t447)) (fun _ hk => hk.2) (.slice Ao12 t448.length co12)) (fun _ hk => trivial), by repeat (first | (with_reducible first | exact HB.out | apply below_alloc | apply pw_below_drewN | apply below_drew1 | refine below_set ?_ (IsS67.ge HI446.out) | refine below_set ?_ GE443.out | refine below_set ?_ GE452.out | refine below_set ?_ GE461.out) | exact HB.out)⟩
      · replace c22 := Bool.eq_false_iff.mpr c22
        subst c22
        have H1 : ((spec_l71Place.f kj3 t444 x447001_3 t447 t448).bind fun bt463 => ((spec_l6Rd_pick.f kj3 t444 bt463.2 4).bind fun bt465 => ((spec_l6Rd_pick.f kj3 t444 bt465.2 24).bind fun bt467 => (some (t447, t448, bt463.1, wrap64 (bt465.1 + (wrap64 (Int.tdiv bt467.1 23)))))))) = some (r1, r2, r3, r4) := by rw [if_neg (show ¬ (false = true) by decide)] at H; exact H
        clear H
        have H := H1
        clear H1
        replace H := Option.bind_eq_some_iff.mp H
        obtain ⟨⟨t463, t464⟩, A390, H⟩ := H
        replace H : ((spec_l6Rd_pick.f kj3 t444 t464 4).bind fun bt465 => ((spec_l6Rd_pick.f kj3 t444 bt465.2 24).bind fun bt467 => (some (t447, t448, t463, wrap64 (bt465.1 + (wrap64 (Int.tdiv bt467.1 23))))))) = some (r1, r2, r3, r4) := H
        have A39 := Aside0.mk A390
        clear A390
        replace H := Option.bind_eq_some_iff.mp H
        obtain ⟨⟨t465, t466⟩, A400, H⟩ := H
        replace H : ((spec_l6Rd_pick.f kj3 t444 t466 24).bind fun bt467 => (some (t447, t448, t463, wrap64 (t465 + (wrap64 (Int.tdiv bt467.1 23)))))) = some (r1, r2, r3, r4) := H
        have A40 := Aside0.mk A400
        clear A400
        replace H := Option.bind_eq_some_iff.mp H
        obtain ⟨⟨t467, t468⟩, A410, H⟩ := H
        replace H : (some (t447, t448, t463, wrap64 (t465 + (wrap64 (Int.tdiv t467 23))))) = some (r1, r2, r3, r4) := H
        have A41 := Aside0.mk A410
        clear A410
        simp only [Option.some.injEq, Prod.mk.injEq] at H
        obtain ⟨rfl, rfl, rfl, rfl⟩ := H
        try go_wp2
        have n0_ := Aside0.mk (Kd.Q_drew HO_453001.out)
        have n1_ := Aside0.mk (blk_drew BK443.out)
        have n2_ := Aside0.mk (blk_drew BK452.out)
        have n3_ := Aside0.mk (IsS67.drew HI446.out)
        have n4_ := Aside0.mk (below_drew1 HB.out)
        clear HO_453001
        clear BK443
        clear BK452
        clear HI446
        clear HB
        have HO_453001 := n0_
        have BK443 := n1_
        have BK452 := n2_
        have HI446 := n3_
        have HB := n4_
        clear n0_ n1_ n2_ n3_ n4_
        refine start_ (n := 13) (S := fun w' => w'.cell? ⟨gb452, 0, none⟩ = some (.int .i64 t447) ∧ w'.cell? ⟨gb452, 1, none⟩ = some (.slice Ao12 t448.length co12)) (ds := []) #[false, false, false, false, false, false, false, false, false, false, false, false, false] (by kernel_rfl) rfl rfl ⟨(blk_cell BK452.out 0).trans rfl, (blk_cell BK452.out 1).trans rfl⟩ (fun hHeld => ?_); refine with_tabW spec_DrawSightOf.tab6 spec_DrawSightOf.bits6 (fun HT_ HW_ => ?_)
        generalize wc.drew = w42 at HO_453001 BK443 BK452 HI446 HB hHeld ⊢
        refine pure_ (i := 1) (N := some 32) (v := ?_) (a' := ?_) #[false, true, false, false, false, false, false, false, false, false, false, false, false] rfl rfl (any_of HT_.out (by kernel_rfl)) (fun _ _ _ h => h) (Or.inl ⟨by rfl, ?_⟩) ?_ ?_
        rotate_left
        · intro w'
          go_simp
          with_reducible rfl
        rotate_left
        · simp only [Act.put, List.setIfInBounds_toArray, List.set_cons_zero, List.set_cons_succ, i64_w, i32_w]
          rfl
        refine pure_ (i := 4) (N := some 35) (v := ?_) (a' := ?_) #[false, true, false, false, true, false, false, false, false, false, false, false, false] rfl rfl (any_of HT_.out (by kernel_rfl)) (fun _ _ _ h => h) (Or.inl ⟨by rfl, ?_⟩) ?_ ?_
        rotate_left
        · intro w'
          go_simp
          with_reducible rfl
        rotate_left
        · simp only [Act.put, List.setIfInBounds_toArray, List.set_cons_zero, List.set_cons_succ, i64_w, i32_w]
          rfl
        refine pure_ (i := 6) (N := some 37) (v := ?_) (a' := ?_) #[false, true, false, false, true, false, true, false, false, false, false, false, false] rfl rfl (any_of HT_.out (by kernel_rfl)) (fun _ _ _ h => h) (Or.inl ⟨by rfl, ?_⟩) ?_ ?_
        rotate_left
        · intro w'
          go_simp
          with_reducible rfl
        rotate_left
        · simp only [Act.put, List.setIfInBounds_toArray, List.set_cons_zero, List.set_cons_succ, i64_w, i32_w]
          rfl
        refine take_ (i := 0) (N := some 31) (v := ?_) (a' := ?_) #[true, true, false, false, true, false, true, false, false, false, false, false, false] rfl rfl (take_ofW HT_.out HW_.out (by kernel_rfl)) (fun _ _ _ h => h) (Or.inl ⟨by rfl, ?_⟩) hHeld ?_ ?_
        rotate_left
        · rintro w' ⟨s0, s1⟩
          go_simp
          with_reducible rfl
        rotate_left
        · simp only [Act.put, List.setIfInBounds_toArray, List.set_cons_zero, List.set_cons_succ, i64_w, i32_w]
          rfl
        refine take_ (i := 2) (N := some 33) (v := ?_) (a' := ?_) #[true, true, true, false, true, false, true, false, false, false, false, false, false] rfl rfl (take_ofW HT_.out HW_.out (by kernel_rfl)) (fun _ _ _ h => h) (Or.inl ⟨by rfl, ?_⟩) hHeld ?_ ?_
        rotate_left
        · rintro w' ⟨s0, s1⟩
          go_simp
          with_reducible rfl
        rotate_left
        · simp only [Act.put, List.setIfInBounds_toArray, List.set_cons_zero, List.set_cons_succ, i64_w, i32_w]
          rfl
        refine one_ (i := 3) (N := some 34) #[true, true, true, true, true, false, true, false, false, false, false, false, false] rfl rfl (one_of HT_.out (by kernel_rfl)) (by decide) (fun K hK => ?_)
        refine goes_ Try.func36 (by kernel_rfl) rfl #[.pointer (some ⟨g446, 0, none⟩), .agg #[.int .i64 t447, .slice Ao12 t448.length co12]] (by rfl) rfl rfl (by (try simp only [List.map_toArray, List.map_cons, List.map_nil]); first | done | rfl | (simp only [List.length_drop, List.length_take]; rfl)) ?_
        with_reducible refine (spec_l71Place.calls kj3 g446 t444 x447001_3 t447 _ _ t448 t463 t464 w _ ?side1 ?side2 ?side3 ?side4 A39.out).mono ?_
        (case side1 => repeat (first | (with_reducible first | exact HI446.out | apply IsS67.alloc | apply IsS67.drewN | apply IsS67.drew | apply IsS67.set_1 | refine IsS67.far ?_ NB446_443.out _ | refine IsS67.far ?_ NB446_452.out _) | exact HI446.out))
        (case side2 => repeat (first | (with_reducible first | exact HB.out | apply below_alloc | apply pw_below_drewN | apply below_drew1 | refine below_set ?_ (IsS67.ge HI446.out) | refine below_set ?_ GE443.out | refine below_set ?_ GE452.out) | exact HB.out))
        (case side3 => exact Kd.C_foot_ownQ (IsS67.apartQ (show IsS67 w _ g446 t444 x447001_3 from by repeat (first | (with_reducible first | exact HI446.out | apply IsS67.alloc | apply IsS67.drewN | apply IsS67.drew | apply IsS67.set_1 | refine IsS67.far ?_ NB446_443.out _ | refine IsS67.far ?_ NB446_452.out _) | exact HI446.out)) (by (with_reducible repeat (first | apply Kd.Q_alloc | apply Kd.Q_drewN | apply Kd.Q_drew)); exact HO_453001.out) (by decide)) (fun _ h_ => h_.2))
        (case side4 => exact (Kd.Q_reads' HO_453001.out).2.1)
        rintro e w43 ⟨rfl, hi, hb, hk⟩
        refine ⟨_, rfl, ?_⟩
        have n0_ := Aside0.mk (Kd.Q_mono (Kd.Q_keep (IsS67.apartQ (show IsS67 w _ g446 t444 x447001_3 from by repeat (first | (with_reducible first | exact HI446.out | apply IsS67.alloc | apply IsS67.drewN | apply IsS67.drew | apply IsS67.set_1 | refine IsS67.far ?_ NB446_443.out _ | refine IsS67.far ?_ NB446_452.out _) | exact HI446.out)) (by (with_reducible repeat (first | apply Kd.Q_alloc | apply Kd.Q_drewN | apply Kd.Q_drew)); exact HO_453001.out) (by decide)) hk (fun _ h => h.2)) (fun _ h => h.1))
        have n1_ := Aside0.mk (KeepBut.blk hk (g' := gb443) (o := .cells #[.int .i64 0, .slice none 0 0] 25 (0, 0)) (by (with_reducible repeat (first | refine blk_drewN ?_ _ | refine blk_drew ?_ | refine blk_alloc ?_ _)); exact BK443.out) NB443_446.out (by simp))
        have n2_ := Aside0.mk (KeepBut.blk hk (g' := gb452) (o := .cells #[.int .i64 t447, .slice Ao12 t448.length co12] 25 (0, 0)) (by (with_reducible repeat (first | refine blk_drewN ?_ _ | refine blk_drew ?_ | refine blk_alloc ?_ _)); exact BK452.out) NB452_446.out (by simp))
        have n3_ := Aside0.mk (hb)
        have n4_ := Aside0.mk (hi)
        clear HO_453001
        clear BK443
        clear BK452
        clear HB
        clear HI446
        have HO_453001 := n0_
        have BK443 := n1_
        have BK452 := n2_
        have HB := n3_
        have HI446 := n4_
        clear n0_ n1_ n2_ n3_ n4_
        (try clear hb)
        (try clear hb2)
        (try clear hk)
        (try clear hi)
        refine hK.out _ _ ⟨(blk_cell BK452.out 0).trans rfl, (blk_cell BK452.out 1).trans rfl⟩ (fun hHeld => ?_)
        clear hK K
        refine norm_ (a' := ?_) ?_ ?_
        rotate_left
        · show Act.put _ (some 34) _ = _
          simp only [Act.put, List.setIfInBounds_toArray, List.set_cons_zero, List.set_cons_succ, i64_w, i32_w]
          rfl
        refine one_ (i := 5) (N := some 36) #[true, true, true, true, true, true, true, false, false, false, false, false, false] rfl rfl (one_of HT_.out (by kernel_rfl)) (by decide) (fun K hK => ?_)
        refine goes_ Try.func37 (by kernel_rfl) rfl #[.pointer (some ⟨g446, 0, none⟩), .int .i64 4] (by rfl) rfl rfl (by (try simp only [List.map_toArray, List.map_cons, List.map_nil]); first | done | rfl | (simp only [List.length_drop, List.length_take]; rfl)) ?_
        with_reducible refine (spec_l6Rd_pick.calls kj3 g446 t444 t464 4 t465 t466 w _ ?side1 ?side2 A40.out).mono ?_
        (case side1 => repeat (first | (with_reducible first | exact HI446.out | apply IsS67.alloc | apply IsS67.drewN | apply IsS67.drew | apply IsS67.set_1 | refine IsS67.far ?_ NB446_443.out _ | refine IsS67.far ?_ NB446_452.out _) | exact HI446.out))
        (case side2 => repeat (first | (with_reducible first | exact HB.out | apply below_alloc | apply pw_below_drewN | apply below_drew1 | refine below_set ?_ (IsS67.ge HI446.out) | refine below_set ?_ GE443.out | refine below_set ?_ GE452.out) | exact HB.out))
        rintro e w44 ⟨rfl, hi, hb, hk⟩
        refine ⟨_, rfl, ?_⟩
        have n0_ := Aside0.mk (Kd.Q_mono (Kd.Q_keep (IsS67.apartQ (show IsS67 w _ g446 t444 t464 from by repeat (first | (with_reducible first | exact HI446.out | apply IsS67.alloc | apply IsS67.drewN | apply IsS67.drew | apply IsS67.set_1 | refine IsS67.far ?_ NB446_443.out _ | refine IsS67.far ?_ NB446_452.out _) | exact HI446.out)) (by (with_reducible repeat (first | apply Kd.Q_alloc | apply Kd.Q_drewN | apply Kd.Q_drew)); exact HO_453001.out) (by decide)) hk (fun _ h => h.2)) (fun _ h => h.1))
        have n1_ := Aside0.mk (KeepBut.blk hk (g' := gb443) (o := .cells #[.int .i64 0, .slice none 0 0] 25 (0, 0)) (by (with_reducible repeat (first | refine blk_drewN ?_ _ | refine blk_drew ?_ | refine blk_alloc ?_ _)); exact BK443.out) NB443_446.out (by simp))
        have n2_ := Aside0.mk (KeepBut.blk hk (g' := gb452) (o := .cells #[.int .i64 t447, .slice Ao12 t448.length co12] 25 (0, 0)) (by (with_reducible repeat (first | refine blk_drewN ?_ _ | refine blk_drew ?_ | refine blk_alloc ?_ _)); exact BK452.out) NB452_446.out (by simp))
        have n3_ := Aside0.mk (hb)
        have n4_ := Aside0.mk (hi)
        clear HO_453001
        clear BK443
        clear BK452
        clear HB
        clear HI446
        have HO_453001 := n0_
        have BK443 := n1_
        have BK452 := n2_
        have HB := n3_
        have HI446 := n4_
        clear n0_ n1_ n2_ n3_ n4_
        (try clear hb)
        (try clear hb2)
        (try clear hk)
        (try clear hi)
        refine hK.out _ _ ⟨(blk_cell BK452.out 0).trans rfl, (blk_cell BK452.out 1).trans rfl⟩ (fun hHeld => ?_)
        clear hK K
        refine norm_ (a' := ?_) ?_ ?_
        rotate_left
        · show Act.put _ (some 36) _ = _
          simp only [Act.put, List.setIfInBounds_toArray, List.set_cons_zero, List.set_cons_succ, i64_w, i32_w]
          rfl
        refine one_ (i := 7) (N := some 38) #[true, true, true, true, true, true, true, true, false, false, false, false, false] rfl rfl (one_of HT_.out (by kernel_rfl)) (by decide) (fun K hK => ?_)
        refine goes_ Try.func37 (by kernel_rfl) rfl #[.pointer (some ⟨g446, 0, none⟩), .int .i64 24] (by rfl) rfl rfl (by (try simp only [List.map_toArray, List.map_cons, List.map_nil]); first | done | rfl | (simp only [List.length_drop, List.length_take]; rfl)) ?_
        with_reducible refine (spec_l6Rd_pick.calls kj3 g446 t444 t466 24 t467 t468 w _ ?side1 ?side2 A41.out).mono ?_
        (case side1 => repeat (first | (with_reducible first | exact HI446.out | apply IsS67.alloc | apply IsS67.drewN | apply IsS67.drew | apply IsS67.set_1 | refine IsS67.far ?_ NB446_443.out _ | refine IsS67.far ?_ NB446_452.out _) | exact HI446.out))
        (case side2 => repeat (first | (with_reducible first | exact HB.out | apply below_alloc | apply pw_below_drewN | apply below_drew1 | refine below_set ?_ (IsS67.ge HI446.out) | refine below_set ?_ GE443.out | refine below_set ?_ GE452.out) | exact HB.out))
        rintro e w45 ⟨rfl, hi, hb, hk⟩
        refine ⟨_, rfl, ?_⟩
        have n0_ := Aside0.mk (Kd.Q_mono (Kd.Q_keep (IsS67.apartQ (show IsS67 w _ g446 t444 t466 from by repeat (first | (with_reducible first | exact HI446.out | apply IsS67.alloc | apply IsS67.drewN | apply IsS67.drew | apply IsS67.set_1 | refine IsS67.far ?_ NB446_443.out _ | refine IsS67.far ?_ NB446_452.out _) | exact HI446.out)) (by (with_reducible repeat (first | apply Kd.Q_alloc | apply Kd.Q_drewN | apply Kd.Q_drew)); exact HO_453001.out) (by decide)) hk (fun _ h => h.2)) (fun _ h => h.1))
        have n1_ := Aside0.mk (KeepBut.blk hk (g' := gb443) (o := .cells #[.int .i64 0, .slice none 0 0] 25 (0, 0)) (by (with_reducible repeat (first | refine blk_drewN ?_ _ | refine blk_drew ?_ | refine blk_alloc ?_ _)); exact BK443.out) NB443_446.out (by simp))
        have n2_ := Aside0.mk (KeepBut.blk hk (g' := gb452) (o := .cells #[.int .i64 t447, .slice Ao12 t448.length co12] 25 (0, 0)) (by (with_reducible repeat (first | refine blk_drewN ?_ _ | refine blk_drew ?_ | refine blk_alloc ?_ _)); exact BK452.out) NB452_446.out (by simp))
        have n3_ := Aside0.mk (hb)
        have n4_ := Aside0.mk (hi)
        clear HO_453001
        clear BK443
        clear BK452
        clear HB
        clear HI446
        have HO_453001 := n0_
        have BK443 := n1_
        have BK452 := n2_
        have HB := n3_
        have HI446 := n4_
        clear n0_ n1_ n2_ n3_ n4_
        (try clear hb)
        (try clear hb2)
        (try clear hk)
        (try clear hi)
        refine hK.out _ _ ⟨(blk_cell BK452.out 0).trans rfl, (blk_cell BK452.out 1).trans rfl⟩ (fun hHeld => ?_)
        clear hK K
        refine norm_ (a' := ?_) ?_ ?_
        rotate_left
        · show Act.put _ (some 38) _ = _
          simp only [Act.put, List.setIfInBounds_toArray, List.set_cons_zero, List.set_cons_succ, i64_w, i32_w]
          rfl
        refine pure_ (i := 8) (N := some 39) (v := ?_) (a' := ?_) #[true, true, true, true, true, true, true, true, true, false, false, false, false] rfl rfl (any_of HT_.out (by kernel_rfl)) (fun _ _ _ h => h) (Or.inl ⟨by rfl, ?_⟩) ?_ ?_
        rotate_left
        · intro w'
          go_simp
          with_reducible rfl
        rotate_left
        · simp only [Act.put, List.setIfInBounds_toArray, List.set_cons_zero, List.set_cons_succ, i64_w, i32_w]
          rfl
        refine pure_ (i := 9) (N := some 40) (v := ?_) (a' := ?_) #[true, true, true, true, true, true, true, true, true, true, false, false, false] rfl rfl (any_of HT_.out (by kernel_rfl)) (fun _ _ _ h => h) (Or.inl ⟨by rfl, ?_⟩) ?_ ?_
        rotate_left
        · intro w'
          go_simp
          with_reducible rfl
        rotate_left
        · simp only [Act.put, List.setIfInBounds_toArray, List.set_cons_zero, List.set_cons_succ, i64_w, i32_w]
          rfl
        refine one_ (i := 10) (N := none) #[true, true, true, true, true, true, true, true, true, true, true, false, false] rfl rfl (one_of HT_.out (by kernel_rfl)) (by decide) (fun K hK => ?_)
        have hs46 : w45.cell? ⟨gb443, 0, none⟩ = some (.int .i64 0) := (blk_cell BK443.out 0).trans rfl
        have hfs46 := blk_frozen BK443.out 0
        have hns46_1 := NB452_443.out
        have hms46_1 := NB443_452.out
        have hs47 : w45.cell? ⟨gb443, 1, none⟩ = some (.slice none 0 0) := (blk_cell BK443.out 1).trans rfl
        have hfs47 := blk_frozen BK443.out 1
        have hns47_1 := NB452_443.out
        have hms47_1 := NB443_452.out
        refine skip_ (w1 := ?_) (by rfl) rfl ?_ ?_
        rotate_left
        · go_simp
          rfl
        refine hK.out _ _ ⟨((cell_far (p := ⟨gb443, _, none⟩) NB452_443.out _).trans (((cell_far (p := ⟨gb443, _, none⟩) NB452_443.out _).trans (hHeld.1)))), ((cell_far (p := ⟨gb443, _, none⟩) NB452_443.out _).trans (((cell_far (p := ⟨gb443, _, none⟩) NB452_443.out _).trans (hHeld.2))))⟩ (fun hHeld => ?_)
        clear hK K
        refine pure_ (i := 11) (N := some 3) (v := ?_) (a' := ?_) #[true, true, true, true, true, true, true, true, true, true, true, true, false] rfl rfl (any_of HT_.out (by kernel_rfl)) (fun _ _ _ h => h) (Or.inl ⟨by rfl, ?_⟩) ?_ ?_
        rotate_left
        · intro w'
          go_simp
          with_reducible rfl
        rotate_left
        · simp only [Act.put, List.setIfInBounds_toArray, List.set_cons_zero, List.set_cons_succ, i64_w, i32_w]
          rfl
        refine pure_ (i := 12) (N := some 4) (v := ?_) (a' := ?_) #[true, true, true, true, true, true, true, true, true, true, true, true, true] rfl rfl (any_of HT_.out (by kernel_rfl)) (fun _ _ _ h => h) (Or.inl ⟨by rfl, ?_⟩) ?_ ?_
        rotate_left
        · intro w'
          go_simp
          with_reducible rfl
        rotate_left
        · simp only [Act.put, List.setIfInBounds_toArray, List.set_cons_zero, List.set_cons_succ, i64_w, i32_w]
          rfl
        refine done_ (done_of HT_.out (by kernel_rfl)) ?_
        try go_wp2
        refine bodyPost_ret (results_ctt rfl _ _ gb443 25 #[.int .i64 t447, .slice Ao12 t448.length co12] (0, 0) _ rfl (by (with_reducible repeat (first | refine blk_drewN ?_ _ | refine blk_drew ?_ | refine blk_alloc ?_ _)); refine blk_put (cs := #[.int .i64 t447, .slice none 0 0]) ?_ 1 _ rfl; (with_reducible repeat (first | refine blk_drewN ?_ _ | refine blk_drew ?_ | refine blk_alloc ?_ _)); refine blk_put (cs := #[.int .i64 0, .slice none 0 0]) ?_ 0 _ rfl; (with_reducible repeat (first | refine blk_drewN ?_ _ | refine blk_drew ?_ | refine blk_alloc ?_ _)); exact BK443.out) Try.underlying25 rfl (by kernel_rfl)) rfl ?_
        exact ⟨_, by first | rfl | (simp [errW_none, errW_some] <;> rfl) | (simp [*, errW_none, errW_some] <;> rfl) | (exfalso; simp_all; done), by (with_reducible repeat (first | apply Kd.Q_alloc | apply Kd.Q_drewN | apply Kd.Q_drew)); exact Kd.Q_mono (Kd.Q_far (p := ⟨gb443, 1, none⟩) (Kd.Q_far (p := ⟨gb443, 0, none⟩) (Kd.Q_types HO_453001.out BK443.out (by decide)) (fun _ hk => hk.2) (.int .i64 t447)) (fun _ hk => hk.2) (.slice Ao12 t448.length co12)) (fun _ hk => trivial), by repeat (first | (with_reducible first | exact HB.out | apply below_alloc | apply pw_below_drewN | apply below_drew1 | refine below_set ?_ (IsS67.ge HI446.out) | refine below_set ?_ GE443.out | refine below_set ?_ GE452.out) | exact HB.out)⟩

end Go.Proofs.Ytbomeogcgefddaa.P
