/- PROVED: contracts of functions; No condition. -/
import Derived.Test.YtmohfoleolmijaaPx0
import Derived.Test.YtmohfoleolmijaaPx25
import Derived.Test.YtmohfoleolmijaaPx26
import Derived.Test.YtmohfoleolmijaaPx30
import Derived.Test.YtmohfoleolmijaaPx31
import Derived.Test.YtmohfoleolmijaaPx63
namespace Go.Proofs.Ytmohfoleolmijaa.P
open Go.RowKit Go.Proofs.YtmohfoleolmijaaW
set_option linter.unusedVariables false
set_option linter.unusedSimpArgs false
mutual
def spec_DrawTrailLight.l0 : Nat -> Int -> List Int -> Int -> Int -> List (S57) -> Option (Int × (List (S57)) × Int)
 | 0, _, _, _, _, _ => none
 | k + 1, x6, x605000, x605001, x611000, x611001 => if x6 > 0 then (spec_DrawTrailLight.j1 k x6 (decide ((x611001.length : Int) > 0)) x605000 x605001 x611000 x611001) else (spec_DrawTrailLight.j1 k x6 false x605000 x605001 x611000 x611001)
def spec_DrawTrailLight.j1 : Nat -> Int -> Bool -> List Int -> Int -> Int -> List (S57) -> Option (Int × (List (S57)) × Int)
 | 0, _, _, _, _, _, _ => none
 | k + 1, x6, x22, x605000, x605001, x611000, x611001 => if x22 = true then ((spec_l6Rd_pick.f k x605000 x605001 (x611001.length : Int)).bind fun bt613 => ((spec_l6Rd_pick.f k x605000 bt613.2 9).bind fun bt615 => (if 0 <= bt613.1 then (if bt613.1 < (x611001.length : Int) then (spec_DrawTrailLight.l0 k (wrap64 (x6 - 1)) x605000 bt615.2 x611000 (x611001.set (bt613.1 : Int).toNat (⟨7, wrap64 (1 + bt615.1)⟩ : S57))) else (none)) else (none)))) else ((spec_l71Sight.f k x605000 x605001 x611000 x611001).bind fun bt618 => (spec_DrawTrailLight.l1 k bt618.1 0 x605000 bt618.2 x611000 x611001))
def spec_DrawTrailLight.l1 : Nat -> Int -> Int -> List Int -> Int -> Int -> List (S57) -> Option (Int × (List (S57)) × Int)
 | 0, _, _, _, _, _, _ => none
 | k + 1, x7, x8, x605000, x605001, x611000, x611001 => if x8 < 8 then ((spec_l6Rd_pick.f k x605000 x605001 8).bind fun bt620 => (if bt620.1 > 0 then ((spec_TrailLight.f k x611000 x611001 x7).bind fun t622 => (if t622 = 0 then ((spec_l71Sight.f k x605000 bt620.2 x611000 x611001).bind fun bt623 => (spec_DrawTrailLight.l1 k bt623.1 (wrap64 (x8 + 1)) x605000 bt623.2 x611000 x611001)) else (some (x611000, x611001, x7)))) else (some (x611000, x611001, x7)))) else (some (x611000, x611001, x7))
end
def spec_DrawTrailLight.f (k : Nat) (l0 : List Int) : Option (Int × (List (S57)) × Int) := (spec_l6Open.f l0).bind fun bt602 => ((spec_l71Some.f k bt602.1 bt602.2).bind fun bt605 => ((spec_l6Rd_pick.f k bt602.1 bt605.2.2 3).bind fun bt611 => (spec_DrawTrailLight.l0 k bt611.1 bt602.1 bt611.2 bt605.1 bt605.2.1)))
def spec_DrawTrailLight.T6 : Bool × List (List Nat × List Nat) := (true, [([], []), ([0], [0]), ([], []), ([], []), ([3], [3]), ([4], [4]), ([2, 5], [2, 5]), ([], []), ([7, 6], [7]), ([8], [8]), ([9], [9]), ([1, 6, 0, 1, 2, 3, 4, 5, 6, 7, 8, 9, 10], [1, 6]), ([11, 10, 8, 0, 1, 2, 3, 4, 5, 6, 7, 8, 9, 10], [10, 11])])
def spec_DrawTrailLight.B6 : List Nat := [0, 1, 0, 0, 8, 24, 60, 0, 252, 508, 1020, 2047, 4095]
theorem spec_DrawTrailLight.tab6 : rtab .any (opsOf Try.f34 6) = spec_DrawTrailLight.T6 := by kernel_rfl
theorem spec_DrawTrailLight.bits6 : waitsOk spec_DrawTrailLight.T6.2 spec_DrawTrailLight.B6 = true := by kernel_rfl
set_option maxHeartbeats 8000000 in
set_option maxRecDepth 100000 in
theorem spec_DrawTrailLight.calls (k : Nat) (A0 : Option Addr) (c0 : Nat) (l0 : List Int) (r1 : Int) (r2 : List (S57)) (r3 : Int) (w : World) (hr0 : Kd.C (Kd.int .u8) w A0 l0.length l0) (hc0 : l0.length <= c0) (h : spec_DrawTrailLight.f k l0 = some (r1, r2, r3)) :
  Calls Try.prog 34 #[.slice A0 l0.length c0] w fun e w' => ∃ v1_ : Value, e = .returned (.tuple #[.agg #[.int .i64 r1, v1_], .int .i64 r3]) ∧ Kd.Q k57 57 w' w.heap.size (fun _ => True) v1_ r2 ∧ Below w.heap.size w w' := by
 have hu30 := Try.underlying30
 have hu57 := Try.underlying57
 have HR0 := Aside0.mk hr0
 have HC0 := Aside0.mk hc0
 clear hr0 hc0
 have HB := Aside0.mk (Below.refl w.heap.size w)
 have H : ((spec_l6Open.f l0).bind fun bt602 => ((spec_l71Some.f k bt602.1 bt602.2).bind fun bt605 => ((spec_l6Rd_pick.f k bt602.1 bt605.2.2 3).bind fun bt611 => (spec_DrawTrailLight.l0 k bt611.1 bt602.1 bt611.2 bt605.1 bt605.2.1)))) = some (r1, r2, r3) := h
 clear h
 replace H := Option.bind_eq_some_iff.mp H
 obtain ⟨⟨t602, t603⟩, A20, H⟩ := H
 replace H : ((spec_l71Some.f k t602 t603).bind fun bt605 => ((spec_l6Rd_pick.f k t602 bt605.2.2 3).bind fun bt611 => (spec_DrawTrailLight.l0 k bt611.1 t602 bt611.2 bt605.1 bt605.2.1))) = some (r1, r2, r3) := H
 have A2 := Aside0.mk A20
 clear A20
 replace H := Option.bind_eq_some_iff.mp H
 obtain ⟨⟨t605, t606, t609⟩, A30, H⟩ := H
 replace H : ((spec_l6Rd_pick.f k t602 t609 3).bind fun bt611 => (spec_DrawTrailLight.l0 k bt611.1 t602 bt611.2 t605 t606)) = some (r1, r2, r3) := H
 have A3 := Aside0.mk A30
 clear A30
 replace H := Option.bind_eq_some_iff.mp H
 obtain ⟨⟨t611, t612⟩, A40, H⟩ := H
 replace H : (spec_DrawTrailLight.l0 k t611 t602 t612 t605 t606) = some (r1, r2, r3) := H
 have A4 := Aside0.mk A40
 clear A40
 have H' := Aside0.mk H
 clear H
 go_enter Try.func34, Try.ntmps34
 go_wp2_with (first | ((with_reducible refine gate_dst (N := 2) rfl ?_); (try (refine gate_guard (by rfl) ?_; dsimp only)); refine box_event rfl (N := 2) rfl (cs := #[.int .i64 0, .slice none 0 0]) (t := 30) ?hr ?_; (case hr => first | (go_simp; done) | (go_simp; rfl)); intro gb601 hg w5 hbox hb; have n0_ := Aside0.mk (below_step (by repeat first | exact HB.out | apply below_alloc | apply pw_below_drewN) hb); have n1_ := Aside0.mk (hbox); have n2_ := Aside0.mk ((by rw [hg]; exact (below_size (by repeat first | exact HB.out | apply below_alloc | apply pw_below_drewN)) : w.heap.size <= gb601)); have n3_ := n2_; clear HB; have HB := n0_; have BK601 := n1_; have GW601 := n2_; have GE601 := n3_; clear n0_ n1_ n2_ n3_; clear hb hbox hg) | ((with_reducible refine gate_callee (f := 50) rfl ?_); refine goesL_ (some 10) rfl rfl Try.func50 (by kernel_rfl) rfl #[.slice A0 l0.length c0] rfl (by first | rfl | (simp only [List.map_toArray, List.map_cons, List.map_nil, List.length_drop, List.length_take]; try rfl)) ?_; (with_reducible refine (spec_l6Open.calls _ _ l0 t602 t603 w _ ?side1 ?side2 ?side3 A2.out).mono ?_); (case side1 => repeat (first | (with_reducible first | exact HB.out | apply below_alloc | apply pw_below_drewN | apply below_drew1 | refine below_set ?_ GE601.out) | exact HB.out)); (case side2 => exact HR0.out); (case side3 => exact HC0.out); rintro e w6 ⟨g604, rfl, hi, hb, hb2⟩; refine ⟨_, rfl, ?_⟩; have n0_ := Aside0.mk (blk_below (bK BK601.out) hb2); have n1_ := Aside0.mk (hb); have n2_ := Aside0.mk (hi); have n3_ := Aside0.mk (IsS97.ne_blk hi (blk_below (bK BK601.out) hb2) (by decide)); have n4_ := Aside0.mk (Ne.symm (IsS97.ne_blk hi (blk_below (bK BK601.out) hb2) (by decide))); clear BK601; clear HB; have BK601 := n0_; have HB := n1_; have HI604 := n2_; have NB604_601 := n3_; have NB601_604 := n4_; clear n0_ n1_ n2_ n3_ n4_; (try clear hb); (try clear hb2); (try clear hk); (try clear hi)) | ((with_reducible refine gate_callee (f := 51) rfl ?_); refine goesL_ (some 12) rfl rfl Try.func51 (by kernel_rfl) rfl #[.pointer (some ⟨g604, 0, none⟩)] rfl (by first | rfl | (simp only [List.map_toArray, List.map_cons, List.map_nil, List.length_drop, List.length_take]; try rfl)) ?_; (with_reducible refine (spec_l71Some.calls k g604 t602 t603 t605 t606 t609 w _ ?side1 ?side2 A3.out).mono ?_); (case side1 => repeat (first | (with_reducible first | exact HI604.out | apply IsS97.alloc | apply IsS97.drewN | apply IsS97.drew | apply IsS97.set_1 | refine IsS97.far ?_ NB604_601.out _) | exact HI604.out)); (case side2 => repeat (first | (with_reducible first | exact HB.out | apply below_alloc | apply pw_below_drewN | apply below_drew1 | refine below_set ?_ (IsS97.ge HI604.out) | refine below_set ?_ GE601.out) | exact HB.out)); rintro e w7 ⟨v607, rfl, ho0, hi, hb, hk⟩; refine ⟨_, rfl, ?_⟩; have n0_ := Aside0.mk (KeepBut.blk hk (g' := gb601) (o := .cells #[.int .i64 0, .slice none 0 0] 30 (0, 0)) (bK BK601.out) NB601_604.out (by simp)); have n1_ := Aside0.mk (Kd.Q_lower ho0 (below_size (by repeat (first | (with_reducible first | exact HB.out | apply below_alloc | apply pw_below_drewN | apply below_drew1 | refine below_set ?_ (IsS97.ge HI604.out) | refine below_set ?_ GE601.out) | exact HB.out)))); have n2_ := Aside0.mk (hb); have n3_ := Aside0.mk (hi); clear BK601; clear HB; clear HI604; have BK601 := n0_; have HO608 := n1_; have HB := n2_; have HI604 := n3_; clear n0_ n1_ n2_ n3_; (try clear hb); (try clear hb2); (try clear hk); (try clear hi); (try clear ho0)) | ((with_reducible refine gate_dst (N := 5) rfl ?_); (try (refine gate_guard (by rfl) ?_; dsimp only)); refine box_event rfl (N := 5) rfl (cs := #[.int .i64 0, .slice none 0 0]) (t := 30) ?hr ?_; (case hr => first | (go_simp; done) | (go_simp; rfl)); intro gb610 hg w8 hbox hb; have n0_ := Aside0.mk (Kd.Q_below (by (with_reducible repeat apply Kd.Q_alloc); exact HO608.out) hb); have n1_ := Aside0.mk (blk_below (bK BK601.out) hb); have n2_ := Aside0.mk (IsS97.below (by repeat (first | (with_reducible first | exact HI604.out | apply IsS97.alloc | apply IsS97.drewN | apply IsS97.drew | apply IsS97.set_1 | refine IsS97.far ?_ NB604_601.out _) | exact HI604.out)) hb); have n3_ := Aside0.mk (below_step (by repeat (first | (with_reducible first | exact HB.out | apply below_alloc | apply pw_below_drewN | apply below_drew1 | refine below_set ?_ (IsS97.ge HI604.out) | refine below_set ?_ GE601.out) | exact HB.out)) hb); have n4_ := Aside0.mk (hbox); have n5_ := Aside0.mk ((by rw [hg]; exact (below_size (by repeat (first | (with_reducible first | exact HB.out | apply below_alloc | apply pw_below_drewN | apply below_drew1 | refine below_set ?_ (IsS97.ge HI604.out) | refine below_set ?_ GE601.out) | exact HB.out))) : w.heap.size <= gb610)); have n6_ := n5_; have n7_ := Aside0.mk ((by rw [hg]; exact Nat.ne_of_lt (blk_lt (bK BK601.out)) : gb601 ≠ gb610)); have n8_ := Aside0.mk ((by rw [hg]; exact Nat.ne_of_gt (blk_lt (bK BK601.out)) : gb610 ≠ gb601)); have n9_ := Aside0.mk ((by rw [hg]; exact Nat.ne_of_lt (IsS97.lt (show IsS97 w _ g604 t602 t609 from by repeat (first | (with_reducible first | exact HI604.out | apply IsS97.alloc | apply IsS97.drewN | apply IsS97.drew | apply IsS97.set_1 | refine IsS97.far ?_ NB604_601.out _) | exact HI604.out))) : g604 ≠ gb610)); have n10_ := Aside0.mk ((by rw [hg]; exact Nat.ne_of_gt (IsS97.lt (show IsS97 w _ g604 t602 t609 from by repeat (first | (with_reducible first | exact HI604.out | apply IsS97.alloc | apply IsS97.drewN | apply IsS97.drew | apply IsS97.set_1 | refine IsS97.far ?_ NB604_601.out _) | exact HI604.out))) : gb610 ≠ g604)); clear HO608; clear BK601; clear HI604; clear HB; have HO608 := n0_; have BK601 := n1_; have HI604 := n2_; have HB := n3_; have BK610 := n4_; have GW610 := n5_; have GE610 := n6_; have NB601_610 := n7_; have NB610_601 := n8_; have NB604_610 := n9_; have NB610_604 := n10_; clear n0_ n1_ n2_ n3_ n4_ n5_ n6_ n7_ n8_ n9_ n10_; clear hb hbox hg; have hnb9 := NB610_601.out; have hnc9 := NB601_610.out; have hnb10 := NB610_604.out; have hnc10 := NB604_610.out; have hcz11_0 : w8.cell? ⟨gb610, 0, none⟩ = some (.int .i64 0) := (blk_cell BK610.out 0).trans rfl; have hcz11_1 : w8.cell? ⟨gb610, 1, none⟩ = some (.slice none 0 0) := (blk_cell BK610.out 1).trans rfl; have hfz11_0 := blk_frozen BK610.out 0; have hfz11_1 := blk_frozen BK610.out 1; obtain ⟨Ao12, co12, eo12, _⟩ := Kd.Q_slice HO608.out; subst eo12) | ((with_reducible refine gate_callee (f := 52) rfl ?_); refine goesL_ (some 14) rfl rfl Try.func52 (by kernel_rfl) rfl #[.pointer (some ⟨g604, 0, none⟩), .int .i64 3] rfl (by first | rfl | (simp only [List.map_toArray, List.map_cons, List.map_nil, List.length_drop, List.length_take]; try rfl)) ?_; (with_reducible refine (spec_l6Rd_pick.calls k g604 t602 t609 3 t611 t612 w _ ?side1 ?side2 A4.out).mono ?_); (case side1 => repeat (first | (with_reducible first | exact HI604.out | apply IsS97.alloc | apply IsS97.drewN | apply IsS97.drew | apply IsS97.set_1 | refine IsS97.far ?_ NB604_601.out _ | refine IsS97.far ?_ NB604_610.out _) | exact HI604.out)); (case side2 => repeat (first | (with_reducible first | exact HB.out | apply below_alloc | apply pw_below_drewN | apply below_drew1 | refine below_set ?_ (IsS97.ge HI604.out) | refine below_set ?_ GE601.out | refine below_set ?_ GE610.out) | exact HB.out)); rintro e w13 ⟨rfl, hi, hb, hk⟩; refine ⟨_, rfl, ?_⟩; have n0_ := Aside0.mk (KeepBut.blk hk (g' := gb601) (o := .cells #[.int .i64 0, .slice none 0 0] 30 (0, 0)) (by (with_reducible repeat apply blk_alloc); refine blk_far ?_ NB601_610.out _; (with_reducible repeat apply blk_alloc); refine blk_far ?_ NB601_610.out _; (with_reducible repeat apply blk_alloc); exact BK601.out) NB601_604.out (by simp)); have n1_ := Aside0.mk (Kd.Q_mono (Kd.Q_keep (IsS97.apartQ (show IsS97 w _ g604 t602 t609 from by repeat (first | (with_reducible first | exact HI604.out | apply IsS97.alloc | apply IsS97.drewN | apply IsS97.drew | apply IsS97.set_1 | refine IsS97.far ?_ NB604_601.out _ | refine IsS97.far ?_ NB604_610.out _) | exact HI604.out)) (by (with_reducible repeat apply Kd.Q_alloc); exact (Kd.Q_mono (Kd.Q_far (p := ⟨gb610, 1, none⟩) (Kd.Q_far (p := ⟨gb610, 0, none⟩) (Kd.Q_types HO608.out BK610.out (by decide)) (fun _ hk => hk.2) (.int .i64 t605)) (fun _ hk => hk.2) (.slice Ao12 t606.length co12)) (fun _ h_ => h_.1))) (by decide)) hk (fun _ h => h.2)) (fun _ h => h.1)); have n2_ := Aside0.mk (KeepBut.blk hk (g' := gb610) (o := .cells #[.int .i64 t605, .slice Ao12 t606.length co12] 30 (0, 0)) (by (with_reducible repeat apply blk_alloc); refine blk_put (cs := #[.int .i64 t605, .slice none 0 0]) ?_ 1 _ rfl; (with_reducible repeat apply blk_alloc); refine blk_put (cs := #[.int .i64 0, .slice none 0 0]) ?_ 0 _ rfl; (with_reducible repeat apply blk_alloc); exact BK610.out) NB610_604.out (by simp)); have n3_ := Aside0.mk (hb); have n4_ := Aside0.mk (hi); clear BK601; clear HO608; clear BK610; clear HB; clear HI604; have BK601 := n0_; have HO608 := n1_; have BK610 := n2_; have HB := n3_; have HI604 := n4_; clear n0_ n1_ n2_ n3_ n4_; (try clear hb); (try clear hb2); (try clear hk); (try clear hi)))
 go_loopg [6] k (fun kq v6 w' => ∃ (x6_1 : Int) (x605001_1 : Int) (x611001_1 : List (S57)) (u611001 : Value), v6 = .int .i64 x6_1 ∧ Aside0 (spec_DrawTrailLight.l0 kq x6_1 t602 x605001_1 t605 x611001_1 = some (r1, r2, r3)) ∧ Aside0 (kq <= k) ∧ Aside0 (Kd.Q k57 57 w' w.heap.size (fun _ => True) u611001 x611001_1) ∧ Aside0 (w'.heap[gb601]? = some (.cells #[.int .i64 0, (.slice none 0 0)] 30 (0, 0))) ∧ Aside0 (w'.heap[gb610]? = some (.cells #[.int .i64 t605, u611001] 30 (0, 0))) ∧ Aside0 (IsS97 w w' g604 t602 x605001_1) ∧ Aside0 (Below w.heap.size w w'))
 case atStart => exact ⟨(t611), (t612), (t606), (.slice Ao12 t606.length co12), (by first | rfl | (simp; done) | (simp [*]; done)), H', ⟨Nat.le_refl _⟩, ⟨by (with_reducible repeat apply Kd.Q_alloc); exact HO608.out⟩, ⟨by (with_reducible repeat apply blk_alloc); exact BK601.out⟩, ⟨by (with_reducible repeat apply blk_alloc); exact BK610.out⟩, ⟨by repeat (first | (with_reducible first | exact HI604.out | apply IsS97.alloc | apply IsS97.drewN | apply IsS97.drew | apply IsS97.set_1 | refine IsS97.far ?_ NB604_601.out _ | refine IsS97.far ?_ NB604_610.out _) | exact HI604.out)⟩, ⟨by repeat (first | (with_reducible first | exact HB.out | apply below_alloc | apply pw_below_drewN | apply below_drew1 | refine below_set ?_ (IsS97.ge HI604.out) | refine below_set ?_ GE601.out | refine below_set ?_ GE610.out) | exact HB.out)⟩⟩
 case round =>
  clear H'
  try clear c1
  try clear p2
  try clear c3
  try clear c5
  try clear c9
  try clear c10
  try clear hcz11_0
  try clear hcz11_1
  try clear hfz11_0
  try clear hfz11_1
  obtain ⟨x6_1, x605001_1, x611001_1, u611001, rfl, HA, HK1, HO_611001, BK601, BK610, HI604, HB⟩ := hrel
  cases gk with
  | zero => exact absurd HA.out (by simp [spec_DrawTrailLight.l0])
  | succ k1 =>
   have H := HA.out
   clear HA
   simp only [spec_DrawTrailLight.l0] at H
   have HC14 := Aside0.mk H
   clear H
   go_upto_region 4 with (fail)
   go_cut [22] (fun v22 wc => ∃ (kq : Nat) (x22_13 : Bool), v22 = .bool x22_13 ∧ Aside0 (spec_DrawTrailLight.j1 kq x6_1 x22_13 t602 x605001_1 t605 x611001_1 = some (r1, r2, r3)) ∧ Aside0 (kq <= k1) ∧ Aside0 (Kd.Q k57 57 wc w.heap.size (fun _ => True) u611001 x611001_1) ∧ Aside0 (wc.heap[gb601]? = some (.cells #[.int .i64 0, (.slice none 0 0)] 30 (0, 0))) ∧ Aside0 (wc.heap[gb610]? = some (.cells #[.int .i64 t605, u611001] 30 (0, 0))) ∧ Aside0 (IsS97 w wc g604 t602 x605001_1) ∧ Aside0 (Below w.heap.size w wc))
   case first =>
    have H := HC14.out
    clear HC14
    by_cases c15 : x6_1 > 0
    ·rw [if_pos c15] at H
     have c15b0 : decide (0 < x6_1) = true := decide_eq_true c15
     clear c15
     (first | rw [c15b0] | (simp only [i64_w, i32_w]; rw [c15b0]) | skip)
     have H' := Aside0.mk H
     clear H
     have hnb16 := NB610_601.out
     have hnc16 := NB601_610.out
     have hnb17 := NB610_604.out
     have hnc17 := NB604_610.out
     have hcz18_0 : wr.cell? ⟨gb610, 0, none⟩ = some (.int .i64 t605) := (blk_cell BK610.out 0).trans rfl
     have hcz18_1 : wr.cell? ⟨gb610, 1, none⟩ = some (u611001) := (blk_cell BK610.out 1).trans rfl
     have hfz18_0 := blk_frozen BK610.out 0
     have hfz18_1 := blk_frozen BK610.out 1
     obtain ⟨Ao19, co19, eo19, _⟩ := Kd.Q_slice HO_611001.out
     subst eo19
     go_wp2
     go_meet
     case rel => exact ⟨_, (decide ((x611001_1.length : Int) > 0)), (by first | rfl | (simp; done) | (simp [*]; done)), H', ⟨by have := HK1.out; first | omega | exact Nat.le_refl _⟩, ⟨by (with_reducible repeat apply Kd.Q_alloc); exact HO_611001.out⟩, ⟨by (with_reducible repeat apply blk_alloc); exact BK601.out⟩, ⟨by (with_reducible repeat apply blk_alloc); exact BK610.out⟩, ⟨by repeat (first | (with_reducible first | exact HI604.out | apply IsS97.alloc | apply IsS97.drewN | apply IsS97.drew | apply IsS97.set_1 | refine IsS97.far ?_ NB604_601.out _ | refine IsS97.far ?_ NB604_610.out _) | exact HI604.out)⟩, ⟨by repeat (first | (with_reducible first | exact HB.out | apply below_alloc | apply pw_below_drewN | apply below_drew1 | refine below_set ?_ (IsS97.ge HI604.out) | refine below_set ?_ GE601.out | refine below_set ?_ GE610.out) | exact HB.out)⟩⟩
    ·rw [if_neg c15] at H
     have c15b0 : decide (0 < x6_1) = false := decide_eq_false c15
     clear c15
     (first | rw [c15b0] | (simp only [i64_w, i32_w]; rw [c15b0]) | skip)
     have H' := Aside0.mk H
     clear H
     go_wp2
     go_meet
     case rel => exact ⟨_, (false), (by first | rfl | (simp; done) | (simp [*]; done)), H', ⟨by have := HK1.out; first | omega | exact Nat.le_refl _⟩, ⟨by (with_reducible repeat apply Kd.Q_alloc); exact HO_611001.out⟩, ⟨by (with_reducible repeat apply blk_alloc); exact BK601.out⟩, ⟨by (with_reducible repeat apply blk_alloc); exact BK610.out⟩, ⟨by repeat (first | (with_reducible first | exact HI604.out | apply IsS97.alloc | apply IsS97.drewN | apply IsS97.drew | apply IsS97.set_1 | refine IsS97.far ?_ NB604_601.out _ | refine IsS97.far ?_ NB604_610.out _) | exact HI604.out)⟩, ⟨by repeat (first | (with_reducible first | exact HB.out | apply below_alloc | apply pw_below_drewN | apply below_drew1 | refine below_set ?_ (IsS97.ge HI604.out) | refine below_set ?_ GE601.out | refine below_set ?_ GE610.out) | exact HB.out)⟩⟩
   case rest =>
    clear HC14
    try clear c1
    try clear p2
    try clear c3
    try clear c5
    try clear c9
    try clear c10
    try clear c15
    try clear c15b0
    try clear c16
    try clear c17
    try clear hcz11_0
    try clear hcz11_1
    try clear hcz18_0
    try clear hcz18_1
    try clear hfz11_0
    try clear hfz11_1
    try clear hfz18_0
    try clear hfz18_1
    try clear p2
    obtain ⟨kq, x22_13, rfl, HA, HJ13, HO_611001, BK601, BK610, HI604, HB⟩ := hcut
    cases kq with
    | zero => exact absurd HA.out (by simp [spec_DrawTrailLight.j1])
    | succ kj13 =>
     have H := HA.out
     clear HA
     simp only [spec_DrawTrailLight.j1] at H
     by_cases c20 : x22_13 = true
     ·subst c20
      have H1 : ((spec_l6Rd_pick.f kj13 t602 x605001_1 (x611001_1.length : Int)).bind fun bt613 => ((spec_l6Rd_pick.f kj13 t602 bt613.2 9).bind fun bt615 => (if 0 <= bt613.1 then (if bt613.1 < (x611001_1.length : Int) then (spec_DrawTrailLight.l0 kj13 (wrap64 (x6_1 - 1)) t602 bt615.2 t605 (x611001_1.set (bt613.1 : Int).toNat (⟨7, wrap64 (1 + bt615.1)⟩ : S57))) else (none)) else (none)))) = some (r1, r2, r3) := by rw [if_pos rfl] at H; exact H
      clear H
      have H := H1
      clear H1
      replace H := Option.bind_eq_some_iff.mp H
      obtain ⟨⟨t613, t614⟩, A210, H⟩ := H
      replace H : ((spec_l6Rd_pick.f kj13 t602 t614 9).bind fun bt615 => (if 0 <= t613 then (if t613 < (x611001_1.length : Int) then (spec_DrawTrailLight.l0 kj13 (wrap64 (x6_1 - 1)) t602 bt615.2 t605 (x611001_1.set (t613 : Int).toNat (⟨7, wrap64 (1 + bt615.1)⟩ : S57))) else (none)) else (none))) = some (r1, r2, r3) := H
      have A21 := Aside0.mk A210
      clear A210
      replace H := Option.bind_eq_some_iff.mp H
      obtain ⟨⟨t615, t616⟩, A220, H⟩ := H
      replace H : (if 0 <= t613 then (if t613 < (x611001_1.length : Int) then (spec_DrawTrailLight.l0 kj13 (wrap64 (x6_1 - 1)) t602 t616 t605 (x611001_1.set (t613 : Int).toNat (⟨7, wrap64 (1 + t615)⟩ : S57))) else (none)) else (none)) = some (r1, r2, r3) := H
      have A22 := Aside0.mk A220
      clear A220
      by_cases c23 : 0 <= t613
      ·rw [if_pos c23] at H
       have c23b0 : decide (0 <= t613) = true := decide_eq_true c23
       clear c23
       by_cases c24 : t613 < (x611001_1.length : Int)
       ·rw [if_pos c24] at H
        have c24b0 : decide (t613 < (x611001_1.length : Int)) = true := decide_eq_true c24
        clear c24
        obtain ⟨y617, hy617⟩ : ∃ y_ : List (S57), y_ = (x611001_1.set (t613 : Int).toNat (⟨7, wrap64 (1 + t615)⟩ : S57)) := ⟨_, rfl⟩
        replace H : (spec_DrawTrailLight.l0 kj13 (wrap64 (x6_1 - 1)) t602 t616 t605 y617) = some (r1, r2, r3) := by first | (rw [hy617]; with_reducible exact H) | (have H2_ := (Option.bind_some _ _).symm.trans H; rw [hy617]; with_reducible exact H2_) | (have H2_ := (Option.bind_some _ _).symm.trans H; with_reducible exact H2_) | with_reducible exact H | (rw [hy617]; exact H) | exact H
        have Ny617 := Aside0.mk hy617
        clear hy617
        have H' := Aside0.mk H
        clear H
        try go_wp2
        have n0_ := Aside0.mk (Kd.Q_drew HO_611001.out)
        have n1_ := Aside0.mk (blk_drew BK601.out)
        have n2_ := Aside0.mk (blk_drew BK610.out)
        have n3_ := Aside0.mk (IsS97.drew HI604.out)
        have n4_ := Aside0.mk (below_drew1 HB.out)
        clear HO_611001
        clear BK601
        clear BK610
        clear HI604
        clear HB
        have HO_611001 := n0_
        have BK601 := n1_
        have BK610 := n2_
        have HI604 := n3_
        have HB := n4_
        clear n0_ n1_ n2_ n3_ n4_
        obtain ⟨Ao27, co27, eo27, _⟩ := Kd.Q_slice HO_611001.out
        (first | subst eo27 | (injection eo27 with f1_ f2_ f3_; have f4_ := f1_.symm; have f5_ := f3_.symm; clear f1_ f2_ f3_; subst f4_; subst f5_))
        refine start_ (n := 13) (S := fun w' => w'.cell? ⟨gb610, 0, none⟩ = some (.int .i64 t605) ∧ w'.cell? ⟨gb610, 1, none⟩ = some (.slice Ao27 x611001_1.length co27)) (ds := [12]) #[false, false, false, false, false, false, false, false, false, false, false, false, false] (by kernel_rfl) rfl rfl ⟨(blk_cell BK610.out 0).trans rfl, (blk_cell BK610.out 1).trans rfl⟩ (fun hHeld => ?_); refine with_tabW spec_DrawTrailLight.tab6 spec_DrawTrailLight.bits6 (fun HT_ HW_ => ?_)
        generalize wc.drew = w26 at HO_611001 BK601 BK610 HI604 HB hHeld ⊢
        refine pure_ (i := 0) (N := some 25) (v := ?_) (a' := ?_) #[true, false, false, false, false, false, false, false, false, false, false, false, false] rfl rfl (any_of HT_.out (by kernel_rfl)) (fun _ _ _ h => h) (Or.inl ⟨by rfl, ?_⟩) ?_ ?_
        rotate_left
        ·intro w'
         go_simp
         with_reducible rfl
        rotate_left
        ·simp only [Act.put, sA_, sZ_, sS_, i64_w, i32_w]
         rfl
        refine pure_ (i := 2) (N := some 27) (v := ?_) (a' := ?_) #[true, false, true, false, false, false, false, false, false, false, false, false, false] rfl rfl (any_of HT_.out (by kernel_rfl)) (fun _ _ _ h => h) (Or.inl ⟨by rfl, ?_⟩) ?_ ?_
        rotate_left
        ·intro w'
         go_simp
         with_reducible rfl
        rotate_left
        ·simp only [Act.put, sA_, sZ_, sS_, i64_w, i32_w]
         rfl
        refine pure_ (i := 3) (N := some 28) (v := ?_) (a' := ?_) #[true, false, true, true, false, false, false, false, false, false, false, false, false] rfl rfl (any_of HT_.out (by kernel_rfl)) (fun _ _ _ h => h) (Or.inl ⟨by rfl, ?_⟩) ?_ ?_
        rotate_left
        ·intro w'
         go_simp
         with_reducible rfl
        rotate_left
        ·simp only [Act.put, sA_, sZ_, sS_, i64_w, i32_w]
         rfl
        refine pure_ (i := 7) (N := some 32) (v := ?_) (a' := ?_) #[true, false, true, true, false, false, false, true, false, false, false, false, false] rfl rfl (any_of HT_.out (by kernel_rfl)) (fun _ _ _ h => h) (Or.inl ⟨by rfl, ?_⟩) ?_ ?_
        rotate_left
        ·intro w'
         go_simp
         with_reducible rfl
        rotate_left
        ·simp only [Act.put, sA_, sZ_, sS_, i64_w, i32_w]
         rfl
        refine take_ (i := 1) (N := some 26) (v := ?_) (a' := ?_) #[true, true, true, true, false, false, false, true, false, false, false, false, false] rfl rfl (take_ofW HT_.out HW_.out (by kernel_rfl)) (fun _ _ _ h => h) (Or.inl ⟨by rfl, ?_⟩) hHeld ?_ ?_
        rotate_left
        ·rintro w' ⟨s0, s1⟩
         go_simp
         with_reducible rfl
        rotate_left
        ·simp only [Act.put, sA_, sZ_, sS_, i64_w, i32_w]
         rfl
        refine take_ (i := 4) (N := some 29) (v := ?_) (a' := ?_) #[true, true, true, true, true, false, false, true, false, false, false, false, false] rfl rfl (take_ofW HT_.out HW_.out (by kernel_rfl)) (fun _ _ _ h => h) (Or.inl ⟨by rfl, ?_⟩) hHeld ?_ ?_
        rotate_left
        ·rintro w' ⟨s0, s1⟩
         go_simp
         with_reducible rfl
        rotate_left
        ·simp only [Act.put, sA_, sZ_, sS_, i64_w, i32_w]
         rfl
        refine pure_ (i := 5) (N := some 30) (v := ?_) (a' := ?_) #[true, true, true, true, true, true, false, true, false, false, false, false, false] rfl rfl (any_of HT_.out (by kernel_rfl)) (fun _ _ _ h => h) (Or.inl ⟨by rfl, ?_⟩) ?_ ?_
        rotate_left
        ·intro w'
         go_simp
         with_reducible rfl
        rotate_left
        ·simp only [Act.put, sA_, sZ_, sS_, i64_w, i32_w]
         rfl
        refine one_ (i := 6) (N := some 31) #[true, true, true, true, true, true, true, true, false, false, false, false, false] rfl rfl (one_of HT_.out (by kernel_rfl)) (by decide) (fun K hK => ?_)
        refine goes_ Try.func52 (by kernel_rfl) rfl #[.pointer (some ⟨g604, 0, none⟩), .int .i64 (x611001_1.length : Int)] (by rfl) rfl rfl (by first | rfl | (simp only [List.map_toArray, List.map_cons, List.map_nil, List.length_drop, List.length_take]; try rfl)) ?_
        with_reducible refine (spec_l6Rd_pick.calls kj13 g604 t602 x605001_1 (x611001_1.length : Int) t613 t614 w _ ?side1 ?side2 A21.out).mono ?_
        (case side1 => repeat (first | (with_reducible first | exact HI604.out | apply IsS97.alloc | apply IsS97.drewN | apply IsS97.drew | apply IsS97.set_1 | refine IsS97.far ?_ NB604_601.out _ | refine IsS97.far ?_ NB604_610.out _) | exact HI604.out))
        (case side2 => repeat (first | (with_reducible first | exact HB.out | apply below_alloc | apply pw_below_drewN | apply below_drew1 | refine below_set ?_ (IsS97.ge HI604.out) | refine below_set ?_ GE601.out | refine below_set ?_ GE610.out) | exact HB.out))
        rintro e w28 ⟨rfl, hi, hb, hk⟩
        refine ⟨_, rfl, ?_⟩
        have n0_ := Aside0.mk (Kd.Q_mono (Kd.Q_keep (IsS97.apartQ (show IsS97 w _ g604 t602 x605001_1 from by repeat (first | (with_reducible first | exact HI604.out | apply IsS97.alloc | apply IsS97.drewN | apply IsS97.drew | apply IsS97.set_1 | refine IsS97.far ?_ NB604_601.out _ | refine IsS97.far ?_ NB604_610.out _) | exact HI604.out)) (by (with_reducible repeat apply Kd.Q_alloc); exact HO_611001.out) (by decide)) hk (fun _ h => h.2)) (fun _ h => h.1))
        have n1_ := Aside0.mk (KeepBut.blk hk (g' := gb601) (o := .cells #[.int .i64 0, .slice none 0 0] 30 (0, 0)) (bK BK601.out) NB601_604.out (by simp))
        have n2_ := Aside0.mk (KeepBut.blk hk (g' := gb610) (o := .cells #[.int .i64 t605, .slice Ao27 x611001_1.length co27] 30 (0, 0)) (bK BK610.out) NB610_604.out (by simp))
        have n3_ := Aside0.mk (hb)
        have n4_ := Aside0.mk (hi)
        clear HO_611001
        clear BK601
        clear BK610
        clear HB
        clear HI604
        have HO_611001 := n0_
        have BK601 := n1_
        have BK610 := n2_
        have HB := n3_
        have HI604 := n4_
        clear n0_ n1_ n2_ n3_ n4_
        (try clear hb)
        (try clear hb2)
        (try clear hk)
        (try clear hi)
        refine hK.out _ _ ⟨(blk_cell BK610.out 0).trans rfl, (blk_cell BK610.out 1).trans rfl⟩ (fun hHeld => ?_)
        clear hK K
        refine norm_ (a' := ?_) ?_ ?_
        rotate_left
        ·show Act.put _ (some 31) _ = _
         simp only [Act.put, sA_, sZ_, sS_, i64_w, i32_w]
         rfl
        refine one_ (i := 8) (N := some 33) #[true, true, true, true, true, true, true, true, true, false, false, false, false] rfl rfl (one_of HT_.out (by kernel_rfl)) (by decide) (fun K hK => ?_)
        refine goes_ Try.func52 (by kernel_rfl) rfl #[.pointer (some ⟨g604, 0, none⟩), .int .i64 9] (by rfl) rfl rfl (by first | rfl | (simp only [List.map_toArray, List.map_cons, List.map_nil, List.length_drop, List.length_take]; try rfl)) ?_
        with_reducible refine (spec_l6Rd_pick.calls kj13 g604 t602 t614 9 t615 t616 w _ ?side1 ?side2 A22.out).mono ?_
        (case side1 => repeat (first | (with_reducible first | exact HI604.out | apply IsS97.alloc | apply IsS97.drewN | apply IsS97.drew | apply IsS97.set_1 | refine IsS97.far ?_ NB604_601.out _ | refine IsS97.far ?_ NB604_610.out _) | exact HI604.out))
        (case side2 => repeat (first | (with_reducible first | exact HB.out | apply below_alloc | apply pw_below_drewN | apply below_drew1 | refine below_set ?_ (IsS97.ge HI604.out) | refine below_set ?_ GE601.out | refine below_set ?_ GE610.out) | exact HB.out))
        rintro e w29 ⟨rfl, hi, hb, hk⟩
        refine ⟨_, rfl, ?_⟩
        have n0_ := Aside0.mk (Kd.Q_mono (Kd.Q_keep (IsS97.apartQ (show IsS97 w _ g604 t602 t614 from by repeat (first | (with_reducible first | exact HI604.out | apply IsS97.alloc | apply IsS97.drewN | apply IsS97.drew | apply IsS97.set_1 | refine IsS97.far ?_ NB604_601.out _ | refine IsS97.far ?_ NB604_610.out _) | exact HI604.out)) (by (with_reducible repeat apply Kd.Q_alloc); exact HO_611001.out) (by decide)) hk (fun _ h => h.2)) (fun _ h => h.1))
        have n1_ := Aside0.mk (KeepBut.blk hk (g' := gb601) (o := .cells #[.int .i64 0, .slice none 0 0] 30 (0, 0)) (bK BK601.out) NB601_604.out (by simp))
        have n2_ := Aside0.mk (KeepBut.blk hk (g' := gb610) (o := .cells #[.int .i64 t605, .slice Ao27 x611001_1.length co27] 30 (0, 0)) (bK BK610.out) NB610_604.out (by simp))
        have n3_ := Aside0.mk (hb)
        have n4_ := Aside0.mk (hi)
        clear HO_611001
        clear BK601
        clear BK610
        clear HB
        clear HI604
        have HO_611001 := n0_
        have BK601 := n1_
        have BK610 := n2_
        have HB := n3_
        have HI604 := n4_
        clear n0_ n1_ n2_ n3_ n4_
        (try clear hb)
        (try clear hb2)
        (try clear hk)
        (try clear hi)
        have p25 : 0 <= (t613 : Int) := of_decide_eq_true (by first | (with_reducible assumption) | assumption)
        have q25 : (t613 : Int) < ((x611001_1.length : Int) : Int) := of_decide_eq_true (by first | (with_reducible assumption) | assumption)
        obtain ⟨go25, oo25, co25, eo25, gb25, gl25, cl25, HG25⟩ := Kd.Q_form HO_611001.out (by omega)
        (first | cases eo25 | (injection eo25 with ea_ en_ ec_; (first | subst ea_ | (injection ea_ with ea_; subst ea_)); subst ec_; clear en_))
        have GB25 := Aside0.mk gb25
        have GG25 := Aside0.mk HG25
        clear gb25 gl25 HG25
        obtain ⟨ce25, hcl25, hM25, hcc25, hfr25⟩ := Kd.Q_elem HO_611001.out z57 (t613 : Int) p25 q25
        obtain rfl := k57_openM hM25
        have hx25_0 : World.cell? _ ⟨go25, oo25 + (t613 : Int).toNat * 2, none⟩ = some (.int .i64 ((rd_T57 x611001_1 t613).f0)) := hcc25 0 _ rfl
        have hx25_1 : World.cell? _ ⟨go25, oo25 + (t613 : Int).toNat * 2 + 1, none⟩ = some (.int .i64 ((rd_T57 x611001_1 t613).f1)) := hcc25 1 _ rfl
        have hf25_0 : World.frozen? _ ⟨go25, oo25 + (t613 : Int).toNat * 2, none⟩ = false := hfr25 0
        have hf25_1 : World.frozen? _ ⟨go25, oo25 + (t613 : Int).toNat * 2 + 1, none⟩ = false := hfr25 1
        clear hcl25 hcc25 hfr25 hM25
        replace p25 := eq_true p25
        replace q25 := eq_true q25
        have HN604_go25 := Aside0.mk (show g604 ≠ go25 from by have h_ := IsS97.own_neQ HI604.out HO_611001.out (by decide); intro e_; exact h_ (by rw [e_]; rfl))
        obtain ⟨ce30, hcl30, hM30, hcc30, hfr30⟩ := Kd.Q_elem HO_611001.out z57 (t613 : Int) (of_decide_eq_true (by first | (with_reducible assumption) | assumption)) (by have h_ : (t613 : Int) < ((x611001_1.length : Int) : Int) := of_decide_eq_true (by first | (with_reducible assumption) | assumption); first | exact h_ | (have e_ := (Kd.Q_reads' HO_611001.out).1; omega) | simpa using h_)
        obtain rfl := k57_openM hM30
        have HP30 := (Kd.Q_seg HO_611001.out (t613 : Int) (of_decide_eq_true (by first | (with_reducible assumption) | assumption)) (by have h_ : (t613 : Int) < ((x611001_1.length : Int) : Int) := of_decide_eq_true (by first | (with_reducible assumption) | assumption); first | exact h_ | (have e_ := (Kd.Q_reads' HO_611001.out).1; omega) | simpa using h_) (seg := [.int .i64 7, .int .i64 (wrap64 (1 + t615))]) (j := 0) hcl30 hcc30 (show 2 <= 2 from by decide) (x' := (⟨7, wrap64 (1 + t615)⟩ : S57)) (k57_mkM _ _ _ (⟨7, wrap64 (1 + t615)⟩ : S57) ) (fun _ hk => hk)).1
        rw [<- Ny617.out] at HP30
        have HQ30 := Aside0.mk HP30
        clear hcl30 hcc30 hfr30 hM30 HP30
        refine hK.out _ _ ⟨(blk_cell BK610.out 0).trans rfl, (blk_cell BK610.out 1).trans rfl⟩ (fun hHeld => ?_)
        clear hK K
        refine norm_ (a' := ?_) ?_ ?_
        rotate_left
        ·show Act.put _ (some 33) _ = _
         simp only [Act.put, sA_, sZ_, sS_, i64_w, i32_w]
         rfl
        refine pure_ (i := 9) (N := some 34) (v := ?_) (a' := ?_) #[true, true, true, true, true, true, true, true, true, true, false, false, false] rfl rfl (any_of HT_.out (by kernel_rfl)) (fun _ _ _ h => h) (Or.inl ⟨by rfl, ?_⟩) ?_ ?_
        rotate_left
        ·intro w'
         go_simp
         with_reducible rfl
        rotate_left
        ·simp only [Act.put, sA_, sZ_, sS_, i64_w, i32_w]
         rfl
        refine pure_ (i := 10) (N := some 35) (v := ?_) (a' := ?_) #[true, true, true, true, true, true, true, true, true, true, true, false, false] rfl rfl (any_of HT_.out (by kernel_rfl)) (fun _ _ _ h => h) (Or.inl ⟨by rfl, ?_⟩) ?_ ?_
        rotate_left
        ·intro w'
         go_simp
         with_reducible rfl
        rotate_left
        ·simp only [Act.put, sA_, sZ_, sS_, i64_w, i32_w]
         rfl
        refine pure_ (i := 11) (N := some 36) (v := ?_) (a' := ?_) #[true, true, true, true, true, true, true, true, true, true, true, true, false] rfl rfl (any_of HT_.out (by kernel_rfl)) (fun _ _ _ h => h) (Or.inl ⟨by rfl, ?_⟩) ?_ ?_
        rotate_left
        ·intro w'
         go_simp
         with_reducible rfl
        rotate_left
        ·simp only [Act.put, sA_, sZ_, sS_, i64_w, i32_w]
         rfl
        refine last_ (i := 12) (N := none) #[true, true, true, true, true, true, true, true, true, true, true, true, true] rfl rfl (one_of HT_.out (by kernel_rfl)) (by decide) (fun K hK => ?_)
        refine skip_ (w1 := ?_) (by rfl) rfl ?_ ?_
        rotate_left
        ·go_simp
         rfl
        refine hK.out _ _ ?_
        clear hK K
        refine done_ (done_of HT_.out (by kernel_rfl)) ?_
        try go_wp2
        go_roundg kj13
        case measure => have := HK1.out; have := HJ13.out; omega
        case rel => exact ⟨(wrap64 (x6_1 - 1)), (t616), (y617), (.slice (some ⟨go25, oo25, none⟩) x611001_1.length co27), (by first | rfl | (simp; done) | (simp [*]; done)), H', ⟨by have := HK1.out; have := HJ13.out; omega⟩, ⟨by (with_reducible repeat apply Kd.Q_alloc); exact HQ30.out⟩, ⟨by (with_reducible repeat apply blk_alloc); refine blk_far ?_ (by have h_ := Kd.Q_ne HO_611001.out BK601.out (by decide); intro e_; exact h_ (by rw [e_]; rfl)) _; (with_reducible repeat apply blk_alloc); refine blk_far ?_ (by have h_ := Kd.Q_ne HO_611001.out BK601.out (by decide); intro e_; exact h_ (by rw [e_]; rfl)) _; (with_reducible repeat apply blk_alloc); exact BK601.out⟩, ⟨by (with_reducible repeat apply blk_alloc); refine blk_far ?_ (by have h_ := Kd.Q_ne HO_611001.out BK610.out (by decide); intro e_; exact h_ (by rw [e_]; rfl)) _; (with_reducible repeat apply blk_alloc); refine blk_far ?_ (by have h_ := Kd.Q_ne HO_611001.out BK610.out (by decide); intro e_; exact h_ (by rw [e_]; rfl)) _; (with_reducible repeat apply blk_alloc); exact BK610.out⟩, ⟨by repeat (first | (with_reducible first | exact HI604.out | apply IsS97.alloc | apply IsS97.drewN | apply IsS97.drew | apply IsS97.set_1 | refine IsS97.far ?_ HN604_go25.out _ | refine IsS97.far ?_ HN604_go25.out _ | refine IsS97.far ?_ NB604_601.out _ | refine IsS97.far ?_ NB604_610.out _) | exact HI604.out)⟩, ⟨by repeat (first | (with_reducible first | exact HB.out | apply below_alloc | apply pw_below_drewN | apply below_drew1 | refine below_set ?_ GB25.out | refine below_set ?_ GB25.out | refine below_set ?_ (IsS97.ge HI604.out) | refine below_set ?_ GE601.out | refine below_set ?_ GE610.out) | exact HB.out)⟩⟩
       ·rw [if_neg c24] at H
        exact absurd H (by simp)
      ·rw [if_neg c23] at H
       exact absurd H (by simp)
     ·replace c20 := Bool.eq_false_iff.mpr c20
      subst c20
      have H1 : ((spec_l71Sight.f kj13 t602 x605001_1 t605 x611001_1).bind fun bt618 => (spec_DrawTrailLight.l1 kj13 bt618.1 0 t602 bt618.2 t605 x611001_1)) = some (r1, r2, r3) := by rw [if_neg (show ¬ (false = true) by decide)] at H; exact H
      clear H
      have H := H1
      clear H1
      replace H := Option.bind_eq_some_iff.mp H
      obtain ⟨⟨t618, t619⟩, A310, H⟩ := H
      replace H : (spec_DrawTrailLight.l1 kj13 t618 0 t602 t619 t605 x611001_1) = some (r1, r2, r3) := H
      have A31 := Aside0.mk A310
      clear A310
      have H' := Aside0.mk H
      clear H
      have hnb32 := NB610_601.out
      have hnc32 := NB601_610.out
      have hnb33 := NB610_604.out
      have hnc33 := NB604_610.out
      have hcz34_0 : wc.cell? ⟨gb610, 0, none⟩ = some (.int .i64 t605) := (blk_cell BK610.out 0).trans rfl
      have hcz34_1 : wc.cell? ⟨gb610, 1, none⟩ = some (u611001) := (blk_cell BK610.out 1).trans rfl
      have hfz34_0 := blk_frozen BK610.out 0
      have hfz34_1 := blk_frozen BK610.out 1
      obtain ⟨Ao35, co35, eo35, _⟩ := Kd.Q_slice HO_611001.out
      subst eo35
      go_wp2_with (first | ((with_reducible refine gate_callee (f := 53) rfl ?_); refine goesL_ (some 39) rfl rfl Try.func53 (by kernel_rfl) rfl #[.pointer (some ⟨g604, 0, none⟩), .agg #[.int .i64 t605, .slice Ao35 x611001_1.length co35]] rfl (by first | rfl | (simp only [List.map_toArray, List.map_cons, List.map_nil, List.length_drop, List.length_take]; try rfl)) ?_; (with_reducible refine (spec_l71Sight.calls kj13 g604 t602 x605001_1 t605 _ _ x611001_1 t618 t619 w _ ?side1 ?side2 ?side3 ?side4 A31.out).mono ?_); (case side1 => repeat (first | (with_reducible first | exact HI604.out | apply IsS97.alloc | apply IsS97.drewN | apply IsS97.drew | apply IsS97.set_1 | refine IsS97.far ?_ NB604_601.out _ | refine IsS97.far ?_ NB604_610.out _) | exact HI604.out)); (case side2 => repeat (first | (with_reducible first | exact HB.out | apply below_alloc | apply pw_below_drewN | apply below_drew1 | refine below_set ?_ (IsS97.ge HI604.out) | refine below_set ?_ GE601.out | refine below_set ?_ GE610.out) | exact HB.out)); (case side3 => exact Kd.C_foot_ownQ (IsS97.apartQ (show IsS97 w _ g604 t602 x605001_1 from by repeat (first | (with_reducible first | exact HI604.out | apply IsS97.alloc | apply IsS97.drewN | apply IsS97.drew | apply IsS97.set_1 | refine IsS97.far ?_ NB604_601.out _ | refine IsS97.far ?_ NB604_610.out _) | exact HI604.out)) (by (with_reducible repeat apply Kd.Q_alloc); exact HO_611001.out) (by decide)) (fun _ h_ => h_.2)); (case side4 => exact (Kd.Q_reads' HO_611001.out).2.1); rintro e w36 ⟨rfl, hi, hb, hk⟩; refine ⟨_, rfl, ?_⟩; have n0_ := Aside0.mk (Kd.Q_mono (Kd.Q_keep (IsS97.apartQ (show IsS97 w _ g604 t602 x605001_1 from by repeat (first | (with_reducible first | exact HI604.out | apply IsS97.alloc | apply IsS97.drewN | apply IsS97.drew | apply IsS97.set_1 | refine IsS97.far ?_ NB604_601.out _ | refine IsS97.far ?_ NB604_610.out _) | exact HI604.out)) (by (with_reducible repeat apply Kd.Q_alloc); exact HO_611001.out) (by decide)) hk (fun _ h => h.2)) (fun _ h => h.1)); have n1_ := Aside0.mk (KeepBut.blk hk (g' := gb601) (o := .cells #[.int .i64 0, .slice none 0 0] 30 (0, 0)) (bK BK601.out) NB601_604.out (by simp)); have n2_ := Aside0.mk (KeepBut.blk hk (g' := gb610) (o := .cells #[.int .i64 t605, .slice Ao35 x611001_1.length co35] 30 (0, 0)) (bK BK610.out) NB610_604.out (by simp)); have n3_ := Aside0.mk (hb); have n4_ := Aside0.mk (hi); clear HO_611001; clear BK601; clear BK610; clear HB; clear HI604; have HO_611001 := n0_; have BK601 := n1_; have BK610 := n2_; have HB := n3_; have HI604 := n4_; clear n0_ n1_ n2_ n3_ n4_; (try clear hb); (try clear hb2); (try clear hk); (try clear hi)))
      go_loopg [7, 8] kj13 (fun kq v7 v8 w' => ∃ (x7_3 : Int) (x8_3 : Int) (x605001_3 : Int), v7 = .int .i64 x7_3 ∧ v8 = .int .i64 x8_3 ∧ Aside0 (spec_DrawTrailLight.l1 kq x7_3 x8_3 t602 x605001_3 t605 x611001_1 = some (r1, r2, r3)) ∧ Aside0 (kq <= kj13) ∧ Aside0 (Kd.Q k57 57 w' w.heap.size (fun _ => True) (.slice Ao35 x611001_1.length co35) x611001_1) ∧ Aside0 (w'.heap[gb601]? = some (.cells #[.int .i64 0, (.slice none 0 0)] 30 (0, 0))) ∧ Aside0 (w'.heap[gb610]? = some (.cells #[.int .i64 t605, (.slice Ao35 x611001_1.length co35)] 30 (0, 0))) ∧ Aside0 (IsS97 w w' g604 t602 x605001_3) ∧ Aside0 (Below w.heap.size w w'))
      case atStart => exact ⟨(t618), (0), (t619), (by first | rfl | (simp; done) | (simp [*]; done)), (by first | rfl | (simp; done) | (simp [*]; done)), H', ⟨Nat.le_refl _⟩, ⟨by (with_reducible repeat apply Kd.Q_alloc); exact HO_611001.out⟩, ⟨by (with_reducible repeat apply blk_alloc); exact BK601.out⟩, ⟨by (with_reducible repeat apply blk_alloc); exact BK610.out⟩, ⟨by repeat (first | (with_reducible first | exact HI604.out | apply IsS97.alloc | apply IsS97.drewN | apply IsS97.drew | apply IsS97.set_1 | refine IsS97.far ?_ NB604_601.out _ | refine IsS97.far ?_ NB604_610.out _) | exact HI604.out)⟩, ⟨by repeat (first | (with_reducible first | exact HB.out | apply below_alloc | apply pw_below_drewN | apply below_drew1 | refine below_set ?_ (IsS97.ge HI604.out) | refine below_set ?_ GE601.out | refine below_set ?_ GE610.out) | exact HB.out)⟩⟩
      case round =>
       clear H'
       try clear c1
       try clear c2
       try clear p2
       try clear q2
       try clear hx2
       try clear hf2
       try clear c3
       try clear c5
       try clear p6
       try clear c9
       try clear c10
       try clear c15
       try clear c15b0
       try clear c16
       try clear c17
       try clear c20
       try clear c23
       try clear c23b0
       try clear c24
       try clear c24b0
       try clear c25
       try clear p25
       try clear q25
       try clear hx25
       try clear hf25
       try clear c30
       try clear c32
       try clear c33
       try clear c34
       try clear hcz11_0
       try clear hcz11_1
       try clear hcz18_0
       try clear hcz18_1
       try clear hcz34_0
       try clear hcz34_1
       try clear hfz11_0
       try clear hfz11_1
       try clear hfz18_0
       try clear hfz18_1
       try clear hfz34_0
       try clear hfz34_1
       try clear hx25_0
       try clear hx25_1
       try clear p2
       try clear p25
       try clear q25
       obtain ⟨x7_3, x8_3, x605001_3, rfl, rfl, HA, HK3, HO_611001, BK601, BK610, HI604, HB⟩ := hrel
       cases gk with
       | zero => exact absurd HA.out (by simp [spec_DrawTrailLight.l1])
       | succ k3 =>
        have H := HA.out
        clear HA
        simp only [spec_DrawTrailLight.l1] at H
        by_cases c37 : x8_3 < 8
        ·rw [if_pos c37] at H
         have c37b0 : decide (x8_3 < 8) = true := decide_eq_true c37
         clear c37
         replace H := Option.bind_eq_some_iff.mp H
         obtain ⟨⟨t620, t621⟩, A380, H⟩ := H
         replace H : (if t620 > 0 then ((spec_TrailLight.f k3 t605 x611001_1 x7_3).bind fun t622 => (if t622 = 0 then ((spec_l71Sight.f k3 t602 t621 t605 x611001_1).bind fun bt623 => (spec_DrawTrailLight.l1 k3 bt623.1 (wrap64 (x8_3 + 1)) t602 bt623.2 t605 x611001_1)) else (some (t605, x611001_1, x7_3)))) else (some (t605, x611001_1, x7_3))) = some (r1, r2, r3) := H
         have A38 := Aside0.mk A380
         clear A380
         by_cases c39 : t620 > 0
         ·rw [if_pos c39] at H
          have c39b0 : decide (0 < t620) = true := decide_eq_true c39
          clear c39
          replace H := Option.bind_eq_some_iff.mp H
          obtain ⟨t622, A400, H⟩ := H
          replace H : (if t622 = 0 then ((spec_l71Sight.f k3 t602 t621 t605 x611001_1).bind fun bt623 => (spec_DrawTrailLight.l1 k3 bt623.1 (wrap64 (x8_3 + 1)) t602 bt623.2 t605 x611001_1)) else (some (t605, x611001_1, x7_3))) = some (r1, r2, r3) := H
          have A40 := Aside0.mk A400
          clear A400
          by_cases c41 : t622 = 0
          ·rw [if_pos c41] at H
           have c41b0 : (t622 == 0) = true := beq_iff_eq.mpr c41
           have c41b1 : (t622 != 0) = false := bne_eq_false_iff_eq.mpr c41
           clear c41
           replace H := Option.bind_eq_some_iff.mp H
           obtain ⟨⟨t623, t624⟩, A420, H⟩ := H
           replace H : (spec_DrawTrailLight.l1 k3 t623 (wrap64 (x8_3 + 1)) t602 t624 t605 x611001_1) = some (r1, r2, r3) := H
           have A42 := Aside0.mk A420
           clear A420
           have H' := Aside0.mk H
           clear H
           go_wp2_with (first | (go_at_call 52; (with_reducible refine (spec_l6Rd_pick.calls k3 g604 t602 x605001_3 8 t620 t621 w _ ?side1 ?side2 A38.out).mono ?_); (case side1 => repeat (first | (with_reducible first | exact HI604.out | apply IsS97.alloc | apply IsS97.drewN | apply IsS97.drew | apply IsS97.set_1 | refine IsS97.far ?_ NB604_601.out _ | refine IsS97.far ?_ NB604_610.out _) | exact HI604.out)); (case side2 => repeat (first | (with_reducible first | exact HB.out | apply below_alloc | apply pw_below_drewN | apply below_drew1 | refine below_set ?_ (IsS97.ge HI604.out) | refine below_set ?_ GE601.out | refine below_set ?_ GE610.out) | exact HB.out)); rintro e w43 ⟨rfl, hi, hb, hk⟩; have n0_ := Aside0.mk (Kd.Q_mono (Kd.Q_keep (IsS97.apartQ (show IsS97 w _ g604 t602 x605001_3 from by repeat (first | (with_reducible first | exact HI604.out | apply IsS97.alloc | apply IsS97.drewN | apply IsS97.drew | apply IsS97.set_1 | refine IsS97.far ?_ NB604_601.out _ | refine IsS97.far ?_ NB604_610.out _) | exact HI604.out)) (by (with_reducible repeat apply Kd.Q_alloc); exact HO_611001.out) (by decide)) hk (fun _ h => h.2)) (fun _ h => h.1)); have n1_ := Aside0.mk (KeepBut.blk hk (g' := gb601) (o := .cells #[.int .i64 0, .slice none 0 0] 30 (0, 0)) (bK BK601.out) NB601_604.out (by simp)); have n2_ := Aside0.mk (KeepBut.blk hk (g' := gb610) (o := .cells #[.int .i64 t605, .slice Ao35 x611001_1.length co35] 30 (0, 0)) (bK BK610.out) NB610_604.out (by simp)); have n3_ := Aside0.mk (hb); have n4_ := Aside0.mk (hi); clear HO_611001; clear BK601; clear BK610; clear HB; clear HI604; have HO_611001 := n0_; have BK601 := n1_; have BK610 := n2_; have HB := n3_; have HI604 := n4_; clear n0_ n1_ n2_ n3_ n4_; (try clear hb); (try clear hb2); (try clear hk); (try clear hi); have hnb44 := NB610_601.out; have hnc44 := NB601_610.out; have hnb45 := NB610_604.out; have hnc45 := NB604_610.out; have hcz46_0 : w43.cell? ⟨gb610, 0, none⟩ = some (.int .i64 t605) := (blk_cell BK610.out 0).trans rfl; have hcz46_1 : w43.cell? ⟨gb610, 1, none⟩ = some (.slice Ao35 x611001_1.length co35) := (blk_cell BK610.out 1).trans rfl; have hfz46_0 := blk_frozen BK610.out 0; have hfz46_1 := blk_frozen BK610.out 1) | (go_at_call 26; (with_reducible refine (spec_TrailLight.calls k3 t605 _ _ x611001_1 x7_3 t622 _ ?side1 ?side2 A40.out).mono ?_); (case side1 => repeat (first | exact (Kd.Q_reads' HO_611001.out).2.2 | (with_reducible refine Kd.C_alloc ?_ _) | (with_reducible refine Kd.C_drewN ?_ _) | (with_reducible refine Kd.C_drew ?_))); (case side2 => exact (Kd.Q_reads' HO_611001.out).2.1); rintro e w47 ⟨rfl, hb⟩; have n0_ := Aside0.mk (Kd.Q_below (by (with_reducible repeat apply Kd.Q_alloc); exact HO_611001.out) hb); have n1_ := Aside0.mk (blk_below (bK BK601.out) hb); have n2_ := Aside0.mk (blk_below (bK BK610.out) hb); have n3_ := Aside0.mk (IsS97.below (by repeat (first | (with_reducible first | exact HI604.out | apply IsS97.alloc | apply IsS97.drewN | apply IsS97.drew | apply IsS97.set_1 | refine IsS97.far ?_ NB604_601.out _ | refine IsS97.far ?_ NB604_610.out _) | exact HI604.out)) hb); have n4_ := Aside0.mk (below_step (by repeat (first | (with_reducible first | exact HB.out | apply below_alloc | apply pw_below_drewN | apply below_drew1 | refine below_set ?_ (IsS97.ge HI604.out) | refine below_set ?_ GE601.out | refine below_set ?_ GE610.out) | exact HB.out)) hb); clear HO_611001; clear BK601; clear BK610; clear HI604; clear HB; have HO_611001 := n0_; have BK601 := n1_; have BK610 := n2_; have HI604 := n3_; have HB := n4_; clear n0_ n1_ n2_ n3_ n4_; (try clear hb); (try clear hb2); (try clear hk); (try clear hi); have hcz48_0 : w47.cell? ⟨gb610, 0, none⟩ = some (.int .i64 t605) := (blk_cell BK610.out 0).trans rfl; have hcz48_1 : w47.cell? ⟨gb610, 1, none⟩ = some (.slice Ao35 x611001_1.length co35) := (blk_cell BK610.out 1).trans rfl; have hfz48_0 := blk_frozen BK610.out 0; have hfz48_1 := blk_frozen BK610.out 1) | ((with_reducible refine gate_callee (f := 53) rfl ?_); refine goesL_ (some 57) rfl rfl Try.func53 (by kernel_rfl) rfl #[.pointer (some ⟨g604, 0, none⟩), .agg #[.int .i64 t605, .slice Ao35 x611001_1.length co35]] rfl (by first | rfl | (simp only [List.map_toArray, List.map_cons, List.map_nil, List.length_drop, List.length_take]; try rfl)) ?_; (with_reducible refine (spec_l71Sight.calls k3 g604 t602 t621 t605 _ _ x611001_1 t623 t624 w _ ?side1 ?side2 ?side3 ?side4 A42.out).mono ?_); (case side1 => repeat (first | (with_reducible first | exact HI604.out | apply IsS97.alloc | apply IsS97.drewN | apply IsS97.drew | apply IsS97.set_1 | refine IsS97.far ?_ NB604_601.out _ | refine IsS97.far ?_ NB604_610.out _) | exact HI604.out)); (case side2 => repeat (first | (with_reducible first | exact HB.out | apply below_alloc | apply pw_below_drewN | apply below_drew1 | refine below_set ?_ (IsS97.ge HI604.out) | refine below_set ?_ GE601.out | refine below_set ?_ GE610.out) | exact HB.out)); (case side3 => exact Kd.C_foot_ownQ (IsS97.apartQ (show IsS97 w _ g604 t602 t621 from by repeat (first | (with_reducible first | exact HI604.out | apply IsS97.alloc | apply IsS97.drewN | apply IsS97.drew | apply IsS97.set_1 | refine IsS97.far ?_ NB604_601.out _ | refine IsS97.far ?_ NB604_610.out _) | exact HI604.out)) (by (with_reducible repeat apply Kd.Q_alloc); exact HO_611001.out) (by decide)) (fun _ h_ => h_.2)); (case side4 => exact (Kd.Q_reads' HO_611001.out).2.1); rintro e w49 ⟨rfl, hi, hb, hk⟩; refine ⟨_, rfl, ?_⟩; have n0_ := Aside0.mk (Kd.Q_mono (Kd.Q_keep (IsS97.apartQ (show IsS97 w _ g604 t602 t621 from by repeat (first | (with_reducible first | exact HI604.out | apply IsS97.alloc | apply IsS97.drewN | apply IsS97.drew | apply IsS97.set_1 | refine IsS97.far ?_ NB604_601.out _ | refine IsS97.far ?_ NB604_610.out _) | exact HI604.out)) (by (with_reducible repeat apply Kd.Q_alloc); exact HO_611001.out) (by decide)) hk (fun _ h => h.2)) (fun _ h => h.1)); have n1_ := Aside0.mk (KeepBut.blk hk (g' := gb601) (o := .cells #[.int .i64 0, .slice none 0 0] 30 (0, 0)) (bK BK601.out) NB601_604.out (by simp)); have n2_ := Aside0.mk (KeepBut.blk hk (g' := gb610) (o := .cells #[.int .i64 t605, .slice Ao35 x611001_1.length co35] 30 (0, 0)) (bK BK610.out) NB610_604.out (by simp)); have n3_ := Aside0.mk (hb); have n4_ := Aside0.mk (hi); clear HO_611001; clear BK601; clear BK610; clear HB; clear HI604; have HO_611001 := n0_; have BK601 := n1_; have BK610 := n2_; have HB := n3_; have HI604 := n4_; clear n0_ n1_ n2_ n3_ n4_; (try clear hb); (try clear hb2); (try clear hk); (try clear hi)))
           go_roundg k3
           case measure => have := HK1.out; have := HJ13.out; have := HK3.out; omega
           case rel => exact ⟨(t623), (wrap64 (x8_3 + 1)), (t624), (by first | rfl | (simp; done) | (simp [*]; done)), (by first | rfl | (simp; done) | (simp [*]; done)), H', ⟨by have := HK1.out; have := HJ13.out; have := HK3.out; omega⟩, ⟨by (with_reducible repeat apply Kd.Q_alloc); exact HO_611001.out⟩, ⟨by (with_reducible repeat apply blk_alloc); exact BK601.out⟩, ⟨by (with_reducible repeat apply blk_alloc); exact BK610.out⟩, ⟨by repeat (first | (with_reducible first | exact HI604.out | apply IsS97.alloc | apply IsS97.drewN | apply IsS97.drew | apply IsS97.set_1 | refine IsS97.far ?_ NB604_601.out _ | refine IsS97.far ?_ NB604_610.out _) | exact HI604.out)⟩, ⟨by repeat (first | (with_reducible first | exact HB.out | apply below_alloc | apply pw_below_drewN | apply below_drew1 | refine below_set ?_ (IsS97.ge HI604.out) | refine below_set ?_ GE601.out | refine below_set ?_ GE610.out) | exact HB.out)⟩⟩
          ·rw [if_neg c41] at H
           have c41b0 : (t622 == 0) = false := beq_eq_false_iff_ne.mpr c41
           have c41b1 : (t622 != 0) = true := bne_iff_ne.mpr c41
           simp only [Option.some.injEq, Prod.mk.injEq] at H
           obtain ⟨rfl, rfl, rfl⟩ := H
           go_wp2_with (first | (go_at_call 52; (with_reducible refine (spec_l6Rd_pick.calls k3 g604 t602 x605001_3 8 t620 t621 w _ ?side1 ?side2 A38.out).mono ?_); (case side1 => repeat (first | (with_reducible first | exact HI604.out | apply IsS97.alloc | apply IsS97.drewN | apply IsS97.drew | apply IsS97.set_1 | refine IsS97.far ?_ NB604_601.out _ | refine IsS97.far ?_ NB604_610.out _) | exact HI604.out)); (case side2 => repeat (first | (with_reducible first | exact HB.out | apply below_alloc | apply pw_below_drewN | apply below_drew1 | refine below_set ?_ (IsS97.ge HI604.out) | refine below_set ?_ GE601.out | refine below_set ?_ GE610.out) | exact HB.out)); rintro e w50 ⟨rfl, hi, hb, hk⟩; have n0_ := Aside0.mk (Kd.Q_mono (Kd.Q_keep (IsS97.apartQ (show IsS97 w _ g604 t602 x605001_3 from by repeat (first | (with_reducible first | exact HI604.out | apply IsS97.alloc | apply IsS97.drewN | apply IsS97.drew | apply IsS97.set_1 | refine IsS97.far ?_ NB604_601.out _ | refine IsS97.far ?_ NB604_610.out _) | exact HI604.out)) (by (with_reducible repeat apply Kd.Q_alloc); exact HO_611001.out) (by decide)) hk (fun _ h => h.2)) (fun _ h => h.1)); have n1_ := Aside0.mk (KeepBut.blk hk (g' := gb601) (o := .cells #[.int .i64 0, .slice none 0 0] 30 (0, 0)) (bK BK601.out) NB601_604.out (by simp)); have n2_ := Aside0.mk (KeepBut.blk hk (g' := gb610) (o := .cells #[.int .i64 t605, .slice Ao35 x611001_1.length co35] 30 (0, 0)) (bK BK610.out) NB610_604.out (by simp)); have n3_ := Aside0.mk (hb); have n4_ := Aside0.mk (hi); clear HO_611001; clear BK601; clear BK610; clear HB; clear HI604; have HO_611001 := n0_; have BK601 := n1_; have BK610 := n2_; have HB := n3_; have HI604 := n4_; clear n0_ n1_ n2_ n3_ n4_; (try clear hb); (try clear hb2); (try clear hk); (try clear hi); have hnb51 := NB610_601.out; have hnc51 := NB601_610.out; have hnb52 := NB610_604.out; have hnc52 := NB604_610.out; have hcz53_0 : w50.cell? ⟨gb610, 0, none⟩ = some (.int .i64 t605) := (blk_cell BK610.out 0).trans rfl; have hcz53_1 : w50.cell? ⟨gb610, 1, none⟩ = some (.slice Ao35 x611001_1.length co35) := (blk_cell BK610.out 1).trans rfl; have hfz53_0 := blk_frozen BK610.out 0; have hfz53_1 := blk_frozen BK610.out 1) | (go_at_call 26; (with_reducible refine (spec_TrailLight.calls k3 t605 _ _ x611001_1 x7_3 t622 _ ?side1 ?side2 A40.out).mono ?_); (case side1 => repeat (first | exact (Kd.Q_reads' HO_611001.out).2.2 | (with_reducible refine Kd.C_alloc ?_ _) | (with_reducible refine Kd.C_drewN ?_ _) | (with_reducible refine Kd.C_drew ?_))); (case side2 => exact (Kd.Q_reads' HO_611001.out).2.1); rintro e w54 ⟨rfl, hb⟩; have n0_ := Aside0.mk (Kd.Q_below (by (with_reducible repeat apply Kd.Q_alloc); exact HO_611001.out) hb); have n1_ := Aside0.mk (blk_below (bK BK601.out) hb); have n2_ := Aside0.mk (blk_below (bK BK610.out) hb); have n3_ := Aside0.mk (IsS97.below (by repeat (first | (with_reducible first | exact HI604.out | apply IsS97.alloc | apply IsS97.drewN | apply IsS97.drew | apply IsS97.set_1 | refine IsS97.far ?_ NB604_601.out _ | refine IsS97.far ?_ NB604_610.out _) | exact HI604.out)) hb); have n4_ := Aside0.mk (below_step (by repeat (first | (with_reducible first | exact HB.out | apply below_alloc | apply pw_below_drewN | apply below_drew1 | refine below_set ?_ (IsS97.ge HI604.out) | refine below_set ?_ GE601.out | refine below_set ?_ GE610.out) | exact HB.out)) hb); clear HO_611001; clear BK601; clear BK610; clear HI604; clear HB; have HO_611001 := n0_; have BK601 := n1_; have BK610 := n2_; have HI604 := n3_; have HB := n4_; clear n0_ n1_ n2_ n3_ n4_; (try clear hb); (try clear hb2); (try clear hk); (try clear hi); have hcz55_0 : w54.cell? ⟨gb610, 0, none⟩ = some (.int .i64 t605) := (blk_cell BK610.out 0).trans rfl; have hcz55_1 : w54.cell? ⟨gb610, 1, none⟩ = some (.slice Ao35 x611001_1.length co35) := (blk_cell BK610.out 1).trans rfl; have hfz55_0 := blk_frozen BK610.out 0; have hfz55_1 := blk_frozen BK610.out 1; have hnb56 := NB601_604.out; have hnc56 := NB604_601.out; have hcz57_0 : w54.cell? ⟨gb601, 0, none⟩ = some (.int .i64 0) := (blk_cell BK601.out 0).trans rfl; have hcz57_1 : w54.cell? ⟨gb601, 1, none⟩ = some (.slice none 0 0) := (blk_cell BK601.out 1).trans rfl; have hfz57_0 := blk_frozen BK601.out 0; have hfz57_1 := blk_frozen BK601.out 1))
           refine bodyPost_ret (results_ct rfl _ _ gb601 30 #[.int .i64 t605, .slice Ao35 x611001_1.length co35] (0, 0) _ rfl (by (with_reducible repeat apply blk_alloc); refine blk_put (cs := #[.int .i64 t605, .slice none 0 0]) ?_ 1 _ rfl; (with_reducible repeat apply blk_alloc); refine blk_put (cs := #[.int .i64 0, .slice none 0 0]) ?_ 0 _ rfl; (with_reducible repeat apply blk_alloc); exact BK601.out) Try.underlying30 rfl (by kernel_rfl)) rfl ?_
           exact ⟨_, by first | rfl | (simp [errW_none, errW_some] <;> rfl) | (simp [*, errW_none, errW_some] <;> rfl) | (exfalso; simp_all; done), by (with_reducible repeat apply Kd.Q_alloc); exact Kd.Q_mono (Kd.Q_far (p := ⟨gb601, 1, none⟩) (Kd.Q_far (p := ⟨gb601, 0, none⟩) (Kd.Q_types HO_611001.out BK601.out (by decide)) (fun _ hk => hk.2) (.int .i64 t605)) (fun _ hk => hk.2) (.slice Ao35 x611001_1.length co35)) (fun _ hk => trivial), by repeat (first | (with_reducible first | exact HB.out | apply below_alloc | apply pw_below_drewN | apply below_drew1 | refine below_set ?_ (IsS97.ge HI604.out) | refine below_set ?_ GE601.out | refine below_set ?_ GE610.out) | exact HB.out)⟩
         ·rw [if_neg c39] at H
          have c39b0 : decide (0 < t620) = false := decide_eq_false c39
          clear c39
          simp only [Option.some.injEq, Prod.mk.injEq] at H
          obtain ⟨rfl, rfl, rfl⟩ := H
          go_wp2_with (first | (go_at_call 52; (with_reducible refine (spec_l6Rd_pick.calls k3 g604 t602 x605001_3 8 t620 t621 w _ ?side1 ?side2 A38.out).mono ?_); (case side1 => repeat (first | (with_reducible first | exact HI604.out | apply IsS97.alloc | apply IsS97.drewN | apply IsS97.drew | apply IsS97.set_1 | refine IsS97.far ?_ NB604_601.out _ | refine IsS97.far ?_ NB604_610.out _) | exact HI604.out)); (case side2 => repeat (first | (with_reducible first | exact HB.out | apply below_alloc | apply pw_below_drewN | apply below_drew1 | refine below_set ?_ (IsS97.ge HI604.out) | refine below_set ?_ GE601.out | refine below_set ?_ GE610.out) | exact HB.out)); rintro e w58 ⟨rfl, hi, hb, hk⟩; have n0_ := Aside0.mk (Kd.Q_mono (Kd.Q_keep (IsS97.apartQ (show IsS97 w _ g604 t602 x605001_3 from by repeat (first | (with_reducible first | exact HI604.out | apply IsS97.alloc | apply IsS97.drewN | apply IsS97.drew | apply IsS97.set_1 | refine IsS97.far ?_ NB604_601.out _ | refine IsS97.far ?_ NB604_610.out _) | exact HI604.out)) (by (with_reducible repeat apply Kd.Q_alloc); exact HO_611001.out) (by decide)) hk (fun _ h => h.2)) (fun _ h => h.1)); have n1_ := Aside0.mk (KeepBut.blk hk (g' := gb601) (o := .cells #[.int .i64 0, .slice none 0 0] 30 (0, 0)) (bK BK601.out) NB601_604.out (by simp)); have n2_ := Aside0.mk (KeepBut.blk hk (g' := gb610) (o := .cells #[.int .i64 t605, .slice Ao35 x611001_1.length co35] 30 (0, 0)) (bK BK610.out) NB610_604.out (by simp)); have n3_ := Aside0.mk (hb); have n4_ := Aside0.mk (hi); clear HO_611001; clear BK601; clear BK610; clear HB; clear HI604; have HO_611001 := n0_; have BK601 := n1_; have BK610 := n2_; have HB := n3_; have HI604 := n4_; clear n0_ n1_ n2_ n3_ n4_; (try clear hb); (try clear hb2); (try clear hk); (try clear hi); have hnb59 := NB610_601.out; have hnc59 := NB601_610.out; have hnb60 := NB610_604.out; have hnc60 := NB604_610.out; have hcz61_0 : w58.cell? ⟨gb610, 0, none⟩ = some (.int .i64 t605) := (blk_cell BK610.out 0).trans rfl; have hcz61_1 : w58.cell? ⟨gb610, 1, none⟩ = some (.slice Ao35 x611001_1.length co35) := (blk_cell BK610.out 1).trans rfl; have hfz61_0 := blk_frozen BK610.out 0; have hfz61_1 := blk_frozen BK610.out 1; have hnb62 := NB601_604.out; have hnc62 := NB604_601.out; have hcz63_0 : w58.cell? ⟨gb601, 0, none⟩ = some (.int .i64 0) := (blk_cell BK601.out 0).trans rfl; have hcz63_1 : w58.cell? ⟨gb601, 1, none⟩ = some (.slice none 0 0) := (blk_cell BK601.out 1).trans rfl; have hfz63_0 := blk_frozen BK601.out 0; have hfz63_1 := blk_frozen BK601.out 1))
          refine bodyPost_ret (results_ct rfl _ _ gb601 30 #[.int .i64 t605, .slice Ao35 x611001_1.length co35] (0, 0) _ rfl (by (with_reducible repeat apply blk_alloc); refine blk_put (cs := #[.int .i64 t605, .slice none 0 0]) ?_ 1 _ rfl; (with_reducible repeat apply blk_alloc); refine blk_put (cs := #[.int .i64 0, .slice none 0 0]) ?_ 0 _ rfl; (with_reducible repeat apply blk_alloc); exact BK601.out) Try.underlying30 rfl (by kernel_rfl)) rfl ?_
          exact ⟨_, by first | rfl | (simp [errW_none, errW_some] <;> rfl) | (simp [*, errW_none, errW_some] <;> rfl) | (exfalso; simp_all; done), by (with_reducible repeat apply Kd.Q_alloc); exact Kd.Q_mono (Kd.Q_far (p := ⟨gb601, 1, none⟩) (Kd.Q_far (p := ⟨gb601, 0, none⟩) (Kd.Q_types HO_611001.out BK601.out (by decide)) (fun _ hk => hk.2) (.int .i64 t605)) (fun _ hk => hk.2) (.slice Ao35 x611001_1.length co35)) (fun _ hk => trivial), by repeat (first | (with_reducible first | exact HB.out | apply below_alloc | apply pw_below_drewN | apply below_drew1 | refine below_set ?_ (IsS97.ge HI604.out) | refine below_set ?_ GE601.out | refine below_set ?_ GE610.out) | exact HB.out)⟩
        ·rw [if_neg c37] at H
         have c37b0 : decide (x8_3 < 8) = false := decide_eq_false c37
         clear c37
         simp only [Option.some.injEq, Prod.mk.injEq] at H
         obtain ⟨rfl, rfl, rfl⟩ := H
         have hnb64 := NB610_601.out
         have hnc64 := NB601_610.out
         have hnb65 := NB610_604.out
         have hnc65 := NB604_610.out
         have hcz66_0 : wr.cell? ⟨gb610, 0, none⟩ = some (.int .i64 t605) := (blk_cell BK610.out 0).trans rfl
         have hcz66_1 : wr.cell? ⟨gb610, 1, none⟩ = some (.slice Ao35 x611001_1.length co35) := (blk_cell BK610.out 1).trans rfl
         have hfz66_0 := blk_frozen BK610.out 0
         have hfz66_1 := blk_frozen BK610.out 1
         have hnb67 := NB601_604.out
         have hnc67 := NB604_601.out
         have hcz68_0 : wr.cell? ⟨gb601, 0, none⟩ = some (.int .i64 0) := (blk_cell BK601.out 0).trans rfl
         have hcz68_1 : wr.cell? ⟨gb601, 1, none⟩ = some (.slice none 0 0) := (blk_cell BK601.out 1).trans rfl
         have hfz68_0 := blk_frozen BK601.out 0
         have hfz68_1 := blk_frozen BK601.out 1
         go_wp2
         refine bodyPost_ret (results_ct rfl _ _ gb601 30 #[.int .i64 t605, .slice Ao35 x611001_1.length co35] (0, 0) _ rfl (by (with_reducible repeat apply blk_alloc); refine blk_put (cs := #[.int .i64 t605, .slice none 0 0]) ?_ 1 _ rfl; (with_reducible repeat apply blk_alloc); refine blk_put (cs := #[.int .i64 0, .slice none 0 0]) ?_ 0 _ rfl; (with_reducible repeat apply blk_alloc); exact BK601.out) Try.underlying30 rfl (by kernel_rfl)) rfl ?_
         exact ⟨_, by first | rfl | (simp [errW_none, errW_some] <;> rfl) | (simp [*, errW_none, errW_some] <;> rfl) | (exfalso; simp_all; done), by (with_reducible repeat apply Kd.Q_alloc); exact Kd.Q_mono (Kd.Q_far (p := ⟨gb601, 1, none⟩) (Kd.Q_far (p := ⟨gb601, 0, none⟩) (Kd.Q_types HO_611001.out BK601.out (by decide)) (fun _ hk => hk.2) (.int .i64 t605)) (fun _ hk => hk.2) (.slice Ao35 x611001_1.length co35)) (fun _ hk => trivial), by repeat (first | (with_reducible first | exact HB.out | apply below_alloc | apply pw_below_drewN | apply below_drew1 | refine below_set ?_ (IsS97.ge HI604.out) | refine below_set ?_ GE601.out | refine below_set ?_ GE610.out) | exact HB.out)⟩
end Go.Proofs.Ytmohfoleolmijaa.P
