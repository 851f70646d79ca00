/- PROVED: contracts of functions; No condition. -/
import Derived.Test.YteapnipnoadejaaPx0
import Derived.Test.YteapnipnoadejaaPx3
import Derived.Test.YteapnipnoadejaaPx5
import Derived.Test.YteapnipnoadejaaPx10
namespace Go.Proofs.Yteapnipnoadejaa.P
open Go.RowKit Go.Proofs.YteapnipnoadejaaW
set_option linter.unusedVariables false
set_option linter.unusedSimpArgs false
mutual
def spec_l71Bright.l0 : Nat -> Int -> List Int -> Int -> Int -> List (S42) -> Option (Int × (List (S42)) × Int)
 | 0, _, _, _, _, _ => none
 | k + 1, x4, x1000, x1001, x615000, x615001 => if x4 > 0 then (spec_l71Bright.j1 k x4 (decide ((x615001.length : Int) > 0)) x1000 x1001 x615000 x615001) else (spec_l71Bright.j1 k x4 false x1000 x1001 x615000 x615001)
def spec_l71Bright.j1 : Nat -> Int -> Bool -> List Int -> Int -> Int -> List (S42) -> Option (Int × (List (S42)) × Int)
 | 0, _, _, _, _, _, _ => none
 | k + 1, x4, x16, x1000, x1001, x615000, x615001 => if x16 = true then ((spec_l6Rd_pick.f k x1000 x1001 (x615001.length : Int)).bind fun bt617 => ((some (([2, 3, 4, 5] : List Int) : List Int)).bind fun y619 => ((spec_l6Rd_pick.f k x1000 bt617.2 4).bind fun bt622 => (if 0 <= bt622.1 then (if bt622.1 < (y619.length : Int) then (if 0 <= bt617.1 then (if bt617.1 < (x615001.length : Int) then (spec_l71Bright.l0 k (wrap64 (x4 - 1)) x1000 bt622.2 x615000 (x615001.set (bt617.1 : Int).toNat (⟨rd y619 bt622.1, 0⟩ : S42))) else (none)) else (none)) else (none)) else (none))))) else (some (x615000, x615001, x1001))
end
def spec_l71Bright.f (k : Nat) (s0_0 : List Int) (s0_1 : Int) : Option (Int × (List (S42)) × Int) := (spec_l71Some.f k s0_0 s0_1).bind fun bt609 => ((spec_l6Rd_pick.f k s0_0 bt609.2.2 8).bind fun bt615 => (spec_l71Bright.l0 k bt615.1 s0_0 bt615.2 bt609.1 bt609.2.1))
def spec_l71Bright.T5 : Bool × List (List Nat × List Nat) := (true, [([], []), ([0], [0]), ([], []), ([], []), ([3], [3]), ([4], [4]), ([2, 5], [2, 5]), ([], []), ([], []), ([8, 6], [8]), ([7, 9], [7, 9]), ([10], [10]), ([11], [11]), ([1, 6, 0, 1, 2, 3, 4, 5, 6, 7, 8, 9, 10, 11, 12], [1, 6]), ([13, 12, 9, 0, 1, 2, 3, 4, 5, 6, 7, 8, 9, 10, 11, 12], [12, 13])])
def spec_l71Bright.B5 : List Nat := [0, 1, 0, 0, 8, 24, 60, 0, 0, 380, 1020, 2044, 4092, 8191, 16383]
theorem spec_l71Bright.tab5 : rtab .any (opsOf Try.f40 5) = spec_l71Bright.T5 := by kernel_rfl
theorem spec_l71Bright.bits5 : waitsOk spec_l71Bright.T5.2 spec_l71Bright.B5 = true := by kernel_rfl
set_option maxHeartbeats 8000000 in
set_option maxRecDepth 100000 in
theorem spec_l71Bright.calls (k : Nat) (g : Nat) (s0_0 : List Int) (s0_1 : Int) (r1 : Int) (r2 : List (S42)) (r3 : Int) (w0 w : World) (hI : IsS91 w0 w g s0_0 s0_1) (hB : Below w0.heap.size w0 w) (h : spec_l71Bright.f k s0_0 s0_1 = some (r1, r2, r3)) :
  Calls Try.prog 40 #[.pointer (some ⟨g, 0, none⟩)] w fun e w' => ∃ v1_ : Value, e = .returned (.agg #[.int .i64 r1, v1_]) ∧ Kd.Q k42 42 w' w.heap.size (fun _ => True) v1_ r2 ∧ IsS91 w0 w' g s0_0 r3 ∧ Below w0.heap.size w0 w' ∧ KeepBut w w' g none := by
 have hu25 := Try.underlying25
 have hu42 := Try.underlying42
 have HI0 := Aside0.mk hI
 have HK := Aside0.mk (KeepBut.refl w g none)
 have HL := Aside0.mk hB.size
 clear hI
 have HW0 := Aside0.mk hB.size
 have HB := Aside0.mk hB
 clear hB
 have H : ((spec_l71Some.f k s0_0 s0_1).bind fun bt609 => ((spec_l6Rd_pick.f k s0_0 bt609.2.2 8).bind fun bt615 => (spec_l71Bright.l0 k bt615.1 s0_0 bt615.2 bt609.1 bt609.2.1))) = some (r1, r2, r3) := h
 clear h
 replace H := Option.bind_eq_some_iff.mp H
 obtain ⟨⟨t609, t610, t613⟩, A20, H⟩ := H
 replace H : ((spec_l6Rd_pick.f k s0_0 t613 8).bind fun bt615 => (spec_l71Bright.l0 k bt615.1 s0_0 bt615.2 t609 t610)) = some (r1, r2, r3) := H
 have A2 := Aside0.mk A20
 clear A20
 replace H := Option.bind_eq_some_iff.mp H
 obtain ⟨⟨t615, t616⟩, A30, H⟩ := H
 replace H : (spec_l71Bright.l0 k t615 s0_0 t616 t609 t610) = some (r1, r2, r3) := H
 have A3 := Aside0.mk A30
 clear A30
 have H' := Aside0.mk H
 clear H
 go_enter Try.func40, Try.ntmps40
 go_wp2_with (first | ((with_reducible refine gate_dst (N := 2) rfl ?_); (try (refine gate_guard (by rfl) ?_; dsimp only)); refine box_event rfl (N := 2) rfl (cs := #[.int .i64 0, .slice none 0 0]) (t := 25) ?hr ?_; (case hr => first | (go_simp; done) | (go_simp; rfl)); intro gb608 hg w4 hbox hb; have n0_ := Aside0.mk (IsS91.below (by repeat (first | (with_reducible first | exact HI0.out | apply IsS91.alloc | apply IsS91.drewN | apply IsS91.drew | apply IsS91.set_1) | exact HI0.out)) hb); have n1_ := Aside0.mk (KeepBut.trans (by repeat (first | (with_reducible first | exact HK.out | apply KeepBut.set_ | apply keep_drewN | apply keep_drew | apply keep_alloc) | exact HK.out)) (KeepBut.of_below hb g none) (.inl rfl)); have n2_ := Aside0.mk (below_step (by repeat (first | (with_reducible first | exact HB.out | apply below_alloc | apply pw_below_drewN | apply below_drew1 | refine below_set ?_ (IsS91.ge HI0.out)) | exact HB.out)) hb); have n3_ := Aside0.mk (hbox); have n4_ := Aside0.mk ((by rw [hg]; exact (keep_size (w := w) (g := g) (row := none) (by repeat (first | (with_reducible first | exact HK.out | apply KeepBut.set_ | apply keep_drewN | apply keep_drew | apply keep_alloc) | exact HK.out))) : w.heap.size <= gb608)); have n5_ := Aside0.mk ((Nat.le_trans HW0.out (by rw [hg]; exact (keep_size (w := w) (g := g) (row := none) (by repeat (first | (with_reducible first | exact HK.out | apply KeepBut.set_ | apply keep_drewN | apply keep_drew | apply keep_alloc) | exact HK.out))) : w.heap.size <= gb608) : w0.heap.size <= gb608)); have n6_ := Aside0.mk ((by rw [hg]; exact Nat.ne_of_lt (IsS91.lt (show IsS91 w0 _ g s0_0 s0_1 from by repeat (first | (with_reducible first | exact HI0.out | apply IsS91.alloc | apply IsS91.drewN | apply IsS91.drew | apply IsS91.set_1) | exact HI0.out))) : g ≠ gb608)); have n7_ := Aside0.mk ((by rw [hg]; exact Nat.ne_of_gt (IsS91.lt (show IsS91 w0 _ g s0_0 s0_1 from by repeat (first | (with_reducible first | exact HI0.out | apply IsS91.alloc | apply IsS91.drewN | apply IsS91.drew | apply IsS91.set_1) | exact HI0.out))) : gb608 ≠ g)); clear HI0; clear HK; clear HB; have HI0 := n0_; have HK := n1_; have HB := n2_; have BK608 := n3_; have GW608 := n4_; have GE608 := n5_; have NB0_608 := n6_; have NB608_0 := n7_; clear n0_ n1_ n2_ n3_ n4_ n5_ n6_ n7_; clear hb hbox hg) | ((with_reducible refine gate_callee (f := 43) rfl ?_); refine goesL_ (some 6) rfl rfl Try.func43 (by kernel_rfl) rfl #[.pointer (some ⟨g, 0, none⟩)] rfl (by first | rfl | (simp only [List.map_toArray, List.map_cons, List.map_nil, List.length_drop, List.length_take]; try rfl)) ?_; (with_reducible refine (spec_l71Some.calls k g s0_0 s0_1 t609 t610 t613 w0 _ ?side1 ?side2 A2.out).mono ?_); (case side1 => repeat (first | (with_reducible first | exact HI0.out | apply IsS91.alloc | apply IsS91.drewN | apply IsS91.drew | apply IsS91.set_1 | refine IsS91.far ?_ NB0_608.out _) | exact HI0.out)); (case side2 => repeat (first | (with_reducible first | exact HB.out | apply below_alloc | apply pw_below_drewN | apply below_drew1 | refine below_set ?_ (IsS91.ge HI0.out) | refine below_set ?_ GE608.out) | exact HB.out)); rintro e w5 ⟨v611, rfl, ho0, hi, hb, hk⟩; refine ⟨_, rfl, ?_⟩; have n0_ := Aside0.mk (KeepBut.blk hk (g' := gb608) (o := .cells #[.int .i64 0, .slice none 0 0] 25 (0, 0)) (bK BK608.out) NB608_0.out (by simp)); have n1_ := Aside0.mk (Kd.Q_lower ho0 (keep_size (w := w) (g := g) (row := none) (by repeat (first | (with_reducible first | exact HK.out | apply KeepBut.set_ | apply keep_drewN | apply keep_drew | apply keep_alloc | refine keep_far ?_ GW608.out _) | exact HK.out)))); have n2_ := Aside0.mk (KeepBut.trans (by repeat (first | (with_reducible first | exact HK.out | apply KeepBut.set_ | apply keep_drewN | apply keep_drew | apply keep_alloc | refine keep_far ?_ GW608.out _) | exact HK.out)) hk (.inl rfl)); have n3_ := Aside0.mk (hb); have n4_ := Aside0.mk (hi); clear BK608; clear HK; clear HB; clear HI0; have BK608 := n0_; have HO612 := n1_; have HK := n2_; have HB := n3_; have HI0 := n4_; clear n0_ n1_ n2_ n3_ n4_; (try clear hb); (try clear hb2); (try clear hk); (try clear hi); (try clear ho0)) | ((with_reducible refine gate_dst (N := 3) rfl ?_); (try (refine gate_guard (by rfl) ?_; dsimp only)); refine box_event rfl (N := 3) rfl (cs := #[.int .i64 0, .slice none 0 0]) (t := 25) ?hr ?_; (case hr => first | (go_simp; done) | (go_simp; rfl)); intro gb614 hg w6 hbox hb; have n0_ := Aside0.mk (Kd.Q_below (by (with_reducible repeat apply Kd.Q_alloc); exact HO612.out) hb); have n1_ := Aside0.mk (IsS91.below (by repeat (first | (with_reducible first | exact HI0.out | apply IsS91.alloc | apply IsS91.drewN | apply IsS91.drew | apply IsS91.set_1 | refine IsS91.far ?_ NB0_608.out _) | exact HI0.out)) hb); have n2_ := Aside0.mk (blk_below (bK BK608.out) hb); have n3_ := Aside0.mk (KeepBut.trans (by repeat (first | (with_reducible first | exact HK.out | apply KeepBut.set_ | apply keep_drewN | apply keep_drew | apply keep_alloc | refine keep_far ?_ GW608.out _) | exact HK.out)) (KeepBut.of_below hb g none) (.inl rfl)); have n4_ := Aside0.mk (below_step (by repeat (first | (with_reducible first | exact HB.out | apply below_alloc | apply pw_below_drewN | apply below_drew1 | refine below_set ?_ (IsS91.ge HI0.out) | refine below_set ?_ GE608.out) | exact HB.out)) hb); have n5_ := Aside0.mk (hbox); have n6_ := Aside0.mk ((by rw [hg]; exact (keep_size (w := w) (g := g) (row := none) (by repeat (first | (with_reducible first | exact HK.out | apply KeepBut.set_ | apply keep_drewN | apply keep_drew | apply keep_alloc | refine keep_far ?_ GW608.out _) | exact HK.out))) : w.heap.size <= gb614)); have n7_ := Aside0.mk ((Nat.le_trans HW0.out (by rw [hg]; exact (keep_size (w := w) (g := g) (row := none) (by repeat (first | (with_reducible first | exact HK.out | apply KeepBut.set_ | apply keep_drewN | apply keep_drew | apply keep_alloc | refine keep_far ?_ GW608.out _) | exact HK.out))) : w.heap.size <= gb614) : w0.heap.size <= gb614)); have n8_ := Aside0.mk ((by rw [hg]; exact Nat.ne_of_lt (blk_lt (bK BK608.out)) : gb608 ≠ gb614)); have n9_ := Aside0.mk ((by rw [hg]; exact Nat.ne_of_gt (blk_lt (bK BK608.out)) : gb614 ≠ gb608)); have n10_ := Aside0.mk ((by rw [hg]; exact Nat.ne_of_lt (IsS91.lt (show IsS91 w0 _ g s0_0 t613 from by repeat (first | (with_reducible first | exact HI0.out | apply IsS91.alloc | apply IsS91.drewN | apply IsS91.drew | apply IsS91.set_1 | refine IsS91.far ?_ NB0_608.out _) | exact HI0.out))) : g ≠ gb614)); have n11_ := Aside0.mk ((by rw [hg]; exact Nat.ne_of_gt (IsS91.lt (show IsS91 w0 _ g s0_0 t613 from by repeat (first | (with_reducible first | exact HI0.out | apply IsS91.alloc | apply IsS91.drewN | apply IsS91.drew | apply IsS91.set_1 | refine IsS91.far ?_ NB0_608.out _) | exact HI0.out))) : gb614 ≠ g)); clear HO612; clear HI0; clear BK608; clear HK; clear HB; have HO612 := n0_; have HI0 := n1_; have BK608 := n2_; have HK := n3_; have HB := n4_; have BK614 := n5_; have GW614 := n6_; have GE614 := n7_; have NB608_614 := n8_; have NB614_608 := n9_; have NB0_614 := n10_; have NB614_0 := n11_; clear n0_ n1_ n2_ n3_ n4_ n5_ n6_ n7_ n8_ n9_ n10_ n11_; clear hb hbox hg; have hnb7 := NB614_608.out; have hnc7 := NB608_614.out; have hnb8 := NB614_0.out; have hnc8 := NB0_614.out; have hcz9_0 : w6.cell? ⟨gb614, 0, none⟩ = some (.int .i64 0) := (blk_cell BK614.out 0).trans rfl; have hcz9_1 : w6.cell? ⟨gb614, 1, none⟩ = some (.slice none 0 0) := (blk_cell BK614.out 1).trans rfl; have hfz9_0 := blk_frozen BK614.out 0; have hfz9_1 := blk_frozen BK614.out 1; obtain ⟨Ao10, co10, eo10, _⟩ := Kd.Q_slice HO612.out; subst eo10) | ((with_reducible refine gate_callee (f := 42) rfl ?_); refine goesL_ (some 8) rfl rfl Try.func42 (by kernel_rfl) rfl #[.pointer (some ⟨g, 0, none⟩), .int .i64 8] rfl (by first | rfl | (simp only [List.map_toArray, List.map_cons, List.map_nil, List.length_drop, List.length_take]; try rfl)) ?_; (with_reducible refine (spec_l6Rd_pick.calls k g s0_0 t613 8 t615 t616 w0 _ ?side1 ?side2 A3.out).mono ?_); (case side1 => repeat (first | (with_reducible first | exact HI0.out | apply IsS91.alloc | apply IsS91.drewN | apply IsS91.drew | apply IsS91.set_1 | refine IsS91.far ?_ NB0_608.out _ | refine IsS91.far ?_ NB0_614.out _) | exact HI0.out)); (case side2 => repeat (first | (with_reducible first | exact HB.out | apply below_alloc | apply pw_below_drewN | apply below_drew1 | refine below_set ?_ (IsS91.ge HI0.out) | refine below_set ?_ GE608.out | refine below_set ?_ GE614.out) | exact HB.out)); rintro e w11 ⟨rfl, hi, hb, hk⟩; refine ⟨_, rfl, ?_⟩; have n0_ := Aside0.mk (KeepBut.blk hk (g' := gb608) (o := .cells #[.int .i64 0, .slice none 0 0] 25 (0, 0)) (by (with_reducible repeat apply blk_alloc); refine blk_far ?_ NB608_614.out _; (with_reducible repeat apply blk_alloc); refine blk_far ?_ NB608_614.out _; (with_reducible repeat apply blk_alloc); exact BK608.out) NB608_0.out (by simp)); have n1_ := Aside0.mk (Kd.Q_mono (Kd.Q_keep (IsS91.apartQ (show IsS91 w0 _ g s0_0 t613 from by repeat (first | (with_reducible first | exact HI0.out | apply IsS91.alloc | apply IsS91.drewN | apply IsS91.drew | apply IsS91.set_1 | refine IsS91.far ?_ NB0_608.out _ | refine IsS91.far ?_ NB0_614.out _) | exact HI0.out)) (by (with_reducible repeat apply Kd.Q_alloc); exact (Kd.Q_mono (Kd.Q_far (p := ⟨gb614, 1, none⟩) (Kd.Q_far (p := ⟨gb614, 0, none⟩) (Kd.Q_types HO612.out BK614.out (by decide)) (fun _ hk => hk.2) (.int .i64 t609)) (fun _ hk => hk.2) (.slice Ao10 t610.length co10)) (fun _ h_ => h_.1))) (by decide)) hk (fun _ h => h.2)) (fun _ h => h.1)); have n2_ := Aside0.mk (KeepBut.blk hk (g' := gb614) (o := .cells #[.int .i64 t609, .slice Ao10 t610.length co10] 25 (0, 0)) (by (with_reducible repeat apply blk_alloc); refine blk_put (cs := #[.int .i64 t609, .slice none 0 0]) ?_ 1 _ rfl; (with_reducible repeat apply blk_alloc); refine blk_put (cs := #[.int .i64 0, .slice none 0 0]) ?_ 0 _ rfl; (with_reducible repeat apply blk_alloc); exact BK614.out) NB614_0.out (by simp)); have n3_ := Aside0.mk (KeepBut.trans (by repeat (first | (with_reducible first | exact HK.out | apply KeepBut.set_ | apply keep_drewN | apply keep_drew | apply keep_alloc | refine keep_far ?_ GW608.out _ | refine keep_far ?_ GW614.out _) | exact HK.out)) hk (.inl rfl)); have n4_ := Aside0.mk (hb); have n5_ := Aside0.mk (hi); clear BK608; clear HO612; clear BK614; clear HK; clear HB; clear HI0; have BK608 := n0_; have HO612 := n1_; have BK614 := n2_; have HK := n3_; have HB := n4_; have HI0 := n5_; clear n0_ n1_ n2_ n3_ n4_ n5_; (try clear hb); (try clear hb2); (try clear hk); (try clear hi)))
 go_loopg [4] k (fun kq v4 w' => ∃ (x4_1 : Int) (x1001_1 : Int) (x615001_1 : List (S42)) (u615001 : Value), v4 = .int .i64 x4_1 ∧ Aside0 (spec_l71Bright.l0 kq x4_1 s0_0 x1001_1 t609 x615001_1 = some (r1, r2, r3)) ∧ Aside0 (kq <= k) ∧ Aside0 (Kd.Q k42 42 w' w.heap.size (fun _ => True) u615001 x615001_1) ∧ Aside0 (w'.heap[gb608]? = some (.cells #[.int .i64 0, (.slice none 0 0)] 25 (0, 0))) ∧ Aside0 (w'.heap[gb614]? = some (.cells #[.int .i64 t609, u615001] 25 (0, 0))) ∧ Aside0 (IsS91 w0 w' g s0_0 x1001_1) ∧ Aside0 (KeepBut w w' g none) ∧ Aside0 (Below w0.heap.size w0 w'))
 case atStart => exact ⟨(t615), (t616), (t610), (.slice Ao10 t610.length co10), (by first | rfl | (simp; done) | (simp [*]; done)), H', ⟨Nat.le_refl _⟩, ⟨by (with_reducible repeat apply Kd.Q_alloc); exact HO612.out⟩, ⟨by (with_reducible repeat apply blk_alloc); exact BK608.out⟩, ⟨by (with_reducible repeat apply blk_alloc); exact BK614.out⟩, ⟨by repeat (first | (with_reducible first | exact HI0.out | apply IsS91.alloc | apply IsS91.drewN | apply IsS91.drew | apply IsS91.set_1 | refine IsS91.far ?_ NB0_608.out _ | refine IsS91.far ?_ NB0_614.out _) | exact HI0.out)⟩, ⟨by repeat (first | (with_reducible first | exact HK.out | apply KeepBut.set_ | apply keep_drewN | apply keep_drew | apply keep_alloc | refine keep_far ?_ GW608.out _ | refine keep_far ?_ GW614.out _) | exact HK.out)⟩, ⟨by repeat (first | (with_reducible first | exact HB.out | apply below_alloc | apply pw_below_drewN | apply below_drew1 | refine below_set ?_ (IsS91.ge HI0.out) | refine below_set ?_ GE608.out | refine below_set ?_ GE614.out) | exact HB.out)⟩⟩
 case round =>
  clear H'
  try clear p2
  try clear c4
  try clear c7
  try clear c8
  try clear hcz9_0
  try clear hcz9_1
  try clear hfz9_0
  try clear hfz9_1
  obtain ⟨x4_1, x1001_1, x615001_1, u615001, rfl, HA, HK1, HO_615001, BK608, BK614, HI0, HK, HB⟩ := hrel
  cases gk with
  | zero => exact absurd HA.out (by simp [spec_l71Bright.l0])
  | succ k1 =>
   have H := HA.out
   clear HA
   simp only [spec_l71Bright.l0] at H
   have HC12 := Aside0.mk H
   clear H
   go_upto_region 3 with (fail)
   go_cut [16] (fun v16 wc => ∃ (kq : Nat) (x16_11 : Bool), v16 = .bool x16_11 ∧ Aside0 (spec_l71Bright.j1 kq x4_1 x16_11 s0_0 x1001_1 t609 x615001_1 = some (r1, r2, r3)) ∧ Aside0 (kq <= k1) ∧ Aside0 (Kd.Q k42 42 wc w.heap.size (fun _ => True) u615001 x615001_1) ∧ Aside0 (wc.heap[gb608]? = some (.cells #[.int .i64 0, (.slice none 0 0)] 25 (0, 0))) ∧ Aside0 (wc.heap[gb614]? = some (.cells #[.int .i64 t609, u615001] 25 (0, 0))) ∧ Aside0 (IsS91 w0 wc g s0_0 x1001_1) ∧ Aside0 (KeepBut w wc g none) ∧ Aside0 (Below w0.heap.size w0 wc))
   case first =>
    have H := HC12.out
    clear HC12
    by_cases c13 : x4_1 > 0
    ·rw [if_pos c13] at H
     have c13b0 : decide (0 < x4_1) = true := decide_eq_true c13
     clear c13
     (first | rw [c13b0] | (simp only [i64_w, i32_w]; rw [c13b0]) | skip)
     have H' := Aside0.mk H
     clear H
     have hnb14 := NB614_608.out
     have hnc14 := NB608_614.out
     have hnb15 := NB614_0.out
     have hnc15 := NB0_614.out
     have hcz16_0 : wr.cell? ⟨gb614, 0, none⟩ = some (.int .i64 t609) := (blk_cell BK614.out 0).trans rfl
     have hcz16_1 : wr.cell? ⟨gb614, 1, none⟩ = some (u615001) := (blk_cell BK614.out 1).trans rfl
     have hfz16_0 := blk_frozen BK614.out 0
     have hfz16_1 := blk_frozen BK614.out 1
     obtain ⟨Ao17, co17, eo17, _⟩ := Kd.Q_slice HO_615001.out
     subst eo17
     go_wp2
     go_meet
     case rel => exact ⟨_, (decide ((x615001_1.length : Int) > 0)), (by first | rfl | (simp; done) | (simp [*]; done)), H', ⟨by have := HK1.out; first | omega | exact Nat.le_refl _⟩, ⟨by (with_reducible repeat apply Kd.Q_alloc); exact HO_615001.out⟩, ⟨by (with_reducible repeat apply blk_alloc); exact BK608.out⟩, ⟨by (with_reducible repeat apply blk_alloc); exact BK614.out⟩, ⟨by repeat (first | (with_reducible first | exact HI0.out | apply IsS91.alloc | apply IsS91.drewN | apply IsS91.drew | apply IsS91.set_1 | refine IsS91.far ?_ NB0_608.out _ | refine IsS91.far ?_ NB0_614.out _) | exact HI0.out)⟩, ⟨by repeat (first | (with_reducible first | exact HK.out | apply KeepBut.set_ | apply keep_drewN | apply keep_drew | apply keep_alloc | refine keep_far ?_ GW608.out _ | refine keep_far ?_ GW614.out _) | exact HK.out)⟩, ⟨by repeat (first | (with_reducible first | exact HB.out | apply below_alloc | apply pw_below_drewN | apply below_drew1 | refine below_set ?_ (IsS91.ge HI0.out) | refine below_set ?_ GE608.out | refine below_set ?_ GE614.out) | exact HB.out)⟩⟩
    ·rw [if_neg c13] at H
     have c13b0 : decide (0 < x4_1) = false := decide_eq_false c13
     clear c13
     (first | rw [c13b0] | (simp only [i64_w, i32_w]; rw [c13b0]) | skip)
     have H' := Aside0.mk H
     clear H
     go_wp2
     go_meet
     case rel => exact ⟨_, (false), (by first | rfl | (simp; done) | (simp [*]; done)), H', ⟨by have := HK1.out; first | omega | exact Nat.le_refl _⟩, ⟨by (with_reducible repeat apply Kd.Q_alloc); exact HO_615001.out⟩, ⟨by (with_reducible repeat apply blk_alloc); exact BK608.out⟩, ⟨by (with_reducible repeat apply blk_alloc); exact BK614.out⟩, ⟨by repeat (first | (with_reducible first | exact HI0.out | apply IsS91.alloc | apply IsS91.drewN | apply IsS91.drew | apply IsS91.set_1 | refine IsS91.far ?_ NB0_608.out _ | refine IsS91.far ?_ NB0_614.out _) | exact HI0.out)⟩, ⟨by repeat (first | (with_reducible first | exact HK.out | apply KeepBut.set_ | apply keep_drewN | apply keep_drew | apply keep_alloc | refine keep_far ?_ GW608.out _ | refine keep_far ?_ GW614.out _) | exact HK.out)⟩, ⟨by repeat (first | (with_reducible first | exact HB.out | apply below_alloc | apply pw_below_drewN | apply below_drew1 | refine below_set ?_ (IsS91.ge HI0.out) | refine below_set ?_ GE608.out | refine below_set ?_ GE614.out) | exact HB.out)⟩⟩
   case rest =>
    clear HC12
    try clear c1
    try clear p2
    try clear c4
    try clear c7
    try clear c8
    try clear c13
    try clear c13b0
    try clear c14
    try clear c15
    try clear hcz16_0
    try clear hcz16_1
    try clear hcz9_0
    try clear hcz9_1
    try clear hfz16_0
    try clear hfz16_1
    try clear hfz9_0
    try clear hfz9_1
    try clear p2
    obtain ⟨kq, x16_11, rfl, HA, HJ11, HO_615001, BK608, BK614, HI0, HK, HB⟩ := hcut
    cases kq with
    | zero => exact absurd HA.out (by simp [spec_l71Bright.j1])
    | succ kj11 =>
     have H := HA.out
     clear HA
     simp only [spec_l71Bright.j1] at H
     by_cases c18 : x16_11 = true
     ·subst c18
      have H1 : ((spec_l6Rd_pick.f kj11 s0_0 x1001_1 (x615001_1.length : Int)).bind fun bt617 => ((some (([2, 3, 4, 5] : List Int) : List Int)).bind fun y619 => ((spec_l6Rd_pick.f kj11 s0_0 bt617.2 4).bind fun bt622 => (if 0 <= bt622.1 then (if bt622.1 < (y619.length : Int) then (if 0 <= bt617.1 then (if bt617.1 < (x615001_1.length : Int) then (spec_l71Bright.l0 kj11 (wrap64 (x4_1 - 1)) s0_0 bt622.2 t609 (x615001_1.set (bt617.1 : Int).toNat (⟨rd y619 bt622.1, 0⟩ : S42))) else (none)) else (none)) else (none)) else (none))))) = some (r1, r2, r3) := by rw [if_pos rfl] at H; exact H
      clear H
      have H := H1
      clear H1
      replace H := Option.bind_eq_some_iff.mp H
      obtain ⟨⟨t617, t618⟩, A190, H⟩ := H
      replace H : ((some (([2, 3, 4, 5] : List Int) : List Int)).bind fun y619 => ((spec_l6Rd_pick.f kj11 s0_0 t618 4).bind fun bt622 => (if 0 <= bt622.1 then (if bt622.1 < (y619.length : Int) then (if 0 <= t617 then (if t617 < (x615001_1.length : Int) then (spec_l71Bright.l0 kj11 (wrap64 (x4_1 - 1)) s0_0 bt622.2 t609 (x615001_1.set (t617 : Int).toNat (⟨rd y619 bt622.1, 0⟩ : S42))) else (none)) else (none)) else (none)) else (none)))) = some (r1, r2, r3) := H
      have A19 := Aside0.mk A190
      clear A190
      obtain ⟨y619, hy619⟩ : ∃ y_ : List Int, y_ = (([2, 3, 4, 5] : List Int)) := ⟨_, rfl⟩
      replace H : ((spec_l6Rd_pick.f kj11 s0_0 t618 4).bind fun bt622 => (if 0 <= bt622.1 then (if bt622.1 < (y619.length : Int) then (if 0 <= t617 then (if t617 < (x615001_1.length : Int) then (spec_l71Bright.l0 kj11 (wrap64 (x4_1 - 1)) s0_0 bt622.2 t609 (x615001_1.set (t617 : Int).toNat (⟨rd y619 bt622.1, 0⟩ : S42))) else (none)) else (none)) else (none)) else (none))) = some (r1, r2, r3) := by first | (rw [hy619]; with_reducible exact H) | (have H2_ := (Option.bind_some _ _).symm.trans H; rw [hy619]; with_reducible exact H2_) | (have H2_ := (Option.bind_some _ _).symm.trans H; with_reducible exact H2_) | with_reducible exact H | (rw [hy619]; exact H) | exact H
      have Ny619 := Aside0.mk hy619
      clear hy619
      replace H := Option.bind_eq_some_iff.mp H
      obtain ⟨⟨t622, t623⟩, A200, H⟩ := H
      replace H : (if 0 <= t622 then (if t622 < (y619.length : Int) then (if 0 <= t617 then (if t617 < (x615001_1.length : Int) then (spec_l71Bright.l0 kj11 (wrap64 (x4_1 - 1)) s0_0 t623 t609 (x615001_1.set (t617 : Int).toNat (⟨rd y619 t622, 0⟩ : S42))) else (none)) else (none)) else (none)) else (none)) = some (r1, r2, r3) := H
      have A20 := Aside0.mk A200
      clear A200
      by_cases c21 : 0 <= t622
      ·rw [if_pos c21] at H
       have c21b0 : decide (0 <= t622) = true := decide_eq_true c21
       clear c21
       by_cases c22 : t622 < (y619.length : Int)
       ·rw [if_pos c22] at H
        have c22b0 : decide (t622 < (y619.length : Int)) = true := decide_eq_true c22
        clear c22
        by_cases c23 : 0 <= t617
        ·rw [if_pos c23] at H
         have c23b0 : decide (0 <= t617) = true := decide_eq_true c23
         clear c23
         by_cases c24 : t617 < (x615001_1.length : Int)
         ·rw [if_pos c24] at H
          have c24b0 : decide (t617 < (x615001_1.length : Int)) = true := decide_eq_true c24
          clear c24
          obtain ⟨y625, hy625⟩ : ∃ y_ : List (S42), y_ = (x615001_1.set (t617 : Int).toNat (⟨rd y619 t622, 0⟩ : S42)) := ⟨_, rfl⟩
          replace H : (spec_l71Bright.l0 kj11 (wrap64 (x4_1 - 1)) s0_0 t623 t609 y625) = some (r1, r2, r3) := by first | (rw [hy625]; with_reducible exact H) | (have H2_ := (Option.bind_some _ _).symm.trans H; rw [hy625]; with_reducible exact H2_) | (have H2_ := (Option.bind_some _ _).symm.trans H; with_reducible exact H2_) | with_reducible exact H | (rw [hy625]; exact H) | exact H
          have Ny625 := Aside0.mk hy625
          clear hy625
          have H' := Aside0.mk H
          clear H
          try go_wp2
          have pi624 : (0 <= (t622 : Int)) = True := eq_true (of_decide_eq_true (by first | (with_reducible assumption) | assumption))
          have qi624 : (t622 < (y619.length : Int)) = True := eq_true (of_decide_eq_true (by first | (with_reducible assumption) | assumption))
          have n0_ := Aside0.mk (Kd.Q_drew HO_615001.out)
          have n1_ := Aside0.mk (blk_drew BK608.out)
          have n2_ := Aside0.mk (blk_drew BK614.out)
          have n3_ := Aside0.mk (IsS91.drew HI0.out)
          have n4_ := Aside0.mk (keep_drew HK.out)
          have n5_ := Aside0.mk (below_drew1 HB.out)
          clear HO_615001
          clear BK608
          clear BK614
          clear HI0
          clear HK
          clear HB
          have HO_615001 := n0_
          have BK608 := n1_
          have BK614 := n2_
          have HI0 := n3_
          have HK := n4_
          have HB := n5_
          clear n0_ n1_ n2_ n3_ n4_ n5_
          obtain ⟨Ao27, co27, eo27, _⟩ := Kd.Q_slice HO_615001.out
          (first | subst eo27 | (injection eo27 with f1_ f2_ f3_; have f4_ := f1_.symm; have f5_ := f3_.symm; clear f1_ f2_ f3_; subst f4_; subst f5_))
          refine start_ (n := 15) (S := fun w' => w'.cell? ⟨gb614, 0, none⟩ = some (.int .i64 t609) ∧ w'.cell? ⟨gb614, 1, none⟩ = some (.slice Ao27 x615001_1.length co27)) (ds := [14]) #[false, false, false, false, false, false, false, false, false, false, false, false, false, false, false] (by kernel_rfl) rfl rfl ⟨(blk_cell BK614.out 0).trans rfl, (blk_cell BK614.out 1).trans rfl⟩ (fun hHeld => ?_); refine with_tabW spec_l71Bright.tab5 spec_l71Bright.bits5 (fun HT_ HW_ => ?_)
          generalize wc.drew = w26 at HO_615001 BK608 BK614 HI0 HK HB hHeld ⊢
          refine pure_ (i := 0) (N := some 19) (v := ?_) (a' := ?_) #[true, false, false, false, false, false, false, false, false, false, false, false, false, false, false] rfl rfl (any_of HT_.out (by kernel_rfl)) (fun _ _ _ h => h) (Or.inl ⟨by rfl, ?_⟩) ?_ ?_
          rotate_left
          ·intro w'
           go_simp
           with_reducible rfl
          rotate_left
          ·simp only [Act.put, sA_, sZ_, sS_, i64_w, i32_w]
           rfl
          refine pure_ (i := 2) (N := some 21) (v := ?_) (a' := ?_) #[true, false, true, false, false, false, false, false, false, false, false, false, false, false, false] rfl rfl (any_of HT_.out (by kernel_rfl)) (fun _ _ _ h => h) (Or.inl ⟨by rfl, ?_⟩) ?_ ?_
          rotate_left
          ·intro w'
           go_simp
           with_reducible rfl
          rotate_left
          ·simp only [Act.put, sA_, sZ_, sS_, i64_w, i32_w]
           rfl
          refine pure_ (i := 3) (N := some 22) (v := ?_) (a' := ?_) #[true, false, true, true, false, false, false, false, false, false, false, false, false, false, false] rfl rfl (any_of HT_.out (by kernel_rfl)) (fun _ _ _ h => h) (Or.inl ⟨by rfl, ?_⟩) ?_ ?_
          rotate_left
          ·intro w'
           go_simp
           with_reducible rfl
          rotate_left
          ·simp only [Act.put, sA_, sZ_, sS_, i64_w, i32_w]
           rfl
          refine pure_ (i := 8) (N := some 27) (v := ?_) (a' := ?_) #[true, false, true, true, false, false, false, false, true, false, false, false, false, false, false] rfl rfl (any_of HT_.out (by kernel_rfl)) (fun _ _ _ h => h) (Or.inl ⟨by rfl, ?_⟩) ?_ ?_
          rotate_left
          ·intro w'
           go_simp
           with_reducible rfl
          rotate_left
          ·simp only [Act.put, sA_, sZ_, sS_, i64_w, i32_w]
           rfl
          refine take_ (i := 1) (N := some 20) (v := ?_) (a' := ?_) #[true, true, true, true, false, false, false, false, true, false, false, false, false, false, false] rfl rfl (take_ofW HT_.out HW_.out (by kernel_rfl)) (fun _ _ _ h => h) (Or.inl ⟨by rfl, ?_⟩) hHeld ?_ ?_
          rotate_left
          ·rintro w' ⟨s0, s1⟩
           go_simp
           with_reducible rfl
          rotate_left
          ·simp only [Act.put, sA_, sZ_, sS_, i64_w, i32_w]
           rfl
          refine take_ (i := 4) (N := some 23) (v := ?_) (a' := ?_) #[true, true, true, true, true, false, false, false, true, false, false, false, false, false, false] rfl rfl (take_ofW HT_.out HW_.out (by kernel_rfl)) (fun _ _ _ h => h) (Or.inl ⟨by rfl, ?_⟩) hHeld ?_ ?_
          rotate_left
          ·rintro w' ⟨s0, s1⟩
           go_simp
           with_reducible rfl
          rotate_left
          ·simp only [Act.put, sA_, sZ_, sS_, i64_w, i32_w]
           rfl
          refine pure_ (i := 5) (N := some 24) (v := ?_) (a' := ?_) #[true, true, true, true, true, true, false, false, true, false, false, false, false, false, false] rfl rfl (any_of HT_.out (by kernel_rfl)) (fun _ _ _ h => h) (Or.inl ⟨by rfl, ?_⟩) ?_ ?_
          rotate_left
          ·intro w'
           go_simp
           with_reducible rfl
          rotate_left
          ·simp only [Act.put, sA_, sZ_, sS_, i64_w, i32_w]
           rfl
          refine join_ (σ := Value × Addr) 5 #[true, true, true, true, true, true, true, true, true, true, false, false, false, false, false] (fun s_ => [(25, .int .i64 t617), (26, s_.1), (28, .int .i64 t622)]) (fun s_ w' => (w'.cell? ⟨gb614, 0, none⟩ = some (.int .i64 t609) ∧ w'.cell? ⟨gb614, 1, none⟩ = some (.slice Ao27 x615001_1.length co27)) ∧ (Kd.R (Kd.int .i64) 3 w' w.heap.size (fun _ => True) s_.1 y619) ∧ (Kd.Q k42 42 w' w.heap.size (fun _ => True) (.slice Ao27 x615001_1.length co27) x615001_1) ∧ (∃ c_, (s_.1 : Value) = .slice (some s_.2) y619.length c_) ∧ (w'.heap[gb608]? = some (.cells #[.int .i64 0, .slice none 0 0] 25 (0, 0))) ∧ (w'.heap[gb614]? = some (.cells #[.int .i64 t609, .slice Ao27 x615001_1.length co27] 25 (0, 0))) ∧ (IsS91 w0 w' g s0_0 t623) ∧ (KeepBut w w' g none) ∧ (Below w0.heap.size w0 w')) ?_ ?_
          rotate_left
          ·intro hCont
           refine two_ (i := 6) (j := 7) (Ni := some 25) (Nj := some 26) #[true, true, true, true, true, true, true, false, true, false, false, false, false, false, false] #[true, true, true, true, true, true, false, true, true, false, false, false, false, false, false] rfl rfl rfl rfl (two_of HT_.out (by kernel_rfl)) (by decide) (by decide) (fun K hK => ?_) (fun K hK => ?_)
           ·skip
            refine goes_ Try.func42 (by kernel_rfl) rfl #[.pointer (some ⟨g, 0, none⟩), .int .i64 (x615001_1.length : Int)] (by rfl) rfl rfl (by first | rfl | (simp only [List.map_toArray, List.map_cons, List.map_nil, List.length_drop, List.length_take]; try rfl)) ?_
            with_reducible refine (spec_l6Rd_pick.calls kj11 g s0_0 x1001_1 (x615001_1.length : Int) t617 t618 w0 _ ?side1 ?side2 A19.out).mono ?_
            (case side1 => repeat (first | (with_reducible first | exact HI0.out | apply IsS91.alloc | apply IsS91.drewN | apply IsS91.drew | apply IsS91.set_1 | refine IsS91.far ?_ NB0_608.out _ | refine IsS91.far ?_ NB0_614.out _) | exact HI0.out))
            (case side2 => repeat (first | (with_reducible first | exact HB.out | apply below_alloc | apply pw_below_drewN | apply below_drew1 | refine below_set ?_ (IsS91.ge HI0.out) | refine below_set ?_ GE608.out | refine below_set ?_ GE614.out) | exact HB.out))
            rintro e w28 ⟨rfl, hi, hb, hk⟩
            refine ⟨_, rfl, ?_⟩
            have n0_ := Aside0.mk (Kd.Q_mono (Kd.Q_keep (IsS91.apartQ (show IsS91 w0 _ g s0_0 x1001_1 from by repeat (first | (with_reducible first | exact HI0.out | apply IsS91.alloc | apply IsS91.drewN | apply IsS91.drew | apply IsS91.set_1 | refine IsS91.far ?_ NB0_608.out _ | refine IsS91.far ?_ NB0_614.out _) | exact HI0.out)) (by (with_reducible repeat apply Kd.Q_alloc); exact HO_615001.out) (by decide)) hk (fun _ h => h.2)) (fun _ h => h.1))
            have n1_ := Aside0.mk (KeepBut.blk hk (g' := gb608) (o := .cells #[.int .i64 0, .slice none 0 0] 25 (0, 0)) (bK BK608.out) NB608_0.out (by simp))
            have n2_ := Aside0.mk (KeepBut.blk hk (g' := gb614) (o := .cells #[.int .i64 t609, .slice Ao27 x615001_1.length co27] 25 (0, 0)) (bK BK614.out) NB614_0.out (by simp))
            have n3_ := Aside0.mk (KeepBut.trans (by repeat (first | (with_reducible first | exact HK.out | apply KeepBut.set_ | apply keep_drewN | apply keep_drew | apply keep_alloc | refine keep_far ?_ GW608.out _ | refine keep_far ?_ GW614.out _) | exact HK.out)) hk (.inl rfl))
            have n4_ := Aside0.mk (hb)
            have n5_ := Aside0.mk (hi)
            clear HO_615001
            clear BK608
            clear BK614
            clear HK
            clear HB
            clear HI0
            have HO_615001 := n0_
            have BK608 := n1_
            have BK614 := n2_
            have HK := n3_
            have HB := n4_
            have HI0 := n5_
            clear n0_ n1_ n2_ n3_ n4_ n5_
            (try clear hb)
            (try clear hb2)
            (try clear hk)
            (try clear hi)
            refine hK.out _ _ ⟨(blk_cell BK614.out 0).trans rfl, (blk_cell BK614.out 1).trans rfl⟩ (fun hHeld => ?_)
            clear hK K
            refine norm_ (a' := ?_) ?_ ?_
            rotate_left
            ·show Act.put _ (some 25) _ = _
             simp only [Act.put, sA_, sZ_, sS_, i64_w, i32_w]
             rfl
            refine two_ (i := 7) (j := 9) (Ni := some 26) (Nj := some 28) #[true, true, true, true, true, true, true, true, true, false, false, false, false, false, false] #[true, true, true, true, true, true, true, false, true, true, false, false, false, false, false] rfl rfl rfl rfl (two_of HT_.out (by kernel_rfl)) (by decide) (by decide) (fun K hK => ?_) (fun K hK => ?_)
            ·skip
             refine Kd.R_lit_step (Kd.int .i64) _ 3 ?hg (N := 26) ?hd (xs := ([2, 3, 4, 5] : List Int)) (inner := [.int .i64 2, .int .i64 3, .int .i64 4, .int .i64 5]) (ok := fun _ => True) (okp := fun _ => True) ?hr ?hp (fun _ hk => hk) trivial (Below.refl _ _) (Nat.le_refl _) (by simp) ?_; (case hd => rfl); (case hg => rfl); (case hr => first | (go_simp; done) | (go_simp; rfl)); (case hp => exact (Reps.one (show Kd.M (Kd.int .i64) _ _ _ 2 [.int .i64 2] from rfl) (Reps.one (show Kd.M (Kd.int .i64) _ _ _ 3 [.int .i64 3] from rfl) (Reps.one (show Kd.M (Kd.int .i64) _ _ _ 4 [.int .i64 4] from rfl) (Reps.one (show Kd.M (Kd.int .i64) _ _ _ 5 [.int .i64 5] from rfl) (Reps.none _ _))))))
             intro v620 w29 ho30 hb hg_ hnew_
             clear hg_ hnew_
             (first | rw [<- Ny619.out] at ho30 | (simp only [Int.reduceToNat] at ho30; rw [<- Ny619.out] at ho30))
             have n0_ := Aside0.mk (Kd.Q_below (by (with_reducible repeat apply Kd.Q_alloc); exact HO_615001.out) hb)
             have n1_ := Aside0.mk (Kd.R_lower ho30 (keep_size (w := w) (g := g) (row := none) (by repeat (first | (with_reducible first | exact HK.out | apply KeepBut.set_ | apply keep_drewN | apply keep_drew | apply keep_alloc | refine keep_far ?_ GW608.out _ | refine keep_far ?_ GW614.out _) | exact HK.out))))
             have n2_ := Aside0.mk (blk_below (bK BK608.out) hb)
             have n3_ := Aside0.mk (blk_below (bK BK614.out) hb)
             have n4_ := Aside0.mk (IsS91.below (by repeat (first | (with_reducible first | exact HI0.out | apply IsS91.alloc | apply IsS91.drewN | apply IsS91.drew | apply IsS91.set_1 | refine IsS91.far ?_ NB0_608.out _ | refine IsS91.far ?_ NB0_614.out _) | exact HI0.out)) hb)
             have n5_ := Aside0.mk (KeepBut.trans (by repeat (first | (with_reducible first | exact HK.out | apply KeepBut.set_ | apply keep_drewN | apply keep_drew | apply keep_alloc | refine keep_far ?_ GW608.out _ | refine keep_far ?_ GW614.out _) | exact HK.out)) (KeepBut.of_below hb g none) (.inl rfl))
             have n6_ := Aside0.mk (below_step (by repeat (first | (with_reducible first | exact HB.out | apply below_alloc | apply pw_below_drewN | apply below_drew1 | refine below_set ?_ (IsS91.ge HI0.out) | refine below_set ?_ GE608.out | refine below_set ?_ GE614.out) | exact HB.out)) hb)
             clear HO_615001
             clear BK608
             clear BK614
             clear HI0
             clear HK
             clear HB
             have HO_615001 := n0_
             have HO621 := n1_
             have BK608 := n2_
             have BK614 := n3_
             have HI0 := n4_
             have HK := n5_
             have HB := n6_
             clear n0_ n1_ n2_ n3_ n4_ n5_ n6_
             clear hb ho30
             obtain ⟨Ao31, co31, eo31⟩ := Kd.R_slice HO621.out
             subst eo31
             obtain ⟨ado31, fo31, _⟩ := Kd.at_int (Kd.R_reads' HO621.out).2.2 0 (by decide) (by rw [Ny619.out]; simp)
             cases fo31
             refine hK.out _ _ ⟨(blk_cell BK614.out 0).trans rfl, (blk_cell BK614.out 1).trans rfl⟩ (fun hHeld => ?_)
             clear hK K
             refine norm_ (a' := ?_) ?_ ?_
             rotate_left
             ·show Act.put _ (some 26) _ = _
              simp only [Act.put, sA_, sZ_, sS_, i64_w, i32_w]
              rfl
             refine one_ (i := 9) (N := some 28) #[true, true, true, true, true, true, true, true, true, true, false, false, false, false, false] rfl rfl (one_of HT_.out (by kernel_rfl)) (by decide) (fun K hK => ?_)
             refine goes_ Try.func42 (by kernel_rfl) rfl #[.pointer (some ⟨g, 0, none⟩), .int .i64 4] (by rfl) rfl rfl (by first | rfl | (simp only [List.map_toArray, List.map_cons, List.map_nil, List.length_drop, List.length_take]; try rfl)) ?_
             with_reducible refine (spec_l6Rd_pick.calls kj11 g s0_0 t618 4 t622 t623 w0 _ ?side1 ?side2 A20.out).mono ?_
             (case side1 => repeat (first | (with_reducible first | exact HI0.out | apply IsS91.alloc | apply IsS91.drewN | apply IsS91.drew | apply IsS91.set_1 | refine IsS91.far ?_ NB0_608.out _ | refine IsS91.far ?_ NB0_614.out _) | exact HI0.out))
             (case side2 => repeat (first | (with_reducible first | exact HB.out | apply below_alloc | apply pw_below_drewN | apply below_drew1 | refine below_set ?_ (IsS91.ge HI0.out) | refine below_set ?_ GE608.out | refine below_set ?_ GE614.out) | exact HB.out))
             rintro e w32 ⟨rfl, hi, hb, hk⟩
             refine ⟨_, rfl, ?_⟩
             have n0_ := Aside0.mk (Kd.Q_mono (Kd.Q_keep (IsS91.apartQ (show IsS91 w0 _ g s0_0 t618 from by repeat (first | (with_reducible first | exact HI0.out | apply IsS91.alloc | apply IsS91.drewN | apply IsS91.drew | apply IsS91.set_1 | refine IsS91.far ?_ NB0_608.out _ | refine IsS91.far ?_ NB0_614.out _) | exact HI0.out)) (by (with_reducible repeat apply Kd.Q_alloc); exact HO_615001.out) (by decide)) hk (fun _ h => h.2)) (fun _ h => h.1))
             have n1_ := Aside0.mk (KeepBut.blk hk (g' := gb608) (o := .cells #[.int .i64 0, .slice none 0 0] 25 (0, 0)) (bK BK608.out) NB608_0.out (by simp))
             have n2_ := Aside0.mk (KeepBut.blk hk (g' := gb614) (o := .cells #[.int .i64 t609, .slice Ao27 x615001_1.length co27] 25 (0, 0)) (bK BK614.out) NB614_0.out (by simp))
             have n3_ := Aside0.mk (Kd.R_mono (Kd.R_keep (IsS91.apart (show IsS91 w0 _ g s0_0 t618 from by repeat (first | (with_reducible first | exact HI0.out | apply IsS91.alloc | apply IsS91.drewN | apply IsS91.drew | apply IsS91.set_1 | refine IsS91.far ?_ NB0_608.out _ | refine IsS91.far ?_ NB0_614.out _) | exact HI0.out)) (kR HO621.out) (by decide)) hk (fun _ h => h.2)) (fun _ h => h.1))
             have n4_ := Aside0.mk (KeepBut.trans (by repeat (first | (with_reducible first | exact HK.out | apply KeepBut.set_ | apply keep_drewN | apply keep_drew | apply keep_alloc | refine keep_far ?_ GW608.out _ | refine keep_far ?_ GW614.out _) | exact HK.out)) hk (.inl rfl))
             have n5_ := Aside0.mk (hb)
             have n6_ := Aside0.mk (hi)
             clear HO_615001
             clear BK608
             clear BK614
             clear HO621
             clear HK
             clear HB
             clear HI0
             have HO_615001 := n0_
             have BK608 := n1_
             have BK614 := n2_
             have HO621 := n3_
             have HK := n4_
             have HB := n5_
             have HI0 := n6_
             clear n0_ n1_ n2_ n3_ n4_ n5_ n6_
             (try clear hb)
             (try clear hb2)
             (try clear hk)
             (try clear hi)
             refine hK.out _ _ ⟨(blk_cell BK614.out 0).trans rfl, (blk_cell BK614.out 1).trans rfl⟩ (fun hHeld => ?_)
             clear hK K
             refine norm_ (a' := ?_) ?_ ?_
             rotate_left
             ·show Act.put _ (some 28) _ = _
              simp only [Act.put, sA_, sZ_, sS_, i64_w, i32_w]
              rfl
             exact norm_ (by simp only [putAll, Act.put, List.setIfInBounds_toArray, List.set_cons_zero, List.set_cons_succ]) (hCont (.slice (some ado31) y619.length co31, ado31) _ ⟨hHeld, (kR HO621.out), (by (with_reducible repeat apply Kd.Q_alloc); exact HO_615001.out), ⟨_, rfl⟩, (bK BK608.out), (bK BK614.out), (by repeat (first | (with_reducible first | exact HI0.out | apply IsS91.alloc | apply IsS91.drewN | apply IsS91.drew | apply IsS91.set_1 | refine IsS91.far ?_ NB0_608.out _ | refine IsS91.far ?_ NB0_614.out _) | exact HI0.out)), (by repeat (first | (with_reducible first | exact HK.out | apply KeepBut.set_ | apply keep_drewN | apply keep_drew | apply keep_alloc | refine keep_far ?_ GW608.out _ | refine keep_far ?_ GW614.out _) | exact HK.out)), (by repeat (first | (with_reducible first | exact HB.out | apply below_alloc | apply pw_below_drewN | apply below_drew1 | refine below_set ?_ (IsS91.ge HI0.out) | refine below_set ?_ GE608.out | refine below_set ?_ GE614.out) | exact HB.out))⟩)
            ·skip
             refine goes_ Try.func42 (by kernel_rfl) rfl #[.pointer (some ⟨g, 0, none⟩), .int .i64 4] (by rfl) rfl rfl (by first | rfl | (simp only [List.map_toArray, List.map_cons, List.map_nil, List.length_drop, List.length_take]; try rfl)) ?_
             with_reducible refine (spec_l6Rd_pick.calls kj11 g s0_0 t618 4 t622 t623 w0 _ ?side1 ?side2 A20.out).mono ?_
             (case side1 => repeat (first | (with_reducible first | exact HI0.out | apply IsS91.alloc | apply IsS91.drewN | apply IsS91.drew | apply IsS91.set_1 | refine IsS91.far ?_ NB0_608.out _ | refine IsS91.far ?_ NB0_614.out _) | exact HI0.out))
             (case side2 => repeat (first | (with_reducible first | exact HB.out | apply below_alloc | apply pw_below_drewN | apply below_drew1 | refine below_set ?_ (IsS91.ge HI0.out) | refine below_set ?_ GE608.out | refine below_set ?_ GE614.out) | exact HB.out))
             rintro e w29 ⟨rfl, hi, hb, hk⟩
             refine ⟨_, rfl, ?_⟩
             have n0_ := Aside0.mk (Kd.Q_mono (Kd.Q_keep (IsS91.apartQ (show IsS91 w0 _ g s0_0 t618 from by repeat (first | (with_reducible first | exact HI0.out | apply IsS91.alloc | apply IsS91.drewN | apply IsS91.drew | apply IsS91.set_1 | refine IsS91.far ?_ NB0_608.out _ | refine IsS91.far ?_ NB0_614.out _) | exact HI0.out)) (by (with_reducible repeat apply Kd.Q_alloc); exact HO_615001.out) (by decide)) hk (fun _ h => h.2)) (fun _ h => h.1))
             have n1_ := Aside0.mk (KeepBut.blk hk (g' := gb608) (o := .cells #[.int .i64 0, .slice none 0 0] 25 (0, 0)) (bK BK608.out) NB608_0.out (by simp))
             have n2_ := Aside0.mk (KeepBut.blk hk (g' := gb614) (o := .cells #[.int .i64 t609, .slice Ao27 x615001_1.length co27] 25 (0, 0)) (bK BK614.out) NB614_0.out (by simp))
             have n3_ := Aside0.mk (KeepBut.trans (by repeat (first | (with_reducible first | exact HK.out | apply KeepBut.set_ | apply keep_drewN | apply keep_drew | apply keep_alloc | refine keep_far ?_ GW608.out _ | refine keep_far ?_ GW614.out _) | exact HK.out)) hk (.inl rfl))
             have n4_ := Aside0.mk (hb)
             have n5_ := Aside0.mk (hi)
             clear HO_615001
             clear BK608
             clear BK614
             clear HK
             clear HB
             clear HI0
             have HO_615001 := n0_
             have BK608 := n1_
             have BK614 := n2_
             have HK := n3_
             have HB := n4_
             have HI0 := n5_
             clear n0_ n1_ n2_ n3_ n4_ n5_
             (try clear hb)
             (try clear hb2)
             (try clear hk)
             (try clear hi)
             refine hK.out _ _ ⟨(blk_cell BK614.out 0).trans rfl, (blk_cell BK614.out 1).trans rfl⟩ (fun hHeld => ?_)
             clear hK K
             refine norm_ (a' := ?_) ?_ ?_
             rotate_left
             ·show Act.put _ (some 28) _ = _
              simp only [Act.put, sA_, sZ_, sS_, i64_w, i32_w]
              rfl
             refine one_ (i := 7) (N := some 26) #[true, true, true, true, true, true, true, true, true, true, false, false, false, false, false] rfl rfl (one_of HT_.out (by kernel_rfl)) (by decide) (fun K hK => ?_)
             refine Kd.R_lit_step (Kd.int .i64) _ 3 ?hg (N := 26) ?hd (xs := ([2, 3, 4, 5] : List Int)) (inner := [.int .i64 2, .int .i64 3, .int .i64 4, .int .i64 5]) (ok := fun _ => True) (okp := fun _ => True) ?hr ?hp (fun _ hk => hk) trivial (Below.refl _ _) (Nat.le_refl _) (by simp) ?_; (case hd => rfl); (case hg => rfl); (case hr => first | (go_simp; done) | (go_simp; rfl)); (case hp => exact (Reps.one (show Kd.M (Kd.int .i64) _ _ _ 2 [.int .i64 2] from rfl) (Reps.one (show Kd.M (Kd.int .i64) _ _ _ 3 [.int .i64 3] from rfl) (Reps.one (show Kd.M (Kd.int .i64) _ _ _ 4 [.int .i64 4] from rfl) (Reps.one (show Kd.M (Kd.int .i64) _ _ _ 5 [.int .i64 5] from rfl) (Reps.none _ _))))))
             intro v620 w30 ho31 hb hg_ hnew_
             clear hg_ hnew_
             (first | rw [<- Ny619.out] at ho31 | (simp only [Int.reduceToNat] at ho31; rw [<- Ny619.out] at ho31))
             have n0_ := Aside0.mk (Kd.Q_below (by (with_reducible repeat apply Kd.Q_alloc); exact HO_615001.out) hb)
             have n1_ := Aside0.mk (Kd.R_lower ho31 (keep_size (w := w) (g := g) (row := none) (by repeat (first | (with_reducible first | exact HK.out | apply KeepBut.set_ | apply keep_drewN | apply keep_drew | apply keep_alloc | refine keep_far ?_ GW608.out _ | refine keep_far ?_ GW614.out _) | exact HK.out))))
             have n2_ := Aside0.mk (blk_below (bK BK608.out) hb)
             have n3_ := Aside0.mk (blk_below (bK BK614.out) hb)
             have n4_ := Aside0.mk (IsS91.below (by repeat (first | (with_reducible first | exact HI0.out | apply IsS91.alloc | apply IsS91.drewN | apply IsS91.drew | apply IsS91.set_1 | refine IsS91.far ?_ NB0_608.out _ | refine IsS91.far ?_ NB0_614.out _) | exact HI0.out)) hb)
             have n5_ := Aside0.mk (KeepBut.trans (by repeat (first | (with_reducible first | exact HK.out | apply KeepBut.set_ | apply keep_drewN | apply keep_drew | apply keep_alloc | refine keep_far ?_ GW608.out _ | refine keep_far ?_ GW614.out _) | exact HK.out)) (KeepBut.of_below hb g none) (.inl rfl))
             have n6_ := Aside0.mk (below_step (by repeat (first | (with_reducible first | exact HB.out | apply below_alloc | apply pw_below_drewN | apply below_drew1 | refine below_set ?_ (IsS91.ge HI0.out) | refine below_set ?_ GE608.out | refine below_set ?_ GE614.out) | exact HB.out)) hb)
             clear HO_615001
             clear BK608
             clear BK614
             clear HI0
             clear HK
             clear HB
             have HO_615001 := n0_
             have HO621 := n1_
             have BK608 := n2_
             have BK614 := n3_
             have HI0 := n4_
             have HK := n5_
             have HB := n6_
             clear n0_ n1_ n2_ n3_ n4_ n5_ n6_
             clear hb ho31
             obtain ⟨Ao32, co32, eo32⟩ := Kd.R_slice HO621.out
             subst eo32
             obtain ⟨ado32, fo32, _⟩ := Kd.at_int (Kd.R_reads' HO621.out).2.2 0 (by decide) (by rw [Ny619.out]; simp)
             cases fo32
             refine hK.out _ _ ⟨(blk_cell BK614.out 0).trans rfl, (blk_cell BK614.out 1).trans rfl⟩ (fun hHeld => ?_)
             clear hK K
             refine norm_ (a' := ?_) ?_ ?_
             rotate_left
             ·show Act.put _ (some 26) _ = _
              simp only [Act.put, sA_, sZ_, sS_, i64_w, i32_w]
              rfl
             exact norm_ (by simp only [putAll, Act.put, List.setIfInBounds_toArray, List.set_cons_zero, List.set_cons_succ]) (hCont (.slice (some ado32) y619.length co32, ado32) _ ⟨hHeld, (kR HO621.out), (by (with_reducible repeat apply Kd.Q_alloc); exact HO_615001.out), ⟨_, rfl⟩, (bK BK608.out), (bK BK614.out), (by repeat (first | (with_reducible first | exact HI0.out | apply IsS91.alloc | apply IsS91.drewN | apply IsS91.drew | apply IsS91.set_1 | refine IsS91.far ?_ NB0_608.out _ | refine IsS91.far ?_ NB0_614.out _) | exact HI0.out)), (by repeat (first | (with_reducible first | exact HK.out | apply KeepBut.set_ | apply keep_drewN | apply keep_drew | apply keep_alloc | refine keep_far ?_ GW608.out _ | refine keep_far ?_ GW614.out _) | exact HK.out)), (by repeat (first | (with_reducible first | exact HB.out | apply below_alloc | apply pw_below_drewN | apply below_drew1 | refine below_set ?_ (IsS91.ge HI0.out) | refine below_set ?_ GE608.out | refine below_set ?_ GE614.out) | exact HB.out))⟩)
           ·skip
            refine Kd.R_lit_step (Kd.int .i64) _ 3 ?hg (N := 26) ?hd (xs := ([2, 3, 4, 5] : List Int)) (inner := [.int .i64 2, .int .i64 3, .int .i64 4, .int .i64 5]) (ok := fun _ => True) (okp := fun _ => True) ?hr ?hp (fun _ hk => hk) trivial (Below.refl _ _) (Nat.le_refl _) (by simp) ?_; (case hd => rfl); (case hg => rfl); (case hr => first | (go_simp; done) | (go_simp; rfl)); (case hp => exact (Reps.one (show Kd.M (Kd.int .i64) _ _ _ 2 [.int .i64 2] from rfl) (Reps.one (show Kd.M (Kd.int .i64) _ _ _ 3 [.int .i64 3] from rfl) (Reps.one (show Kd.M (Kd.int .i64) _ _ _ 4 [.int .i64 4] from rfl) (Reps.one (show Kd.M (Kd.int .i64) _ _ _ 5 [.int .i64 5] from rfl) (Reps.none _ _))))))
            intro v620 w28 ho29 hb hg_ hnew_
            clear hg_ hnew_
            (first | rw [<- Ny619.out] at ho29 | (simp only [Int.reduceToNat] at ho29; rw [<- Ny619.out] at ho29))
            have n0_ := Aside0.mk (Kd.Q_below (by (with_reducible repeat apply Kd.Q_alloc); exact HO_615001.out) hb)
            have n1_ := Aside0.mk (Kd.R_lower ho29 (keep_size (w := w) (g := g) (row := none) (by repeat (first | (with_reducible first | exact HK.out | apply KeepBut.set_ | apply keep_drewN | apply keep_drew | apply keep_alloc | refine keep_far ?_ GW608.out _ | refine keep_far ?_ GW614.out _) | exact HK.out))))
            have n2_ := Aside0.mk (blk_below (bK BK608.out) hb)
            have n3_ := Aside0.mk (blk_below (bK BK614.out) hb)
            have n4_ := Aside0.mk (IsS91.below (by repeat (first | (with_reducible first | exact HI0.out | apply IsS91.alloc | apply IsS91.drewN | apply IsS91.drew | apply IsS91.set_1 | refine IsS91.far ?_ NB0_608.out _ | refine IsS91.far ?_ NB0_614.out _) | exact HI0.out)) hb)
            have n5_ := Aside0.mk (KeepBut.trans (by repeat (first | (with_reducible first | exact HK.out | apply KeepBut.set_ | apply keep_drewN | apply keep_drew | apply keep_alloc | refine keep_far ?_ GW608.out _ | refine keep_far ?_ GW614.out _) | exact HK.out)) (KeepBut.of_below hb g none) (.inl rfl))
            have n6_ := Aside0.mk (below_step (by repeat (first | (with_reducible first | exact HB.out | apply below_alloc | apply pw_below_drewN | apply below_drew1 | refine below_set ?_ (IsS91.ge HI0.out) | refine below_set ?_ GE608.out | refine below_set ?_ GE614.out) | exact HB.out)) hb)
            clear HO_615001
            clear BK608
            clear BK614
            clear HI0
            clear HK
            clear HB
            have HO_615001 := n0_
            have HO621 := n1_
            have BK608 := n2_
            have BK614 := n3_
            have HI0 := n4_
            have HK := n5_
            have HB := n6_
            clear n0_ n1_ n2_ n3_ n4_ n5_ n6_
            clear hb ho29
            obtain ⟨Ao30, co30, eo30⟩ := Kd.R_slice HO621.out
            subst eo30
            obtain ⟨ado30, fo30, _⟩ := Kd.at_int (Kd.R_reads' HO621.out).2.2 0 (by decide) (by rw [Ny619.out]; simp)
            cases fo30
            refine hK.out _ _ ⟨(blk_cell BK614.out 0).trans rfl, (blk_cell BK614.out 1).trans rfl⟩ (fun hHeld => ?_)
            clear hK K
            refine norm_ (a' := ?_) ?_ ?_
            rotate_left
            ·show Act.put _ (some 26) _ = _
             simp only [Act.put, sA_, sZ_, sS_, i64_w, i32_w]
             rfl
            refine one_ (i := 6) (N := some 25) #[true, true, true, true, true, true, true, true, true, false, false, false, false, false, false] rfl rfl (one_of HT_.out (by kernel_rfl)) (by decide) (fun K hK => ?_)
            refine goes_ Try.func42 (by kernel_rfl) rfl #[.pointer (some ⟨g, 0, none⟩), .int .i64 (x615001_1.length : Int)] (by rfl) rfl rfl (by first | rfl | (simp only [List.map_toArray, List.map_cons, List.map_nil, List.length_drop, List.length_take]; try rfl)) ?_
            with_reducible refine (spec_l6Rd_pick.calls kj11 g s0_0 x1001_1 (x615001_1.length : Int) t617 t618 w0 _ ?side1 ?side2 A19.out).mono ?_
            (case side1 => repeat (first | (with_reducible first | exact HI0.out | apply IsS91.alloc | apply IsS91.drewN | apply IsS91.drew | apply IsS91.set_1 | refine IsS91.far ?_ NB0_608.out _ | refine IsS91.far ?_ NB0_614.out _) | exact HI0.out))
            (case side2 => repeat (first | (with_reducible first | exact HB.out | apply below_alloc | apply pw_below_drewN | apply below_drew1 | refine below_set ?_ (IsS91.ge HI0.out) | refine below_set ?_ GE608.out | refine below_set ?_ GE614.out) | exact HB.out))
            rintro e w31 ⟨rfl, hi, hb, hk⟩
            refine ⟨_, rfl, ?_⟩
            have n0_ := Aside0.mk (Kd.Q_mono (Kd.Q_keep (IsS91.apartQ (show IsS91 w0 _ g s0_0 x1001_1 from by repeat (first | (with_reducible first | exact HI0.out | apply IsS91.alloc | apply IsS91.drewN | apply IsS91.drew | apply IsS91.set_1 | refine IsS91.far ?_ NB0_608.out _ | refine IsS91.far ?_ NB0_614.out _) | exact HI0.out)) (by (with_reducible repeat apply Kd.Q_alloc); exact HO_615001.out) (by decide)) hk (fun _ h => h.2)) (fun _ h => h.1))
            have n1_ := Aside0.mk (KeepBut.blk hk (g' := gb608) (o := .cells #[.int .i64 0, .slice none 0 0] 25 (0, 0)) (bK BK608.out) NB608_0.out (by simp))
            have n2_ := Aside0.mk (KeepBut.blk hk (g' := gb614) (o := .cells #[.int .i64 t609, .slice Ao27 x615001_1.length co27] 25 (0, 0)) (bK BK614.out) NB614_0.out (by simp))
            have n3_ := Aside0.mk (Kd.R_mono (Kd.R_keep (IsS91.apart (show IsS91 w0 _ g s0_0 x1001_1 from by repeat (first | (with_reducible first | exact HI0.out | apply IsS91.alloc | apply IsS91.drewN | apply IsS91.drew | apply IsS91.set_1 | refine IsS91.far ?_ NB0_608.out _ | refine IsS91.far ?_ NB0_614.out _) | exact HI0.out)) (kR HO621.out) (by decide)) hk (fun _ h => h.2)) (fun _ h => h.1))
            have n4_ := Aside0.mk (KeepBut.trans (by repeat (first | (with_reducible first | exact HK.out | apply KeepBut.set_ | apply keep_drewN | apply keep_drew | apply keep_alloc | refine keep_far ?_ GW608.out _ | refine keep_far ?_ GW614.out _) | exact HK.out)) hk (.inl rfl))
            have n5_ := Aside0.mk (hb)
            have n6_ := Aside0.mk (hi)
            clear HO_615001
            clear BK608
            clear BK614
            clear HO621
            clear HK
            clear HB
            clear HI0
            have HO_615001 := n0_
            have BK608 := n1_
            have BK614 := n2_
            have HO621 := n3_
            have HK := n4_
            have HB := n5_
            have HI0 := n6_
            clear n0_ n1_ n2_ n3_ n4_ n5_ n6_
            (try clear hb)
            (try clear hb2)
            (try clear hk)
            (try clear hi)
            refine hK.out _ _ ⟨(blk_cell BK614.out 0).trans rfl, (blk_cell BK614.out 1).trans rfl⟩ (fun hHeld => ?_)
            clear hK K
            refine norm_ (a' := ?_) ?_ ?_
            rotate_left
            ·show Act.put _ (some 25) _ = _
             simp only [Act.put, sA_, sZ_, sS_, i64_w, i32_w]
             rfl
            refine one_ (i := 9) (N := some 28) #[true, true, true, true, true, true, true, true, true, true, false, false, false, false, false] rfl rfl (one_of HT_.out (by kernel_rfl)) (by decide) (fun K hK => ?_)
            refine goes_ Try.func42 (by kernel_rfl) rfl #[.pointer (some ⟨g, 0, none⟩), .int .i64 4] (by rfl) rfl rfl (by first | rfl | (simp only [List.map_toArray, List.map_cons, List.map_nil, List.length_drop, List.length_take]; try rfl)) ?_
            with_reducible refine (spec_l6Rd_pick.calls kj11 g s0_0 t618 4 t622 t623 w0 _ ?side1 ?side2 A20.out).mono ?_
            (case side1 => repeat (first | (with_reducible first | exact HI0.out | apply IsS91.alloc | apply IsS91.drewN | apply IsS91.drew | apply IsS91.set_1 | refine IsS91.far ?_ NB0_608.out _ | refine IsS91.far ?_ NB0_614.out _) | exact HI0.out))
            (case side2 => repeat (first | (with_reducible first | exact HB.out | apply below_alloc | apply pw_below_drewN | apply below_drew1 | refine below_set ?_ (IsS91.ge HI0.out) | refine below_set ?_ GE608.out | refine below_set ?_ GE614.out) | exact HB.out))
            rintro e w32 ⟨rfl, hi, hb, hk⟩
            refine ⟨_, rfl, ?_⟩
            have n0_ := Aside0.mk (Kd.Q_mono (Kd.Q_keep (IsS91.apartQ (show IsS91 w0 _ g s0_0 t618 from by repeat (first | (with_reducible first | exact HI0.out | apply IsS91.alloc | apply IsS91.drewN | apply IsS91.drew | apply IsS91.set_1 | refine IsS91.far ?_ NB0_608.out _ | refine IsS91.far ?_ NB0_614.out _) | exact HI0.out)) (by (with_reducible repeat apply Kd.Q_alloc); exact HO_615001.out) (by decide)) hk (fun _ h => h.2)) (fun _ h => h.1))
            have n1_ := Aside0.mk (KeepBut.blk hk (g' := gb608) (o := .cells #[.int .i64 0, .slice none 0 0] 25 (0, 0)) (bK BK608.out) NB608_0.out (by simp))
            have n2_ := Aside0.mk (KeepBut.blk hk (g' := gb614) (o := .cells #[.int .i64 t609, .slice Ao27 x615001_1.length co27] 25 (0, 0)) (bK BK614.out) NB614_0.out (by simp))
            have n3_ := Aside0.mk (Kd.R_mono (Kd.R_keep (IsS91.apart (show IsS91 w0 _ g s0_0 t618 from by repeat (first | (with_reducible first | exact HI0.out | apply IsS91.alloc | apply IsS91.drewN | apply IsS91.drew | apply IsS91.set_1 | refine IsS91.far ?_ NB0_608.out _ | refine IsS91.far ?_ NB0_614.out _) | exact HI0.out)) (kR HO621.out) (by decide)) hk (fun _ h => h.2)) (fun _ h => h.1))
            have n4_ := Aside0.mk (KeepBut.trans (by repeat (first | (with_reducible first | exact HK.out | apply KeepBut.set_ | apply keep_drewN | apply keep_drew | apply keep_alloc | refine keep_far ?_ GW608.out _ | refine keep_far ?_ GW614.out _) | exact HK.out)) hk (.inl rfl))
            have n5_ := Aside0.mk (hb)
            have n6_ := Aside0.mk (hi)
            clear HO_615001
            clear BK608
            clear BK614
            clear HO621
            clear HK
            clear HB
            clear HI0
            have HO_615001 := n0_
            have BK608 := n1_
            have BK614 := n2_
            have HO621 := n3_
            have HK := n4_
            have HB := n5_
            have HI0 := n6_
            clear n0_ n1_ n2_ n3_ n4_ n5_ n6_
            (try clear hb)
            (try clear hb2)
            (try clear hk)
            (try clear hi)
            refine hK.out _ _ ⟨(blk_cell BK614.out 0).trans rfl, (blk_cell BK614.out 1).trans rfl⟩ (fun hHeld => ?_)
            clear hK K
            refine norm_ (a' := ?_) ?_ ?_
            rotate_left
            ·show Act.put _ (some 28) _ = _
             simp only [Act.put, sA_, sZ_, sS_, i64_w, i32_w]
             rfl
            exact norm_ (by simp only [putAll, Act.put, List.setIfInBounds_toArray, List.set_cons_zero, List.set_cons_succ]) (hCont (.slice (some ado30) y619.length co30, ado30) _ ⟨hHeld, (kR HO621.out), (by (with_reducible repeat apply Kd.Q_alloc); exact HO_615001.out), ⟨_, rfl⟩, (bK BK608.out), (bK BK614.out), (by repeat (first | (with_reducible first | exact HI0.out | apply IsS91.alloc | apply IsS91.drewN | apply IsS91.drew | apply IsS91.set_1 | refine IsS91.far ?_ NB0_608.out _ | refine IsS91.far ?_ NB0_614.out _) | exact HI0.out)), (by repeat (first | (with_reducible first | exact HK.out | apply KeepBut.set_ | apply keep_drewN | apply keep_drew | apply keep_alloc | refine keep_far ?_ GW608.out _ | refine keep_far ?_ GW614.out _) | exact HK.out)), (by repeat (first | (with_reducible first | exact HB.out | apply below_alloc | apply pw_below_drewN | apply below_drew1 | refine below_set ?_ (IsS91.ge HI0.out) | refine below_set ?_ GE608.out | refine below_set ?_ GE614.out) | exact HB.out))⟩)
          rintro ⟨v620, adz_v620⟩ w33 ⟨hS_, h0_, h1_, h2_, h3_, h4_, h5_, h6_, h7_⟩
          have n0_ : Aside0 (Kd.R (Kd.int .i64) 3 w33 w.heap.size (fun _ => True) v620 y619) := ⟨h0_⟩
          have n1_ : Aside0 (Kd.Q k42 42 w33 w.heap.size (fun _ => True) (.slice Ao27 x615001_1.length co27) x615001_1) := ⟨h1_⟩
          have n2_ : Aside0 (∃ c_, (v620 : Value) = .slice (some adz_v620) y619.length c_) := ⟨h2_⟩
          have n3_ : Aside0 (w33.heap[gb608]? = some (.cells #[.int .i64 0, .slice none 0 0] 25 (0, 0))) := ⟨h3_⟩
          have n4_ : Aside0 (w33.heap[gb614]? = some (.cells #[.int .i64 t609, .slice Ao27 x615001_1.length co27] 25 (0, 0))) := ⟨h4_⟩
          have n5_ : Aside0 (IsS91 w0 w33 g s0_0 t623) := ⟨h5_⟩
          have n6_ : Aside0 (KeepBut w w33 g none) := ⟨h6_⟩
          have n7_ : Aside0 (Below w0.heap.size w0 w33) := ⟨h7_⟩
          clear HO_615001
          clear BK608
          clear BK614
          clear HI0
          clear HK
          clear HB
          clear h0_ h1_ h2_ h3_ h4_ h5_ h6_ h7_
          have HO621 := n0_
          have HO_615001 := n1_
          have HA_HO621 := n2_
          have BK608 := n3_
          have BK614 := n4_
          have HI0 := n5_
          have HK := n6_
          have HB := n7_
          clear n0_ n1_ n2_ n3_ n4_ n5_ n6_ n7_
          have hHeld : w33.cell? ⟨gb614, 0, none⟩ = some (.int .i64 t609) ∧ w33.cell? ⟨gb614, 1, none⟩ = some (.slice Ao27 x615001_1.length co27) := hS_
          obtain ⟨co34, eo34⟩ := HA_HO621.out
          clear HA_HO621
          subst eo34
          have p25 : 0 <= (t617 : Int) := of_decide_eq_true (by first | (with_reducible assumption) | assumption)
          have q25 : (t617 : Int) < ((x615001_1.length : Int) : Int) := of_decide_eq_true (by first | (with_reducible assumption) | assumption)
          obtain ⟨go25, oo25, co25, eo25, gb25, gl25, cl25, HG25⟩ := Kd.Q_form HO_615001.out (by omega)
          (first | cases eo25 | (injection eo25 with ea_ en_ ec_; (first | subst ea_ | (injection ea_ with ea_; subst ea_)); subst ec_; clear en_))
          have GB25 := Aside0.mk gb25
          have GG25 := Aside0.mk HG25
          clear gb25 gl25 HG25
          obtain ⟨ce25, hcl25, hM25, hcc25, hfr25⟩ := Kd.Q_elem HO_615001.out z42 (t617 : Int) p25 q25
          obtain rfl := k42_openM hM25
          have hx25_0 : World.cell? _ ⟨go25, oo25 + (t617 : Int).toNat * 2, none⟩ = some (.int .i64 ((rd_T42 x615001_1 t617).f0)) := hcc25 0 _ rfl
          have hx25_1 : World.cell? _ ⟨go25, oo25 + (t617 : Int).toNat * 2 + 1, none⟩ = some (.int .i64 ((rd_T42 x615001_1 t617).f1)) := hcc25 1 _ rfl
          have hf25_0 : World.frozen? _ ⟨go25, oo25 + (t617 : Int).toNat * 2, none⟩ = false := hfr25 0
          have hf25_1 : World.frozen? _ ⟨go25, oo25 + (t617 : Int).toNat * 2 + 1, none⟩ = false := hfr25 1
          clear hcl25 hcc25 hfr25 hM25
          replace p25 := eq_true p25
          replace q25 := eq_true q25
          have HN0_go25 := Aside0.mk (show g ≠ go25 from by have h_ := IsS91.own_neQ HI0.out HO_615001.out (by decide); intro e_; exact h_ (by rw [e_]; rfl))
          obtain ⟨ce35, hcl35, hM35, hcc35, hfr35⟩ := Kd.Q_elem HO_615001.out z42 (t617 : Int) (of_decide_eq_true (by first | (with_reducible assumption) | assumption)) (by have h_ : (t617 : Int) < ((x615001_1.length : Int) : Int) := of_decide_eq_true (by first | (with_reducible assumption) | assumption); first | exact h_ | (have e_ := (Kd.Q_reads' HO_615001.out).1; omega) | simpa using h_)
          obtain rfl := k42_openM hM35
          have HP35 := (Kd.Q_seg HO_615001.out (t617 : Int) (of_decide_eq_true (by first | (with_reducible assumption) | assumption)) (by have h_ : (t617 : Int) < ((x615001_1.length : Int) : Int) := of_decide_eq_true (by first | (with_reducible assumption) | assumption); first | exact h_ | (have e_ := (Kd.Q_reads' HO_615001.out).1; omega) | simpa using h_) (seg := [.int .i64 (rd y619 t622), .int .i64 0]) (j := 0) hcl35 hcc35 (show 2 <= 2 from by decide) (x' := (⟨rd y619 t622, 0⟩ : S42)) (k42_mkM _ _ _ (⟨rd y619 t622, 0⟩ : S42) ) (fun _ hk => hk)).1
          rw [<- Ny625.out] at HP35
          have HQ35 := Aside0.mk HP35
          clear hcl35 hcc35 hfr35 hM35 HP35
          refine norm_ (a' := ?_) ?_ ?_
          rotate_left
          ·simp only [putAll, Act.put, List.setIfInBounds_toArray, List.set_cons_zero, List.set_cons_succ]
           rfl
          refine pure_ (i := 10) (N := some 29) (v := ?_) (a' := ?_) #[true, true, true, true, true, true, true, true, true, true, true, false, false, false, false] rfl rfl (any_of HT_.out (by kernel_rfl)) (fun _ _ _ h => h) (Or.inl ⟨by rfl, ?_⟩) ?_ ?_
          rotate_left
          ·intro w'
           go_simp
           with_reducible rfl
          rotate_left
          ·simp only [Act.put, sA_, sZ_, sS_, i64_w, i32_w]
           rfl
          refine one_ (i := 11) (N := some 30) #[true, true, true, true, true, true, true, true, true, true, true, true, false, false, false] rfl rfl (one_of HT_.out (by kernel_rfl)) (by decide) (fun K hK => ?_)
          (have p624 : 0 <= (t622 : Int) := of_decide_eq_true (by first | (with_reducible assumption) | assumption); have q624 : t622 < (y619.length : Int) := of_decide_eq_true (by first | (with_reducible assumption) | assumption); obtain ⟨ad624, e624, hx624_0⟩ := Kd.at_int (Kd.R_reads' HO621.out).2.2 t622 p624 q624; obtain rfl : adz_v620 = ad624 := (by injection e624))
          refine value_ (w1 := ?_) (v := ?_) (by rfl) rfl ?_ ?_
          rotate_left 2
          ·go_simp
           constructor
           ·rfl
           ·rfl
          clear hx624_0
          refine hK.out _ _ ⟨(blk_cell BK614.out 0).trans rfl, (blk_cell BK614.out 1).trans rfl⟩ (fun hHeld => ?_)
          clear hK K
          refine norm_ (a' := ?_) ?_ ?_
          rotate_left
          ·show Act.put _ (some 30) _ = _
           simp only [Act.put, sA_, sZ_, sS_, i64_w, i32_w]
           rfl
          refine pure_ (i := 12) (N := some 31) (v := ?_) (a' := ?_) #[true, true, true, true, true, true, true, true, true, true, true, true, true, false, false] rfl rfl (any_of HT_.out (by kernel_rfl)) (fun _ _ _ h => h) (Or.inl ⟨by rfl, ?_⟩) ?_ ?_
          rotate_left
          ·intro w'
           go_simp
           with_reducible rfl
          rotate_left
          ·simp only [Act.put, sA_, sZ_, sS_, i64_w, i32_w]
           rfl
          refine pure_ (i := 13) (N := some 32) (v := ?_) (a' := ?_) #[true, true, true, true, true, true, true, true, true, true, true, true, true, true, false] rfl rfl (any_of HT_.out (by kernel_rfl)) (fun _ _ _ h => h) (Or.inl ⟨by rfl, ?_⟩) ?_ ?_
          rotate_left
          ·intro w'
           go_simp
           with_reducible rfl
          rotate_left
          ·simp only [Act.put, sA_, sZ_, sS_, i64_w, i32_w]
           rfl
          refine last_ (i := 14) (N := none) #[true, true, true, true, true, true, true, true, true, true, true, true, true, true, true] rfl rfl (one_of HT_.out (by kernel_rfl)) (by decide) (fun K hK => ?_)
          refine skip_ (w1 := ?_) (by rfl) rfl ?_ ?_
          rotate_left
          ·go_simp
           rfl
          refine hK.out _ _ ?_
          clear hK K
          refine done_ (done_of HT_.out (by kernel_rfl)) ?_
          try go_wp2
          go_roundg kj11
          case measure => have := HK1.out; have := HJ11.out; omega
          case rel => exact ⟨(wrap64 (x4_1 - 1)), (t623), (y625), (.slice (some ⟨go25, oo25, none⟩) x615001_1.length co27), (by first | rfl | (simp; done) | (simp [*]; done)), H', ⟨by have := HK1.out; have := HJ11.out; omega⟩, ⟨by (with_reducible repeat apply Kd.Q_alloc); exact HQ35.out⟩, ⟨by (with_reducible repeat apply blk_alloc); refine blk_far ?_ (by have h_ := Kd.Q_ne HO_615001.out BK608.out (by decide); intro e_; exact h_ (by rw [e_]; rfl)) _; (with_reducible repeat apply blk_alloc); refine blk_far ?_ (by have h_ := Kd.Q_ne HO_615001.out BK608.out (by decide); intro e_; exact h_ (by rw [e_]; rfl)) _; (with_reducible repeat apply blk_alloc); exact BK608.out⟩, ⟨by (with_reducible repeat apply blk_alloc); refine blk_far ?_ (by have h_ := Kd.Q_ne HO_615001.out BK614.out (by decide); intro e_; exact h_ (by rw [e_]; rfl)) _; (with_reducible repeat apply blk_alloc); refine blk_far ?_ (by have h_ := Kd.Q_ne HO_615001.out BK614.out (by decide); intro e_; exact h_ (by rw [e_]; rfl)) _; (with_reducible repeat apply blk_alloc); exact BK614.out⟩, ⟨by repeat (first | (with_reducible first | exact HI0.out | apply IsS91.alloc | apply IsS91.drewN | apply IsS91.drew | apply IsS91.set_1 | refine IsS91.far ?_ HN0_go25.out _ | refine IsS91.far ?_ HN0_go25.out _ | refine IsS91.far ?_ NB0_608.out _ | refine IsS91.far ?_ NB0_614.out _) | exact HI0.out)⟩, ⟨by repeat (first | (with_reducible first | exact HK.out | apply KeepBut.set_ | apply keep_drewN | apply keep_drew | apply keep_alloc | refine keep_far ?_ GB25.out _ | refine keep_far ?_ GB25.out _ | refine keep_far ?_ GW608.out _ | refine keep_far ?_ GW614.out _) | exact HK.out)⟩, ⟨by repeat (first | (with_reducible first | exact HB.out | apply below_alloc | apply pw_below_drewN | apply below_drew1 | refine below_set ?_ (Nat.le_trans HL.out GB25.out) | refine below_set ?_ (Nat.le_trans HL.out GB25.out) | refine below_set ?_ (IsS91.ge HI0.out) | refine below_set ?_ GE608.out | refine below_set ?_ GE614.out) | exact HB.out)⟩⟩
         ·rw [if_neg c24] at H
          exact absurd H (by simp)
        ·rw [if_neg c23] at H
         exact absurd H (by simp)
       ·rw [if_neg c22] at H
        exact absurd H (by simp)
      ·rw [if_neg c21] at H
       exact absurd H (by simp)
     ·replace c18 := Bool.eq_false_iff.mpr c18
      subst c18
      have H1 : (some (t609, x615001_1, x1001_1)) = some (r1, r2, r3) := by rw [if_neg (show ¬ (false = true) by decide)] at H; exact H
      clear H
      have H := H1
      clear H1
      simp only [Option.some.injEq, Prod.mk.injEq] at H
      obtain ⟨rfl, rfl, rfl⟩ := H
      have hnb36 := NB614_608.out
      have hnc36 := NB608_614.out
      have hnb37 := NB614_0.out
      have hnc37 := NB0_614.out
      have hcz38_0 : wc.cell? ⟨gb614, 0, none⟩ = some (.int .i64 t609) := (blk_cell BK614.out 0).trans rfl
      have hcz38_1 : wc.cell? ⟨gb614, 1, none⟩ = some (u615001) := (blk_cell BK614.out 1).trans rfl
      have hfz38_0 := blk_frozen BK614.out 0
      have hfz38_1 := blk_frozen BK614.out 1
      have hnb39 := NB608_0.out
      have hnc39 := NB0_608.out
      have hcz40_0 : wc.cell? ⟨gb608, 0, none⟩ = some (.int .i64 0) := (blk_cell BK608.out 0).trans rfl
      have hcz40_1 : wc.cell? ⟨gb608, 1, none⟩ = some (.slice none 0 0) := (blk_cell BK608.out 1).trans rfl
      have hfz40_0 := blk_frozen BK608.out 0
      have hfz40_1 := blk_frozen BK608.out 1
      obtain ⟨Ao41, co41, eo41, _⟩ := Kd.Q_slice HO_615001.out
      subst eo41
      go_wp2
      refine bodyPost_ret (results_cell_row rfl _ _ gb608 25 #[.int .i64 t609, .slice Ao41 x615001_1.length co41] (0, 0) _ rfl (by (with_reducible repeat apply blk_alloc); refine blk_put (cs := #[.int .i64 t609, .slice none 0 0]) ?_ 1 _ rfl; (with_reducible repeat apply blk_alloc); refine blk_put (cs := #[.int .i64 0, .slice none 0 0]) ?_ 0 _ rfl; (with_reducible repeat apply blk_alloc); exact BK608.out) Try.underlying25 rfl (by kernel_rfl)) rfl ?_
      exact ⟨_, by first | rfl | (simp [errW_none, errW_some] <;> rfl) | (simp [*, errW_none, errW_some] <;> rfl) | (exfalso; simp_all; done), by (with_reducible repeat apply Kd.Q_alloc); exact Kd.Q_mono (Kd.Q_far (p := ⟨gb608, 1, none⟩) (Kd.Q_far (p := ⟨gb608, 0, none⟩) (Kd.Q_types HO_615001.out BK608.out (by decide)) (fun _ hk => hk.2) (.int .i64 t609)) (fun _ hk => hk.2) (.slice Ao41 x615001_1.length co41)) (fun _ hk => trivial), by repeat (first | (with_reducible first | exact HI0.out | apply IsS91.alloc | apply IsS91.drewN | apply IsS91.drew | apply IsS91.set_1 | refine IsS91.far ?_ NB0_608.out _ | refine IsS91.far ?_ NB0_614.out _) | exact HI0.out), by repeat (first | (with_reducible first | exact HB.out | apply below_alloc | apply pw_below_drewN | apply below_drew1 | refine below_set ?_ (IsS91.ge HI0.out) | refine below_set ?_ GE608.out | refine below_set ?_ GE614.out) | exact HB.out), by repeat (first | (with_reducible first | exact HK.out | apply KeepBut.set_ | apply keep_drewN | apply keep_drew | apply keep_alloc | refine keep_far ?_ GW608.out _ | refine keep_far ?_ GW614.out _) | exact HK.out)⟩
end Go.Proofs.Yteapnipnoadejaa.P
