/- PROVED: contracts of functions; No condition. -/
import Derived.Test.YteapnipnoadejaaPx0
import Derived.Test.YteapnipnoadejaaPx3
import Derived.Test.YteapnipnoadejaaPx5
import Derived.Test.YteapnipnoadejaaPx6
import Derived.Test.YteapnipnoadejaaPx14
import Derived.Test.YteapnipnoadejaaT3Go
namespace Go.Proofs.Yteapnipnoadejaa.P
open Go.RowKit Go.Proofs.YteapnipnoadejaaW
set_option linter.unusedVariables false
set_option linter.unusedSimpArgs false
def spec_DrawTrailTo.l0 : Nat -> Int -> Int -> List (S38) -> Int -> List Int -> Int -> Int -> List (S42) -> Option (Int × (List (S42)) × Int × Int)
 | 0, _, _, _, _, _, _, _, _ => none
 | k + 1, x7, x8, x9, x10, x630000, x630001, x636000, x636001 => if x10 < (x9.length : Int) then (if 0 <= x10 then (if ((rd_T38 x9 x10).f0) = 0 then ((spec_l6Rd_pick.f k x630000 x630001 3).bind fun bt644 => (if bt644.1 > 0 then (spec_DrawTrailTo.l0 k x7 ((rd_T38 x9 x10).f1) x9 (wrap64 (x10 + 1)) x630000 bt644.2 x636000 x636001) else (spec_DrawTrailTo.l0 k x7 x8 x9 (wrap64 (x10 + 1)) x630000 bt644.2 x636000 x636001))) else (spec_DrawTrailTo.l0 k x7 x8 x9 (wrap64 (x10 + 1)) x630000 x630001 x636000 x636001)) else (none)) else (some (x636000, x636001, x7, x8))
def spec_DrawTrailTo.f (k : Nat) (l0 : List Int) : Option (Int × (List (S42)) × Int × Int) := (spec_l6Open.f l0).bind fun bt627 => ((spec_l71Bright.f k bt627.1 bt627.2).bind fun bt630 => ((spec_l71Sight.f k bt627.1 bt630.2.2 bt630.1 bt630.2.1).bind fun bt636 => ((spec_l71Sight.f k bt627.1 bt636.2 bt630.1 bt630.2.1).bind fun bt638 => ((spec_TrailEnds.f k bt630.1 bt630.2.1 bt636.1).bind fun t640 => (spec_DrawTrailTo.l0 k bt636.1 bt638.1 t640 0 bt627.1 bt638.2 bt630.1 bt630.2.1)))))
set_option maxHeartbeats 8000000 in
set_option maxRecDepth 100000 in
theorem spec_DrawTrailTo.calls (k : Nat) (A0 : Option Addr) (c0 : Nat) (l0 : List Int) (r1 : Int) (r2 : List (S42)) (r3 : Int) (r4 : Int) (w : World) (hr0 : Kd.C (Kd.int .u8) w A0 l0.length l0) (hc0 : l0.length <= c0) (h : spec_DrawTrailTo.f k l0 = some (r1, r2, r3, r4)) :
  Calls Try.prog 24 #[.slice A0 l0.length c0] w fun e w' => ∃ v1_ : Value, e = .returned (.tuple #[.agg #[.int .i64 r1, v1_], .int .i64 r3, .int .i64 r4]) ∧ Kd.Q k42 42 w' w.heap.size (fun _ => True) v1_ r2 ∧ Below w.heap.size w w' := by
 have hu25 := Try.underlying25
 have HR0 := Aside0.mk hr0
 have HC0 := Aside0.mk hc0
 clear hr0 hc0
 have HB := Aside0.mk (Below.refl w.heap.size w)
 have H : ((spec_l6Open.f l0).bind fun bt627 => ((spec_l71Bright.f k bt627.1 bt627.2).bind fun bt630 => ((spec_l71Sight.f k bt627.1 bt630.2.2 bt630.1 bt630.2.1).bind fun bt636 => ((spec_l71Sight.f k bt627.1 bt636.2 bt630.1 bt630.2.1).bind fun bt638 => ((spec_TrailEnds.f k bt630.1 bt630.2.1 bt636.1).bind fun t640 => (spec_DrawTrailTo.l0 k bt636.1 bt638.1 t640 0 bt627.1 bt638.2 bt630.1 bt630.2.1)))))) = some (r1, r2, r3, r4) := h
 clear h
 replace H := Option.bind_eq_some_iff.mp H
 obtain ⟨⟨t627, t628⟩, A20, H⟩ := H
 replace H : ((spec_l71Bright.f k t627 t628).bind fun bt630 => ((spec_l71Sight.f k t627 bt630.2.2 bt630.1 bt630.2.1).bind fun bt636 => ((spec_l71Sight.f k t627 bt636.2 bt630.1 bt630.2.1).bind fun bt638 => ((spec_TrailEnds.f k bt630.1 bt630.2.1 bt636.1).bind fun t640 => (spec_DrawTrailTo.l0 k bt636.1 bt638.1 t640 0 t627 bt638.2 bt630.1 bt630.2.1))))) = some (r1, r2, r3, r4) := H
 have A2 := Aside0.mk A20
 clear A20
 replace H := Option.bind_eq_some_iff.mp H
 obtain ⟨⟨t630, t631, t634⟩, A30, H⟩ := H
 replace H : ((spec_l71Sight.f k t627 t634 t630 t631).bind fun bt636 => ((spec_l71Sight.f k t627 bt636.2 t630 t631).bind fun bt638 => ((spec_TrailEnds.f k t630 t631 bt636.1).bind fun t640 => (spec_DrawTrailTo.l0 k bt636.1 bt638.1 t640 0 t627 bt638.2 t630 t631)))) = some (r1, r2, r3, r4) := H
 have A3 := Aside0.mk A30
 clear A30
 replace H := Option.bind_eq_some_iff.mp H
 obtain ⟨⟨t636, t637⟩, A40, H⟩ := H
 replace H : ((spec_l71Sight.f k t627 t637 t630 t631).bind fun bt638 => ((spec_TrailEnds.f k t630 t631 t636).bind fun t640 => (spec_DrawTrailTo.l0 k t636 bt638.1 t640 0 t627 bt638.2 t630 t631))) = some (r1, r2, r3, r4) := H
 have A4 := Aside0.mk A40
 clear A40
 replace H := Option.bind_eq_some_iff.mp H
 obtain ⟨⟨t638, t639⟩, A50, H⟩ := H
 replace H : ((spec_TrailEnds.f k t630 t631 t636).bind fun t640 => (spec_DrawTrailTo.l0 k t636 t638 t640 0 t627 t639 t630 t631)) = some (r1, r2, r3, r4) := H
 have A5 := Aside0.mk A50
 clear A50
 replace H := Option.bind_eq_some_iff.mp H
 obtain ⟨t640, A60, H⟩ := H
 replace H : (spec_DrawTrailTo.l0 k t636 t638 t640 0 t627 t639 t630 t631) = some (r1, r2, r3, r4) := H
 have A6 := Aside0.mk A60
 clear A60
 have H' := Aside0.mk H
 clear H
 go_enter Try.func24, Try.ntmps24
 go_wp2_with (first | ((with_reducible refine gate_dst (N := 2) rfl ?_); refine box_event rfl (N := 2) rfl (cs := #[.int .i64 0, .slice none 0 0]) (t := 25) ?hr ?_; (case hr => first | (go_simp; done) | (go_simp; rfl)); intro gb626 hg w7 hbox hb; have n0_ := Aside0.mk (below_step (by repeat first | exact HB.out | apply below_alloc | apply pw_below_drewN) hb); have n1_ := Aside0.mk (hbox); have n2_ := Aside0.mk ((by rw [hg]; exact (below_size (by repeat first | exact HB.out | apply below_alloc | apply pw_below_drewN)) : w.heap.size <= gb626)); have n3_ := n2_; clear HB; have HB := n0_; have BK626 := n1_; have GW626 := n2_; have GE626 := n3_; clear n0_ n1_ n2_ n3_; clear hb hbox hg) | ((with_reducible refine gate_callee (f := 39) rfl ?_); refine goesL_ (some 12) rfl rfl Try.func39 (by kernel_rfl) rfl #[.slice A0 l0.length c0] rfl (by first | rfl | (simp only [List.map_toArray, List.map_cons, List.map_nil, List.length_drop, List.length_take]; try rfl)) ?_; (with_reducible refine (spec_l6Open.calls _ _ l0 t627 t628 w _ ?side1 ?side2 ?side3 A2.out).mono ?_); (case side1 => repeat (first | (with_reducible first | exact HB.out | apply below_alloc | apply pw_below_drewN | apply below_drew1 | refine below_set ?_ GE626.out) | exact HB.out)); (case side2 => exact HR0.out); (case side3 => exact HC0.out); rintro e w8 ⟨g629, rfl, hi, hb, hb2⟩; refine ⟨_, rfl, ?_⟩; have n0_ := Aside0.mk (blk_below (bK BK626.out) hb2); have n1_ := Aside0.mk (hb); have n2_ := Aside0.mk (hi); have n3_ := Aside0.mk (IsS91.ne_blk hi (blk_below (bK BK626.out) hb2) (by decide)); have n4_ := Aside0.mk (Ne.symm (IsS91.ne_blk hi (blk_below (bK BK626.out) hb2) (by decide))); clear BK626; clear HB; have BK626 := n0_; have HB := n1_; have HI629 := n2_; have NB629_626 := n3_; have NB626_629 := n4_; clear n0_ n1_ n2_ n3_ n4_; (try clear hb); (try clear hb2); (try clear hk); (try clear hi)) | ((with_reducible refine gate_callee (f := 40) rfl ?_); refine goesL_ (some 14) rfl rfl Try.func40 (by kernel_rfl) rfl #[.pointer (some ⟨g629, 0, none⟩)] rfl (by first | rfl | (simp only [List.map_toArray, List.map_cons, List.map_nil, List.length_drop, List.length_take]; try rfl)) ?_; (with_reducible refine (spec_l71Bright.calls k g629 t627 t628 t630 t631 t634 w _ ?side1 ?side2 A3.out).mono ?_); (case side1 => repeat (first | (with_reducible first | exact HI629.out | apply IsS91.alloc | apply IsS91.drewN | apply IsS91.drew | apply IsS91.set_1 | refine IsS91.far ?_ NB629_626.out _) | exact HI629.out)); (case side2 => repeat (first | (with_reducible first | exact HB.out | apply below_alloc | apply pw_below_drewN | apply below_drew1 | refine below_set ?_ (IsS91.ge HI629.out) | refine below_set ?_ GE626.out) | exact HB.out)); rintro e w9 ⟨v632, rfl, ho0, hi, hb, hk⟩; refine ⟨_, rfl, ?_⟩; have n0_ := Aside0.mk (KeepBut.blk hk (g' := gb626) (o := .cells #[.int .i64 0, .slice none 0 0] 25 (0, 0)) (bK BK626.out) NB626_629.out (by simp)); have n1_ := Aside0.mk (Kd.Q_lower ho0 (below_size (by repeat (first | (with_reducible first | exact HB.out | apply below_alloc | apply pw_below_drewN | apply below_drew1 | refine below_set ?_ (IsS91.ge HI629.out) | refine below_set ?_ GE626.out) | exact HB.out)))); have n2_ := Aside0.mk (hb); have n3_ := Aside0.mk (hi); clear BK626; clear HB; clear HI629; have BK626 := n0_; have HO633 := n1_; have HB := n2_; have HI629 := n3_; clear n0_ n1_ n2_ n3_; (try clear hb); (try clear hb2); (try clear hk); (try clear hi); (try clear ho0)) | ((with_reducible refine gate_dst (N := 6) rfl ?_); refine box_event rfl (N := 6) rfl (cs := #[.int .i64 0, .slice none 0 0]) (t := 25) ?hr ?_; (case hr => first | (go_simp; done) | (go_simp; rfl)); intro gb635 hg w10 hbox hb; have n0_ := Aside0.mk (Kd.Q_below (by (with_reducible repeat apply Kd.Q_alloc); exact HO633.out) hb); have n1_ := Aside0.mk (blk_below (bK BK626.out) hb); have n2_ := Aside0.mk (IsS91.below (by repeat (first | (with_reducible first | exact HI629.out | apply IsS91.alloc | apply IsS91.drewN | apply IsS91.drew | apply IsS91.set_1 | refine IsS91.far ?_ NB629_626.out _) | exact HI629.out)) hb); have n3_ := Aside0.mk (below_step (by repeat (first | (with_reducible first | exact HB.out | apply below_alloc | apply pw_below_drewN | apply below_drew1 | refine below_set ?_ (IsS91.ge HI629.out) | refine below_set ?_ GE626.out) | exact HB.out)) hb); have n4_ := Aside0.mk (hbox); have n5_ := Aside0.mk ((by rw [hg]; exact (below_size (by repeat (first | (with_reducible first | exact HB.out | apply below_alloc | apply pw_below_drewN | apply below_drew1 | refine below_set ?_ (IsS91.ge HI629.out) | refine below_set ?_ GE626.out) | exact HB.out))) : w.heap.size <= gb635)); have n6_ := n5_; have n7_ := Aside0.mk ((by rw [hg]; exact Nat.ne_of_lt (blk_lt (bK BK626.out)) : gb626 ≠ gb635)); have n8_ := Aside0.mk ((by rw [hg]; exact Nat.ne_of_gt (blk_lt (bK BK626.out)) : gb635 ≠ gb626)); have n9_ := Aside0.mk ((by rw [hg]; exact Nat.ne_of_lt (IsS91.lt (show IsS91 w _ g629 t627 t634 from by repeat (first | (with_reducible first | exact HI629.out | apply IsS91.alloc | apply IsS91.drewN | apply IsS91.drew | apply IsS91.set_1 | refine IsS91.far ?_ NB629_626.out _) | exact HI629.out))) : g629 ≠ gb635)); have n10_ := Aside0.mk ((by rw [hg]; exact Nat.ne_of_gt (IsS91.lt (show IsS91 w _ g629 t627 t634 from by repeat (first | (with_reducible first | exact HI629.out | apply IsS91.alloc | apply IsS91.drewN | apply IsS91.drew | apply IsS91.set_1 | refine IsS91.far ?_ NB629_626.out _) | exact HI629.out))) : gb635 ≠ g629)); clear HO633; clear BK626; clear HI629; clear HB; have HO633 := n0_; have BK626 := n1_; have HI629 := n2_; have HB := n3_; have BK635 := n4_; have GW635 := n5_; have GE635 := n6_; have NB626_635 := n7_; have NB635_626 := n8_; have NB629_635 := n9_; have NB635_629 := n10_; clear n0_ n1_ n2_ n3_ n4_ n5_ n6_ n7_ n8_ n9_ n10_; clear hb hbox hg; have hnb11 := NB635_626.out; have hnc11 := NB626_635.out; have hnb12 := NB635_629.out; have hnc12 := NB629_635.out; have hcz13_0 : w10.cell? ⟨gb635, 0, none⟩ = some (.int .i64 0) := (blk_cell BK635.out 0).trans rfl; have hcz13_1 : w10.cell? ⟨gb635, 1, none⟩ = some (.slice none 0 0) := (blk_cell BK635.out 1).trans rfl; have hfz13_0 := blk_frozen BK635.out 0; have hfz13_1 := blk_frozen BK635.out 1; obtain ⟨Ao14, co14, eo14, _⟩ := Kd.Q_slice HO633.out; subst eo14) | ((with_reducible refine gate_callee (f := 41) rfl ?_); refine goesL_ (some 17) rfl rfl Try.func41 (by kernel_rfl) rfl #[.pointer (some ⟨g629, 0, none⟩), .agg #[.int .i64 t630, .slice Ao14 t631.length co14]] rfl (by first | rfl | (simp only [List.map_toArray, List.map_cons, List.map_nil, List.length_drop, List.length_take]; try rfl)) ?_; (with_reducible refine (spec_l71Sight.calls k g629 t627 t634 t630 _ _ t631 t636 t637 w _ ?side1 ?side2 ?side3 ?side4 A4.out).mono ?_); (case side1 => repeat (first | (with_reducible first | exact HI629.out | apply IsS91.alloc | apply IsS91.drewN | apply IsS91.drew | apply IsS91.set_1 | refine IsS91.far ?_ NB629_626.out _ | refine IsS91.far ?_ NB629_635.out _) | exact HI629.out)); (case side2 => repeat (first | (with_reducible first | exact HB.out | apply below_alloc | apply pw_below_drewN | apply below_drew1 | refine below_set ?_ (IsS91.ge HI629.out) | refine below_set ?_ GE626.out | refine below_set ?_ GE635.out) | exact HB.out)); (case side3 => exact Kd.C_foot_ownQ (IsS91.apartQ (show IsS91 w _ g629 t627 t634 from by repeat (first | (with_reducible first | exact HI629.out | apply IsS91.alloc | apply IsS91.drewN | apply IsS91.drew | apply IsS91.set_1 | refine IsS91.far ?_ NB629_626.out _ | refine IsS91.far ?_ NB629_635.out _) | exact HI629.out)) (by (with_reducible repeat apply Kd.Q_alloc); exact (Kd.Q_mono (Kd.Q_far (p := ⟨gb635, 1, none⟩) (Kd.Q_far (p := ⟨gb635, 0, none⟩) (Kd.Q_types HO633.out BK635.out (by decide)) (fun _ hk => hk.2) (.int .i64 t630)) (fun _ hk => hk.2) (.slice Ao14 t631.length co14)) (fun _ h_ => h_.1))) (by decide)) (fun _ h_ => h_.2)); (case side4 => exact (Kd.Q_reads' HO633.out).2.1); rintro e w15 ⟨rfl, hi, hb, hk⟩; refine ⟨_, rfl, ?_⟩; have n0_ := Aside0.mk (KeepBut.blk hk (g' := gb626) (o := .cells #[.int .i64 0, .slice none 0 0] 25 (0, 0)) (by (with_reducible repeat apply blk_alloc); refine blk_far ?_ NB626_635.out _; (with_reducible repeat apply blk_alloc); refine blk_far ?_ NB626_635.out _; (with_reducible repeat apply blk_alloc); exact BK626.out) NB626_629.out (by simp)); have n1_ := Aside0.mk (Kd.Q_mono (Kd.Q_keep (IsS91.apartQ (show IsS91 w _ g629 t627 t634 from by repeat (first | (with_reducible first | exact HI629.out | apply IsS91.alloc | apply IsS91.drewN | apply IsS91.drew | apply IsS91.set_1 | refine IsS91.far ?_ NB629_626.out _ | refine IsS91.far ?_ NB629_635.out _) | exact HI629.out)) (by (with_reducible repeat apply Kd.Q_alloc); exact (Kd.Q_mono (Kd.Q_far (p := ⟨gb635, 1, none⟩) (Kd.Q_far (p := ⟨gb635, 0, none⟩) (Kd.Q_types HO633.out BK635.out (by decide)) (fun _ hk => hk.2) (.int .i64 t630)) (fun _ hk => hk.2) (.slice Ao14 t631.length co14)) (fun _ h_ => h_.1))) (by decide)) hk (fun _ h => h.2)) (fun _ h => h.1)); have n2_ := Aside0.mk (KeepBut.blk hk (g' := gb635) (o := .cells #[.int .i64 t630, .slice Ao14 t631.length co14] 25 (0, 0)) (by (with_reducible repeat apply blk_alloc); refine blk_put (cs := #[.int .i64 t630, .slice none 0 0]) ?_ 1 _ rfl; (with_reducible repeat apply blk_alloc); refine blk_put (cs := #[.int .i64 0, .slice none 0 0]) ?_ 0 _ rfl; (with_reducible repeat apply blk_alloc); exact BK635.out) NB635_629.out (by simp)); have n3_ := Aside0.mk (hb); have n4_ := Aside0.mk (hi); clear BK626; clear HO633; clear BK635; clear HB; clear HI629; have BK626 := n0_; have HO633 := n1_; have BK635 := n2_; have HB := n3_; have HI629 := n4_; clear n0_ n1_ n2_ n3_ n4_; (try clear hb); (try clear hb2); (try clear hk); (try clear hi); have hcz16_0 : w15.cell? ⟨gb635, 0, none⟩ = some (.int .i64 t630) := (blk_cell BK635.out 0).trans rfl; have hcz16_1 : w15.cell? ⟨gb635, 1, none⟩ = some (.slice Ao14 t631.length co14) := (blk_cell BK635.out 1).trans rfl; have hfz16_0 := blk_frozen BK635.out 0; have hfz16_1 := blk_frozen BK635.out 1) | ((with_reducible refine gate_callee (f := 41) rfl ?_); refine goesL_ (some 20) rfl rfl Try.func41 (by kernel_rfl) rfl #[.pointer (some ⟨g629, 0, none⟩), .agg #[.int .i64 t630, .slice Ao14 t631.length co14]] rfl (by first | rfl | (simp only [List.map_toArray, List.map_cons, List.map_nil, List.length_drop, List.length_take]; try rfl)) ?_; (with_reducible refine (spec_l71Sight.calls k g629 t627 t637 t630 _ _ t631 t638 t639 w _ ?side1 ?side2 ?side3 ?side4 A5.out).mono ?_); (case side1 => repeat (first | (with_reducible first | exact HI629.out | apply IsS91.alloc | apply IsS91.drewN | apply IsS91.drew | apply IsS91.set_1 | refine IsS91.far ?_ NB629_626.out _ | refine IsS91.far ?_ NB629_635.out _) | exact HI629.out)); (case side2 => repeat (first | (with_reducible first | exact HB.out | apply below_alloc | apply pw_below_drewN | apply below_drew1 | refine below_set ?_ (IsS91.ge HI629.out) | refine below_set ?_ GE626.out | refine below_set ?_ GE635.out) | exact HB.out)); (case side3 => exact Kd.C_foot_ownQ (IsS91.apartQ (show IsS91 w _ g629 t627 t637 from by repeat (first | (with_reducible first | exact HI629.out | apply IsS91.alloc | apply IsS91.drewN | apply IsS91.drew | apply IsS91.set_1 | refine IsS91.far ?_ NB629_626.out _ | refine IsS91.far ?_ NB629_635.out _) | exact HI629.out)) (by (with_reducible repeat apply Kd.Q_alloc); exact HO633.out) (by decide)) (fun _ h_ => h_.2)); (case side4 => exact (Kd.Q_reads' HO633.out).2.1); rintro e w17 ⟨rfl, hi, hb, hk⟩; refine ⟨_, rfl, ?_⟩; have n0_ := Aside0.mk (KeepBut.blk hk (g' := gb626) (o := .cells #[.int .i64 0, .slice none 0 0] 25 (0, 0)) (bK BK626.out) NB626_629.out (by simp)); have n1_ := Aside0.mk (Kd.Q_mono (Kd.Q_keep (IsS91.apartQ (show IsS91 w _ g629 t627 t637 from by repeat (first | (with_reducible first | exact HI629.out | apply IsS91.alloc | apply IsS91.drewN | apply IsS91.drew | apply IsS91.set_1 | refine IsS91.far ?_ NB629_626.out _ | refine IsS91.far ?_ NB629_635.out _) | exact HI629.out)) (by (with_reducible repeat apply Kd.Q_alloc); exact HO633.out) (by decide)) hk (fun _ h => h.2)) (fun _ h => h.1)); have n2_ := Aside0.mk (KeepBut.blk hk (g' := gb635) (o := .cells #[.int .i64 t630, .slice Ao14 t631.length co14] 25 (0, 0)) (bK BK635.out) NB635_629.out (by simp)); have n3_ := Aside0.mk (hb); have n4_ := Aside0.mk (hi); clear BK626; clear HO633; clear BK635; clear HB; clear HI629; have BK626 := n0_; have HO633 := n1_; have BK635 := n2_; have HB := n3_; have HI629 := n4_; clear n0_ n1_ n2_ n3_ n4_; (try clear hb); (try clear hb2); (try clear hk); (try clear hi); have hcz18_0 : w17.cell? ⟨gb635, 0, none⟩ = some (.int .i64 t630) := (blk_cell BK635.out 0).trans rfl; have hcz18_1 : w17.cell? ⟨gb635, 1, none⟩ = some (.slice Ao14 t631.length co14) := (blk_cell BK635.out 1).trans rfl; have hfz18_0 := blk_frozen BK635.out 0; have hfz18_1 := blk_frozen BK635.out 1) | ((with_reducible refine gate_callee (f := 19) rfl ?_); refine goesL_ (some 23) rfl rfl Try.func19 (by kernel_rfl) rfl #[.agg #[.int .i64 t630, .slice Ao14 t631.length co14], .int .i64 t636] rfl (by first | rfl | (simp only [List.map_toArray, List.map_cons, List.map_nil, List.length_drop, List.length_take]; try rfl)) ?_; (with_reducible refine (spec_TrailEnds.calls k t630 _ _ t631 t636 t640 _ ?side1 ?side2 A6.out).mono ?_); (case side1 => repeat (first | exact (Kd.Q_reads' HO633.out).2.2 | (with_reducible refine Kd.C_alloc ?_ _) | (with_reducible refine Kd.C_drewN ?_ _) | (with_reducible refine Kd.C_drew ?_))); (case side2 => exact (Kd.Q_reads' HO633.out).2.1); rintro e w19 ⟨v641, rfl, ho0, hb⟩; refine ⟨_, rfl, ?_⟩; have n0_ := Aside0.mk (Kd.Q_below (by (with_reducible repeat apply Kd.Q_alloc); exact HO633.out) hb); have n1_ := Aside0.mk (Kd.R_lower ho0 (below_size (by repeat (first | (with_reducible first | exact HB.out | apply below_alloc | apply pw_below_drewN | apply below_drew1 | refine below_set ?_ (IsS91.ge HI629.out) | refine below_set ?_ GE626.out | refine below_set ?_ GE635.out) | exact HB.out)))); have n2_ := Aside0.mk (blk_below (bK BK626.out) hb); have n3_ := Aside0.mk (IsS91.below (by repeat (first | (with_reducible first | exact HI629.out | apply IsS91.alloc | apply IsS91.drewN | apply IsS91.drew | apply IsS91.set_1 | refine IsS91.far ?_ NB629_626.out _ | refine IsS91.far ?_ NB629_635.out _) | exact HI629.out)) hb); have n4_ := Aside0.mk (blk_below (bK BK635.out) hb); have n5_ := Aside0.mk (below_step (by repeat (first | (with_reducible first | exact HB.out | apply below_alloc | apply pw_below_drewN | apply below_drew1 | refine below_set ?_ (IsS91.ge HI629.out) | refine below_set ?_ GE626.out | refine below_set ?_ GE635.out) | exact HB.out)) hb); clear HO633; clear BK626; clear HI629; clear BK635; clear HB; have HO633 := n0_; have HO642 := n1_; have BK626 := n2_; have HI629 := n3_; have BK635 := n4_; have HB := n5_; clear n0_ n1_ n2_ n3_ n4_ n5_; (try clear hb); (try clear hb2); (try clear hk); (try clear hi); (try clear ho0)))
 go_loopg [8, 10] k (fun kq v8 v10 w' => ∃ (x8_1 : Int) (x10_1 : Int) (x630001_1 : Int), v8 = .int .i64 x8_1 ∧ v10 = .int .i64 x10_1 ∧ Aside0 (spec_DrawTrailTo.l0 kq t636 x8_1 t640 x10_1 t627 x630001_1 t630 t631 = some (r1, r2, r3, r4)) ∧ Aside0 (kq <= k) ∧ Aside0 (Kd.R k38 38 w' w.heap.size (fun _ => True) v641 t640) ∧ Aside0 (Kd.Q k42 42 w' w.heap.size (fun _ => True) (.slice Ao14 t631.length co14) t631) ∧ Aside0 (w'.heap[gb626]? = some (.cells #[.int .i64 0, (.slice none 0 0)] 25 (0, 0))) ∧ Aside0 (w'.heap[gb635]? = some (.cells #[.int .i64 t630, (.slice Ao14 t631.length co14)] 25 (0, 0))) ∧ Aside0 (IsS91 w w' g629 t627 x630001_1) ∧ Aside0 (Below w.heap.size w w'))
 case atStart => exact ⟨(t638), (0), (t639), (by first | rfl | (simp; done) | (simp [*]; done)), (by first | rfl | (simp; done) | (simp [*]; done)), H', ⟨Nat.le_refl _⟩, ⟨by (with_reducible repeat apply Kd.R_alloc); exact HO642.out⟩, ⟨by (with_reducible repeat apply Kd.Q_alloc); exact HO633.out⟩, ⟨by (with_reducible repeat apply blk_alloc); exact BK626.out⟩, ⟨by (with_reducible repeat apply blk_alloc); exact BK635.out⟩, ⟨by repeat (first | (with_reducible first | exact HI629.out | apply IsS91.alloc | apply IsS91.drewN | apply IsS91.drew | apply IsS91.set_1 | refine IsS91.far ?_ NB629_626.out _ | refine IsS91.far ?_ NB629_635.out _) | exact HI629.out)⟩, ⟨by repeat (first | (with_reducible first | exact HB.out | apply below_alloc | apply pw_below_drewN | apply below_drew1 | refine below_set ?_ (IsS91.ge HI629.out) | refine below_set ?_ GE626.out | refine below_set ?_ GE635.out) | exact HB.out)⟩⟩
 case round =>
  clear H'
  try clear c1
  try clear c2
  try clear p2
  try clear c3
  try clear c4
  try clear c11
  try clear c12
  try clear c19
  try clear hcz13_0
  try clear hcz13_1
  try clear hcz16_0
  try clear hcz16_1
  try clear hcz18_0
  try clear hcz18_1
  try clear hfz13_0
  try clear hfz13_1
  try clear hfz16_0
  try clear hfz16_1
  try clear hfz18_0
  try clear hfz18_1
  obtain ⟨x8_1, x10_1, x630001_1, rfl, rfl, HA, HK1, HO_9, HO_636001, BK626, BK635, HI629, HB⟩ := hrel
  cases gk with
  | zero => exact absurd HA.out (by simp [spec_DrawTrailTo.l0])
  | succ k1 =>
   have H := HA.out
   clear HA
   simp only [spec_DrawTrailTo.l0] at H
   by_cases c20 : x10_1 < (t640.length : Int)
   ·rw [if_pos c20] at H
    have c20b0 : decide (x10_1 < (t640.length : Int)) = true := decide_eq_true c20
    clear c20
    by_cases c21 : 0 <= x10_1
    ·rw [if_pos c21] at H
     have c21b0 : decide (0 <= x10_1) = true := decide_eq_true c21
     clear c21
     by_cases c22 : ((rd_T38 t640 x10_1).f0) = 0
     ·rw [if_pos c22] at H
      have c22b0 : (((rd_T38 t640 x10_1).f0) == 0) = true := beq_iff_eq.mpr c22
      have c22b1 : (((rd_T38 t640 x10_1).f0) != 0) = false := bne_eq_false_iff_eq.mpr c22
      clear c22
      replace H := Option.bind_eq_some_iff.mp H
      obtain ⟨⟨t644, t645⟩, A230, H⟩ := H
      replace H : (if t644 > 0 then (spec_DrawTrailTo.l0 k1 t636 ((rd_T38 t640 x10_1).f1) t640 (wrap64 (x10_1 + 1)) t627 t645 t630 t631) else (spec_DrawTrailTo.l0 k1 t636 x8_1 t640 (wrap64 (x10_1 + 1)) t627 t645 t630 t631)) = some (r1, r2, r3, r4) := H
      have A23 := Aside0.mk A230
      clear A230
      by_cases c24 : t644 > 0
      ·rw [if_pos c24] at H
       have c24b0 : decide (0 < t644) = true := decide_eq_true c24
       clear c24
       have H' := Aside0.mk H
       clear H
       obtain ⟨Ao25, co25, eo25⟩ := Kd.R_slice HO_9.out
       subst eo25
       have p643 : 0 <= (x10_1 : Int) := of_decide_eq_true (by first | (with_reducible assumption) | assumption)
       have q643 : x10_1 < (t640.length : Int) := of_decide_eq_true (by first | (with_reducible assumption) | assumption)
       obtain ⟨ad643, e643, hx643_0, hx643_1, hx643_2⟩ := at_T38 (Kd.R_reads' HO_9.out).2.2 x10_1 p643 q643
       cases e643
       replace p643 := eq_true p643
       replace q643 := eq_true q643
       go_wp2_with (first | (go_at_call 42; (with_reducible refine (spec_l6Rd_pick.calls k1 g629 t627 x630001_1 3 t644 t645 w _ ?side1 ?side2 A23.out).mono ?_); (case side1 => repeat (first | (with_reducible first | exact HI629.out | apply IsS91.alloc | apply IsS91.drewN | apply IsS91.drew | apply IsS91.set_1 | refine IsS91.far ?_ NB629_626.out _ | refine IsS91.far ?_ NB629_635.out _) | exact HI629.out)); (case side2 => repeat (first | (with_reducible first | exact HB.out | apply below_alloc | apply pw_below_drewN | apply below_drew1 | refine below_set ?_ (IsS91.ge HI629.out) | refine below_set ?_ GE626.out | refine below_set ?_ GE635.out) | exact HB.out)); rintro e w26 ⟨rfl, hi, hb, hk⟩; have n0_ := Aside0.mk (Kd.R_mono (Kd.R_keep (IsS91.apart (show IsS91 w _ g629 t627 x630001_1 from by repeat (first | (with_reducible first | exact HI629.out | apply IsS91.alloc | apply IsS91.drewN | apply IsS91.drew | apply IsS91.set_1 | refine IsS91.far ?_ NB629_626.out _ | refine IsS91.far ?_ NB629_635.out _) | exact HI629.out)) (kR HO_9.out) (by decide)) hk (fun _ h => h.2)) (fun _ h => h.1)); have n1_ := Aside0.mk (Kd.Q_mono (Kd.Q_keep (IsS91.apartQ (show IsS91 w _ g629 t627 x630001_1 from by repeat (first | (with_reducible first | exact HI629.out | apply IsS91.alloc | apply IsS91.drewN | apply IsS91.drew | apply IsS91.set_1 | refine IsS91.far ?_ NB629_626.out _ | refine IsS91.far ?_ NB629_635.out _) | exact HI629.out)) (by (with_reducible repeat apply Kd.Q_alloc); exact HO_636001.out) (by decide)) hk (fun _ h => h.2)) (fun _ h => h.1)); have n2_ := Aside0.mk (KeepBut.blk hk (g' := gb626) (o := .cells #[.int .i64 0, .slice none 0 0] 25 (0, 0)) (bK BK626.out) NB626_629.out (by simp)); have n3_ := Aside0.mk (KeepBut.blk hk (g' := gb635) (o := .cells #[.int .i64 t630, .slice Ao14 t631.length co14] 25 (0, 0)) (bK BK635.out) NB635_629.out (by simp)); have n4_ := Aside0.mk (hb); have n5_ := Aside0.mk (hi); clear HO_9; clear HO_636001; clear BK626; clear BK635; clear HB; clear HI629; have HO_9 := n0_; have HO_636001 := n1_; have BK626 := n2_; have BK635 := n3_; have HB := n4_; have HI629 := n5_; clear n0_ n1_ n2_ n3_ n4_ n5_; (try clear hb); (try clear hb2); (try clear hk); (try clear hi); have p646 : 0 <= (x10_1 : Int) := of_decide_eq_true (by first | (with_reducible assumption) | assumption); have q646 : x10_1 < (t640.length : Int) := of_decide_eq_true (by first | (with_reducible assumption) | assumption); obtain ⟨ad646, e646, hx646_0, hx646_1, hx646_2⟩ := at_T38 (Kd.R_reads' HO_9.out).2.2 x10_1 p646 q646; obtain rfl : ad643 = ad646 := (by injection e646); replace p646 := eq_true p646; replace q646 := eq_true q646))
       go_roundg k1
       case measure => have := HK1.out; omega
       case rel => exact ⟨((rd_T38 t640 x10_1).f1), (wrap64 (x10_1 + 1)), (t645), (by first | rfl | (simp; done) | (simp [*]; done)), (by first | rfl | (simp; done) | (simp [*]; done)), H', ⟨by have := HK1.out; omega⟩, ⟨by (with_reducible repeat apply Kd.R_alloc); exact HO_9.out⟩, ⟨by (with_reducible repeat apply Kd.Q_alloc); exact HO_636001.out⟩, ⟨by (with_reducible repeat apply blk_alloc); exact BK626.out⟩, ⟨by (with_reducible repeat apply blk_alloc); exact BK635.out⟩, ⟨by repeat (first | (with_reducible first | exact HI629.out | apply IsS91.alloc | apply IsS91.drewN | apply IsS91.drew | apply IsS91.set_1 | refine IsS91.far ?_ NB629_626.out _ | refine IsS91.far ?_ NB629_635.out _) | exact HI629.out)⟩, ⟨by repeat (first | (with_reducible first | exact HB.out | apply below_alloc | apply pw_below_drewN | apply below_drew1 | refine below_set ?_ (IsS91.ge HI629.out) | refine below_set ?_ GE626.out | refine below_set ?_ GE635.out) | exact HB.out)⟩⟩
      ·rw [if_neg c24] at H
       have c24b0 : decide (0 < t644) = false := decide_eq_false c24
       clear c24
       have H' := Aside0.mk H
       clear H
       obtain ⟨Ao27, co27, eo27⟩ := Kd.R_slice HO_9.out
       subst eo27
       have p643 : 0 <= (x10_1 : Int) := of_decide_eq_true (by first | (with_reducible assumption) | assumption)
       have q643 : x10_1 < (t640.length : Int) := of_decide_eq_true (by first | (with_reducible assumption) | assumption)
       obtain ⟨ad643, e643, hx643_0, hx643_1, hx643_2⟩ := at_T38 (Kd.R_reads' HO_9.out).2.2 x10_1 p643 q643
       cases e643
       replace p643 := eq_true p643
       replace q643 := eq_true q643
       go_wp2_with (first | (go_at_call 42; (with_reducible refine (spec_l6Rd_pick.calls k1 g629 t627 x630001_1 3 t644 t645 w _ ?side1 ?side2 A23.out).mono ?_); (case side1 => repeat (first | (with_reducible first | exact HI629.out | apply IsS91.alloc | apply IsS91.drewN | apply IsS91.drew | apply IsS91.set_1 | refine IsS91.far ?_ NB629_626.out _ | refine IsS91.far ?_ NB629_635.out _) | exact HI629.out)); (case side2 => repeat (first | (with_reducible first | exact HB.out | apply below_alloc | apply pw_below_drewN | apply below_drew1 | refine below_set ?_ (IsS91.ge HI629.out) | refine below_set ?_ GE626.out | refine below_set ?_ GE635.out) | exact HB.out)); rintro e w28 ⟨rfl, hi, hb, hk⟩; have n0_ := Aside0.mk (Kd.R_mono (Kd.R_keep (IsS91.apart (show IsS91 w _ g629 t627 x630001_1 from by repeat (first | (with_reducible first | exact HI629.out | apply IsS91.alloc | apply IsS91.drewN | apply IsS91.drew | apply IsS91.set_1 | refine IsS91.far ?_ NB629_626.out _ | refine IsS91.far ?_ NB629_635.out _) | exact HI629.out)) (kR HO_9.out) (by decide)) hk (fun _ h => h.2)) (fun _ h => h.1)); have n1_ := Aside0.mk (Kd.Q_mono (Kd.Q_keep (IsS91.apartQ (show IsS91 w _ g629 t627 x630001_1 from by repeat (first | (with_reducible first | exact HI629.out | apply IsS91.alloc | apply IsS91.drewN | apply IsS91.drew | apply IsS91.set_1 | refine IsS91.far ?_ NB629_626.out _ | refine IsS91.far ?_ NB629_635.out _) | exact HI629.out)) (by (with_reducible repeat apply Kd.Q_alloc); exact HO_636001.out) (by decide)) hk (fun _ h => h.2)) (fun _ h => h.1)); have n2_ := Aside0.mk (KeepBut.blk hk (g' := gb626) (o := .cells #[.int .i64 0, .slice none 0 0] 25 (0, 0)) (bK BK626.out) NB626_629.out (by simp)); have n3_ := Aside0.mk (KeepBut.blk hk (g' := gb635) (o := .cells #[.int .i64 t630, .slice Ao14 t631.length co14] 25 (0, 0)) (bK BK635.out) NB635_629.out (by simp)); have n4_ := Aside0.mk (hb); have n5_ := Aside0.mk (hi); clear HO_9; clear HO_636001; clear BK626; clear BK635; clear HB; clear HI629; have HO_9 := n0_; have HO_636001 := n1_; have BK626 := n2_; have BK635 := n3_; have HB := n4_; have HI629 := n5_; clear n0_ n1_ n2_ n3_ n4_ n5_; (try clear hb); (try clear hb2); (try clear hk); (try clear hi)))
       go_roundg k1
       case measure => have := HK1.out; omega
       case rel => exact ⟨(x8_1), (wrap64 (x10_1 + 1)), (t645), (by first | rfl | (simp; done) | (simp [*]; done)), (by first | rfl | (simp; done) | (simp [*]; done)), H', ⟨by have := HK1.out; omega⟩, ⟨by (with_reducible repeat apply Kd.R_alloc); exact HO_9.out⟩, ⟨by (with_reducible repeat apply Kd.Q_alloc); exact HO_636001.out⟩, ⟨by (with_reducible repeat apply blk_alloc); exact BK626.out⟩, ⟨by (with_reducible repeat apply blk_alloc); exact BK635.out⟩, ⟨by repeat (first | (with_reducible first | exact HI629.out | apply IsS91.alloc | apply IsS91.drewN | apply IsS91.drew | apply IsS91.set_1 | refine IsS91.far ?_ NB629_626.out _ | refine IsS91.far ?_ NB629_635.out _) | exact HI629.out)⟩, ⟨by repeat (first | (with_reducible first | exact HB.out | apply below_alloc | apply pw_below_drewN | apply below_drew1 | refine below_set ?_ (IsS91.ge HI629.out) | refine below_set ?_ GE626.out | refine below_set ?_ GE635.out) | exact HB.out)⟩⟩
     ·rw [if_neg c22] at H
      have c22b0 : (((rd_T38 t640 x10_1).f0) == 0) = false := beq_eq_false_iff_ne.mpr c22
      have c22b1 : (((rd_T38 t640 x10_1).f0) != 0) = true := bne_iff_ne.mpr c22
      have H' := Aside0.mk H
      clear H
      obtain ⟨Ao29, co29, eo29⟩ := Kd.R_slice HO_9.out
      subst eo29
      have p643 : 0 <= (x10_1 : Int) := of_decide_eq_true (by first | (with_reducible assumption) | assumption)
      have q643 : x10_1 < (t640.length : Int) := of_decide_eq_true (by first | (with_reducible assumption) | assumption)
      obtain ⟨ad643, e643, hx643_0, hx643_1, hx643_2⟩ := at_T38 (Kd.R_reads' HO_9.out).2.2 x10_1 p643 q643
      cases e643
      replace p643 := eq_true p643
      replace q643 := eq_true q643
      go_wp2
      go_roundg k1
      case measure => have := HK1.out; omega
      case rel => exact ⟨(x8_1), (wrap64 (x10_1 + 1)), (x630001_1), (by first | rfl | (simp; done) | (simp [*]; done)), (by first | rfl | (simp; done) | (simp [*]; done)), H', ⟨by have := HK1.out; omega⟩, ⟨by (with_reducible repeat apply Kd.R_alloc); exact HO_9.out⟩, ⟨by (with_reducible repeat apply Kd.Q_alloc); exact HO_636001.out⟩, ⟨by (with_reducible repeat apply blk_alloc); exact BK626.out⟩, ⟨by (with_reducible repeat apply blk_alloc); exact BK635.out⟩, ⟨by repeat (first | (with_reducible first | exact HI629.out | apply IsS91.alloc | apply IsS91.drewN | apply IsS91.drew | apply IsS91.set_1 | refine IsS91.far ?_ NB629_626.out _ | refine IsS91.far ?_ NB629_635.out _) | exact HI629.out)⟩, ⟨by repeat (first | (with_reducible first | exact HB.out | apply below_alloc | apply pw_below_drewN | apply below_drew1 | refine below_set ?_ (IsS91.ge HI629.out) | refine below_set ?_ GE626.out | refine below_set ?_ GE635.out) | exact HB.out)⟩⟩
    ·rw [if_neg c21] at H
     exact absurd H (by simp)
   ·rw [if_neg c20] at H
    have c20b0 : decide (x10_1 < (t640.length : Int)) = false := decide_eq_false c20
    clear c20
    simp only [Option.some.injEq, Prod.mk.injEq] at H
    obtain ⟨rfl, rfl, rfl, rfl⟩ := H
    obtain ⟨Ao30, co30, eo30⟩ := Kd.R_slice HO_9.out
    subst eo30
    have hnb31 := NB635_626.out
    have hnc31 := NB626_635.out
    have hnb32 := NB635_629.out
    have hnc32 := NB629_635.out
    have hcz33_0 : wr.cell? ⟨gb635, 0, none⟩ = some (.int .i64 t630) := (blk_cell BK635.out 0).trans rfl
    have hcz33_1 : wr.cell? ⟨gb635, 1, none⟩ = some (.slice Ao14 t631.length co14) := (blk_cell BK635.out 1).trans rfl
    have hfz33_0 := blk_frozen BK635.out 0
    have hfz33_1 := blk_frozen BK635.out 1
    have hnb34 := NB626_629.out
    have hnc34 := NB629_626.out
    have hcz35_0 : wr.cell? ⟨gb626, 0, none⟩ = some (.int .i64 0) := (blk_cell BK626.out 0).trans rfl
    have hcz35_1 : wr.cell? ⟨gb626, 1, none⟩ = some (.slice none 0 0) := (blk_cell BK626.out 1).trans rfl
    have hfz35_0 := blk_frozen BK626.out 0
    have hfz35_1 := blk_frozen BK626.out 1
    go_wp2
    refine bodyPost_ret (results_ctt rfl _ _ gb626 25 #[.int .i64 t630, .slice Ao14 t631.length co14] (0, 0) _ rfl (by (with_reducible repeat apply blk_alloc); refine blk_put (cs := #[.int .i64 t630, .slice none 0 0]) ?_ 1 _ rfl; (with_reducible repeat apply blk_alloc); refine blk_put (cs := #[.int .i64 0, .slice none 0 0]) ?_ 0 _ rfl; (with_reducible repeat apply blk_alloc); exact BK626.out) Try.underlying25 rfl (by kernel_rfl)) rfl ?_
    exact ⟨_, by first | rfl | (simp [errW_none, errW_some] <;> rfl) | (simp [*, errW_none, errW_some] <;> rfl) | (exfalso; simp_all; done), by (with_reducible repeat apply Kd.Q_alloc); exact Kd.Q_mono (Kd.Q_far (p := ⟨gb626, 1, none⟩) (Kd.Q_far (p := ⟨gb626, 0, none⟩) (Kd.Q_types HO_636001.out BK626.out (by decide)) (fun _ hk => hk.2) (.int .i64 t630)) (fun _ hk => hk.2) (.slice Ao14 t631.length co14)) (fun _ hk => trivial), by repeat (first | (with_reducible first | exact HB.out | apply below_alloc | apply pw_below_drewN | apply below_drew1 | refine below_set ?_ (IsS91.ge HI629.out) | refine below_set ?_ GE626.out | refine below_set ?_ GE635.out) | exact HB.out)⟩
end Go.Proofs.Yteapnipnoadejaa.P
