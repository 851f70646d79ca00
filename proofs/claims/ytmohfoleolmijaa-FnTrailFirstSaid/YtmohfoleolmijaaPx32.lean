/- PROVED: contracts of functions of the program, the reference and the statements; written by this session's driver (pk.py) through its own changed copy of the kit's print. No condition. -/
import Derived.Test.YtmohfoleolmijaaPx0
import Derived.Test.YtmohfoleolmijaaPx25
import Derived.Test.YtmohfoleolmijaaPx30
import Derived.Test.YtmohfoleolmijaaPx31
namespace Go.Proofs.Ytmohfoleolmijaa.P
open Go.RowKit Go.Proofs.YtmohfoleolmijaaW.PrintWords Go.Proofs.YtmohfoleolmijaaW.PrintLast Go.Proofs.YtmohfoleolmijaaW.PrintMore
attribute [local go_sem] max2_int min2_int max_two min_two max_three min_three max_four min_four   -- for this text's walks alone
set_option linter.unusedVariables false
set_option linter.unusedSimpArgs false

/-! ### spec_DrawSightRay: function 45 -/
def spec_DrawSightRay.f (k : Nat) (l0 : List Int) : Option (Int × (List (S57)) × Int) := (spec_l6Open.f l0).bind fun bt527 => ((spec_l71Some.f k bt527.1 bt527.2).bind fun bt530 => ((spec_l71Sight.f k bt527.1 bt530.2.2 bt530.1 bt530.2.1).bind fun bt536 => (some (bt530.1, bt530.2.1, bt536.1))))
set_option maxHeartbeats 8000000 in
set_option maxRecDepth 100000 in
theorem spec_DrawSightRay.calls (k : Nat) (A0 : Option Addr) (c0 : Nat) (l0 : List Int) (r1 : Int) (r2 : List (S57)) (r3 : Int) (w : World) (hr0 : Kd.C (Kd.int .u8) w A0 l0.length l0) (hc0 : l0.length ≤ c0) (h : spec_DrawSightRay.f k l0 = some (r1, r2, r3)) :
  Calls Try.prog 45 #[.slice A0 l0.length c0] w fun e w' => ∃ v1_ : Value, e = .returned (.tuple #[.agg #[.int .i64 r1, v1_], .int .i64 r3]) ∧ Kd.Q k57 57 w' w.heap.size (fun _ => True) v1_ r2 ∧ Below w.heap.size w w' := by
 have hu30 := Try.underlying30
 have HR0 := Aside0.mk hr0
 have HC0 := Aside0.mk hc0
 clear hr0 hc0
 have HB := Aside0.mk (Below.refl w.heap.size w)
 have H : ((spec_l6Open.f l0).bind fun bt527 => ((spec_l71Some.f k bt527.1 bt527.2).bind fun bt530 => ((spec_l71Sight.f k bt527.1 bt530.2.2 bt530.1 bt530.2.1).bind fun bt536 => (some (bt530.1, bt530.2.1, bt536.1))))) = some (r1, r2, r3) := h
 clear h
 replace H := Option.bind_eq_some_iff.mp H
 obtain ⟨⟨t527, t528⟩, A20, H⟩ := H
 replace H : ((spec_l71Some.f k t527 t528).bind fun bt530 => ((spec_l71Sight.f k t527 bt530.2.2 bt530.1 bt530.2.1).bind fun bt536 => (some (bt530.1, bt530.2.1, bt536.1)))) = some (r1, r2, r3) := H
 have A2 := Aside0.mk A20
 clear A20
 replace H := Option.bind_eq_some_iff.mp H
 obtain ⟨⟨t530, t531, t534⟩, A30, H⟩ := H
 replace H : ((spec_l71Sight.f k t527 t534 t530 t531).bind fun bt536 => (some (t530, t531, bt536.1))) = some (r1, r2, r3) := H
 have A3 := Aside0.mk A30
 clear A30
 replace H := Option.bind_eq_some_iff.mp H
 obtain ⟨⟨t536, t537⟩, A40, H⟩ := H
 replace H : (some (t530, t531, t536)) = some (r1, r2, r3) := H
 have A4 := Aside0.mk A40
 clear A40
 simp only [Option.some.injEq, Prod.mk.injEq] at H
 obtain ⟨rfl, rfl, rfl⟩ := H
 go_enter Try.func45, Try.ntmps45
 try go_wp2_with (first | ((with_reducible refine gate_dst (N := 2) rfl ?_); refine box_event rfl (N := 2) rfl (cs := #[.int .i64 0, .slice none 0 0]) (t := 30) ?hr ?_; (case hr => first | (go_simp; done) | (go_simp; rfl)); intro gb526 hg w5 hbox hb; have n0_ := Aside0.mk (below_step (by repeat first | exact HB.out | apply below_alloc | apply pw_below_drewN) hb); have n1_ := Aside0.mk (hbox); have n2_ := Aside0.mk ((by rw [hg]; exact (below_size (by repeat first | exact HB.out | apply below_alloc | apply pw_below_drewN)) : w.heap.size ≤ gb526)); have n3_ := Aside0.mk ((by rw [hg]; exact (below_size (by repeat first | exact HB.out | apply below_alloc | apply pw_below_drewN)) : w.heap.size ≤ gb526)); clear HB; have HB := n0_; have BK526 := n1_; have GW526 := n2_; have GE526 := n3_; clear n0_ n1_ n2_ n3_; clear hb hbox hg) | ((with_reducible refine gate_callee (f := 50) rfl ?_); refine goesL_ (some 7) rfl rfl Try.func50 (by kernel_rfl) rfl #[.slice A0 l0.length c0] rfl (by first | rfl | (simp only [List.map_toArray, List.map_cons, List.map_nil, List.length_drop, List.length_take]; try rfl)) ?_; (with_reducible refine (spec_l6Open.calls _ _ l0 t527 t528 w _ ?side1 ?side2 ?side3 A2.out).mono ?_); (case side1 => repeat (first | (with_reducible first | exact HB.out | apply below_alloc | apply pw_below_drewN | apply below_drew1 | refine below_set ?_ GE526.out) | exact HB.out)); (case side2 => exact HR0.out); (case side3 => exact HC0.out); rintro e w6 ⟨g529, rfl, hi, hb, hb2⟩; refine ⟨_, rfl, ?_⟩; have n0_ := Aside0.mk (blk_below (bK BK526.out) hb2); have n1_ := Aside0.mk (hb); have n2_ := Aside0.mk (hi); have n3_ := Aside0.mk (IsS97.ne_blk hi (blk_below (bK BK526.out) hb2) (by decide)); have n4_ := Aside0.mk (Ne.symm (IsS97.ne_blk hi (blk_below (bK BK526.out) hb2) (by decide))); clear BK526; clear HB; have BK526 := n0_; have HB := n1_; have HI529 := n2_; have NB529_526 := n3_; have NB526_529 := n4_; clear n0_ n1_ n2_ n3_ n4_; (try clear hb); (try clear hb2); (try clear hk); (try clear hi)) | ((with_reducible refine gate_callee (f := 51) rfl ?_); refine goesL_ (some 9) rfl rfl Try.func51 (by kernel_rfl) rfl #[.pointer (some ⟨g529, 0, none⟩)] rfl (by first | rfl | (simp only [List.map_toArray, List.map_cons, List.map_nil, List.length_drop, List.length_take]; try rfl)) ?_; (with_reducible refine (spec_l71Some.calls k g529 t527 t528 t530 t531 t534 w _ ?side1 ?side2 A3.out).mono ?_); (case side1 => repeat (first | (with_reducible first | exact HI529.out | apply IsS97.alloc | apply IsS97.drewN | apply IsS97.drew | apply IsS97.set_1 | refine IsS97.far ?_ NB529_526.out _) | exact HI529.out)); (case side2 => repeat (first | (with_reducible first | exact HB.out | apply below_alloc | apply pw_below_drewN | apply below_drew1 | refine below_set ?_ (IsS97.ge HI529.out) | refine below_set ?_ GE526.out) | exact HB.out)); rintro e w7 ⟨v532, rfl, ho0, hi, hb, hk⟩; refine ⟨_, rfl, ?_⟩; have n0_ := Aside0.mk (KeepBut.blk hk (g' := gb526) (o := .cells #[.int .i64 0, .slice none 0 0] 30 (0, 0)) (bK BK526.out) NB526_529.out (by simp)); have n1_ := Aside0.mk (Kd.Q_lower ho0 (below_size (by repeat (first | (with_reducible first | exact HB.out | apply below_alloc | apply pw_below_drewN | apply below_drew1 | refine below_set ?_ (IsS97.ge HI529.out) | refine below_set ?_ GE526.out) | exact HB.out)))); have n2_ := Aside0.mk (hb); have n3_ := Aside0.mk (hi); clear BK526; clear HB; clear HI529; have BK526 := n0_; have HO533 := n1_; have HB := n2_; have HI529 := n3_; clear n0_ n1_ n2_ n3_; (try clear hb); (try clear hb2); (try clear hk); (try clear hi); (try clear ho0)) | ((with_reducible refine gate_dst (N := 5) rfl ?_); refine box_event rfl (N := 5) rfl (cs := #[.int .i64 0, .slice none 0 0]) (t := 30) ?hr ?_; (case hr => first | (go_simp; done) | (go_simp; rfl)); intro gb535 hg w8 hbox hb; have n0_ := Aside0.mk (Kd.Q_below (by (with_reducible repeat apply Kd.Q_alloc); exact HO533.out) hb); have n1_ := Aside0.mk (blk_below (bK BK526.out) hb); have n2_ := Aside0.mk (IsS97.below (by repeat (first | (with_reducible first | exact HI529.out | apply IsS97.alloc | apply IsS97.drewN | apply IsS97.drew | apply IsS97.set_1 | refine IsS97.far ?_ NB529_526.out _) | exact HI529.out)) hb); have n3_ := Aside0.mk (below_step (by repeat (first | (with_reducible first | exact HB.out | apply below_alloc | apply pw_below_drewN | apply below_drew1 | refine below_set ?_ (IsS97.ge HI529.out) | refine below_set ?_ GE526.out) | exact HB.out)) hb); have n4_ := Aside0.mk (hbox); have n5_ := Aside0.mk ((by rw [hg]; exact (below_size (by repeat (first | (with_reducible first | exact HB.out | apply below_alloc | apply pw_below_drewN | apply below_drew1 | refine below_set ?_ (IsS97.ge HI529.out) | refine below_set ?_ GE526.out) | exact HB.out))) : w.heap.size ≤ gb535)); have n6_ := Aside0.mk ((by rw [hg]; exact (below_size (by repeat (first | (with_reducible first | exact HB.out | apply below_alloc | apply pw_below_drewN | apply below_drew1 | refine below_set ?_ (IsS97.ge HI529.out) | refine below_set ?_ GE526.out) | exact HB.out))) : w.heap.size ≤ gb535)); have n7_ := Aside0.mk ((by rw [hg]; exact Nat.ne_of_lt (blk_lt (bK BK526.out)) : gb526 ≠ gb535)); have n8_ := Aside0.mk ((by rw [hg]; exact Nat.ne_of_gt (blk_lt (bK BK526.out)) : gb535 ≠ gb526)); have n9_ := Aside0.mk ((by rw [hg]; exact Nat.ne_of_lt (IsS97.lt (show IsS97 w _ g529 t527 t534 from by repeat (first | (with_reducible first | exact HI529.out | apply IsS97.alloc | apply IsS97.drewN | apply IsS97.drew | apply IsS97.set_1 | refine IsS97.far ?_ NB529_526.out _) | exact HI529.out))) : g529 ≠ gb535)); have n10_ := Aside0.mk ((by rw [hg]; exact Nat.ne_of_gt (IsS97.lt (show IsS97 w _ g529 t527 t534 from by repeat (first | (with_reducible first | exact HI529.out | apply IsS97.alloc | apply IsS97.drewN | apply IsS97.drew | apply IsS97.set_1 | refine IsS97.far ?_ NB529_526.out _) | exact HI529.out))) : gb535 ≠ g529)); clear HO533; clear BK526; clear HI529; clear HB; have HO533 := n0_; have BK526 := n1_; have HI529 := n2_; have HB := n3_; have BK535 := n4_; have GW535 := n5_; have GE535 := n6_; have NB526_535 := n7_; have NB535_526 := n8_; have NB529_535 := n9_; have NB535_529 := n10_; clear n0_ n1_ n2_ n3_ n4_ n5_ n6_ n7_ n8_ n9_ n10_; clear hb hbox hg; have hnb9 := NB535_526.out; have hnc9 := NB526_535.out; have hnb10 := NB535_529.out; have hnc10 := NB529_535.out; have hcz11_0 : w8.cell? ⟨gb535, 0, none⟩ = some (.int .i64 0) := (blk_cell BK535.out 0).trans rfl; have hcz11_1 : w8.cell? ⟨gb535, 1, none⟩ = some (.slice none 0 0) := (blk_cell BK535.out 1).trans rfl; have hfz11_0 := blk_frozen BK535.out 0; have hfz11_1 := blk_frozen BK535.out 1; obtain ⟨Ao12, co12, eo12, _⟩ := Kd.Q_slice HO533.out; subst eo12))
 have n0_ : Aside0 (Kd.Q k57 57 ((w8.setCell ⟨gb535, 0, none⟩ (.int .i64 t530)).setCell ⟨gb535, 1, none⟩ (.slice Ao12 t531.length co12)) w.heap.size (fun _ => True) (.slice Ao12 t531.length co12) t531) := ⟨by (with_reducible repeat apply Kd.Q_alloc); exact Kd.Q_mono (Kd.Q_far (p := ⟨gb535, 1, none⟩) (Kd.Q_far (p := ⟨gb535, 0, none⟩) (Kd.Q_types HO533.out BK535.out (by decide)) (fun _ hk => hk.2) (.int .i64 t530)) (fun _ hk => hk.2) (.slice Ao12 t531.length co12)) (fun _ hk => trivial)⟩
 have n1_ : Aside0 (((w8.setCell ⟨gb535, 0, none⟩ (.int .i64 t530)).setCell ⟨gb535, 1, none⟩ (.slice Ao12 t531.length co12)).heap[gb526]? = some (.cells #[.int .i64 0, .slice none 0 0] 30 (0, 0))) := ⟨by (with_reducible repeat apply blk_alloc); refine blk_far ?_ NB526_535.out _; (with_reducible repeat apply blk_alloc); refine blk_far ?_ NB526_535.out _; (with_reducible repeat apply blk_alloc); exact BK526.out⟩
 have n2_ : Aside0 (((w8.setCell ⟨gb535, 0, none⟩ (.int .i64 t530)).setCell ⟨gb535, 1, none⟩ (.slice Ao12 t531.length co12)).heap[gb535]? = some (.cells #[.int .i64 t530, .slice Ao12 t531.length co12] 30 (0, 0))) := ⟨by (with_reducible repeat apply blk_alloc); refine blk_put (cs := #[.int .i64 t530, .slice none 0 0]) ?_ 1 _ rfl; (with_reducible repeat apply blk_alloc); refine blk_put (cs := #[.int .i64 0, .slice none 0 0]) ?_ 0 _ rfl; (with_reducible repeat apply blk_alloc); exact BK535.out⟩
 have n3_ : Aside0 (IsS97 w ((w8.setCell ⟨gb535, 0, none⟩ (.int .i64 t530)).setCell ⟨gb535, 1, none⟩ (.slice Ao12 t531.length co12)) g529 t527 t534) := ⟨by repeat (first | (with_reducible first | exact HI529.out | apply IsS97.alloc | apply IsS97.drewN | apply IsS97.drew | apply IsS97.set_1 | refine IsS97.far ?_ NB529_526.out _ | refine IsS97.far ?_ NB529_535.out _) | exact HI529.out)⟩
 have n4_ : Aside0 (Below w.heap.size w ((w8.setCell ⟨gb535, 0, none⟩ (.int .i64 t530)).setCell ⟨gb535, 1, none⟩ (.slice Ao12 t531.length co12))) := ⟨by repeat (first | (with_reducible first | exact HB.out | apply below_alloc | apply pw_below_drewN | apply below_drew1 | refine below_set ?_ (IsS97.ge HI529.out) | refine below_set ?_ GE526.out | refine below_set ?_ GE535.out) | exact HB.out)⟩
 (try clear HO533)
 (try clear BK526)
 (try clear BK535)
 (try clear HI529)
 (try clear HB)
 generalize ((w8.setCell ⟨gb535, 0, none⟩ (.int .i64 t530)).setCell ⟨gb535, 1, none⟩ (.slice Ao12 t531.length co12)) = w13 at n0_ n1_ n2_ n3_ n4_ ⊢
 have HO533 := n0_
 have BK526 := n1_
 have BK535 := n2_
 have HI529 := n3_
 have HB := n4_
 clear n0_ n1_ n2_ n3_ n4_
 have n0_ := Aside0.mk (Kd.Q_drew HO533.out)
 have n1_ := Aside0.mk (blk_drew BK526.out)
 have n2_ := Aside0.mk (blk_drew BK535.out)
 have n3_ := Aside0.mk (IsS97.drew HI529.out)
 have n4_ := Aside0.mk (below_drew1 HB.out)
 clear HO533
 clear BK526
 clear BK535
 clear HI529
 clear HB
 have HO533 := n0_
 have BK526 := n1_
 have BK535 := n2_
 have HI529 := n3_
 have HB := n4_
 clear n0_ n1_ n2_ n3_ n4_
 refine start_ (n := 6) (S := fun w' => w'.cell? ⟨gb535, 0, none⟩ = some (.int .i64 t530) ∧ w'.cell? ⟨gb535, 1, none⟩ = some (.slice Ao12 t531.length co12)) (ds := []) #[false, false, false, false, false, false] (by kernel_rfl) rfl rfl ⟨(blk_cell BK535.out 0).trans rfl, (blk_cell BK535.out 1).trans rfl⟩ (fun hHeld => ?_)
 generalize w13.drew = w14 at HO533 BK526 BK535 HI529 HB hHeld ⊢
 refine pure_ (i := 1) (N := some 11) (v := ?_) (a' := ?_) #[false, true, false, false, false, false] rfl rfl (by kernel_rfl) (fun _ _ _ h => h) (Or.inl ⟨by rfl, ?_⟩) ?_ ?_
 rotate_left
 ·intro w'
  go_simp
  with_reducible rfl
 rotate_left
 ·simp only [Act.put, List.setIfInBounds_toArray, List.set_cons_zero, List.set_cons_succ, i64_w, i32_w]
  rfl
 refine take_ (i := 0) (N := some 10) (v := ?_) (a' := ?_) #[true, true, false, false, false, false] rfl rfl (by kernel_rfl) (fun _ _ _ h => h) (Or.inl ⟨by rfl, ?_⟩) hHeld ?_ ?_
 rotate_left
 ·rintro w' ⟨s0, s1⟩
  go_simp
  with_reducible rfl
 rotate_left
 ·simp only [Act.put, List.setIfInBounds_toArray, List.set_cons_zero, List.set_cons_succ, i64_w, i32_w]
  rfl
 refine take_ (i := 2) (N := some 12) (v := ?_) (a' := ?_) #[true, true, true, false, false, false] rfl rfl (by kernel_rfl) (fun _ _ _ h => h) (Or.inl ⟨by rfl, ?_⟩) hHeld ?_ ?_
 rotate_left
 ·rintro w' ⟨s0, s1⟩
  go_simp
  with_reducible rfl
 rotate_left
 ·simp only [Act.put, List.setIfInBounds_toArray, List.set_cons_zero, List.set_cons_succ, i64_w, i32_w]
  rfl
 refine one_ (i := 3) (N := some 13) #[true, true, true, true, false, false] rfl rfl (by kernel_rfl) (by decide) (fun K hK => ?_)
 refine goes_ Try.func53 (by kernel_rfl) rfl #[.pointer (some ⟨g529, 0, none⟩), .agg #[.int .i64 t530, .slice Ao12 t531.length co12]] (by rfl) rfl rfl (by first | rfl | (simp only [List.map_toArray, List.map_cons, List.map_nil, List.length_drop, List.length_take]; try rfl)) ?_
 with_reducible refine (spec_l71Sight.calls k g529 t527 t534 t530 _ _ t531 t536 t537 w _ ?side1 ?side2 ?side3 ?side4 A4.out).mono ?_
 (case side1 => repeat (first | (with_reducible first | exact HI529.out | apply IsS97.alloc | apply IsS97.drewN | apply IsS97.drew | apply IsS97.set_1 | refine IsS97.far ?_ NB529_526.out _ | refine IsS97.far ?_ NB529_535.out _) | exact HI529.out))
 (case side2 => repeat (first | (with_reducible first | exact HB.out | apply below_alloc | apply pw_below_drewN | apply below_drew1 | refine below_set ?_ (IsS97.ge HI529.out) | refine below_set ?_ GE526.out | refine below_set ?_ GE535.out) | exact HB.out))
 (case side3 => exact Kd.C_foot_ownQ (IsS97.apartQ (show IsS97 w _ g529 t527 t534 from by repeat (first | (with_reducible first | exact HI529.out | apply IsS97.alloc | apply IsS97.drewN | apply IsS97.drew | apply IsS97.set_1 | refine IsS97.far ?_ NB529_526.out _ | refine IsS97.far ?_ NB529_535.out _) | exact HI529.out)) (by (with_reducible repeat apply Kd.Q_alloc); exact HO533.out) (by decide)) (fun _ h_ => h_.2))
 (case side4 => exact (Kd.Q_reads' HO533.out).2.1)
 rintro e w15 ⟨rfl, hi, hb, hk⟩
 refine ⟨_, rfl, ?_⟩
 have n0_ := Aside0.mk (KeepBut.blk hk (g' := gb526) (o := .cells #[.int .i64 0, .slice none 0 0] 30 (0, 0)) (bK BK526.out) NB526_529.out (by simp))
 have n1_ := Aside0.mk (Kd.Q_mono (Kd.Q_keep (IsS97.apartQ (show IsS97 w _ g529 t527 t534 from by repeat (first | (with_reducible first | exact HI529.out | apply IsS97.alloc | apply IsS97.drewN | apply IsS97.drew | apply IsS97.set_1 | refine IsS97.far ?_ NB529_526.out _ | refine IsS97.far ?_ NB529_535.out _) | exact HI529.out)) (by (with_reducible repeat apply Kd.Q_alloc); exact HO533.out) (by decide)) hk (fun _ h => h.2)) (fun _ h => h.1))
 have n2_ := Aside0.mk (KeepBut.blk hk (g' := gb535) (o := .cells #[.int .i64 t530, .slice Ao12 t531.length co12] 30 (0, 0)) (bK BK535.out) NB535_529.out (by simp))
 have n3_ := Aside0.mk (hb)
 have n4_ := Aside0.mk (hi)
 clear BK526
 clear HO533
 clear BK535
 clear HB
 clear HI529
 have BK526 := n0_
 have HO533 := n1_
 have BK535 := n2_
 have HB := n3_
 have HI529 := n4_
 clear n0_ n1_ n2_ n3_ n4_
 (try clear hb)
 (try clear hb2)
 (try clear hk)
 (try clear hi)
 refine hK.out _ _ ⟨(blk_cell BK535.out 0).trans rfl, (blk_cell BK535.out 1).trans rfl⟩ (fun hHeld => ?_)
 clear hK K
 refine norm_ (a' := ?_) ?_ ?_
 rotate_left
 ·show Act.put _ (some 13) _ = _
  simp only [Act.put, List.setIfInBounds_toArray, List.set_cons_zero, List.set_cons_succ, i64_w, i32_w]
  rfl
 refine one_ (i := 4) (N := none) #[true, true, true, true, true, false] rfl rfl (by kernel_rfl) (by decide) (fun K hK => ?_)
 have hs16 : w15.cell? ⟨gb526, 0, none⟩ = some (.int .i64 0) := (blk_cell BK526.out 0).trans rfl
 have hfs16 := blk_frozen BK526.out 0
 have hns16_1 := NB535_526.out
 have hms16_1 := NB526_535.out
 have hs17 : w15.cell? ⟨gb526, 1, none⟩ = some (.slice none 0 0) := (blk_cell BK526.out 1).trans rfl
 have hfs17 := blk_frozen BK526.out 1
 have hns17_1 := NB535_526.out
 have hms17_1 := NB526_535.out
 refine skip_ (w1 := ?_) (by rfl) rfl ?_ ?_
 rotate_left
 ·go_simp
  rfl
 refine hK.out _ _ ⟨((cell_far (p := ⟨gb526, _, none⟩) NB535_526.out _).trans (((cell_far (p := ⟨gb526, _, none⟩) NB535_526.out _).trans (hHeld.1)))), ((cell_far (p := ⟨gb526, _, none⟩) NB535_526.out _).trans (((cell_far (p := ⟨gb526, _, none⟩) NB535_526.out _).trans (hHeld.2))))⟩ (fun hHeld => ?_)
 clear hK K
 refine pure_ (i := 5) (N := some 3) (v := ?_) (a' := ?_) #[true, true, true, true, true, true] rfl rfl (by kernel_rfl) (fun _ _ _ h => h) (Or.inl ⟨by rfl, ?_⟩) ?_ ?_
 rotate_left
 ·intro w'
  go_simp
  with_reducible rfl
 rotate_left
 ·simp only [Act.put, List.setIfInBounds_toArray, List.set_cons_zero, List.set_cons_succ, i64_w, i32_w]
  rfl
 refine done_ (by kernel_rfl) ?_
 try go_wp2
 refine bodyPost_ret (results_ct rfl _ _ gb526 30 #[.int .i64 t530, .slice Ao12 t531.length co12] (0, 0) _ rfl (by (with_reducible repeat apply blk_alloc); refine blk_put (cs := #[.int .i64 t530, .slice none 0 0]) ?_ 1 _ rfl; (with_reducible repeat apply blk_alloc); refine blk_put (cs := #[.int .i64 0, .slice none 0 0]) ?_ 0 _ rfl; (with_reducible repeat apply blk_alloc); exact BK526.out) Try.underlying30 rfl (by kernel_rfl)) rfl ?_
 exact ⟨_, by first | rfl | (simp [errW_none, errW_some] <;> rfl) | (simp [*, errW_none, errW_some] <;> rfl) | (exfalso; simp_all; done), by (with_reducible repeat apply Kd.Q_alloc); exact Kd.Q_mono (Kd.Q_far (p := ⟨gb526, 1, none⟩) (Kd.Q_far (p := ⟨gb526, 0, none⟩) (Kd.Q_types HO533.out BK526.out (by decide)) (fun _ hk => hk.2) (.int .i64 t530)) (fun _ hk => hk.2) (.slice Ao12 t531.length co12)) (fun _ hk => trivial), by repeat (first | (with_reducible first | exact HB.out | apply below_alloc | apply pw_below_drewN | apply below_drew1 | refine below_set ?_ (IsS97.ge HI529.out) | refine below_set ?_ GE526.out | refine below_set ?_ GE535.out) | exact HB.out)⟩

end Go.Proofs.Ytmohfoleolmijaa.P
