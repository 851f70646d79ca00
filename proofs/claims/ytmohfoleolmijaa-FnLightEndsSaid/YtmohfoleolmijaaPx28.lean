/- PROVED: contracts of functions; No condition. -/
import Derived.Test.YtmohfoleolmijaaPx0
import Derived.Test.YtmohfoleolmijaaPx25
import Derived.Test.YtmohfoleolmijaaPx26
import Derived.Test.YtmohfoleolmijaaPx27
namespace Go.Proofs.Ytmohfoleolmijaa.P
open Go.RowKit Go.Proofs.YtmohfoleolmijaaW
set_option linter.unusedVariables false
set_option linter.unusedSimpArgs false
def spec_l71Grid.l0 : Nat -> Int -> List Int -> Int -> Int -> List (S57) -> Option (Int × (List (S57)) × Int)
 | 0, _, _, _, _, _ => none
 | k + 1, x4, x1000, x1001, x467000, x467001 => if x4 > 0 then ((spec_l71Cell.f k x1000 x1001).bind fun bt469 => (if x467001.length < 8796093022208 then (spec_l71Grid.l0 k (wrap64 (x4 - 1)) x1000 bt469.2.2 x467000 (x467001 ++ [(⟨bt469.1, bt469.2.1⟩ : S57)])) else (none))) else (some (x467000, x467001, x1001))
def spec_l71Grid.f (k : Nat) (s0_0 : List Int) (s0_1 : Int) : Option (Int × (List (S57)) × Int) := (spec_l6Rd_pick.f k s0_0 s0_1 5).bind fun bt464 => ((spec_l6Rd_pick.f k s0_0 bt464.2 5).bind fun bt467 => (spec_l71Grid.l0 k (wrap64 ((wrap64 (1 + bt464.1)) * (wrap64 (1 + bt467.1)))) s0_0 bt467.2 (wrap64 (1 + bt464.1)) ([] : List (S57))))
def spec_l71Grid.T5 : Bool × List (List Nat × List Nat) := (true, [([], []), ([0], [0]), ([], []), ([2], [2]), ([3], [3]), ([1, 4, 3], [1, 4]), ([0, 1, 2, 3, 4, 5], []), ([6, 5, 5, 0, 1, 2, 3, 4, 5], [5, 6])])
def spec_l71Grid.B5 : List Nat := [0, 1, 0, 4, 12, 31, 63, 127]
theorem spec_l71Grid.tab5 : rtab .any (opsOf Try.f67 5) = spec_l71Grid.T5 := by kernel_rfl
theorem spec_l71Grid.bits5 : waitsOk spec_l71Grid.T5.2 spec_l71Grid.B5 = true := by kernel_rfl
set_option maxHeartbeats 8000000 in
set_option maxRecDepth 100000 in
theorem spec_l71Grid.calls (k : Nat) (g : Nat) (s0_0 : List Int) (s0_1 : Int) (r1 : Int) (r2 : List (S57)) (r3 : Int) (w0 w : World) (hI : IsS97 w0 w g s0_0 s0_1) (hB : Below w0.heap.size w0 w) (h : spec_l71Grid.f k s0_0 s0_1 = some (r1, r2, r3)) :
  Calls Try.prog 67 #[.pointer (some ⟨g, 0, none⟩)] w fun e w' => ∃ v1_ : Value, e = .returned (.agg #[.int .i64 r1, v1_]) ∧ Kd.R k57 57 w' w.heap.size (fun _ => True) v1_ r2 ∧ IsS97 w0 w' g s0_0 r3 ∧ Below w0.heap.size w0 w' ∧ KeepBut w w' g none := by
 have hu30 := Try.underlying30
 have HI0 := Aside0.mk hI
 have HK := Aside0.mk (KeepBut.refl w g none)
 have HL := Aside0.mk hB.size
 clear hI
 have HW0 := Aside0.mk hB.size
 have HB := Aside0.mk hB
 clear hB
 have H : ((spec_l6Rd_pick.f k s0_0 s0_1 5).bind fun bt464 => ((spec_l6Rd_pick.f k s0_0 bt464.2 5).bind fun bt467 => (spec_l71Grid.l0 k (wrap64 ((wrap64 (1 + bt464.1)) * (wrap64 (1 + bt467.1)))) s0_0 bt467.2 (wrap64 (1 + bt464.1)) ([] : List (S57))))) = some (r1, r2, r3) := h
 clear h
 replace H := Option.bind_eq_some_iff.mp H
 obtain ⟨⟨t464, t465⟩, A20, H⟩ := H
 replace H : ((spec_l6Rd_pick.f k s0_0 t465 5).bind fun bt467 => (spec_l71Grid.l0 k (wrap64 ((wrap64 (1 + t464)) * (wrap64 (1 + bt467.1)))) s0_0 bt467.2 (wrap64 (1 + t464)) ([] : List (S57)))) = some (r1, r2, r3) := H
 have A2 := Aside0.mk A20
 clear A20
 replace H := Option.bind_eq_some_iff.mp H
 obtain ⟨⟨t467, t468⟩, A30, H⟩ := H
 replace H : (spec_l71Grid.l0 k (wrap64 ((wrap64 (1 + t464)) * (wrap64 (1 + t467)))) s0_0 t468 (wrap64 (1 + t464)) ([] : List (S57))) = some (r1, r2, r3) := H
 have A3 := Aside0.mk A30
 clear A30
 have H' := Aside0.mk H
 clear H
 go_enter Try.func67, Try.ntmps67
 try go_wp2_with (first | ((with_reducible refine gate_dst (N := 2) rfl ?_); refine box_event rfl (N := 2) rfl (cs := #[.int .i64 0, .slice none 0 0]) (t := 30) ?hr ?_; (case hr => first | (go_simp; done) | (go_simp; rfl)); intro gb463 hg w4 hbox hb; have n0_ := Aside0.mk (IsS97.below (by repeat (first | (with_reducible first | exact HI0.out | apply IsS97.alloc | apply IsS97.drewN | apply IsS97.drew | apply IsS97.set_1) | exact HI0.out)) hb); have n1_ := Aside0.mk (KeepBut.trans (by repeat (first | (with_reducible first | exact HK.out | apply KeepBut.set_ | apply keep_drewN | apply keep_drew | apply keep_alloc) | exact HK.out)) (KeepBut.of_below hb g none) (.inl rfl)); have n2_ := Aside0.mk (below_step (by repeat (first | (with_reducible first | exact HB.out | apply below_alloc | apply pw_below_drewN | apply below_drew1 | refine below_set ?_ (IsS97.ge HI0.out)) | exact HB.out)) hb); have n3_ := Aside0.mk (hbox); have n4_ := Aside0.mk ((by rw [hg]; exact (keep_size (w := w) (g := g) (row := none) (by repeat (first | (with_reducible first | exact HK.out | apply KeepBut.set_ | apply keep_drewN | apply keep_drew | apply keep_alloc) | exact HK.out))) : w.heap.size <= gb463)); have n5_ := Aside0.mk ((Nat.le_trans HW0.out (by rw [hg]; exact (keep_size (w := w) (g := g) (row := none) (by repeat (first | (with_reducible first | exact HK.out | apply KeepBut.set_ | apply keep_drewN | apply keep_drew | apply keep_alloc) | exact HK.out))) : w.heap.size <= gb463) : w0.heap.size <= gb463)); have n6_ := Aside0.mk ((by rw [hg]; exact Nat.ne_of_lt (IsS97.lt (show IsS97 w0 _ g s0_0 s0_1 from by repeat (first | (with_reducible first | exact HI0.out | apply IsS97.alloc | apply IsS97.drewN | apply IsS97.drew | apply IsS97.set_1) | exact HI0.out))) : g ≠ gb463)); have n7_ := Aside0.mk ((by rw [hg]; exact Nat.ne_of_gt (IsS97.lt (show IsS97 w0 _ g s0_0 s0_1 from by repeat (first | (with_reducible first | exact HI0.out | apply IsS97.alloc | apply IsS97.drewN | apply IsS97.drew | apply IsS97.set_1) | exact HI0.out))) : gb463 ≠ g)); clear HI0; clear HK; clear HB; have HI0 := n0_; have HK := n1_; have HB := n2_; have BK463 := n3_; have GW463 := n4_; have GE463 := n5_; have NB0_463 := n6_; have NB463_0 := n7_; clear n0_ n1_ n2_ n3_ n4_ n5_ n6_ n7_; clear hb hbox hg) | ((with_reducible refine gate_callee (f := 52) rfl ?_); refine goesL_ (some 6) rfl rfl Try.func52 (by kernel_rfl) rfl #[.pointer (some ⟨g, 0, none⟩), .int .i64 5] rfl (by first | rfl | (simp only [List.map_toArray, List.map_cons, List.map_nil, List.length_drop, List.length_take]; try rfl)) ?_; (with_reducible refine (spec_l6Rd_pick.calls k g s0_0 s0_1 5 t464 t465 w0 _ ?side1 ?side2 A2.out).mono ?_); (case side1 => repeat (first | (with_reducible first | exact HI0.out | apply IsS97.alloc | apply IsS97.drewN | apply IsS97.drew | apply IsS97.set_1 | refine IsS97.far ?_ NB0_463.out _) | exact HI0.out)); (case side2 => repeat (first | (with_reducible first | exact HB.out | apply below_alloc | apply pw_below_drewN | apply below_drew1 | refine below_set ?_ (IsS97.ge HI0.out) | refine below_set ?_ GE463.out) | exact HB.out)); rintro e w5 ⟨rfl, hi, hb, hk⟩; refine ⟨_, rfl, ?_⟩; have n0_ := Aside0.mk (KeepBut.blk hk (g' := gb463) (o := .cells #[.int .i64 0, .slice none 0 0] 30 (0, 0)) (bK BK463.out) NB463_0.out (by simp)); have n1_ := Aside0.mk (KeepBut.trans (by repeat (first | (with_reducible first | exact HK.out | apply KeepBut.set_ | apply keep_drewN | apply keep_drew | apply keep_alloc | refine keep_far ?_ GW463.out _) | exact HK.out)) hk (.inl rfl)); have n2_ := Aside0.mk (hb); have n3_ := Aside0.mk (hi); clear BK463; clear HK; clear HB; clear HI0; have BK463 := n0_; have HK := n1_; have HB := n2_; have HI0 := n3_; clear n0_ n1_ n2_ n3_; (try clear hb); (try clear hb2); (try clear hk); (try clear hi)) | ((with_reducible refine gate_dst (N := 3) rfl ?_); refine box_event rfl (N := 3) rfl (cs := #[.int .i64 0, .slice none 0 0]) (t := 30) ?hr ?_; (case hr => first | (go_simp; done) | (go_simp; rfl)); intro gb466 hg w6 hbox hb; have n0_ := Aside0.mk (IsS97.below (by repeat (first | (with_reducible first | exact HI0.out | apply IsS97.alloc | apply IsS97.drewN | apply IsS97.drew | apply IsS97.set_1 | refine IsS97.far ?_ NB0_463.out _) | exact HI0.out)) hb); have n1_ := Aside0.mk (blk_below (bK BK463.out) hb); have n2_ := Aside0.mk (KeepBut.trans (by repeat (first | (with_reducible first | exact HK.out | apply KeepBut.set_ | apply keep_drewN | apply keep_drew | apply keep_alloc | refine keep_far ?_ GW463.out _) | exact HK.out)) (KeepBut.of_below hb g none) (.inl rfl)); have n3_ := Aside0.mk (below_step (by repeat (first | (with_reducible first | exact HB.out | apply below_alloc | apply pw_below_drewN | apply below_drew1 | refine below_set ?_ (IsS97.ge HI0.out) | refine below_set ?_ GE463.out) | exact HB.out)) hb); have n4_ := Aside0.mk (hbox); have n5_ := Aside0.mk ((by rw [hg]; exact (keep_size (w := w) (g := g) (row := none) (by repeat (first | (with_reducible first | exact HK.out | apply KeepBut.set_ | apply keep_drewN | apply keep_drew | apply keep_alloc | refine keep_far ?_ GW463.out _) | exact HK.out))) : w.heap.size <= gb466)); have n6_ := Aside0.mk ((Nat.le_trans HW0.out (by rw [hg]; exact (keep_size (w := w) (g := g) (row := none) (by repeat (first | (with_reducible first | exact HK.out | apply KeepBut.set_ | apply keep_drewN | apply keep_drew | apply keep_alloc | refine keep_far ?_ GW463.out _) | exact HK.out))) : w.heap.size <= gb466) : w0.heap.size <= gb466)); have n7_ := Aside0.mk ((by rw [hg]; exact Nat.ne_of_lt (blk_lt (bK BK463.out)) : gb463 ≠ gb466)); have n8_ := Aside0.mk ((by rw [hg]; exact Nat.ne_of_gt (blk_lt (bK BK463.out)) : gb466 ≠ gb463)); have n9_ := Aside0.mk ((by rw [hg]; exact Nat.ne_of_lt (IsS97.lt (show IsS97 w0 _ g s0_0 t465 from by repeat (first | (with_reducible first | exact HI0.out | apply IsS97.alloc | apply IsS97.drewN | apply IsS97.drew | apply IsS97.set_1 | refine IsS97.far ?_ NB0_463.out _) | exact HI0.out))) : g ≠ gb466)); have n10_ := Aside0.mk ((by rw [hg]; exact Nat.ne_of_gt (IsS97.lt (show IsS97 w0 _ g s0_0 t465 from by repeat (first | (with_reducible first | exact HI0.out | apply IsS97.alloc | apply IsS97.drewN | apply IsS97.drew | apply IsS97.set_1 | refine IsS97.far ?_ NB0_463.out _) | exact HI0.out))) : gb466 ≠ g)); clear HI0; clear BK463; clear HK; clear HB; have HI0 := n0_; have BK463 := n1_; have HK := n2_; have HB := n3_; have BK466 := n4_; have GW466 := n5_; have GE466 := n6_; have NB463_466 := n7_; have NB466_463 := n8_; have NB0_466 := n9_; have NB466_0 := n10_; clear n0_ n1_ n2_ n3_ n4_ n5_ n6_ n7_ n8_ n9_ n10_; clear hb hbox hg; have hnb7 := NB466_463.out; have hnc7 := NB463_466.out; have hnb8 := NB466_0.out; have hnc8 := NB0_466.out; have hcz9_0 : w6.cell? ⟨gb466, 0, none⟩ = some (.int .i64 0) := (blk_cell BK466.out 0).trans rfl; have hcz9_1 : w6.cell? ⟨gb466, 1, none⟩ = some (.slice none 0 0) := (blk_cell BK466.out 1).trans rfl; have hfz9_0 := blk_frozen BK466.out 0; have hfz9_1 := blk_frozen BK466.out 1))
 have n0_ : Aside0 (((w6.setCell ⟨gb466, 0, none⟩ (.int .i64 (wrap64 (1 + t464)))).setCell ⟨gb466, 1, none⟩ (.slice none 0 0)).heap[gb463]? = some (.cells #[.int .i64 0, .slice none 0 0] 30 (0, 0))) := ⟨by (with_reducible repeat apply blk_alloc); refine blk_far ?_ NB463_466.out _; (with_reducible repeat apply blk_alloc); refine blk_far ?_ NB463_466.out _; (with_reducible repeat apply blk_alloc); exact BK463.out⟩
 have n1_ : Aside0 (((w6.setCell ⟨gb466, 0, none⟩ (.int .i64 (wrap64 (1 + t464)))).setCell ⟨gb466, 1, none⟩ (.slice none 0 0)).heap[gb466]? = some (.cells #[.int .i64 (wrap64 (1 + t464)), .slice none 0 0] 30 (0, 0))) := ⟨by (with_reducible repeat apply blk_alloc); refine blk_put (cs := #[.int .i64 (wrap64 (1 + t464)), .slice none 0 0]) ?_ 1 _ rfl; (with_reducible repeat apply blk_alloc); refine blk_put (cs := #[.int .i64 0, .slice none 0 0]) ?_ 0 _ rfl; (with_reducible repeat apply blk_alloc); exact BK466.out⟩
 have n2_ : Aside0 (IsS97 w0 ((w6.setCell ⟨gb466, 0, none⟩ (.int .i64 (wrap64 (1 + t464)))).setCell ⟨gb466, 1, none⟩ (.slice none 0 0)) g s0_0 t465) := ⟨by repeat (first | (with_reducible first | exact HI0.out | apply IsS97.alloc | apply IsS97.drewN | apply IsS97.drew | apply IsS97.set_1 | refine IsS97.far ?_ NB0_463.out _ | refine IsS97.far ?_ NB0_466.out _) | exact HI0.out)⟩
 have n3_ : Aside0 (KeepBut w ((w6.setCell ⟨gb466, 0, none⟩ (.int .i64 (wrap64 (1 + t464)))).setCell ⟨gb466, 1, none⟩ (.slice none 0 0)) g none) := ⟨by repeat (first | (with_reducible first | exact HK.out | apply KeepBut.set_ | apply keep_drewN | apply keep_drew | apply keep_alloc | refine keep_far ?_ GW463.out _ | refine keep_far ?_ GW466.out _) | exact HK.out)⟩
 have n4_ : Aside0 (Below w0.heap.size w0 ((w6.setCell ⟨gb466, 0, none⟩ (.int .i64 (wrap64 (1 + t464)))).setCell ⟨gb466, 1, none⟩ (.slice none 0 0))) := ⟨by repeat (first | (with_reducible first | exact HB.out | apply below_alloc | apply pw_below_drewN | apply below_drew1 | refine below_set ?_ (IsS97.ge HI0.out) | refine below_set ?_ GE463.out | refine below_set ?_ GE466.out) | exact HB.out)⟩
 (try clear BK463)
 (try clear BK466)
 (try clear HI0)
 (try clear HK)
 (try clear HB)
 generalize ((w6.setCell ⟨gb466, 0, none⟩ (.int .i64 (wrap64 (1 + t464)))).setCell ⟨gb466, 1, none⟩ (.slice none 0 0)) = w10 at n0_ n1_ n2_ n3_ n4_ ⊢
 have BK463 := n0_
 have BK466 := n1_
 have HI0 := n2_
 have HK := n3_
 have HB := n4_
 clear n0_ n1_ n2_ n3_ n4_
 have n0_ := Aside0.mk (blk_drew BK463.out)
 have n1_ := Aside0.mk (blk_drew BK466.out)
 have n2_ := Aside0.mk (IsS97.drew HI0.out)
 have n3_ := Aside0.mk (keep_drew HK.out)
 have n4_ := Aside0.mk (below_drew1 HB.out)
 clear BK463
 clear BK466
 clear HI0
 clear HK
 clear HB
 have BK463 := n0_
 have BK466 := n1_
 have HI0 := n2_
 have HK := n3_
 have HB := n4_
 clear n0_ n1_ n2_ n3_ n4_
 refine start_ (n := 7) (S := fun w' => w'.cell? ⟨gb466, 0, none⟩ = some (.int .i64 (wrap64 (1 + t464))) ∧ w'.cell? ⟨gb466, 1, none⟩ = some (.slice none 0 0)) (ds := []) #[false, false, false, false, false, false, false] (by kernel_rfl) rfl rfl ⟨(blk_cell BK466.out 0).trans rfl, (blk_cell BK466.out 1).trans rfl⟩ (fun hHeld => ?_)
 generalize w10.drew = w11 at BK463 BK466 HI0 HK HB hHeld ⊢
 refine pure_ (i := 0) (N := some 9) (v := ?_) (a' := ?_) #[true, false, false, false, false, false, false] rfl rfl (by kernel_rfl) (fun _ _ _ h => h) (Or.inl ⟨by rfl, ?_⟩) ?_ ?_
 rotate_left
 ·intro w'
  go_simp
  with_reducible rfl
 rotate_left
 ·simp only [Act.put, sA_, sZ_, sS_, i64_w, i32_w]
  rfl
 refine pure_ (i := 2) (N := some 11) (v := ?_) (a' := ?_) #[true, false, true, false, false, false, false] rfl rfl (by kernel_rfl) (fun _ _ _ h => h) (Or.inl ⟨by rfl, ?_⟩) ?_ ?_
 rotate_left
 ·intro w'
  go_simp
  with_reducible rfl
 rotate_left
 ·simp only [Act.put, sA_, sZ_, sS_, i64_w, i32_w]
  rfl
 refine take_ (i := 1) (N := some 10) (v := ?_) (a' := ?_) #[true, true, true, false, false, false, false] rfl rfl (by kernel_rfl) (fun _ _ _ h => h) (Or.inl ⟨by rfl, ?_⟩) hHeld ?_ ?_
 rotate_left
 ·rintro w' ⟨s0, s1⟩
  go_simp
  with_reducible rfl
 rotate_left
 ·simp only [Act.put, sA_, sZ_, sS_, i64_w, i32_w]
  rfl
 refine one_ (i := 3) (N := some 12) #[true, true, true, true, false, false, false] rfl rfl (by kernel_rfl) (by decide) (fun K hK => ?_)
 refine goes_ Try.func52 (by kernel_rfl) rfl #[.pointer (some ⟨g, 0, none⟩), .int .i64 5] (by rfl) rfl rfl (by first | rfl | (simp only [List.map_toArray, List.map_cons, List.map_nil, List.length_drop, List.length_take]; try rfl)) ?_
 with_reducible refine (spec_l6Rd_pick.calls k g s0_0 t465 5 t467 t468 w0 _ ?side1 ?side2 A3.out).mono ?_
 (case side1 => repeat (first | (with_reducible first | exact HI0.out | apply IsS97.alloc | apply IsS97.drewN | apply IsS97.drew | apply IsS97.set_1 | refine IsS97.far ?_ NB0_463.out _ | refine IsS97.far ?_ NB0_466.out _) | exact HI0.out))
 (case side2 => repeat (first | (with_reducible first | exact HB.out | apply below_alloc | apply pw_below_drewN | apply below_drew1 | refine below_set ?_ (IsS97.ge HI0.out) | refine below_set ?_ GE463.out | refine below_set ?_ GE466.out) | exact HB.out))
 rintro e w12 ⟨rfl, hi, hb, hk⟩
 refine ⟨_, rfl, ?_⟩
 have n0_ := Aside0.mk (KeepBut.blk hk (g' := gb463) (o := .cells #[.int .i64 0, .slice none 0 0] 30 (0, 0)) (bK BK463.out) NB463_0.out (by simp))
 have n1_ := Aside0.mk (KeepBut.blk hk (g' := gb466) (o := .cells #[.int .i64 (wrap64 (1 + t464)), .slice none 0 0] 30 (0, 0)) (bK BK466.out) NB466_0.out (by simp))
 have n2_ := Aside0.mk (KeepBut.trans (by repeat (first | (with_reducible first | exact HK.out | apply KeepBut.set_ | apply keep_drewN | apply keep_drew | apply keep_alloc | refine keep_far ?_ GW463.out _ | refine keep_far ?_ GW466.out _) | exact HK.out)) hk (.inl rfl))
 have n3_ := Aside0.mk (hb)
 have n4_ := Aside0.mk (hi)
 clear BK463
 clear BK466
 clear HK
 clear HB
 clear HI0
 have BK463 := n0_
 have BK466 := n1_
 have HK := n2_
 have HB := n3_
 have HI0 := n4_
 clear n0_ n1_ n2_ n3_ n4_
 (try clear hb)
 (try clear hb2)
 (try clear hk)
 (try clear hi)
 refine hK.out _ _ ⟨(blk_cell BK466.out 0).trans rfl, (blk_cell BK466.out 1).trans rfl⟩ (fun hHeld => ?_)
 clear hK K
 refine norm_ (a' := ?_) ?_ ?_
 rotate_left
 ·show Act.put _ (some 12) _ = _
  simp only [Act.put, sA_, sZ_, sS_, i64_w, i32_w]
  rfl
 refine pure_ (i := 4) (N := some 13) (v := ?_) (a' := ?_) #[true, true, true, true, true, false, false] rfl rfl (by kernel_rfl) (fun _ _ _ h => h) (Or.inl ⟨by rfl, ?_⟩) ?_ ?_
 rotate_left
 ·intro w'
  go_simp
  with_reducible rfl
 rotate_left
 ·simp only [Act.put, sA_, sZ_, sS_, i64_w, i32_w]
  rfl
 refine pure_ (i := 5) (N := some 14) (v := ?_) (a' := ?_) #[true, true, true, true, true, true, false] rfl rfl (by kernel_rfl) (fun _ _ _ h => h) (Or.inl ⟨by rfl, ?_⟩) ?_ ?_
 rotate_left
 ·intro w'
  go_simp
  with_reducible rfl
 rotate_left
 ·simp only [Act.put, sA_, sZ_, sS_, i64_w, i32_w]
  rfl
 refine pure_ (i := 6) (N := some 4) (v := ?_) (a' := ?_) #[true, true, true, true, true, true, true] rfl rfl (by kernel_rfl) (fun _ _ _ h => h) (Or.inl ⟨by rfl, ?_⟩) ?_ ?_
 rotate_left
 ·intro w'
  go_simp
  with_reducible rfl
 rotate_left
 ·simp only [Act.put, sA_, sZ_, sS_, i64_w, i32_w]
  rfl
 refine done_ (by kernel_rfl) ?_
 try go_wp2
 go_loopg [4] k (fun kq v4 w' => ∃ (x4_1 : Int) (x1001_1 : Int) (x467001_1 : List (S57)) (u467001 : Value), v4 = .int .i64 x4_1 ∧ Aside0 (spec_l71Grid.l0 kq x4_1 s0_0 x1001_1 (wrap64 (1 + t464)) x467001_1 = some (r1, r2, r3)) ∧ Aside0 (kq <= k) ∧ Aside0 (Kd.R k57 57 w' w.heap.size (fun _ => True) u467001 x467001_1) ∧ Aside0 (w'.heap[gb463]? = some (.cells #[.int .i64 0, (.slice none 0 0)] 30 (0, 0))) ∧ Aside0 (w'.heap[gb466]? = some (.cells #[.int .i64 (wrap64 (1 + t464)), u467001] 30 (0, 0))) ∧ Aside0 (IsS97 w0 w' g s0_0 x1001_1) ∧ Aside0 (KeepBut w w' g none) ∧ Aside0 (Below w0.heap.size w0 w'))
 case atStart => exact ⟨(wrap64 ((wrap64 (1 + t464)) * (wrap64 (1 + t467)))), (t468), (([] : List (S57))), (.slice none 0 0), (by first | rfl | (simp; done) | (simp [*]; done)), H', ⟨Nat.le_refl _⟩, ⟨by first | exact Kd.R_nil _ _ _ _ _ | exact Kd.N_nil _ _ _ _ _ | exact Kd.V_nil _ _ _ _ _ | exact Kd.Q_nil _ _ _ _ _ | exact Kd.S_nil _ _ _ _ _⟩, ⟨by (with_reducible repeat apply blk_alloc); exact BK463.out⟩, ⟨by (with_reducible repeat apply blk_alloc); exact BK466.out⟩, ⟨by repeat (first | (with_reducible first | exact HI0.out | apply IsS97.alloc | apply IsS97.drewN | apply IsS97.drew | apply IsS97.set_1 | refine IsS97.far ?_ NB0_463.out _ | refine IsS97.far ?_ NB0_466.out _) | exact HI0.out)⟩, ⟨by repeat (first | (with_reducible first | exact HK.out | apply KeepBut.set_ | apply keep_drewN | apply keep_drew | apply keep_alloc | refine keep_far ?_ GW463.out _ | refine keep_far ?_ GW466.out _) | exact HK.out)⟩, ⟨by repeat (first | (with_reducible first | exact HB.out | apply below_alloc | apply pw_below_drewN | apply below_drew1 | refine below_set ?_ (IsS97.ge HI0.out) | refine below_set ?_ GE463.out | refine below_set ?_ GE466.out) | exact HB.out)⟩⟩
 case round =>
  clear H'
  try clear p2
  try clear c5
  try clear c6
  try clear p6
  try clear c7
  try clear c8
  try clear hcz9_0
  try clear hcz9_1
  try clear hfz9_0
  try clear hfz9_1
  obtain ⟨x4_1, x1001_1, x467001_1, u467001, rfl, HA, HK1, HO_467001, BK463, BK466, HI0, HK, HB⟩ := hrel
  cases gk with
  | zero => exact absurd HA.out (by simp [spec_l71Grid.l0])
  | succ k1 =>
   have H := HA.out
   clear HA
   simp only [spec_l71Grid.l0] at H
   by_cases c13 : x4_1 > 0
   ·rw [if_pos c13] at H
    have c13b0 : decide (0 < x4_1) = true := decide_eq_true c13
    clear c13
    replace H := Option.bind_eq_some_iff.mp H
    obtain ⟨⟨t469, t470, t471⟩, A140, H⟩ := H
    replace H : (if x467001_1.length < 8796093022208 then (spec_l71Grid.l0 k1 (wrap64 (x4_1 - 1)) s0_0 t471 (wrap64 (1 + t464)) (x467001_1 ++ [(⟨t469, t470⟩ : S57)])) else (none)) = some (r1, r2, r3) := H
    have A14 := Aside0.mk A140
    clear A140
    by_cases c15 : x467001_1.length < 8796093022208
    ·rw [if_pos c15] at H
     have LMc15 := Aside0.mk c15
     clear c15
     obtain ⟨y472, hy472⟩ : ∃ y_ : List (S57), y_ = (x467001_1 ++ [(⟨t469, t470⟩ : S57)]) := ⟨_, rfl⟩
     replace H : (spec_l71Grid.l0 k1 (wrap64 (x4_1 - 1)) s0_0 t471 (wrap64 (1 + t464)) y472) = some (r1, r2, r3) := by first | (rw [hy472]; with_reducible exact H) | (have H2_ := (Option.bind_some _ _).symm.trans H; rw [hy472]; with_reducible exact H2_) | (have H2_ := (Option.bind_some _ _).symm.trans H; with_reducible exact H2_) | with_reducible exact H | (rw [hy472]; exact H) | exact H
     have Ny472 := Aside0.mk hy472
     clear hy472
     have H' := Aside0.mk H
     clear H
     try go_wp2
     have n0_ := Aside0.mk (Kd.R_drew HO_467001.out)
     have n1_ := Aside0.mk (blk_drew BK463.out)
     have n2_ := Aside0.mk (blk_drew BK466.out)
     have n3_ := Aside0.mk (IsS97.drew HI0.out)
     have n4_ := Aside0.mk (keep_drew HK.out)
     have n5_ := Aside0.mk (below_drew1 HB.out)
     clear HO_467001
     clear BK463
     clear BK466
     clear HI0
     clear HK
     clear HB
     have HO_467001 := n0_
     have BK463 := n1_
     have BK466 := n2_
     have HI0 := n3_
     have HK := n4_
     have HB := n5_
     clear n0_ n1_ n2_ n3_ n4_ n5_
     refine start_ (n := 8) (S := fun w' => w'.cell? ⟨gb466, 0, none⟩ = some (.int .i64 (wrap64 (1 + t464))) ∧ w'.cell? ⟨gb466, 1, none⟩ = some (u467001)) (ds := [7]) #[false, false, false, false, false, false, false, false] (by kernel_rfl) rfl rfl ⟨(blk_cell BK466.out 0).trans rfl, (blk_cell BK466.out 1).trans rfl⟩ (fun hHeld => ?_); refine with_tabW spec_l71Grid.tab5 spec_l71Grid.bits5 (fun HT_ HW_ => ?_)
     generalize wr.drew = w16 at HO_467001 BK463 BK466 HI0 HK HB hHeld ⊢
     refine pure_ (i := 0) (N := some 19) (v := ?_) (a' := ?_) #[true, false, false, false, false, false, false, false] rfl rfl (any_of HT_.out (by kernel_rfl)) (fun _ _ _ h => h) (Or.inl ⟨by rfl, ?_⟩) ?_ ?_
     rotate_left
     ·intro w'
      go_simp
      with_reducible rfl
     rotate_left
     ·simp only [Act.put, sA_, sZ_, sS_, i64_w, i32_w]
      rfl
     refine pure_ (i := 2) (N := some 21) (v := ?_) (a' := ?_) #[true, false, true, false, false, false, false, false] rfl rfl (any_of HT_.out (by kernel_rfl)) (fun _ _ _ h => h) (Or.inl ⟨by rfl, ?_⟩) ?_ ?_
     rotate_left
     ·intro w'
      go_simp
      with_reducible rfl
     rotate_left
     ·simp only [Act.put, sA_, sZ_, sS_, i64_w, i32_w]
      rfl
     refine take_ (i := 1) (N := some 20) (v := ?_) (a' := ?_) #[true, true, true, false, false, false, false, false] rfl rfl (take_ofW HT_.out HW_.out (by kernel_rfl)) (fun _ _ _ h => h) (Or.inl ⟨by rfl, ?_⟩) hHeld ?_ ?_
     rotate_left
     ·rintro w' ⟨s0, s1⟩
      go_simp
      with_reducible rfl
     rotate_left
     ·simp only [Act.put, sA_, sZ_, sS_, i64_w, i32_w]
      rfl
     refine one_ (i := 3) (N := some 22) #[true, true, true, true, false, false, false, false] rfl rfl (one_of HT_.out (by kernel_rfl)) (by decide) (fun K hK => ?_)
     refine goes_ Try.func84 (by kernel_rfl) rfl #[.pointer (some ⟨g, 0, none⟩)] (by rfl) rfl rfl (by first | rfl | (simp only [List.map_toArray, List.map_cons, List.map_nil, List.length_drop, List.length_take]; try rfl)) ?_
     with_reducible refine (spec_l71Cell.calls k1 g s0_0 x1001_1 t469 t470 t471 w0 _ ?side1 ?side2 A14.out).mono ?_
     (case side1 => repeat (first | (with_reducible first | exact HI0.out | apply IsS97.alloc | apply IsS97.drewN | apply IsS97.drew | apply IsS97.set_1 | refine IsS97.far ?_ NB0_463.out _ | refine IsS97.far ?_ NB0_466.out _) | exact HI0.out))
     (case side2 => repeat (first | (with_reducible first | exact HB.out | apply below_alloc | apply pw_below_drewN | apply below_drew1 | refine below_set ?_ (IsS97.ge HI0.out) | refine below_set ?_ GE463.out | refine below_set ?_ GE466.out) | exact HB.out))
     rintro e w17 ⟨rfl, hi, hb, hk⟩
     refine ⟨_, rfl, ?_⟩
     have n0_ := Aside0.mk (Kd.R_mono (Kd.R_keep (IsS97.apart (show IsS97 w0 _ g s0_0 x1001_1 from by repeat (first | (with_reducible first | exact HI0.out | apply IsS97.alloc | apply IsS97.drewN | apply IsS97.drew | apply IsS97.set_1 | refine IsS97.far ?_ NB0_463.out _ | refine IsS97.far ?_ NB0_466.out _) | exact HI0.out)) (kR HO_467001.out) (by decide)) hk (fun _ h => h.2)) (fun _ h => h.1))
     have n1_ := Aside0.mk (KeepBut.blk hk (g' := gb463) (o := .cells #[.int .i64 0, .slice none 0 0] 30 (0, 0)) (bK BK463.out) NB463_0.out (by simp))
     have n2_ := Aside0.mk (KeepBut.blk hk (g' := gb466) (o := .cells #[.int .i64 (wrap64 (1 + t464)), u467001] 30 (0, 0)) (bK BK466.out) NB466_0.out (by simp))
     have n3_ := Aside0.mk (KeepBut.trans (by repeat (first | (with_reducible first | exact HK.out | apply KeepBut.set_ | apply keep_drewN | apply keep_drew | apply keep_alloc | refine keep_far ?_ GW463.out _ | refine keep_far ?_ GW466.out _) | exact HK.out)) hk (.inl rfl))
     have n4_ := Aside0.mk (hb)
     have n5_ := Aside0.mk (hi)
     clear HO_467001
     clear BK463
     clear BK466
     clear HK
     clear HB
     clear HI0
     have HO_467001 := n0_
     have BK463 := n1_
     have BK466 := n2_
     have HK := n3_
     have HB := n4_
     have HI0 := n5_
     clear n0_ n1_ n2_ n3_ n4_ n5_
     (try clear hb)
     (try clear hb2)
     (try clear hk)
     (try clear hi)
     refine hK.out _ _ ⟨(blk_cell BK466.out 0).trans rfl, (blk_cell BK466.out 1).trans rfl⟩ (fun hHeld => ?_)
     clear hK K
     refine norm_ (a' := ?_) ?_ ?_
     rotate_left
     ·show Act.put _ (some 22) _ = _
      simp only [Act.put, sA_, sZ_, sS_, i64_w, i32_w]
      rfl
     refine one_ (i := 4) (N := some 23) #[true, true, true, true, true, false, false, false] rfl rfl (one_of HT_.out (by kernel_rfl)) (by decide) (fun K hK => ?_)
     refine value_ (w1 := ?_) (v := ?_) (by rfl) rfl ?_ ?_
     rotate_left 2
     ·go_simp
      constructor
      ·rfl
      ·rfl
     refine hK.out _ _ ⟨(blk_cell (blk_alloc BK466.out _) 0).trans rfl, (blk_cell (blk_alloc BK466.out _) 1).trans rfl⟩ (fun hHeld => ?_)
     clear hK K
     refine norm_ (a' := ?_) ?_ ?_
     rotate_left
     ·show Act.put _ (some 23) _ = _
      simp only [Act.put, sA_, sZ_, sS_, i64_w, i32_w]
      rfl
     refine one_ (i := 5) (N := some 24) #[true, true, true, true, true, true, false, false] rfl rfl (one_of HT_.out (by kernel_rfl)) (by decide) (fun K hK => ?_)
     refine Kd.R_append_step k57 w.heap.size (by rfl) (.tmp 20) (.tmp 23) 28 57 (.agg #[(.int .i64 0), (.int .i64 0)]) 16 rfl Try.underlying28 info57 rfl (by decide) (by omega) u467001 x467001_1 (⟨t469, t470⟩ : S57) [.int .i64 t469, .int .i64 t470] (fun _ => True) (fun _ => False) rfl rfl ?aP (fun _ hk => hk.elim) ?aF ?aO (Below.refl _ _) ?aS ?aL ?_
     (case aP => exact k57_mkM _ _ _ (⟨t469, t470⟩ : S57))
     (case aF => exact (fun _ _ => trivial))
     (case aO => exact (kR HO_467001.out))
     (case aS => exact (keep_size (w := w) (g := g) (row := none) (by repeat (first | (with_reducible first | exact HK.out | apply KeepBut.set_ | apply keep_drewN | apply keep_drew | apply keep_alloc | refine keep_far ?_ GW463.out _ | refine keep_far ?_ GW466.out _) | exact HK.out))))
     (case aL => have := LMc15.out; omega)
     intro v473 w18 ho hb hg hat
     rw [<- Ny472.out] at ho
     have n0_ := Aside0.mk (blk_grown (g := gb463) (o := .cells #[.int .i64 0, .slice none 0 0] 30 (0, 0)) (bK BK463.out) hg (Kd.R_ne HO_467001.out BK463.out (by decide)))
     have n1_ := Aside0.mk (blk_grown (g := gb466) (o := .cells #[.int .i64 (wrap64 (1 + t464)), u467001] 30 (0, 0)) (bK BK466.out) hg (Kd.R_ne HO_467001.out BK466.out (by decide)))
     have n2_ := Aside0.mk (IsS97.grown (by repeat (first | (with_reducible first | exact HI0.out | apply IsS97.alloc | apply IsS97.drewN | apply IsS97.drew | apply IsS97.set_1 | refine IsS97.far ?_ NB0_463.out _ | refine IsS97.far ?_ NB0_466.out _) | exact HI0.out)) hg (IsS97.own_ne HI0.out HO_467001.out (by decide)))
     have n3_ := Aside0.mk (below_weaken (by repeat (first | (with_reducible first | exact HB.out | apply below_alloc | apply pw_below_drewN | apply below_drew1 | refine below_set ?_ (IsS97.ge HI0.out) | refine below_set ?_ GE463.out | refine below_set ?_ GE466.out) | exact HB.out)) HL.out hb)
     have n4_ := Aside0.mk (KeepBut.trans (by repeat (first | (with_reducible first | exact HK.out | apply KeepBut.set_ | apply keep_drewN | apply keep_drew | apply keep_alloc | refine keep_far ?_ GW463.out _ | refine keep_far ?_ GW466.out _) | exact HK.out)) (KeepBut.of_grown hg g) (Kd.R_base2 HO_467001.out))
     have n5_ := Aside0.mk (ho)
     clear BK463
     clear BK466
     clear HI0
     clear HB
     clear HK
     clear HO_467001
     have BK463 := n0_
     have BK466 := n1_
     have HI0 := n2_
     have HB := n3_
     have HK := n4_
     have HO474 := n5_
     clear n0_ n1_ n2_ n3_ n4_ n5_
     clear ho hb hg hat
     obtain ⟨Ao19, co19, eo19⟩ := Kd.R_slice HO474.out
     (first | subst eo19 | (injection eo19 with f1_ f2_ f3_; have f4_ := f1_.symm; have f5_ := f3_.symm; clear f1_ f2_ f3_; subst f4_; subst f5_))
     refine hK.out _ _ ⟨(blk_cell BK466.out 0).trans rfl, (blk_cell BK466.out 1).trans rfl⟩ (fun hHeld => ?_)
     clear hK K
     refine norm_ (a' := ?_) ?_ ?_
     rotate_left
     ·show Act.put _ (some 24) _ = _
      simp only [Act.put, sA_, sZ_, sS_, i64_w, i32_w]
      rfl
     refine pure_ (i := 6) (N := some 25) (v := ?_) (a' := ?_) #[true, true, true, true, true, true, true, false] rfl rfl (any_of HT_.out (by kernel_rfl)) (fun _ _ _ h => h) (Or.inl ⟨by rfl, ?_⟩) ?_ ?_
     rotate_left
     ·intro w'
      go_simp
      with_reducible rfl
     rotate_left
     ·simp only [Act.put, sA_, sZ_, sS_, i64_w, i32_w]
      rfl
     refine last_ (i := 7) (N := none) #[true, true, true, true, true, true, true, true] rfl rfl (one_of HT_.out (by kernel_rfl)) (by decide) (fun K hK => ?_)
     have hs20 : w18.cell? ⟨gb466, 1, none⟩ = some (u467001) := (blk_cell BK466.out 1).trans rfl
     have hfs20 := blk_frozen BK466.out 1
     have hns20_0 := NB463_466.out
     have hms20_0 := NB466_463.out
     refine skip_ (w1 := ?_) (by rfl) rfl ?_ ?_
     rotate_left
     ·go_simp
      rfl
     refine hK.out _ _ ?_
     clear hK K
     refine done_ (done_of HT_.out (by kernel_rfl)) ?_
     try go_wp2
     go_roundg k1
     case measure => have := HK1.out; omega
     case rel => exact ⟨(wrap64 (x4_1 - 1)), (t471), (y472), (.slice Ao19 y472.length co19), (by first | rfl | (simp; done) | (simp [*]; done)), H', ⟨by have := HK1.out; omega⟩, ⟨by (with_reducible repeat apply Kd.R_alloc); exact Kd.R_mono (Kd.R_far (p := ⟨gb466, 1, none⟩) (Kd.R_types HO474.out BK466.out (by decide)) (fun _ hk => hk.2) (.slice Ao19 y472.length co19)) (fun _ hk => trivial)⟩, ⟨by (with_reducible repeat apply blk_alloc); refine blk_far ?_ NB463_466.out _; (with_reducible repeat apply blk_alloc); exact BK463.out⟩, ⟨by (with_reducible repeat apply blk_alloc); refine blk_put (cs := #[.int .i64 (wrap64 (1 + t464)), u467001]) ?_ 1 _ rfl; (with_reducible repeat apply blk_alloc); exact BK466.out⟩, ⟨by repeat (first | (with_reducible first | exact HI0.out | apply IsS97.alloc | apply IsS97.drewN | apply IsS97.drew | apply IsS97.set_1 | refine IsS97.far ?_ NB0_463.out _ | refine IsS97.far ?_ NB0_466.out _) | exact HI0.out)⟩, ⟨by repeat (first | (with_reducible first | exact HK.out | apply KeepBut.set_ | apply keep_drewN | apply keep_drew | apply keep_alloc | refine keep_far ?_ GW463.out _ | refine keep_far ?_ GW466.out _) | exact HK.out)⟩, ⟨by repeat (first | (with_reducible first | exact HB.out | apply below_alloc | apply pw_below_drewN | apply below_drew1 | refine below_set ?_ (IsS97.ge HI0.out) | refine below_set ?_ GE463.out | refine below_set ?_ GE466.out) | exact HB.out)⟩⟩
    ·rw [if_neg c15] at H
     exact absurd H (by simp)
   ·rw [if_neg c13] at H
    have c13b0 : decide (0 < x4_1) = false := decide_eq_false c13
    clear c13
    simp only [Option.some.injEq, Prod.mk.injEq] at H
    obtain ⟨rfl, rfl, rfl⟩ := H
    have hnb21 := NB466_463.out
    have hnc21 := NB463_466.out
    have hnb22 := NB466_0.out
    have hnc22 := NB0_466.out
    have hcz23_0 : wr.cell? ⟨gb466, 0, none⟩ = some (.int .i64 (wrap64 (1 + t464))) := (blk_cell BK466.out 0).trans rfl
    have hcz23_1 : wr.cell? ⟨gb466, 1, none⟩ = some (u467001) := (blk_cell BK466.out 1).trans rfl
    have hfz23_0 := blk_frozen BK466.out 0
    have hfz23_1 := blk_frozen BK466.out 1
    have hnb24 := NB463_0.out
    have hnc24 := NB0_463.out
    have hcz25_0 : wr.cell? ⟨gb463, 0, none⟩ = some (.int .i64 0) := (blk_cell BK463.out 0).trans rfl
    have hcz25_1 : wr.cell? ⟨gb463, 1, none⟩ = some (.slice none 0 0) := (blk_cell BK463.out 1).trans rfl
    have hfz25_0 := blk_frozen BK463.out 0
    have hfz25_1 := blk_frozen BK463.out 1
    obtain ⟨Ao26, co26, eo26⟩ := Kd.R_slice HO_467001.out
    subst eo26
    go_wp2
    refine bodyPost_ret (results_cell_row rfl _ _ gb463 30 #[.int .i64 (wrap64 (1 + t464)), .slice Ao26 x467001_1.length co26] (0, 0) _ rfl (by (with_reducible repeat apply blk_alloc); refine blk_put (cs := #[.int .i64 (wrap64 (1 + t464)), .slice none 0 0]) ?_ 1 _ rfl; (with_reducible repeat apply blk_alloc); refine blk_put (cs := #[.int .i64 0, .slice none 0 0]) ?_ 0 _ rfl; (with_reducible repeat apply blk_alloc); exact BK463.out) Try.underlying30 rfl (by kernel_rfl)) rfl ?_
    exact ⟨_, by first | rfl | (simp [errW_none, errW_some] <;> rfl) | (simp [*, errW_none, errW_some] <;> rfl) | (exfalso; simp_all; done), by (with_reducible repeat apply Kd.R_alloc); exact Kd.R_mono (Kd.R_far (p := ⟨gb463, 1, none⟩) (Kd.R_far (p := ⟨gb463, 0, none⟩) (Kd.R_types HO_467001.out BK463.out (by decide)) (fun _ hk => hk.2) (.int .i64 (wrap64 (1 + t464)))) (fun _ hk => hk.2) (.slice Ao26 x467001_1.length co26)) (fun _ hk => trivial), by repeat (first | (with_reducible first | exact HI0.out | apply IsS97.alloc | apply IsS97.drewN | apply IsS97.drew | apply IsS97.set_1 | refine IsS97.far ?_ NB0_463.out _ | refine IsS97.far ?_ NB0_466.out _) | exact HI0.out), by repeat (first | (with_reducible first | exact HB.out | apply below_alloc | apply pw_below_drewN | apply below_drew1 | refine below_set ?_ (IsS97.ge HI0.out) | refine below_set ?_ GE463.out | refine below_set ?_ GE466.out) | exact HB.out), by repeat (first | (with_reducible first | exact HK.out | apply KeepBut.set_ | apply keep_drewN | apply keep_drew | apply keep_alloc | refine keep_far ?_ GW463.out _ | refine keep_far ?_ GW466.out _) | exact HK.out)⟩
end Go.Proofs.Ytmohfoleolmijaa.P
