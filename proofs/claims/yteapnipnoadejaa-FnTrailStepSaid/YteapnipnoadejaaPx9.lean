/- PROVED: contracts of functions; No condition. -/
import Derived.Test.YteapnipnoadejaaPx0
import Derived.Test.YteapnipnoadejaaPx4
import Derived.Test.YteapnipnoadejaaPx6
import Derived.Test.YteapnipnoadejaaPx8
namespace Go.Proofs.Yteapnipnoadejaa.P
open Go.RowKit Go.Proofs.YteapnipnoadejaaW
set_option linter.unusedVariables false
set_option linter.unusedSimpArgs false
def Za.l0 : Nat -> Int -> List Int -> Int -> Int -> List (S42) -> Option (Int × (List (S42)) × Int)
 | 0, _, _, _, _, _ => none
 | k + 1, x4, x1000, x1001, x142000, x142001 => if x4 > 0 then ((Zf.f k x1000 x1001).bind fun bt144 => (if x142001.length < 8796093022208 then (Za.l0 k (wrap64 (x4 - 1)) x1000 bt144.2.2 x142000 (x142001 ++ [(⟨bt144.1, bt144.2.1⟩ : S42)])) else (none))) else (some (x142000, x142001, x1001))
def Za.f (k : Nat) (s0_0 : List Int) (s0_1 : Int) : Option (Int × (List (S42)) × Int) := (Qu.f k s0_0 s0_1 5).bind fun bt139 => ((Qu.f k s0_0 bt139.2 5).bind fun bt142 => (Za.l0 k (wrap64 ((wrap64 (1 + bt139.1)) * (wrap64 (1 + bt142.1)))) s0_0 bt142.2 (wrap64 (1 + bt139.1)) ([] : List (S42))))
def Za.T5 : Bool × List (List Nat × List Nat) := (true, [([], []), ([0], [0]), ([], []), ([2], [2]), ([3], [3]), ([1, 4, 3], [1, 4]), ([0, 1, 2, 3, 4, 5], []), ([6, 5, 5, 0, 1, 2, 3, 4, 5], [5, 6])])
def Za.B5 : List Nat := [0, 1, 0, 4, 12, 31, 63, 127]
theorem Za.tab5 : rtab .any (opsOf Try.f58 5) = Za.T5 := by kernel_rfl
theorem Za.bits5 : waitsOk Za.T5.2 Za.B5 = true := by kernel_rfl
set_option maxHeartbeats 8000000 in
set_option maxRecDepth 100000 in
theorem Za.calls (k : Nat) (g : Nat) (s0_0 : List Int) (s0_1 : Int) (r1 : Int) (r2 : List (S42)) (r3 : Int) (w0 w : World) (hI : Qi w0 w g s0_0 s0_1) (hB : Below w0.heap.size w0 w) (h : Za.f k s0_0 s0_1 = some (r1, r2, r3)) :
  Calls Try.prog 58 #[.pointer (some ⟨g, 0, none⟩)] w fun e w' => ∃ v1_ : Value, e = .returned (.agg #[.int .i64 r1, v1_]) ∧ Kd.R k42 42 w' w.heap.size (fun _ => True) v1_ r2 ∧ Qi w0 w' g s0_0 r3 ∧ Below w0.heap.size w0 w' ∧ Qn w w' g none := by
 have hu25 := Try.underlying25
 have HI0 := Qa.mk hI
 have HK := Qa.mk (Qn.refl w g none)
 have HL := Qa.mk hB.size
 clear hI
 have HW0 := Qa.mk hB.size
 have HB := Qa.mk hB
 clear hB
 have H : ((Qu.f k s0_0 s0_1 5).bind fun bt139 => ((Qu.f k s0_0 bt139.2 5).bind fun bt142 => (Za.l0 k (wrap64 ((wrap64 (1 + bt139.1)) * (wrap64 (1 + bt142.1)))) s0_0 bt142.2 (wrap64 (1 + bt139.1)) ([] : List (S42))))) = some (r1, r2, r3) := h
 clear h
 replace H := Option.bind_eq_some_iff.mp H
 obtain ⟨⟨t139, t140⟩, A20, H⟩ := H
 replace H : ((Qu.f k s0_0 t140 5).bind fun bt142 => (Za.l0 k (wrap64 ((wrap64 (1 + t139)) * (wrap64 (1 + bt142.1)))) s0_0 bt142.2 (wrap64 (1 + t139)) ([] : List (S42)))) = some (r1, r2, r3) := H
 have A2 := Qa.mk A20
 clear A20
 replace H := Option.bind_eq_some_iff.mp H
 obtain ⟨⟨t142, t143⟩, A30, H⟩ := H
 replace H : (Za.l0 k (wrap64 ((wrap64 (1 + t139)) * (wrap64 (1 + t142)))) s0_0 t143 (wrap64 (1 + t139)) ([] : List (S42))) = some (r1, r2, r3) := H
 have A3 := Qa.mk A30
 clear A30
 have H' := Qa.mk H
 clear H
 go_enter Try.func58, Try.ntmps58
 try go_wp2_with (first | ((with_reducible refine We (N := 2) rfl ?_); refine Qy rfl (N := 2) rfl (cs := #[.int .i64 0, .slice none 0 0]) (t := 25) ?hr ?_; (case hr => first | (go_simp; done) | (go_simp; rfl)); intro gb138 hg w4 hbox hb; have n0_ := Qa.mk (Qi.below (by repeat (first | (with_reducible first | exact HI0.out | apply Qi.alloc | apply Qi.drewN | apply Qi.drew | apply Qi.Zr) | exact HI0.out)) hb); have n1_ := Qa.mk (Qn.trans (by repeat (first | (with_reducible first | exact HK.out | apply Qn.set_ | apply Qv | apply Qz | apply Qw) | exact HK.out)) (Qn.of_below hb g none) (.inl rfl)); have n2_ := Qa.mk (Ql (by repeat (first | (with_reducible first | exact HB.out | apply Qc | apply Qb | apply Qq | refine Qm ?_ (Qi.ge HI0.out)) | exact HB.out)) hb); have n3_ := Qa.mk (hbox); have n4_ := Qa.mk ((by rw [hg]; exact (Yd (w := w) (g := g) (row := none) (by repeat (first | (with_reducible first | exact HK.out | apply Qn.set_ | apply Qv | apply Qz | apply Qw) | exact HK.out))) : w.heap.size <= gb138)); have n5_ := Qa.mk ((Nat.le_trans HW0.out (by rw [hg]; exact (Yd (w := w) (g := g) (row := none) (by repeat (first | (with_reducible first | exact HK.out | apply Qn.set_ | apply Qv | apply Qz | apply Qw) | exact HK.out))) : w.heap.size <= gb138) : w0.heap.size <= gb138)); have n6_ := Qa.mk ((by rw [hg]; exact Nat.ne_of_lt (Qi.lt (show Qi w0 _ g s0_0 s0_1 from by repeat (first | (with_reducible first | exact HI0.out | apply Qi.alloc | apply Qi.drewN | apply Qi.drew | apply Qi.Zr) | exact HI0.out))) : g ≠ gb138)); have n7_ := Qa.mk ((by rw [hg]; exact Nat.ne_of_gt (Qi.lt (show Qi w0 _ g s0_0 s0_1 from by repeat (first | (with_reducible first | exact HI0.out | apply Qi.alloc | apply Qi.drewN | apply Qi.drew | apply Qi.Zr) | exact HI0.out))) : gb138 ≠ g)); clear HI0; clear HK; clear HB; have HI0 := n0_; have HK := n1_; have HB := n2_; have BK138 := n3_; have GW138 := n4_; have GE138 := n5_; have NB0_138 := n6_; have NB138_0 := n7_; clear n0_ n1_ n2_ n3_ n4_ n5_ n6_ n7_; clear hb hbox hg) | ((with_reducible refine Wi (f := 42) rfl ?_); refine Zu (some 6) rfl rfl Try.func42 (by kernel_rfl) rfl #[.pointer (some ⟨g, 0, none⟩), .int .i64 5] rfl (by first | rfl | (simp only [List.map_toArray, List.map_cons, List.map_nil, List.length_drop, List.length_take]; try rfl)) ?_; (with_reducible refine (Qu.calls k g s0_0 s0_1 5 t139 t140 w0 _ ?side1 ?side2 A2.out).mono ?_); (case side1 => repeat (first | (with_reducible first | exact HI0.out | apply Qi.alloc | apply Qi.drewN | apply Qi.drew | apply Qi.Zr | refine Qi.far ?_ NB0_138.out _) | exact HI0.out)); (case side2 => repeat (first | (with_reducible first | exact HB.out | apply Qc | apply Qb | apply Qq | refine Qm ?_ (Qi.ge HI0.out) | refine Qm ?_ GE138.out) | exact HB.out)); rintro e w5 ⟨rfl, hi, hb, hk⟩; refine ⟨_, rfl, ?_⟩; have n0_ := Qa.mk (Qn.blk hk (g' := gb138) (o := .cells #[.int .i64 0, .slice none 0 0] 25 (0, 0)) (bK BK138.out) NB138_0.out (by simp)); have n1_ := Qa.mk (Qn.trans (by repeat (first | (with_reducible first | exact HK.out | apply Qn.set_ | apply Qv | apply Qz | apply Qw | refine Wn ?_ GW138.out _) | exact HK.out)) hk (.inl rfl)); have n2_ := Qa.mk (hb); have n3_ := Qa.mk (hi); clear BK138; clear HK; clear HB; clear HI0; have BK138 := n0_; have HK := n1_; have HB := n2_; have HI0 := n3_; clear n0_ n1_ n2_ n3_; (try clear hb); (try clear hb2); (try clear hk); (try clear hi)) | ((with_reducible refine We (N := 3) rfl ?_); refine Qy rfl (N := 3) rfl (cs := #[.int .i64 0, .slice none 0 0]) (t := 25) ?hr ?_; (case hr => first | (go_simp; done) | (go_simp; rfl)); intro gb141 hg w6 hbox hb; have n0_ := Qa.mk (Qi.below (by repeat (first | (with_reducible first | exact HI0.out | apply Qi.alloc | apply Qi.drewN | apply Qi.drew | apply Qi.Zr | refine Qi.far ?_ NB0_138.out _) | exact HI0.out)) hb); have n1_ := Qa.mk (Qk (bK BK138.out) hb); have n2_ := Qa.mk (Qn.trans (by repeat (first | (with_reducible first | exact HK.out | apply Qn.set_ | apply Qv | apply Qz | apply Qw | refine Wn ?_ GW138.out _) | exact HK.out)) (Qn.of_below hb g none) (.inl rfl)); have n3_ := Qa.mk (Ql (by repeat (first | (with_reducible first | exact HB.out | apply Qc | apply Qb | apply Qq | refine Qm ?_ (Qi.ge HI0.out) | refine Qm ?_ GE138.out) | exact HB.out)) hb); have n4_ := Qa.mk (hbox); have n5_ := Qa.mk ((by rw [hg]; exact (Yd (w := w) (g := g) (row := none) (by repeat (first | (with_reducible first | exact HK.out | apply Qn.set_ | apply Qv | apply Qz | apply Qw | refine Wn ?_ GW138.out _) | exact HK.out))) : w.heap.size <= gb141)); have n6_ := Qa.mk ((Nat.le_trans HW0.out (by rw [hg]; exact (Yd (w := w) (g := g) (row := none) (by repeat (first | (with_reducible first | exact HK.out | apply Qn.set_ | apply Qv | apply Qz | apply Qw | refine Wn ?_ GW138.out _) | exact HK.out))) : w.heap.size <= gb141) : w0.heap.size <= gb141)); have n7_ := Qa.mk ((by rw [hg]; exact Nat.ne_of_lt (Wl (bK BK138.out)) : gb138 ≠ gb141)); have n8_ := Qa.mk ((by rw [hg]; exact Nat.ne_of_gt (Wl (bK BK138.out)) : gb141 ≠ gb138)); have n9_ := Qa.mk ((by rw [hg]; exact Nat.ne_of_lt (Qi.lt (show Qi w0 _ g s0_0 t140 from by repeat (first | (with_reducible first | exact HI0.out | apply Qi.alloc | apply Qi.drewN | apply Qi.drew | apply Qi.Zr | refine Qi.far ?_ NB0_138.out _) | exact HI0.out))) : g ≠ gb141)); have n10_ := Qa.mk ((by rw [hg]; exact Nat.ne_of_gt (Qi.lt (show Qi w0 _ g s0_0 t140 from by repeat (first | (with_reducible first | exact HI0.out | apply Qi.alloc | apply Qi.drewN | apply Qi.drew | apply Qi.Zr | refine Qi.far ?_ NB0_138.out _) | exact HI0.out))) : gb141 ≠ g)); clear HI0; clear BK138; clear HK; clear HB; have HI0 := n0_; have BK138 := n1_; have HK := n2_; have HB := n3_; have BK141 := n4_; have GW141 := n5_; have GE141 := n6_; have NB138_141 := n7_; have NB141_138 := n8_; have NB0_141 := n9_; have NB141_0 := n10_; clear n0_ n1_ n2_ n3_ n4_ n5_ n6_ n7_ n8_ n9_ n10_; clear hb hbox hg; have hnb7 := NB141_138.out; have hnc7 := NB138_141.out; have hnb8 := NB141_0.out; have hnc8 := NB0_141.out; have hcz9_0 : w6.cell? ⟨gb141, 0, none⟩ = some (.int .i64 0) := (Qe BK141.out 0).trans rfl; have hcz9_1 : w6.cell? ⟨gb141, 1, none⟩ = some (.slice none 0 0) := (Qe BK141.out 1).trans rfl; have hfz9_0 := Qf BK141.out 0; have hfz9_1 := Qf BK141.out 1))
 have n0_ : Qa (((w6.setCell ⟨gb141, 0, none⟩ (.int .i64 (wrap64 (1 + t139)))).setCell ⟨gb141, 1, none⟩ (.slice none 0 0)).heap[gb138]? = some (.cells #[.int .i64 0, .slice none 0 0] 25 (0, 0))) := ⟨by (with_reducible repeat apply Qd); refine Qo ?_ NB138_141.out _; (with_reducible repeat apply Qd); refine Qo ?_ NB138_141.out _; (with_reducible repeat apply Qd); exact BK138.out⟩
 have n1_ : Qa (((w6.setCell ⟨gb141, 0, none⟩ (.int .i64 (wrap64 (1 + t139)))).setCell ⟨gb141, 1, none⟩ (.slice none 0 0)).heap[gb141]? = some (.cells #[.int .i64 (wrap64 (1 + t139)), .slice none 0 0] 25 (0, 0))) := ⟨by (with_reducible repeat apply Qd); refine Wm (cs := #[.int .i64 (wrap64 (1 + t139)), .slice none 0 0]) ?_ 1 _ rfl; (with_reducible repeat apply Qd); refine Wm (cs := #[.int .i64 0, .slice none 0 0]) ?_ 0 _ rfl; (with_reducible repeat apply Qd); exact BK141.out⟩
 have n2_ : Qa (Qi w0 ((w6.setCell ⟨gb141, 0, none⟩ (.int .i64 (wrap64 (1 + t139)))).setCell ⟨gb141, 1, none⟩ (.slice none 0 0)) g s0_0 t140) := ⟨by repeat (first | (with_reducible first | exact HI0.out | apply Qi.alloc | apply Qi.drewN | apply Qi.drew | apply Qi.Zr | refine Qi.far ?_ NB0_138.out _ | refine Qi.far ?_ NB0_141.out _) | exact HI0.out)⟩
 have n3_ : Qa (Qn w ((w6.setCell ⟨gb141, 0, none⟩ (.int .i64 (wrap64 (1 + t139)))).setCell ⟨gb141, 1, none⟩ (.slice none 0 0)) g none) := ⟨by repeat (first | (with_reducible first | exact HK.out | apply Qn.set_ | apply Qv | apply Qz | apply Qw | refine Wn ?_ GW138.out _ | refine Wn ?_ GW141.out _) | exact HK.out)⟩
 have n4_ : Qa (Below w0.heap.size w0 ((w6.setCell ⟨gb141, 0, none⟩ (.int .i64 (wrap64 (1 + t139)))).setCell ⟨gb141, 1, none⟩ (.slice none 0 0))) := ⟨by repeat (first | (with_reducible first | exact HB.out | apply Qc | apply Qb | apply Qq | refine Qm ?_ (Qi.ge HI0.out) | refine Qm ?_ GE138.out | refine Qm ?_ GE141.out) | exact HB.out)⟩
 (try clear BK138)
 (try clear BK141)
 (try clear HI0)
 (try clear HK)
 (try clear HB)
 generalize ((w6.setCell ⟨gb141, 0, none⟩ (.int .i64 (wrap64 (1 + t139)))).setCell ⟨gb141, 1, none⟩ (.slice none 0 0)) = w10 at n0_ n1_ n2_ n3_ n4_ ⊢
 have BK138 := n0_
 have BK141 := n1_
 have HI0 := n2_
 have HK := n3_
 have HB := n4_
 clear n0_ n1_ n2_ n3_ n4_
 have n0_ := Qa.mk (Ye BK138.out)
 have n1_ := Qa.mk (Ye BK141.out)
 have n2_ := Qa.mk (Qi.drew HI0.out)
 have n3_ := Qa.mk (Qz HK.out)
 have n4_ := Qa.mk (Qq HB.out)
 clear BK138
 clear BK141
 clear HI0
 clear HK
 clear HB
 have BK138 := n0_
 have BK141 := n1_
 have HI0 := n2_
 have HK := n3_
 have HB := n4_
 clear n0_ n1_ n2_ n3_ n4_
 refine start_ (n := 7) (S := fun w' => w'.cell? ⟨gb141, 0, none⟩ = some (.int .i64 (wrap64 (1 + t139))) ∧ w'.cell? ⟨gb141, 1, none⟩ = some (.slice none 0 0)) (ds := []) #[false, false, false, false, false, false, false] (by kernel_rfl) rfl rfl ⟨(Qe BK141.out 0).trans rfl, (Qe BK141.out 1).trans rfl⟩ (fun hHeld => ?_)
 generalize w10.drew = w11 at BK138 BK141 HI0 HK HB hHeld ⊢
 refine Zt (i := 0) (N := some 9) (v := ?_) (a' := ?_) #[true, false, false, false, false, false, false] rfl rfl (by kernel_rfl) (fun _ _ _ h => h) (Or.inl ⟨by rfl, ?_⟩) ?_ ?_
 rotate_left
 ·intro w'
  go_simp
  with_reducible rfl
 rotate_left
 ·simp only [Act.put, sA_, sZ_, sS_, Wp, Ws]
  rfl
 refine Zt (i := 2) (N := some 11) (v := ?_) (a' := ?_) #[true, false, true, false, false, false, false] rfl rfl (by kernel_rfl) (fun _ _ _ h => h) (Or.inl ⟨by rfl, ?_⟩) ?_ ?_
 rotate_left
 ·intro w'
  go_simp
  with_reducible rfl
 rotate_left
 ·simp only [Act.put, sA_, sZ_, sS_, Wp, Ws]
  rfl
 refine Xt (i := 1) (N := some 10) (v := ?_) (a' := ?_) #[true, true, true, false, false, false, false] rfl rfl (by kernel_rfl) (fun _ _ _ h => h) (Or.inl ⟨by rfl, ?_⟩) hHeld ?_ ?_
 rotate_left
 ·rintro w' ⟨s0, s1⟩
  go_simp
  with_reducible rfl
 rotate_left
 ·simp only [Act.put, sA_, sZ_, sS_, Wp, Ws]
  rfl
 refine one_ (i := 3) (N := some 12) #[true, true, true, true, false, false, false] rfl rfl (by kernel_rfl) (by decide) (fun K hK => ?_)
 refine goes_ Try.func42 (by kernel_rfl) rfl #[.pointer (some ⟨g, 0, none⟩), .int .i64 5] (by rfl) rfl rfl (by first | rfl | (simp only [List.map_toArray, List.map_cons, List.map_nil, List.length_drop, List.length_take]; try rfl)) ?_
 with_reducible refine (Qu.calls k g s0_0 t140 5 t142 t143 w0 _ ?side1 ?side2 A3.out).mono ?_
 (case side1 => repeat (first | (with_reducible first | exact HI0.out | apply Qi.alloc | apply Qi.drewN | apply Qi.drew | apply Qi.Zr | refine Qi.far ?_ NB0_138.out _ | refine Qi.far ?_ NB0_141.out _) | exact HI0.out))
 (case side2 => repeat (first | (with_reducible first | exact HB.out | apply Qc | apply Qb | apply Qq | refine Qm ?_ (Qi.ge HI0.out) | refine Qm ?_ GE138.out | refine Qm ?_ GE141.out) | exact HB.out))
 rintro e w12 ⟨rfl, hi, hb, hk⟩
 refine ⟨_, rfl, ?_⟩
 have n0_ := Qa.mk (Qn.blk hk (g' := gb138) (o := .cells #[.int .i64 0, .slice none 0 0] 25 (0, 0)) (bK BK138.out) NB138_0.out (by simp))
 have n1_ := Qa.mk (Qn.blk hk (g' := gb141) (o := .cells #[.int .i64 (wrap64 (1 + t139)), .slice none 0 0] 25 (0, 0)) (bK BK141.out) NB141_0.out (by simp))
 have n2_ := Qa.mk (Qn.trans (by repeat (first | (with_reducible first | exact HK.out | apply Qn.set_ | apply Qv | apply Qz | apply Qw | refine Wn ?_ GW138.out _ | refine Wn ?_ GW141.out _) | exact HK.out)) hk (.inl rfl))
 have n3_ := Qa.mk (hb)
 have n4_ := Qa.mk (hi)
 clear BK138
 clear BK141
 clear HK
 clear HB
 clear HI0
 have BK138 := n0_
 have BK141 := n1_
 have HK := n2_
 have HB := n3_
 have HI0 := n4_
 clear n0_ n1_ n2_ n3_ n4_
 (try clear hb)
 (try clear hb2)
 (try clear hk)
 (try clear hi)
 refine hK.out _ _ ⟨(Qe BK141.out 0).trans rfl, (Qe BK141.out 1).trans rfl⟩ (fun hHeld => ?_)
 clear hK K
 refine Xp (a' := ?_) ?_ ?_
 rotate_left
 ·show Act.put _ (some 12) _ = _
  simp only [Act.put, sA_, sZ_, sS_, Wp, Ws]
  rfl
 refine Zt (i := 4) (N := some 13) (v := ?_) (a' := ?_) #[true, true, true, true, true, false, false] rfl rfl (by kernel_rfl) (fun _ _ _ h => h) (Or.inl ⟨by rfl, ?_⟩) ?_ ?_
 rotate_left
 ·intro w'
  go_simp
  with_reducible rfl
 rotate_left
 ·simp only [Act.put, sA_, sZ_, sS_, Wp, Ws]
  rfl
 refine Zt (i := 5) (N := some 14) (v := ?_) (a' := ?_) #[true, true, true, true, true, true, false] rfl rfl (by kernel_rfl) (fun _ _ _ h => h) (Or.inl ⟨by rfl, ?_⟩) ?_ ?_
 rotate_left
 ·intro w'
  go_simp
  with_reducible rfl
 rotate_left
 ·simp only [Act.put, sA_, sZ_, sS_, Wp, Ws]
  rfl
 refine Zt (i := 6) (N := some 4) (v := ?_) (a' := ?_) #[true, true, true, true, true, true, true] rfl rfl (by kernel_rfl) (fun _ _ _ h => h) (Or.inl ⟨by rfl, ?_⟩) ?_ ?_
 rotate_left
 ·intro w'
  go_simp
  with_reducible rfl
 rotate_left
 ·simp only [Act.put, sA_, sZ_, sS_, Wp, Ws]
  rfl
 refine done_ (by kernel_rfl) ?_
 try go_wp2
 go_loopg [4] k (fun kq v4 w' => ∃ (x4_1 : Int) (x1001_1 : Int) (x142001_1 : List (S42)) (u142001 : Value), v4 = .int .i64 x4_1 ∧ Qa (Za.l0 kq x4_1 s0_0 x1001_1 (wrap64 (1 + t139)) x142001_1 = some (r1, r2, r3)) ∧ Qa (kq <= k) ∧ Qa (Kd.R k42 42 w' w.heap.size (fun _ => True) u142001 x142001_1) ∧ Qa (w'.heap[gb138]? = some (.cells #[.int .i64 0, (.slice none 0 0)] 25 (0, 0))) ∧ Qa (w'.heap[gb141]? = some (.cells #[.int .i64 (wrap64 (1 + t139)), u142001] 25 (0, 0))) ∧ Qa (Qi w0 w' g s0_0 x1001_1) ∧ Qa (Qn w w' g none) ∧ Qa (Below w0.heap.size w0 w'))
 case atStart => exact ⟨(wrap64 ((wrap64 (1 + t139)) * (wrap64 (1 + t142)))), (t143), (([] : List (S42))), (.slice none 0 0), (by first | rfl | (simp; done) | (simp [*]; done)), H', ⟨Nat.le_refl _⟩, ⟨by first | exact Kd.R_nil _ _ _ _ _ | exact Kd.N_nil _ _ _ _ _ | exact Kd.V_nil _ _ _ _ _ | exact Kd.Q_nil _ _ _ _ _ | exact Kd.S_nil _ _ _ _ _⟩, ⟨by (with_reducible repeat apply Qd); exact BK138.out⟩, ⟨by (with_reducible repeat apply Qd); exact BK141.out⟩, ⟨by repeat (first | (with_reducible first | exact HI0.out | apply Qi.alloc | apply Qi.drewN | apply Qi.drew | apply Qi.Zr | refine Qi.far ?_ NB0_138.out _ | refine Qi.far ?_ NB0_141.out _) | exact HI0.out)⟩, ⟨by repeat (first | (with_reducible first | exact HK.out | apply Qn.set_ | apply Qv | apply Qz | apply Qw | refine Wn ?_ GW138.out _ | refine Wn ?_ GW141.out _) | exact HK.out)⟩, ⟨by repeat (first | (with_reducible first | exact HB.out | apply Qc | apply Qb | apply Qq | refine Qm ?_ (Qi.ge HI0.out) | refine Qm ?_ GE138.out | refine Qm ?_ GE141.out) | exact HB.out)⟩⟩
 case round =>
  clear H'
  try clear p2
  try clear c4
  try clear c5
  try clear p6
  try clear c7
  try clear c8
  try clear hcz9_0
  try clear hcz9_1
  try clear hfz9_0
  try clear hfz9_1
  obtain ⟨x4_1, x1001_1, x142001_1, u142001, rfl, HA, HK1, HO_142001, BK138, BK141, HI0, HK, HB⟩ := hrel
  cases gk with
  | zero => exact absurd HA.out (by simp [Za.l0])
  | succ k1 =>
   have H := HA.out
   clear HA
   simp only [Za.l0] at H
   by_cases c13 : x4_1 > 0
   ·rw [if_pos c13] at H
    have c13b0 : decide (0 < x4_1) = true := decide_eq_true c13
    clear c13
    replace H := Option.bind_eq_some_iff.mp H
    obtain ⟨⟨t144, t145, t146⟩, A140, H⟩ := H
    replace H : (if x142001_1.length < 8796093022208 then (Za.l0 k1 (wrap64 (x4_1 - 1)) s0_0 t146 (wrap64 (1 + t139)) (x142001_1 ++ [(⟨t144, t145⟩ : S42)])) else (none)) = some (r1, r2, r3) := H
    have A14 := Qa.mk A140
    clear A140
    by_cases c15 : x142001_1.length < 8796093022208
    ·rw [if_pos c15] at H
     have LMc15 := Qa.mk c15
     clear c15
     obtain ⟨y147, hy147⟩ : ∃ y_ : List (S42), y_ = (x142001_1 ++ [(⟨t144, t145⟩ : S42)]) := ⟨_, rfl⟩
     replace H : (Za.l0 k1 (wrap64 (x4_1 - 1)) s0_0 t146 (wrap64 (1 + t139)) y147) = some (r1, r2, r3) := by first | (rw [hy147]; with_reducible exact H) | (have H2_ := (Option.bind_some _ _).symm.trans H; rw [hy147]; with_reducible exact H2_) | (have H2_ := (Option.bind_some _ _).symm.trans H; with_reducible exact H2_) | with_reducible exact H | (rw [hy147]; exact H) | exact H
     have Ny147 := Qa.mk hy147
     clear hy147
     have H' := Qa.mk H
     clear H
     try go_wp2
     have n0_ := Qa.mk (Kd.R_drew HO_142001.out)
     have n1_ := Qa.mk (Ye BK138.out)
     have n2_ := Qa.mk (Ye BK141.out)
     have n3_ := Qa.mk (Qi.drew HI0.out)
     have n4_ := Qa.mk (Qz HK.out)
     have n5_ := Qa.mk (Qq HB.out)
     clear HO_142001
     clear BK138
     clear BK141
     clear HI0
     clear HK
     clear HB
     have HO_142001 := n0_
     have BK138 := n1_
     have BK141 := n2_
     have HI0 := n3_
     have HK := n4_
     have HB := n5_
     clear n0_ n1_ n2_ n3_ n4_ n5_
     refine start_ (n := 8) (S := fun w' => w'.cell? ⟨gb141, 0, none⟩ = some (.int .i64 (wrap64 (1 + t139))) ∧ w'.cell? ⟨gb141, 1, none⟩ = some (u142001)) (ds := [7]) #[false, false, false, false, false, false, false, false] (by kernel_rfl) rfl rfl ⟨(Qe BK141.out 0).trans rfl, (Qe BK141.out 1).trans rfl⟩ (fun hHeld => ?_); refine with_tabW Za.tab5 Za.bits5 (fun HT_ HW_ => ?_)
     generalize wr.drew = w16 at HO_142001 BK138 BK141 HI0 HK HB hHeld ⊢
     refine Zt (i := 0) (N := some 19) (v := ?_) (a' := ?_) #[true, false, false, false, false, false, false, false] rfl rfl (Zh HT_.out (by kernel_rfl)) (fun _ _ _ h => h) (Or.inl ⟨by rfl, ?_⟩) ?_ ?_
     rotate_left
     ·intro w'
      go_simp
      with_reducible rfl
     rotate_left
     ·simp only [Act.put, sA_, sZ_, sS_, Wp, Ws]
      rfl
     refine Zt (i := 2) (N := some 21) (v := ?_) (a' := ?_) #[true, false, true, false, false, false, false, false] rfl rfl (Zh HT_.out (by kernel_rfl)) (fun _ _ _ h => h) (Or.inl ⟨by rfl, ?_⟩) ?_ ?_
     rotate_left
     ·intro w'
      go_simp
      with_reducible rfl
     rotate_left
     ·simp only [Act.put, sA_, sZ_, sS_, Wp, Ws]
      rfl
     refine Xt (i := 1) (N := some 20) (v := ?_) (a' := ?_) #[true, true, true, false, false, false, false, false] rfl rfl (Yn HT_.out HW_.out (by kernel_rfl)) (fun _ _ _ h => h) (Or.inl ⟨by rfl, ?_⟩) hHeld ?_ ?_
     rotate_left
     ·rintro w' ⟨s0, s1⟩
      go_simp
      with_reducible rfl
     rotate_left
     ·simp only [Act.put, sA_, sZ_, sS_, Wp, Ws]
      rfl
     refine one_ (i := 3) (N := some 22) #[true, true, true, true, false, false, false, false] rfl rfl (Xq HT_.out (by kernel_rfl)) (by decide) (fun K hK => ?_)
     refine goes_ Try.func73 (by kernel_rfl) rfl #[.pointer (some ⟨g, 0, none⟩)] (by rfl) rfl rfl (by first | rfl | (simp only [List.map_toArray, List.map_cons, List.map_nil, List.length_drop, List.length_take]; try rfl)) ?_
     with_reducible refine (Zf.calls k1 g s0_0 x1001_1 t144 t145 t146 w0 _ ?side1 ?side2 A14.out).mono ?_
     (case side1 => repeat (first | (with_reducible first | exact HI0.out | apply Qi.alloc | apply Qi.drewN | apply Qi.drew | apply Qi.Zr | refine Qi.far ?_ NB0_138.out _ | refine Qi.far ?_ NB0_141.out _) | exact HI0.out))
     (case side2 => repeat (first | (with_reducible first | exact HB.out | apply Qc | apply Qb | apply Qq | refine Qm ?_ (Qi.ge HI0.out) | refine Qm ?_ GE138.out | refine Qm ?_ GE141.out) | exact HB.out))
     rintro e w17 ⟨rfl, hi, hb, hk⟩
     refine ⟨_, rfl, ?_⟩
     have n0_ := Qa.mk (Kd.Wz (Kd.R_keep (Qi.apart (show Qi w0 _ g s0_0 x1001_1 from by repeat (first | (with_reducible first | exact HI0.out | apply Qi.alloc | apply Qi.drewN | apply Qi.drew | apply Qi.Zr | refine Qi.far ?_ NB0_138.out _ | refine Qi.far ?_ NB0_141.out _) | exact HI0.out)) (kR HO_142001.out) (by decide)) hk (fun _ h => h.2)) (fun _ h => h.1))
     have n1_ := Qa.mk (Qn.blk hk (g' := gb138) (o := .cells #[.int .i64 0, .slice none 0 0] 25 (0, 0)) (bK BK138.out) NB138_0.out (by simp))
     have n2_ := Qa.mk (Qn.blk hk (g' := gb141) (o := .cells #[.int .i64 (wrap64 (1 + t139)), u142001] 25 (0, 0)) (bK BK141.out) NB141_0.out (by simp))
     have n3_ := Qa.mk (Qn.trans (by repeat (first | (with_reducible first | exact HK.out | apply Qn.set_ | apply Qv | apply Qz | apply Qw | refine Wn ?_ GW138.out _ | refine Wn ?_ GW141.out _) | exact HK.out)) hk (.inl rfl))
     have n4_ := Qa.mk (hb)
     have n5_ := Qa.mk (hi)
     clear HO_142001
     clear BK138
     clear BK141
     clear HK
     clear HB
     clear HI0
     have HO_142001 := n0_
     have BK138 := n1_
     have BK141 := n2_
     have HK := n3_
     have HB := n4_
     have HI0 := n5_
     clear n0_ n1_ n2_ n3_ n4_ n5_
     (try clear hb)
     (try clear hb2)
     (try clear hk)
     (try clear hi)
     refine hK.out _ _ ⟨(Qe BK141.out 0).trans rfl, (Qe BK141.out 1).trans rfl⟩ (fun hHeld => ?_)
     clear hK K
     refine Xp (a' := ?_) ?_ ?_
     rotate_left
     ·show Act.put _ (some 22) _ = _
      simp only [Act.put, sA_, sZ_, sS_, Wp, Ws]
      rfl
     refine one_ (i := 4) (N := some 23) #[true, true, true, true, true, false, false, false] rfl rfl (Xq HT_.out (by kernel_rfl)) (by decide) (fun K hK => ?_)
     refine value_ (w1 := ?_) (v := ?_) (by rfl) rfl ?_ ?_
     rotate_left 2
     ·go_simp
      constructor
      ·rfl
      ·rfl
     refine hK.out _ _ ⟨(Qe (Qd BK141.out _) 0).trans rfl, (Qe (Qd BK141.out _) 1).trans rfl⟩ (fun hHeld => ?_)
     clear hK K
     refine Xp (a' := ?_) ?_ ?_
     rotate_left
     ·show Act.put _ (some 23) _ = _
      simp only [Act.put, sA_, sZ_, sS_, Wp, Ws]
      rfl
     refine one_ (i := 5) (N := some 24) #[true, true, true, true, true, true, false, false] rfl rfl (Xq HT_.out (by kernel_rfl)) (by decide) (fun K hK => ?_)
     refine Kd.R_append_step k42 w.heap.size (by rfl) (.tmp 20) (.tmp 23) 23 42 (.agg #[(.int .i64 0), (.int .i64 0)]) 16 rfl Try.underlying23 info42 rfl (by decide) (by omega) u142001 x142001_1 (⟨t144, t145⟩ : S42) [.int .i64 t144, .int .i64 t145] (fun _ => True) (fun _ => False) rfl rfl ?aP (fun _ hk => hk.elim) ?aF ?aO (Below.refl _ _) ?aS ?aL ?_
     (case aP => exact k42_mkM _ _ _ (⟨t144, t145⟩ : S42))
     (case aF => exact (fun _ _ => trivial))
     (case aO => exact (kR HO_142001.out))
     (case aS => exact (Yd (w := w) (g := g) (row := none) (by repeat (first | (with_reducible first | exact HK.out | apply Qn.set_ | apply Qv | apply Qz | apply Qw | refine Wn ?_ GW138.out _ | refine Wn ?_ GW141.out _) | exact HK.out))))
     (case aL => have := LMc15.out; omega)
     intro v148 w18 ho hb hg hat
     rw [<- Ny147.out] at ho
     have n0_ := Qa.mk (Wu (g := gb138) (o := .cells #[.int .i64 0, .slice none 0 0] 25 (0, 0)) (bK BK138.out) hg (Kd.R_ne HO_142001.out BK138.out (by decide)))
     have n1_ := Qa.mk (Wu (g := gb141) (o := .cells #[.int .i64 (wrap64 (1 + t139)), u142001] 25 (0, 0)) (bK BK141.out) hg (Kd.R_ne HO_142001.out BK141.out (by decide)))
     have n2_ := Qa.mk (Qi.grown (by repeat (first | (with_reducible first | exact HI0.out | apply Qi.alloc | apply Qi.drewN | apply Qi.drew | apply Qi.Zr | refine Qi.far ?_ NB0_138.out _ | refine Qi.far ?_ NB0_141.out _) | exact HI0.out)) hg (Qi.own_ne HI0.out HO_142001.out (by decide)))
     have n3_ := Qa.mk (below_weaken (by repeat (first | (with_reducible first | exact HB.out | apply Qc | apply Qb | apply Qq | refine Qm ?_ (Qi.ge HI0.out) | refine Qm ?_ GE138.out | refine Qm ?_ GE141.out) | exact HB.out)) HL.out hb)
     have n4_ := Qa.mk (Qn.trans (by repeat (first | (with_reducible first | exact HK.out | apply Qn.set_ | apply Qv | apply Qz | apply Qw | refine Wn ?_ GW138.out _ | refine Wn ?_ GW141.out _) | exact HK.out)) (Qn.of_grown hg g) (Kd.R_base2 HO_142001.out))
     have n5_ := Qa.mk (ho)
     clear BK138
     clear BK141
     clear HI0
     clear HB
     clear HK
     clear HO_142001
     have BK138 := n0_
     have BK141 := n1_
     have HI0 := n2_
     have HB := n3_
     have HK := n4_
     have HO149 := n5_
     clear n0_ n1_ n2_ n3_ n4_ n5_
     clear ho hb hg hat
     obtain ⟨Ao19, co19, eo19⟩ := Kd.Zk HO149.out
     (first | subst eo19 | (injection eo19 with f1_ f2_ f3_; have f4_ := f1_.symm; have f5_ := f3_.symm; clear f1_ f2_ f3_; subst f4_; subst f5_))
     refine hK.out _ _ ⟨(Qe BK141.out 0).trans rfl, (Qe BK141.out 1).trans rfl⟩ (fun hHeld => ?_)
     clear hK K
     refine Xp (a' := ?_) ?_ ?_
     rotate_left
     ·show Act.put _ (some 24) _ = _
      simp only [Act.put, sA_, sZ_, sS_, Wp, Ws]
      rfl
     refine Zt (i := 6) (N := some 25) (v := ?_) (a' := ?_) #[true, true, true, true, true, true, true, false] rfl rfl (Zh HT_.out (by kernel_rfl)) (fun _ _ _ h => h) (Or.inl ⟨by rfl, ?_⟩) ?_ ?_
     rotate_left
     ·intro w'
      go_simp
      with_reducible rfl
     rotate_left
     ·simp only [Act.put, sA_, sZ_, sS_, Wp, Ws]
      rfl
     refine last_ (i := 7) (N := none) #[true, true, true, true, true, true, true, true] rfl rfl (Xq HT_.out (by kernel_rfl)) (by decide) (fun K hK => ?_)
     have hs20 : w18.cell? ⟨gb141, 1, none⟩ = some (u142001) := (Qe BK141.out 1).trans rfl
     have hfs20 := Qf BK141.out 1
     have hns20_0 := NB138_141.out
     have hms20_0 := NB141_138.out
     refine skip_ (w1 := ?_) (by rfl) rfl ?_ ?_
     rotate_left
     ·go_simp
      rfl
     refine hK.out _ _ ?_
     clear hK K
     refine done_ (done_of HT_.out (by kernel_rfl)) ?_
     try go_wp2
     go_roundg k1
     case measure => have := HK1.out; omega
     case rel => exact ⟨(wrap64 (x4_1 - 1)), (t146), (y147), (.slice Ao19 y147.length co19), (by first | rfl | (simp; done) | (simp [*]; done)), H', ⟨by have := HK1.out; omega⟩, ⟨by (with_reducible repeat apply Kd.Wo); exact Kd.Wz (Kd.Zc (p := ⟨gb141, 1, none⟩) (Kd.Zq HO149.out BK141.out (by decide)) (fun _ hk => hk.2) (.slice Ao19 y147.length co19)) (fun _ hk => trivial)⟩, ⟨by (with_reducible repeat apply Qd); refine Qo ?_ NB138_141.out _; (with_reducible repeat apply Qd); exact BK138.out⟩, ⟨by (with_reducible repeat apply Qd); refine Wm (cs := #[.int .i64 (wrap64 (1 + t139)), u142001]) ?_ 1 _ rfl; (with_reducible repeat apply Qd); exact BK141.out⟩, ⟨by repeat (first | (with_reducible first | exact HI0.out | apply Qi.alloc | apply Qi.drewN | apply Qi.drew | apply Qi.Zr | refine Qi.far ?_ NB0_138.out _ | refine Qi.far ?_ NB0_141.out _) | exact HI0.out)⟩, ⟨by repeat (first | (with_reducible first | exact HK.out | apply Qn.set_ | apply Qv | apply Qz | apply Qw | refine Wn ?_ GW138.out _ | refine Wn ?_ GW141.out _) | exact HK.out)⟩, ⟨by repeat (first | (with_reducible first | exact HB.out | apply Qc | apply Qb | apply Qq | refine Qm ?_ (Qi.ge HI0.out) | refine Qm ?_ GE138.out | refine Qm ?_ GE141.out) | exact HB.out)⟩⟩
    ·rw [if_neg c15] at H
     exact absurd H (by simp)
   ·rw [if_neg c13] at H
    have c13b0 : decide (0 < x4_1) = false := decide_eq_false c13
    clear c13
    simp only [Option.some.injEq, Prod.mk.injEq] at H
    obtain ⟨rfl, rfl, rfl⟩ := H
    have hnb21 := NB141_138.out
    have hnc21 := NB138_141.out
    have hnb22 := NB141_0.out
    have hnc22 := NB0_141.out
    have hcz23_0 : wr.cell? ⟨gb141, 0, none⟩ = some (.int .i64 (wrap64 (1 + t139))) := (Qe BK141.out 0).trans rfl
    have hcz23_1 : wr.cell? ⟨gb141, 1, none⟩ = some (u142001) := (Qe BK141.out 1).trans rfl
    have hfz23_0 := Qf BK141.out 0
    have hfz23_1 := Qf BK141.out 1
    have hnb24 := NB138_0.out
    have hnc24 := NB0_138.out
    have hcz25_0 : wr.cell? ⟨gb138, 0, none⟩ = some (.int .i64 0) := (Qe BK138.out 0).trans rfl
    have hcz25_1 : wr.cell? ⟨gb138, 1, none⟩ = some (.slice none 0 0) := (Qe BK138.out 1).trans rfl
    have hfz25_0 := Qf BK138.out 0
    have hfz25_1 := Qf BK138.out 1
    obtain ⟨Ao26, co26, eo26⟩ := Kd.Zk HO_142001.out
    subst eo26
    go_wp2
    refine bodyPost_ret (results_cell_row rfl _ _ gb138 25 #[.int .i64 (wrap64 (1 + t139)), .slice Ao26 x142001_1.length co26] (0, 0) _ rfl (by (with_reducible repeat apply Qd); refine Wm (cs := #[.int .i64 (wrap64 (1 + t139)), .slice none 0 0]) ?_ 1 _ rfl; (with_reducible repeat apply Qd); refine Wm (cs := #[.int .i64 0, .slice none 0 0]) ?_ 0 _ rfl; (with_reducible repeat apply Qd); exact BK138.out) Try.underlying25 rfl (by kernel_rfl)) rfl ?_
    exact ⟨_, by first | rfl | (simp [Qt, Qs] <;> rfl) | (simp [*, Qt, Qs] <;> rfl) | (exfalso; simp_all; done), by (with_reducible repeat apply Kd.Wo); exact Kd.Wz (Kd.Zc (p := ⟨gb138, 1, none⟩) (Kd.Zc (p := ⟨gb138, 0, none⟩) (Kd.Zq HO_142001.out BK138.out (by decide)) (fun _ hk => hk.2) (.int .i64 (wrap64 (1 + t139)))) (fun _ hk => hk.2) (.slice Ao26 x142001_1.length co26)) (fun _ hk => trivial), by repeat (first | (with_reducible first | exact HI0.out | apply Qi.alloc | apply Qi.drewN | apply Qi.drew | apply Qi.Zr | refine Qi.far ?_ NB0_138.out _ | refine Qi.far ?_ NB0_141.out _) | exact HI0.out), by repeat (first | (with_reducible first | exact HB.out | apply Qc | apply Qb | apply Qq | refine Qm ?_ (Qi.ge HI0.out) | refine Qm ?_ GE138.out | refine Qm ?_ GE141.out) | exact HB.out), by repeat (first | (with_reducible first | exact HK.out | apply Qn.set_ | apply Qv | apply Qz | apply Qw | refine Wn ?_ GW138.out _ | refine Wn ?_ GW141.out _) | exact HK.out)⟩
end Go.Proofs.Yteapnipnoadejaa.P
