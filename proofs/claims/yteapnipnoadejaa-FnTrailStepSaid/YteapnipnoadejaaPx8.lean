/- PROVED: contracts of functions; No condition. -/
import Derived.Test.YteapnipnoadejaaPx0
import Derived.Test.YteapnipnoadejaaPx4
import Derived.Test.YteapnipnoadejaaPx6
namespace Go.Proofs.Yteapnipnoadejaa.P
open Go.RowKit Go.Proofs.YteapnipnoadejaaW
set_option linter.unusedVariables false
set_option linter.unusedSimpArgs false
mutual
def Zf.j0 : Nat -> Int -> Bool -> List Int -> Int -> Option (Int × Int × Int)
 | 0, _, _, _, _ => none
 | k + 1, x4, x8, x1000, x1001 => if x8 = true then (some (2, 0, x1001)) else (if x4 = 3 then (Zf.j1 k x4 (x4 == 3) x1000 x1001) else (Zf.j1 k x4 (x4 == 4) x1000 x1001))
def Zf.j1 : Nat -> Int -> Bool -> List Int -> Int -> Option (Int × Int × Int)
 | 0, _, _, _, _ => none
 | k + 1, x4, x12, x1000, x1001 => if x12 = true then (some (3, 0, x1001)) else (if x4 = 5 then (some (4, 0, x1001)) else (if x4 = 6 then (some (5, 0, x1001)) else (if x4 = 7 then (some (6, 0, x1001)) else (if x4 = 8 then ((Qu.f k x1000 x1001 9).bind fun bt136 => (some (7, wrap64 (1 + bt136.1), bt136.2))) else (some (0, 0, x1001))))))
end
def Zf.f (k : Nat) (s0_0 : List Int) (s0_1 : Int) : Option (Int × Int × Int) := (Qu.f k s0_0 s0_1 12).bind fun bt134 => (if bt134.1 = 0 then (some (1, 0, bt134.2)) else (if bt134.1 = 1 then (Zf.j0 k bt134.1 (bt134.1 == 1) s0_0 bt134.2) else (Zf.j0 k bt134.1 (bt134.1 == 2) s0_0 bt134.2)))
set_option maxHeartbeats 8000000 in
set_option maxRecDepth 100000 in
theorem Zf.calls (k : Nat) (g : Nat) (s0_0 : List Int) (s0_1 : Int) (r1 : Int) (r2 : Int) (r3 : Int) (w0 w : World) (hI : Qi w0 w g s0_0 s0_1) (hB : Below w0.heap.size w0 w) (h : Zf.f k s0_0 s0_1 = some (r1, r2, r3)) :
  Calls Try.prog 73 #[.pointer (some ⟨g, 0, none⟩)] w fun e w' => e = .returned (.agg #[.int .i64 r1, .int .i64 r2]) ∧ Qi w0 w' g s0_0 r3 ∧ Below w0.heap.size w0 w' ∧ Qn w w' g none := by
 have hu42 := Try.underlying42
 have HI0 := Qa.mk hI
 have HK := Qa.mk (Qn.refl w g none)
 have HL := Qa.mk hB.size
 clear hI
 have HW0 := Qa.mk hB.size
 have HB := Qa.mk hB
 clear hB
 have H : ((Qu.f k s0_0 s0_1 12).bind fun bt134 => (if bt134.1 = 0 then (some (1, 0, bt134.2)) else (if bt134.1 = 1 then (Zf.j0 k bt134.1 (bt134.1 == 1) s0_0 bt134.2) else (Zf.j0 k bt134.1 (bt134.1 == 2) s0_0 bt134.2)))) = some (r1, r2, r3) := h
 clear h
 replace H := Option.bind_eq_some_iff.mp H
 obtain ⟨⟨t134, t135⟩, A20, H⟩ := H
 replace H : (if t134 = 0 then (some (1, 0, t135)) else (if t134 = 1 then (Zf.j0 k t134 (t134 == 1) s0_0 t135) else (Zf.j0 k t134 (t134 == 2) s0_0 t135))) = some (r1, r2, r3) := H
 have A2 := Qa.mk A20
 clear A20
 by_cases c3 : t134 = 0
 ·rw [if_pos c3] at H
  have c3b0 : (t134 == 0) = true := beq_iff_eq.mpr c3
  have c3b1 : (t134 != 0) = false := bne_eq_false_iff_eq.mpr c3
  clear c3
  simp only [Option.some.injEq, Prod.mk.injEq] at H
  obtain ⟨rfl, rfl, rfl⟩ := H
  go_enter Try.func73, Try.ntmps73
  go_wp2_with (first | ((with_reducible refine We (N := 2) rfl ?_); refine Qy rfl (N := 2) rfl (cs := #[.int .i64 0, .int .i64 0]) (t := 42) ?hr ?_; (case hr => first | (go_simp; done) | (go_simp; rfl)); intro gb133 hg w4 hbox hb; have n0_ := Qa.mk (Qi.below (by repeat (first | (with_reducible first | exact HI0.out | apply Qi.alloc | apply Qi.drewN | apply Qi.drew | apply Qi.Zr) | exact HI0.out)) hb); have n1_ := Qa.mk (Qn.trans (by repeat (first | (with_reducible first | exact HK.out | apply Qn.set_ | apply Qv | apply Qz | apply Qw) | exact HK.out)) (Qn.of_below hb g none) (.inl rfl)); have n2_ := Qa.mk (Ql (by repeat (first | (with_reducible first | exact HB.out | apply Qc | apply Qb | apply Qq | refine Qm ?_ (Qi.ge HI0.out)) | exact HB.out)) hb); have n3_ := Qa.mk (hbox); have n4_ := Qa.mk ((by rw [hg]; exact (Yd (w := w) (g := g) (row := none) (by repeat (first | (with_reducible first | exact HK.out | apply Qn.set_ | apply Qv | apply Qz | apply Qw) | exact HK.out))) : w.heap.size <= gb133)); have n5_ := Qa.mk ((Nat.le_trans HW0.out (by rw [hg]; exact (Yd (w := w) (g := g) (row := none) (by repeat (first | (with_reducible first | exact HK.out | apply Qn.set_ | apply Qv | apply Qz | apply Qw) | exact HK.out))) : w.heap.size <= gb133) : w0.heap.size <= gb133)); have n6_ := Qa.mk ((by rw [hg]; exact Nat.ne_of_lt (Qi.lt (show Qi w0 _ g s0_0 s0_1 from by repeat (first | (with_reducible first | exact HI0.out | apply Qi.alloc | apply Qi.drewN | apply Qi.drew | apply Qi.Zr) | exact HI0.out))) : g ≠ gb133)); have n7_ := Qa.mk ((by rw [hg]; exact Nat.ne_of_gt (Qi.lt (show Qi w0 _ g s0_0 s0_1 from by repeat (first | (with_reducible first | exact HI0.out | apply Qi.alloc | apply Qi.drewN | apply Qi.drew | apply Qi.Zr) | exact HI0.out))) : gb133 ≠ g)); clear HI0; clear HK; clear HB; have HI0 := n0_; have HK := n1_; have HB := n2_; have BK133 := n3_; have GW133 := n4_; have GE133 := n5_; have NB0_133 := n6_; have NB133_0 := n7_; clear n0_ n1_ n2_ n3_ n4_ n5_ n6_ n7_; clear hb hbox hg) | ((with_reducible refine Wi (f := 42) rfl ?_); refine Zu (some 4) rfl rfl Try.func42 (by kernel_rfl) rfl #[.pointer (some ⟨g, 0, none⟩), .int .i64 12] rfl (by first | rfl | (simp only [List.map_toArray, List.map_cons, List.map_nil, List.length_drop, List.length_take]; try rfl)) ?_; (with_reducible refine (Qu.calls k g s0_0 s0_1 12 t134 t135 w0 _ ?side1 ?side2 A2.out).mono ?_); (case side1 => repeat (first | (with_reducible first | exact HI0.out | apply Qi.alloc | apply Qi.drewN | apply Qi.drew | apply Qi.Zr | refine Qi.far ?_ NB0_133.out _) | exact HI0.out)); (case side2 => repeat (first | (with_reducible first | exact HB.out | apply Qc | apply Qb | apply Qq | refine Qm ?_ (Qi.ge HI0.out) | refine Qm ?_ GE133.out) | exact HB.out)); rintro e w5 ⟨rfl, hi, hb, hk⟩; refine ⟨_, rfl, ?_⟩; have n0_ := Qa.mk (Qn.blk hk (g' := gb133) (o := .cells #[.int .i64 0, .int .i64 0] 42 (0, 0)) (bK BK133.out) NB133_0.out (by simp)); have n1_ := Qa.mk (Qn.trans (by repeat (first | (with_reducible first | exact HK.out | apply Qn.set_ | apply Qv | apply Qz | apply Qw | refine Wn ?_ GW133.out _) | exact HK.out)) hk (.inl rfl)); have n2_ := Qa.mk (hb); have n3_ := Qa.mk (hi); clear BK133; clear HK; clear HB; clear HI0; have BK133 := n0_; have HK := n1_; have HB := n2_; have HI0 := n3_; clear n0_ n1_ n2_ n3_; (try clear hb); (try clear hb2); (try clear hk); (try clear hi); have hnb6 := NB133_0.out; have hnc6 := NB0_133.out; have hcz7_0 : w5.cell? ⟨gb133, 0, none⟩ = some (.int .i64 0) := (Qe BK133.out 0).trans rfl; have hcz7_1 : w5.cell? ⟨gb133, 1, none⟩ = some (.int .i64 0) := (Qe BK133.out 1).trans rfl; have hfz7_0 := Qf BK133.out 0; have hfz7_1 := Qf BK133.out 1))
  refine bodyPost_ret (results_cell_row rfl _ _ gb133 42 #[.int .i64 1, .int .i64 0] (0, 0) _ rfl (by (with_reducible repeat apply Qd); refine Wm (cs := #[.int .i64 1, .int .i64 0]) ?_ 1 _ rfl; (with_reducible repeat apply Qd); refine Wm (cs := #[.int .i64 0, .int .i64 0]) ?_ 0 _ rfl; (with_reducible repeat apply Qd); exact BK133.out) Try.underlying42 rfl (by kernel_rfl)) rfl ?_
  exact ⟨by first | rfl | (simp [Qt, Qs] <;> rfl) | (simp [*, Qt, Qs] <;> rfl) | (exfalso; simp_all; done), by repeat (first | (with_reducible first | exact HI0.out | apply Qi.alloc | apply Qi.drewN | apply Qi.drew | apply Qi.Zr | refine Qi.far ?_ NB0_133.out _) | exact HI0.out), by repeat (first | (with_reducible first | exact HB.out | apply Qc | apply Qb | apply Qq | refine Qm ?_ (Qi.ge HI0.out) | refine Qm ?_ GE133.out) | exact HB.out), by repeat (first | (with_reducible first | exact HK.out | apply Qn.set_ | apply Qv | apply Qz | apply Qw | refine Wn ?_ GW133.out _) | exact HK.out)⟩
 ·rw [if_neg c3] at H
  have c3b0 : (t134 == 0) = false := beq_eq_false_iff_ne.mpr c3
  have c3b1 : (t134 != 0) = true := bne_iff_ne.mpr c3
  have HC8 := Qa.mk H
  clear H
  go_enter Try.func73, Try.ntmps73
  go_upto_if 8 with (first | ((with_reducible refine We (N := 2) rfl ?_); refine Qy rfl (N := 2) rfl (cs := #[.int .i64 0, .int .i64 0]) (t := 42) ?hr ?_; (case hr => first | (go_simp; done) | (go_simp; rfl)); intro gb133 hg w9 hbox hb; have n0_ := Qa.mk (Qi.below (by repeat (first | (with_reducible first | exact HI0.out | apply Qi.alloc | apply Qi.drewN | apply Qi.drew | apply Qi.Zr) | exact HI0.out)) hb); have n1_ := Qa.mk (Qn.trans (by repeat (first | (with_reducible first | exact HK.out | apply Qn.set_ | apply Qv | apply Qz | apply Qw) | exact HK.out)) (Qn.of_below hb g none) (.inl rfl)); have n2_ := Qa.mk (Ql (by repeat (first | (with_reducible first | exact HB.out | apply Qc | apply Qb | apply Qq | refine Qm ?_ (Qi.ge HI0.out)) | exact HB.out)) hb); have n3_ := Qa.mk (hbox); have n4_ := Qa.mk ((by rw [hg]; exact (Yd (w := w) (g := g) (row := none) (by repeat (first | (with_reducible first | exact HK.out | apply Qn.set_ | apply Qv | apply Qz | apply Qw) | exact HK.out))) : w.heap.size <= gb133)); have n5_ := Qa.mk ((Nat.le_trans HW0.out (by rw [hg]; exact (Yd (w := w) (g := g) (row := none) (by repeat (first | (with_reducible first | exact HK.out | apply Qn.set_ | apply Qv | apply Qz | apply Qw) | exact HK.out))) : w.heap.size <= gb133) : w0.heap.size <= gb133)); have n6_ := Qa.mk ((by rw [hg]; exact Nat.ne_of_lt (Qi.lt (show Qi w0 _ g s0_0 s0_1 from by repeat (first | (with_reducible first | exact HI0.out | apply Qi.alloc | apply Qi.drewN | apply Qi.drew | apply Qi.Zr) | exact HI0.out))) : g ≠ gb133)); have n7_ := Qa.mk ((by rw [hg]; exact Nat.ne_of_gt (Qi.lt (show Qi w0 _ g s0_0 s0_1 from by repeat (first | (with_reducible first | exact HI0.out | apply Qi.alloc | apply Qi.drewN | apply Qi.drew | apply Qi.Zr) | exact HI0.out))) : gb133 ≠ g)); clear HI0; clear HK; clear HB; have HI0 := n0_; have HK := n1_; have HB := n2_; have BK133 := n3_; have GW133 := n4_; have GE133 := n5_; have NB0_133 := n6_; have NB133_0 := n7_; clear n0_ n1_ n2_ n3_ n4_ n5_ n6_ n7_; clear hb hbox hg) | ((with_reducible refine Wi (f := 42) rfl ?_); refine Zu (some 4) rfl rfl Try.func42 (by kernel_rfl) rfl #[.pointer (some ⟨g, 0, none⟩), .int .i64 12] rfl (by first | rfl | (simp only [List.map_toArray, List.map_cons, List.map_nil, List.length_drop, List.length_take]; try rfl)) ?_; (with_reducible refine (Qu.calls k g s0_0 s0_1 12 t134 t135 w0 _ ?side1 ?side2 A2.out).mono ?_); (case side1 => repeat (first | (with_reducible first | exact HI0.out | apply Qi.alloc | apply Qi.drewN | apply Qi.drew | apply Qi.Zr | refine Qi.far ?_ NB0_133.out _) | exact HI0.out)); (case side2 => repeat (first | (with_reducible first | exact HB.out | apply Qc | apply Qb | apply Qq | refine Qm ?_ (Qi.ge HI0.out) | refine Qm ?_ GE133.out) | exact HB.out)); rintro e w10 ⟨rfl, hi, hb, hk⟩; refine ⟨_, rfl, ?_⟩; have n0_ := Qa.mk (Qn.blk hk (g' := gb133) (o := .cells #[.int .i64 0, .int .i64 0] 42 (0, 0)) (bK BK133.out) NB133_0.out (by simp)); have n1_ := Qa.mk (Qn.trans (by repeat (first | (with_reducible first | exact HK.out | apply Qn.set_ | apply Qv | apply Qz | apply Qw | refine Wn ?_ GW133.out _) | exact HK.out)) hk (.inl rfl)); have n2_ := Qa.mk (hb); have n3_ := Qa.mk (hi); clear BK133; clear HK; clear HB; clear HI0; have BK133 := n0_; have HK := n1_; have HB := n2_; have HI0 := n3_; clear n0_ n1_ n2_ n3_; (try clear hb); (try clear hb2); (try clear hk); (try clear hi)))
  (try simp only [Act.put, List.setIfInBounds_toArray, List.set_cons_zero, List.set_cons_succ])
  go_cut [8] (fun v8 wc => ∃ (kq : Nat) (x8_7 : Bool), v8 = .bool x8_7 ∧ Qa (Zf.j0 kq t134 x8_7 s0_0 t135 = some (r1, r2, r3)) ∧ Qa (kq <= k) ∧ Qa (wc.heap[gb133]? = some (.cells #[.int .i64 0, .int .i64 0] 42 (0, 0))) ∧ Qa (Qi w0 wc g s0_0 t135) ∧ Qa (Qn w wc g none) ∧ Qa (Below w0.heap.size w0 wc))
  case first =>
   have H := HC8.out
   clear HC8
   by_cases c11 : t134 = 1
   ·rw [if_pos c11] at H
    have c11b0 : (t134 == 1) = true := beq_iff_eq.mpr c11
    have c11b1 : (t134 != 1) = false := bne_eq_false_iff_eq.mpr c11
    clear c11
    (first | rw [c11b0] | (simp only [Wp, Ws]; rw [c11b0]) | skip)
    have H' := Qa.mk H
    clear H
    go_wp2
    go_meet
    case rel => exact ⟨_, ((t134 == 1)), (by first | rfl | (simp; done) | (simp [*]; done)), H', ⟨by first | omega | exact Nat.le_refl _⟩, ⟨by (with_reducible repeat apply Qd); exact BK133.out⟩, ⟨by repeat (first | (with_reducible first | exact HI0.out | apply Qi.alloc | apply Qi.drewN | apply Qi.drew | apply Qi.Zr | refine Qi.far ?_ NB0_133.out _) | exact HI0.out)⟩, ⟨by repeat (first | (with_reducible first | exact HK.out | apply Qn.set_ | apply Qv | apply Qz | apply Qw | refine Wn ?_ GW133.out _) | exact HK.out)⟩, ⟨by repeat (first | (with_reducible first | exact HB.out | apply Qc | apply Qb | apply Qq | refine Qm ?_ (Qi.ge HI0.out) | refine Qm ?_ GE133.out) | exact HB.out)⟩⟩
   ·rw [if_neg c11] at H
    have c11b0 : (t134 == 1) = false := beq_eq_false_iff_ne.mpr c11
    have c11b1 : (t134 != 1) = true := bne_iff_ne.mpr c11
    (first | rw [c11b0] | (simp only [Wp, Ws]; rw [c11b0]) | skip)
    have H' := Qa.mk H
    clear H
    go_wp2
    go_meet
    case rel => exact ⟨_, ((t134 == 2)), (by first | rfl | (simp; done) | (simp [*]; done)), H', ⟨by first | omega | exact Nat.le_refl _⟩, ⟨by (with_reducible repeat apply Qd); exact BK133.out⟩, ⟨by repeat (first | (with_reducible first | exact HI0.out | apply Qi.alloc | apply Qi.drewN | apply Qi.drew | apply Qi.Zr | refine Qi.far ?_ NB0_133.out _) | exact HI0.out)⟩, ⟨by repeat (first | (with_reducible first | exact HK.out | apply Qn.set_ | apply Qv | apply Qz | apply Qw | refine Wn ?_ GW133.out _) | exact HK.out)⟩, ⟨by repeat (first | (with_reducible first | exact HB.out | apply Qc | apply Qb | apply Qq | refine Qm ?_ (Qi.ge HI0.out) | refine Qm ?_ GE133.out) | exact HB.out)⟩⟩
  case rest =>
   clear HC8
   try clear c1
   try clear p2
   try clear c3
   try clear c3b0
   try clear c3b1
   try clear c4
   try clear c6
   try clear c7
   try clear c11
   try clear c11b0
   try clear c11b1
   try clear hcz7_0
   try clear hcz7_1
   try clear hfz7_0
   try clear hfz7_1
   obtain ⟨kq, x8_7, rfl, HA, HJ7, BK133, HI0, HK, HB⟩ := hcut
   cases kq with
   | zero => exact absurd HA.out (by simp [Zf.j0])
   | succ kj7 =>
    have H := HA.out
    clear HA
    simp only [Zf.j0] at H
    by_cases c12 : x8_7 = true
    ·subst c12
     have H1 : (some (2, 0, t135)) = some (r1, r2, r3) := by rw [if_pos rfl] at H; exact H
     clear H
     have H := H1
     clear H1
     simp only [Option.some.injEq, Prod.mk.injEq] at H
     obtain ⟨rfl, rfl, rfl⟩ := H
     have hnb13 := NB133_0.out
     have hnc13 := NB0_133.out
     have hcz14_0 : wc.cell? ⟨gb133, 0, none⟩ = some (.int .i64 0) := (Qe BK133.out 0).trans rfl
     have hcz14_1 : wc.cell? ⟨gb133, 1, none⟩ = some (.int .i64 0) := (Qe BK133.out 1).trans rfl
     have hfz14_0 := Qf BK133.out 0
     have hfz14_1 := Qf BK133.out 1
     go_wp2
     refine bodyPost_ret (results_cell_row rfl _ _ gb133 42 #[.int .i64 2, .int .i64 0] (0, 0) _ rfl (by (with_reducible repeat apply Qd); refine Wm (cs := #[.int .i64 2, .int .i64 0]) ?_ 1 _ rfl; (with_reducible repeat apply Qd); refine Wm (cs := #[.int .i64 0, .int .i64 0]) ?_ 0 _ rfl; (with_reducible repeat apply Qd); exact BK133.out) Try.underlying42 rfl (by kernel_rfl)) rfl ?_
     exact ⟨by first | rfl | (simp [Qt, Qs] <;> rfl) | (simp [*, Qt, Qs] <;> rfl) | (exfalso; simp_all; done), by repeat (first | (with_reducible first | exact HI0.out | apply Qi.alloc | apply Qi.drewN | apply Qi.drew | apply Qi.Zr | refine Qi.far ?_ NB0_133.out _) | exact HI0.out), by repeat (first | (with_reducible first | exact HB.out | apply Qc | apply Qb | apply Qq | refine Qm ?_ (Qi.ge HI0.out) | refine Qm ?_ GE133.out) | exact HB.out), by repeat (first | (with_reducible first | exact HK.out | apply Qn.set_ | apply Qv | apply Qz | apply Qw | refine Wn ?_ GW133.out _) | exact HK.out)⟩
    ·replace c12 := Bool.eq_false_iff.mpr c12
     subst c12
     have H1 : (if t134 = 3 then (Zf.j1 kj7 t134 (t134 == 3) s0_0 t135) else (Zf.j1 kj7 t134 (t134 == 4) s0_0 t135)) = some (r1, r2, r3) := by rw [if_neg (show ¬ (false = true) by decide)] at H; exact H
     clear H
     have H := H1
     clear H1
     have HC15 := Qa.mk H
     clear H
     go_upto_if 12 with (fail)
     go_cut [12] (fun v12 wc => ∃ (kq : Nat) (x12_14 : Bool), v12 = .bool x12_14 ∧ Qa (Zf.j1 kq t134 x12_14 s0_0 t135 = some (r1, r2, r3)) ∧ Qa (kq <= kj7) ∧ Qa (wc.heap[gb133]? = some (.cells #[.int .i64 0, .int .i64 0] 42 (0, 0))) ∧ Qa (Qi w0 wc g s0_0 t135) ∧ Qa (Qn w wc g none) ∧ Qa (Below w0.heap.size w0 wc))
     case first =>
      have H := HC15.out
      clear HC15
      by_cases c16 : t134 = 3
      ·rw [if_pos c16] at H
       have c16b0 : (t134 == 3) = true := beq_iff_eq.mpr c16
       have c16b1 : (t134 != 3) = false := bne_eq_false_iff_eq.mpr c16
       clear c16
       (first | rw [c16b0] | (simp only [Wp, Ws]; rw [c16b0]) | skip)
       have H' := Qa.mk H
       clear H
       go_wp2
       go_meet
       case rel => exact ⟨_, ((t134 == 3)), (by first | rfl | (simp; done) | (simp [*]; done)), H', ⟨by have := HJ7.out; first | omega | exact Nat.le_refl _⟩, ⟨by (with_reducible repeat apply Qd); exact BK133.out⟩, ⟨by repeat (first | (with_reducible first | exact HI0.out | apply Qi.alloc | apply Qi.drewN | apply Qi.drew | apply Qi.Zr | refine Qi.far ?_ NB0_133.out _) | exact HI0.out)⟩, ⟨by repeat (first | (with_reducible first | exact HK.out | apply Qn.set_ | apply Qv | apply Qz | apply Qw | refine Wn ?_ GW133.out _) | exact HK.out)⟩, ⟨by repeat (first | (with_reducible first | exact HB.out | apply Qc | apply Qb | apply Qq | refine Qm ?_ (Qi.ge HI0.out) | refine Qm ?_ GE133.out) | exact HB.out)⟩⟩
      ·rw [if_neg c16] at H
       have c16b0 : (t134 == 3) = false := beq_eq_false_iff_ne.mpr c16
       have c16b1 : (t134 != 3) = true := bne_iff_ne.mpr c16
       (first | rw [c16b0] | (simp only [Wp, Ws]; rw [c16b0]) | skip)
       have H' := Qa.mk H
       clear H
       go_wp2
       go_meet
       case rel => exact ⟨_, ((t134 == 4)), (by first | rfl | (simp; done) | (simp [*]; done)), H', ⟨by have := HJ7.out; first | omega | exact Nat.le_refl _⟩, ⟨by (with_reducible repeat apply Qd); exact BK133.out⟩, ⟨by repeat (first | (with_reducible first | exact HI0.out | apply Qi.alloc | apply Qi.drewN | apply Qi.drew | apply Qi.Zr | refine Qi.far ?_ NB0_133.out _) | exact HI0.out)⟩, ⟨by repeat (first | (with_reducible first | exact HK.out | apply Qn.set_ | apply Qv | apply Qz | apply Qw | refine Wn ?_ GW133.out _) | exact HK.out)⟩, ⟨by repeat (first | (with_reducible first | exact HB.out | apply Qc | apply Qb | apply Qq | refine Qm ?_ (Qi.ge HI0.out) | refine Qm ?_ GE133.out) | exact HB.out)⟩⟩
     case rest =>
      clear HC15
      try clear c1
      try clear p2
      try clear c3
      try clear c3b0
      try clear c3b1
      try clear c4
      try clear c6
      try clear c7
      try clear c11
      try clear c11b0
      try clear c11b1
      try clear c12
      try clear c13
      try clear c16
      try clear c16b0
      try clear c16b1
      try clear hcz14_0
      try clear hcz14_1
      try clear hcz7_0
      try clear hcz7_1
      try clear hfz14_0
      try clear hfz14_1
      try clear hfz7_0
      try clear hfz7_1
      try clear p2
      obtain ⟨kq, x12_14, rfl, HA, HJ14, BK133, HI0, HK, HB⟩ := hcut
      cases kq with
      | zero => exact absurd HA.out (by simp [Zf.j1])
      | succ kj14 =>
       have H := HA.out
       clear HA
       simp only [Zf.j1] at H
       by_cases c17 : x12_14 = true
       ·subst c17
        have H1 : (some (3, 0, t135)) = some (r1, r2, r3) := by rw [if_pos rfl] at H; exact H
        clear H
        have H := H1
        clear H1
        simp only [Option.some.injEq, Prod.mk.injEq] at H
        obtain ⟨rfl, rfl, rfl⟩ := H
        have hnb18 := NB133_0.out
        have hnc18 := NB0_133.out
        have hcz19_0 : wc.cell? ⟨gb133, 0, none⟩ = some (.int .i64 0) := (Qe BK133.out 0).trans rfl
        have hcz19_1 : wc.cell? ⟨gb133, 1, none⟩ = some (.int .i64 0) := (Qe BK133.out 1).trans rfl
        have hfz19_0 := Qf BK133.out 0
        have hfz19_1 := Qf BK133.out 1
        go_wp2
        refine bodyPost_ret (results_cell_row rfl _ _ gb133 42 #[.int .i64 3, .int .i64 0] (0, 0) _ rfl (by (with_reducible repeat apply Qd); refine Wm (cs := #[.int .i64 3, .int .i64 0]) ?_ 1 _ rfl; (with_reducible repeat apply Qd); refine Wm (cs := #[.int .i64 0, .int .i64 0]) ?_ 0 _ rfl; (with_reducible repeat apply Qd); exact BK133.out) Try.underlying42 rfl (by kernel_rfl)) rfl ?_
        exact ⟨by first | rfl | (simp [Qt, Qs] <;> rfl) | (simp [*, Qt, Qs] <;> rfl) | (exfalso; simp_all; done), by repeat (first | (with_reducible first | exact HI0.out | apply Qi.alloc | apply Qi.drewN | apply Qi.drew | apply Qi.Zr | refine Qi.far ?_ NB0_133.out _) | exact HI0.out), by repeat (first | (with_reducible first | exact HB.out | apply Qc | apply Qb | apply Qq | refine Qm ?_ (Qi.ge HI0.out) | refine Qm ?_ GE133.out) | exact HB.out), by repeat (first | (with_reducible first | exact HK.out | apply Qn.set_ | apply Qv | apply Qz | apply Qw | refine Wn ?_ GW133.out _) | exact HK.out)⟩
       ·replace c17 := Bool.eq_false_iff.mpr c17
        subst c17
        have H1 : (if t134 = 5 then (some (4, 0, t135)) else (if t134 = 6 then (some (5, 0, t135)) else (if t134 = 7 then (some (6, 0, t135)) else (if t134 = 8 then ((Qu.f kj14 s0_0 t135 9).bind fun bt136 => (some (7, wrap64 (1 + bt136.1), bt136.2))) else (some (0, 0, t135)))))) = some (r1, r2, r3) := by rw [if_neg (show ¬ (false = true) by decide)] at H; exact H
        clear H
        have H := H1
        clear H1
        by_cases c20 : t134 = 5
        ·rw [if_pos c20] at H
         have c20b0 : (t134 == 5) = true := beq_iff_eq.mpr c20
         have c20b1 : (t134 != 5) = false := bne_eq_false_iff_eq.mpr c20
         clear c20
         simp only [Option.some.injEq, Prod.mk.injEq] at H
         obtain ⟨rfl, rfl, rfl⟩ := H
         have hnb21 := NB133_0.out
         have hnc21 := NB0_133.out
         have hcz22_0 : wc.cell? ⟨gb133, 0, none⟩ = some (.int .i64 0) := (Qe BK133.out 0).trans rfl
         have hcz22_1 : wc.cell? ⟨gb133, 1, none⟩ = some (.int .i64 0) := (Qe BK133.out 1).trans rfl
         have hfz22_0 := Qf BK133.out 0
         have hfz22_1 := Qf BK133.out 1
         go_wp2
         refine bodyPost_ret (results_cell_row rfl _ _ gb133 42 #[.int .i64 4, .int .i64 0] (0, 0) _ rfl (by (with_reducible repeat apply Qd); refine Wm (cs := #[.int .i64 4, .int .i64 0]) ?_ 1 _ rfl; (with_reducible repeat apply Qd); refine Wm (cs := #[.int .i64 0, .int .i64 0]) ?_ 0 _ rfl; (with_reducible repeat apply Qd); exact BK133.out) Try.underlying42 rfl (by kernel_rfl)) rfl ?_
         exact ⟨by first | rfl | (simp [Qt, Qs] <;> rfl) | (simp [*, Qt, Qs] <;> rfl) | (exfalso; simp_all; done), by repeat (first | (with_reducible first | exact HI0.out | apply Qi.alloc | apply Qi.drewN | apply Qi.drew | apply Qi.Zr | refine Qi.far ?_ NB0_133.out _) | exact HI0.out), by repeat (first | (with_reducible first | exact HB.out | apply Qc | apply Qb | apply Qq | refine Qm ?_ (Qi.ge HI0.out) | refine Qm ?_ GE133.out) | exact HB.out), by repeat (first | (with_reducible first | exact HK.out | apply Qn.set_ | apply Qv | apply Qz | apply Qw | refine Wn ?_ GW133.out _) | exact HK.out)⟩
        ·rw [if_neg c20] at H
         have c20b0 : (t134 == 5) = false := beq_eq_false_iff_ne.mpr c20
         have c20b1 : (t134 != 5) = true := bne_iff_ne.mpr c20
         by_cases c23 : t134 = 6
         ·rw [if_pos c23] at H
          have c23b0 : (t134 == 6) = true := beq_iff_eq.mpr c23
          have c23b1 : (t134 != 6) = false := bne_eq_false_iff_eq.mpr c23
          clear c23
          simp only [Option.some.injEq, Prod.mk.injEq] at H
          obtain ⟨rfl, rfl, rfl⟩ := H
          have hnb24 := NB133_0.out
          have hnc24 := NB0_133.out
          have hcz25_0 : wc.cell? ⟨gb133, 0, none⟩ = some (.int .i64 0) := (Qe BK133.out 0).trans rfl
          have hcz25_1 : wc.cell? ⟨gb133, 1, none⟩ = some (.int .i64 0) := (Qe BK133.out 1).trans rfl
          have hfz25_0 := Qf BK133.out 0
          have hfz25_1 := Qf BK133.out 1
          go_wp2
          refine bodyPost_ret (results_cell_row rfl _ _ gb133 42 #[.int .i64 5, .int .i64 0] (0, 0) _ rfl (by (with_reducible repeat apply Qd); refine Wm (cs := #[.int .i64 5, .int .i64 0]) ?_ 1 _ rfl; (with_reducible repeat apply Qd); refine Wm (cs := #[.int .i64 0, .int .i64 0]) ?_ 0 _ rfl; (with_reducible repeat apply Qd); exact BK133.out) Try.underlying42 rfl (by kernel_rfl)) rfl ?_
          exact ⟨by first | rfl | (simp [Qt, Qs] <;> rfl) | (simp [*, Qt, Qs] <;> rfl) | (exfalso; simp_all; done), by repeat (first | (with_reducible first | exact HI0.out | apply Qi.alloc | apply Qi.drewN | apply Qi.drew | apply Qi.Zr | refine Qi.far ?_ NB0_133.out _) | exact HI0.out), by repeat (first | (with_reducible first | exact HB.out | apply Qc | apply Qb | apply Qq | refine Qm ?_ (Qi.ge HI0.out) | refine Qm ?_ GE133.out) | exact HB.out), by repeat (first | (with_reducible first | exact HK.out | apply Qn.set_ | apply Qv | apply Qz | apply Qw | refine Wn ?_ GW133.out _) | exact HK.out)⟩
         ·rw [if_neg c23] at H
          have c23b0 : (t134 == 6) = false := beq_eq_false_iff_ne.mpr c23
          have c23b1 : (t134 != 6) = true := bne_iff_ne.mpr c23
          by_cases c26 : t134 = 7
          ·rw [if_pos c26] at H
           have c26b0 : (t134 == 7) = true := beq_iff_eq.mpr c26
           have c26b1 : (t134 != 7) = false := bne_eq_false_iff_eq.mpr c26
           clear c26
           simp only [Option.some.injEq, Prod.mk.injEq] at H
           obtain ⟨rfl, rfl, rfl⟩ := H
           have hnb27 := NB133_0.out
           have hnc27 := NB0_133.out
           have hcz28_0 : wc.cell? ⟨gb133, 0, none⟩ = some (.int .i64 0) := (Qe BK133.out 0).trans rfl
           have hcz28_1 : wc.cell? ⟨gb133, 1, none⟩ = some (.int .i64 0) := (Qe BK133.out 1).trans rfl
           have hfz28_0 := Qf BK133.out 0
           have hfz28_1 := Qf BK133.out 1
           go_wp2
           refine bodyPost_ret (results_cell_row rfl _ _ gb133 42 #[.int .i64 6, .int .i64 0] (0, 0) _ rfl (by (with_reducible repeat apply Qd); refine Wm (cs := #[.int .i64 6, .int .i64 0]) ?_ 1 _ rfl; (with_reducible repeat apply Qd); refine Wm (cs := #[.int .i64 0, .int .i64 0]) ?_ 0 _ rfl; (with_reducible repeat apply Qd); exact BK133.out) Try.underlying42 rfl (by kernel_rfl)) rfl ?_
           exact ⟨by first | rfl | (simp [Qt, Qs] <;> rfl) | (simp [*, Qt, Qs] <;> rfl) | (exfalso; simp_all; done), by repeat (first | (with_reducible first | exact HI0.out | apply Qi.alloc | apply Qi.drewN | apply Qi.drew | apply Qi.Zr | refine Qi.far ?_ NB0_133.out _) | exact HI0.out), by repeat (first | (with_reducible first | exact HB.out | apply Qc | apply Qb | apply Qq | refine Qm ?_ (Qi.ge HI0.out) | refine Qm ?_ GE133.out) | exact HB.out), by repeat (first | (with_reducible first | exact HK.out | apply Qn.set_ | apply Qv | apply Qz | apply Qw | refine Wn ?_ GW133.out _) | exact HK.out)⟩
          ·rw [if_neg c26] at H
           have c26b0 : (t134 == 7) = false := beq_eq_false_iff_ne.mpr c26
           have c26b1 : (t134 != 7) = true := bne_iff_ne.mpr c26
           by_cases c29 : t134 = 8
           ·rw [if_pos c29] at H
            have c29b0 : (t134 == 8) = true := beq_iff_eq.mpr c29
            have c29b1 : (t134 != 8) = false := bne_eq_false_iff_eq.mpr c29
            clear c29
            replace H := Option.bind_eq_some_iff.mp H
            obtain ⟨⟨t136, t137⟩, A300, H⟩ := H
            replace H : (some (7, wrap64 (1 + t136), t137)) = some (r1, r2, r3) := H
            have A30 := Qa.mk A300
            clear A300
            simp only [Option.some.injEq, Prod.mk.injEq] at H
            obtain ⟨rfl, rfl, rfl⟩ := H
            go_wp2_with (first | ((with_reducible refine Wi (f := 42) rfl ?_); refine Zu (some 28) rfl rfl Try.func42 (by kernel_rfl) rfl #[.pointer (some ⟨g, 0, none⟩), .int .i64 9] rfl (by first | rfl | (simp only [List.map_toArray, List.map_cons, List.map_nil, List.length_drop, List.length_take]; try rfl)) ?_; (with_reducible refine (Qu.calls kj14 g s0_0 t135 9 t136 t137 w0 _ ?side1 ?side2 A30.out).mono ?_); (case side1 => repeat (first | (with_reducible first | exact HI0.out | apply Qi.alloc | apply Qi.drewN | apply Qi.drew | apply Qi.Zr | refine Qi.far ?_ NB0_133.out _) | exact HI0.out)); (case side2 => repeat (first | (with_reducible first | exact HB.out | apply Qc | apply Qb | apply Qq | refine Qm ?_ (Qi.ge HI0.out) | refine Qm ?_ GE133.out) | exact HB.out)); rintro e w31 ⟨rfl, hi, hb, hk⟩; refine ⟨_, rfl, ?_⟩; have n0_ := Qa.mk (Qn.blk hk (g' := gb133) (o := .cells #[.int .i64 0, .int .i64 0] 42 (0, 0)) (bK BK133.out) NB133_0.out (by simp)); have n1_ := Qa.mk (Qn.trans (by repeat (first | (with_reducible first | exact HK.out | apply Qn.set_ | apply Qv | apply Qz | apply Qw | refine Wn ?_ GW133.out _) | exact HK.out)) hk (.inl rfl)); have n2_ := Qa.mk (hb); have n3_ := Qa.mk (hi); clear BK133; clear HK; clear HB; clear HI0; have BK133 := n0_; have HK := n1_; have HB := n2_; have HI0 := n3_; clear n0_ n1_ n2_ n3_; (try clear hb); (try clear hb2); (try clear hk); (try clear hi); have hnb32 := NB133_0.out; have hnc32 := NB0_133.out; have hcz33_0 : w31.cell? ⟨gb133, 0, none⟩ = some (.int .i64 0) := (Qe BK133.out 0).trans rfl; have hcz33_1 : w31.cell? ⟨gb133, 1, none⟩ = some (.int .i64 0) := (Qe BK133.out 1).trans rfl; have hfz33_0 := Qf BK133.out 0; have hfz33_1 := Qf BK133.out 1))
            refine bodyPost_ret (results_cell_row rfl _ _ gb133 42 #[.int .i64 7, .int .i64 (wrap64 (1 + t136))] (0, 0) _ rfl (by (with_reducible repeat apply Qd); refine Wm (cs := #[.int .i64 7, .int .i64 0]) ?_ 1 _ rfl; (with_reducible repeat apply Qd); refine Wm (cs := #[.int .i64 0, .int .i64 0]) ?_ 0 _ rfl; (with_reducible repeat apply Qd); exact BK133.out) Try.underlying42 rfl (by kernel_rfl)) rfl ?_
            exact ⟨by first | rfl | (simp [Qt, Qs] <;> rfl) | (simp [*, Qt, Qs] <;> rfl) | (exfalso; simp_all; done), by repeat (first | (with_reducible first | exact HI0.out | apply Qi.alloc | apply Qi.drewN | apply Qi.drew | apply Qi.Zr | refine Qi.far ?_ NB0_133.out _) | exact HI0.out), by repeat (first | (with_reducible first | exact HB.out | apply Qc | apply Qb | apply Qq | refine Qm ?_ (Qi.ge HI0.out) | refine Qm ?_ GE133.out) | exact HB.out), by repeat (first | (with_reducible first | exact HK.out | apply Qn.set_ | apply Qv | apply Qz | apply Qw | refine Wn ?_ GW133.out _) | exact HK.out)⟩
           ·rw [if_neg c29] at H
            have c29b0 : (t134 == 8) = false := beq_eq_false_iff_ne.mpr c29
            have c29b1 : (t134 != 8) = true := bne_iff_ne.mpr c29
            simp only [Option.some.injEq, Prod.mk.injEq] at H
            obtain ⟨rfl, rfl, rfl⟩ := H
            have hnb34 := NB133_0.out
            have hnc34 := NB0_133.out
            have hcz35_0 : wc.cell? ⟨gb133, 0, none⟩ = some (.int .i64 0) := (Qe BK133.out 0).trans rfl
            have hcz35_1 : wc.cell? ⟨gb133, 1, none⟩ = some (.int .i64 0) := (Qe BK133.out 1).trans rfl
            have hfz35_0 := Qf BK133.out 0
            have hfz35_1 := Qf BK133.out 1
            go_wp2
            refine bodyPost_ret (results_cell_row rfl _ _ gb133 42 #[.int .i64 0, .int .i64 0] (0, 0) _ rfl (by (with_reducible repeat apply Qd); refine Wm (cs := #[.int .i64 0, .int .i64 0]) ?_ 1 _ rfl; (with_reducible repeat apply Qd); refine Wm (cs := #[.int .i64 0, .int .i64 0]) ?_ 0 _ rfl; (with_reducible repeat apply Qd); exact BK133.out) Try.underlying42 rfl (by kernel_rfl)) rfl ?_
            exact ⟨by first | rfl | (simp [Qt, Qs] <;> rfl) | (simp [*, Qt, Qs] <;> rfl) | (exfalso; simp_all; done), by repeat (first | (with_reducible first | exact HI0.out | apply Qi.alloc | apply Qi.drewN | apply Qi.drew | apply Qi.Zr | refine Qi.far ?_ NB0_133.out _) | exact HI0.out), by repeat (first | (with_reducible first | exact HB.out | apply Qc | apply Qb | apply Qq | refine Qm ?_ (Qi.ge HI0.out) | refine Qm ?_ GE133.out) | exact HB.out), by repeat (first | (with_reducible first | exact HK.out | apply Qn.set_ | apply Qv | apply Qz | apply Qw | refine Wn ?_ GW133.out _) | exact HK.out)⟩
end Go.Proofs.Yteapnipnoadejaa.P
