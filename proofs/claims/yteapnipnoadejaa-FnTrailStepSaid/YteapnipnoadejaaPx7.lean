/- PROVED: contracts of functions; No condition. -/
import Derived.Test.YteapnipnoadejaaPx0
import Derived.Test.YteapnipnoadejaaPx4
import Derived.Test.YteapnipnoadejaaPx6
import Derived.Test.YteapnipnoadejaaPx20
namespace Go.Proofs.Yteapnipnoadejaa.P
open Go.RowKit Go.Proofs.YteapnipnoadejaaW
set_option linter.unusedVariables false
set_option linter.unusedSimpArgs false
def Zo.j0 : Nat -> Int -> Bool -> List Int -> Int -> Option (Int × Int)
 | 0, _, _, _, _ => none
 | k + 1, x5, x14, x1000, x1001 => if x14 = true then ((some (([(-1), x5, 20] : List Int) : List Int)).bind fun y125 => ((Qu.f k x1000 x1001 3).bind fun bt128 => (if 0 <= bt128.1 then (if bt128.1 < (y125.length : Int) then (some (rd y125 bt128.1, bt128.2)) else (none)) else (none)))) else ((Qu.f k x1000 x1001 x5).bind fun bt131 => (some (bt131.1, bt131.2)))
def Zo.f (k : Nat) (s0_0 : List Int) (s0_1 : Int) (a1_0 : Int) (l1_1 : List (S42)) : Option (Int × Int) := (Yp.f k a1_0 l1_1).bind fun t122 => (if t122 = 0 then (Zo.j0 k t122 true s0_0 s0_1) else ((Qu.f k s0_0 s0_1 24).bind fun bt123 => (Zo.j0 k t122 (bt123.1 == 0) s0_0 bt123.2)))
set_option maxHeartbeats 8000000 in
set_option maxRecDepth 100000 in
theorem Zo.calls (k : Nat) (g : Nat) (s0_0 : List Int) (s0_1 : Int) (a1_0 : Int) (A1_1 : Option Addr) (c1_1 : Nat) (l1_1 : List (S42)) (r1 : Int) (r2 : Int) (w0 w : World) (hI : Qi w0 w g s0_0 s0_1) (hB : Below w0.heap.size w0 w) (hr1_1 : ∀ W_, Qn w W_ g none -> Kd.C k42 W_ A1_1 l1_1.length l1_1) (hc1_1 : l1_1.length <= c1_1) (h : Zo.f k s0_0 s0_1 a1_0 l1_1 = some (r1, r2)) :
  Calls Try.prog 41 #[.pointer (some ⟨g, 0, none⟩), .agg #[.int .i64 a1_0, .slice A1_1 l1_1.length c1_1]] w fun e w' => e = .returned (.int .i64 r1) ∧ Qi w0 w' g s0_0 r2 ∧ Below w0.heap.size w0 w' ∧ Qn w w' g none := by
 have hu25 := Try.underlying25
 have HR1_1 := Qa.mk hr1_1
 have HC1_1 := Qa.mk hc1_1
 clear hr1_1 hc1_1
 have HI0 := Qa.mk hI
 have HK := Qa.mk (Qn.refl w g none)
 have HL := Qa.mk hB.size
 clear hI
 have HW0 := Qa.mk hB.size
 have HB := Qa.mk hB
 clear hB
 have H : ((Yp.f k a1_0 l1_1).bind fun t122 => (if t122 = 0 then (Zo.j0 k t122 true s0_0 s0_1) else ((Qu.f k s0_0 s0_1 24).bind fun bt123 => (Zo.j0 k t122 (bt123.1 == 0) s0_0 bt123.2)))) = some (r1, r2) := h
 clear h
 replace H := Option.bind_eq_some_iff.mp H
 obtain ⟨t122, A30, H⟩ := H
 replace H : (if t122 = 0 then (Zo.j0 k t122 true s0_0 s0_1) else ((Qu.f k s0_0 s0_1 24).bind fun bt123 => (Zo.j0 k t122 (bt123.1 == 0) s0_0 bt123.2))) = some (r1, r2) := H
 have A3 := Qa.mk A30
 clear A30
 have HC4 := Qa.mk H
 clear H
 go_enter Try.func41, Try.ntmps41
 go_upto_region 2 with (first | ((with_reducible refine We (N := 3) rfl ?_); refine Qy rfl (N := 3) rfl (cs := #[.int .i64 a1_0, .slice A1_1 l1_1.length c1_1]) (t := 25) ?hr ?_; (case hr => first | (go_simp; done) | (go_simp; rfl)); intro gb121 hg w5 hbox hb; have n0_ := Qa.mk (Qi.below (by repeat (first | (with_reducible first | exact HI0.out | apply Qi.alloc | apply Qi.drewN | apply Qi.drew | apply Qi.Zr) | exact HI0.out)) hb); have n1_ := Qa.mk (Qn.trans (by repeat (first | (with_reducible first | exact HK.out | apply Qn.set_ | apply Qv | apply Qz | apply Qw) | exact HK.out)) (Qn.of_below hb g none) (.inl rfl)); have n2_ := Qa.mk (Ql (by repeat (first | (with_reducible first | exact HB.out | apply Qc | apply Qb | apply Qq | refine Qm ?_ (Qi.ge HI0.out)) | exact HB.out)) hb); have n3_ := Qa.mk (hbox); have n4_ := Qa.mk ((by rw [hg]; exact (Yd (w := w) (g := g) (row := none) (by repeat (first | (with_reducible first | exact HK.out | apply Qn.set_ | apply Qv | apply Qz | apply Qw) | exact HK.out))) : w.heap.size <= gb121)); have n5_ := Qa.mk ((Nat.le_trans HW0.out (by rw [hg]; exact (Yd (w := w) (g := g) (row := none) (by repeat (first | (with_reducible first | exact HK.out | apply Qn.set_ | apply Qv | apply Qz | apply Qw) | exact HK.out))) : w.heap.size <= gb121) : w0.heap.size <= gb121)); have n6_ := Qa.mk ((by rw [hg]; exact Nat.ne_of_lt (Qi.lt (show Qi w0 _ g s0_0 s0_1 from by repeat (first | (with_reducible first | exact HI0.out | apply Qi.alloc | apply Qi.drewN | apply Qi.drew | apply Qi.Zr) | exact HI0.out))) : g ≠ gb121)); have n7_ := Qa.mk ((by rw [hg]; exact Nat.ne_of_gt (Qi.lt (show Qi w0 _ g s0_0 s0_1 from by repeat (first | (with_reducible first | exact HI0.out | apply Qi.alloc | apply Qi.drewN | apply Qi.drew | apply Qi.Zr) | exact HI0.out))) : gb121 ≠ g)); clear HI0; clear HK; clear HB; have HI0 := n0_; have HK := n1_; have HB := n2_; have BK121 := n3_; have GW121 := n4_; have GE121 := n5_; have NB0_121 := n6_; have NB121_0 := n7_; clear n0_ n1_ n2_ n3_ n4_ n5_ n6_ n7_; clear hb hbox hg; have hnb6 := NB121_0.out; have hnc6 := NB0_121.out; have hcz7_0 : w5.cell? ⟨gb121, 0, none⟩ = some (.int .i64 a1_0) := (Qe BK121.out 0).trans rfl; have hcz7_1 : w5.cell? ⟨gb121, 1, none⟩ = some (.slice A1_1 l1_1.length c1_1) := (Qe BK121.out 1).trans rfl; have hfz7_0 := Qf BK121.out 0; have hfz7_1 := Qf BK121.out 1) | ((with_reducible refine Wi (f := 31) rfl ?_); refine Zu (some 7) rfl rfl Try.func31 (by kernel_rfl) rfl #[.agg #[.int .i64 a1_0, .slice A1_1 l1_1.length c1_1]] rfl (by first | rfl | (simp only [List.map_toArray, List.map_cons, List.map_nil, List.length_drop, List.length_take]; try rfl)) ?_; (with_reducible refine (Yp.calls k a1_0 _ _ l1_1 t122 _ ?side1 ?side2 A3.out).mono ?_); (case side1 => exact Kd.C_foot_now HR1_1.out (by repeat (first | (with_reducible first | exact HK.out | apply Qn.set_ | apply Qv | apply Qz | apply Qw | refine Wn ?_ GW121.out _) | exact HK.out))); (case side2 => exact HC1_1.out); rintro e w8 ⟨rfl, hb⟩; refine ⟨_, rfl, ?_⟩; have n0_ := Qa.mk (Qi.below (by repeat (first | (with_reducible first | exact HI0.out | apply Qi.alloc | apply Qi.drewN | apply Qi.drew | apply Qi.Zr | refine Qi.far ?_ NB0_121.out _) | exact HI0.out)) hb); have n1_ := Qa.mk (Qk (bK BK121.out) hb); have n2_ := Qa.mk (Qn.trans (by repeat (first | (with_reducible first | exact HK.out | apply Qn.set_ | apply Qv | apply Qz | apply Qw | refine Wn ?_ GW121.out _) | exact HK.out)) (Qn.of_below hb g none) (.inl rfl)); have n3_ := Qa.mk (Ql (by repeat (first | (with_reducible first | exact HB.out | apply Qc | apply Qb | apply Qq | refine Qm ?_ (Qi.ge HI0.out) | refine Qm ?_ GE121.out) | exact HB.out)) hb); clear HI0; clear BK121; clear HK; clear HB; have HI0 := n0_; have BK121 := n1_; have HK := n2_; have HB := n3_; clear n0_ n1_ n2_ n3_; (try clear hb); (try clear hb2); (try clear hk); (try clear hi)))
 (try simp only [Act.put, List.setIfInBounds_toArray, List.set_cons_zero, List.set_cons_succ])
 go_cut [14] (fun v14 wc => ∃ (kq : Nat) (x14_3 : Bool) (x1001_3 : Int), v14 = .bool x14_3 ∧ Qa (Zo.j0 kq t122 x14_3 s0_0 x1001_3 = some (r1, r2)) ∧ Qa (kq <= k) ∧ Qa (wc.heap[gb121]? = some (.cells #[.int .i64 a1_0, (.slice A1_1 l1_1.length c1_1)] 25 (0, 0))) ∧ Qa (Qi w0 wc g s0_0 x1001_3) ∧ Qa (Qn w wc g none) ∧ Qa (Below w0.heap.size w0 wc))
 case first =>
  have H := HC4.out
  clear HC4
  by_cases c9 : t122 = 0
  ·rw [if_pos c9] at H
   have c9b0 : (t122 == 0) = true := beq_iff_eq.mpr c9
   have c9b1 : (t122 != 0) = false := bne_eq_false_iff_eq.mpr c9
   clear c9
   (first | rw [c9b0] | (simp only [Wp, Ws]; rw [c9b0]) | skip)
   have H' := Qa.mk H
   clear H
   go_wp2
   go_meet
   case rel => exact ⟨_, (true), (s0_1), (by first | rfl | (simp; done) | (simp [*]; done)), H', ⟨by first | omega | exact Nat.le_refl _⟩, ⟨by (with_reducible repeat apply Qd); exact BK121.out⟩, ⟨by repeat (first | (with_reducible first | exact HI0.out | apply Qi.alloc | apply Qi.drewN | apply Qi.drew | apply Qi.Zr | refine Qi.far ?_ NB0_121.out _) | exact HI0.out)⟩, ⟨by repeat (first | (with_reducible first | exact HK.out | apply Qn.set_ | apply Qv | apply Qz | apply Qw | refine Wn ?_ GW121.out _) | exact HK.out)⟩, ⟨by repeat (first | (with_reducible first | exact HB.out | apply Qc | apply Qb | apply Qq | refine Qm ?_ (Qi.ge HI0.out) | refine Qm ?_ GE121.out) | exact HB.out)⟩⟩
  ·rw [if_neg c9] at H
   have c9b0 : (t122 == 0) = false := beq_eq_false_iff_ne.mpr c9
   have c9b1 : (t122 != 0) = true := bne_iff_ne.mpr c9
   (first | rw [c9b0] | (simp only [Wp, Ws]; rw [c9b0]) | skip)
   replace H := Option.bind_eq_some_iff.mp H
   obtain ⟨⟨t123, t124⟩, A100, H⟩ := H
   replace H : (Zo.j0 k t122 (t123 == 0) s0_0 t124) = some (r1, r2) := H
   have A10 := Qa.mk A100
   clear A100
   have H' := Qa.mk H
   clear H
   go_wp2_with (first | (go_at_call 42; (with_reducible refine (Qu.calls k g s0_0 s0_1 24 t123 t124 w0 _ ?side1 ?side2 A10.out).mono ?_); (case side1 => repeat (first | (with_reducible first | exact HI0.out | apply Qi.alloc | apply Qi.drewN | apply Qi.drew | apply Qi.Zr | refine Qi.far ?_ NB0_121.out _) | exact HI0.out)); (case side2 => repeat (first | (with_reducible first | exact HB.out | apply Qc | apply Qb | apply Qq | refine Qm ?_ (Qi.ge HI0.out) | refine Qm ?_ GE121.out) | exact HB.out)); rintro e w11 ⟨rfl, hi, hb, hk⟩; have n0_ := Qa.mk (Qn.blk hk (g' := gb121) (o := .cells #[.int .i64 a1_0, .slice A1_1 l1_1.length c1_1] 25 (0, 0)) (bK BK121.out) NB121_0.out (by simp)); have n1_ := Qa.mk (Qn.trans (by repeat (first | (with_reducible first | exact HK.out | apply Qn.set_ | apply Qv | apply Qz | apply Qw | refine Wn ?_ GW121.out _) | exact HK.out)) hk (.inl rfl)); have n2_ := Qa.mk (hb); have n3_ := Qa.mk (hi); clear BK121; clear HK; clear HB; clear HI0; have BK121 := n0_; have HK := n1_; have HB := n2_; have HI0 := n3_; clear n0_ n1_ n2_ n3_; (try clear hb); (try clear hb2); (try clear hk); (try clear hi)))
   go_meet
   case rel => exact ⟨_, ((t123 == 0)), (t124), (by first | rfl | (simp; done) | (simp [*]; done)), H', ⟨by first | omega | exact Nat.le_refl _⟩, ⟨by (with_reducible repeat apply Qd); exact BK121.out⟩, ⟨by repeat (first | (with_reducible first | exact HI0.out | apply Qi.alloc | apply Qi.drewN | apply Qi.drew | apply Qi.Zr | refine Qi.far ?_ NB0_121.out _) | exact HI0.out)⟩, ⟨by repeat (first | (with_reducible first | exact HK.out | apply Qn.set_ | apply Qv | apply Qz | apply Qw | refine Wn ?_ GW121.out _) | exact HK.out)⟩, ⟨by repeat (first | (with_reducible first | exact HB.out | apply Qc | apply Qb | apply Qq | refine Qm ?_ (Qi.ge HI0.out) | refine Qm ?_ GE121.out) | exact HB.out)⟩⟩
 case rest =>
  clear HC4
  try clear c1
  try clear p2
  try clear c3
  try clear c4
  try clear c6
  try clear c9
  try clear c9b0
  try clear c9b1
  try clear hcz7_0
  try clear hcz7_1
  try clear hfz7_0
  try clear hfz7_1
  obtain ⟨kq, x14_3, x1001_3, rfl, HA, HJ3, BK121, HI0, HK, HB⟩ := hcut
  cases kq with
  | zero => exact absurd HA.out (by simp [Zo.j0])
  | succ kj3 =>
   have H := HA.out
   clear HA
   simp only [Zo.j0] at H
   by_cases c12 : x14_3 = true
   ·subst c12
    have H1 : ((some (([(-1), t122, 20] : List Int) : List Int)).bind fun y125 => ((Qu.f kj3 s0_0 x1001_3 3).bind fun bt128 => (if 0 <= bt128.1 then (if bt128.1 < (y125.length : Int) then (some (rd y125 bt128.1, bt128.2)) else (none)) else (none)))) = some (r1, r2) := by rw [if_pos rfl] at H; exact H
    clear H
    have H := H1
    clear H1
    obtain ⟨y125, hy125⟩ : ∃ y_ : List Int, y_ = (([(-1), t122, 20] : List Int)) := ⟨_, rfl⟩
    replace H : ((Qu.f kj3 s0_0 x1001_3 3).bind fun bt128 => (if 0 <= bt128.1 then (if bt128.1 < (y125.length : Int) then (some (rd y125 bt128.1, bt128.2)) else (none)) else (none))) = some (r1, r2) := by first | (rw [hy125]; with_reducible exact H) | (have H2_ := (Option.bind_some _ _).symm.trans H; rw [hy125]; with_reducible exact H2_) | (have H2_ := (Option.bind_some _ _).symm.trans H; with_reducible exact H2_) | with_reducible exact H | (rw [hy125]; exact H) | exact H
    have Ny125 := Qa.mk hy125
    clear hy125
    replace H := Option.bind_eq_some_iff.mp H
    obtain ⟨⟨t128, t129⟩, A130, H⟩ := H
    replace H : (if 0 <= t128 then (if t128 < (y125.length : Int) then (some (rd y125 t128, t129)) else (none)) else (none)) = some (r1, r2) := H
    have A13 := Qa.mk A130
    clear A130
    by_cases c14 : 0 <= t128
    ·rw [if_pos c14] at H
     have c14b0 : decide (0 <= t128) = true := decide_eq_true c14
     clear c14
     by_cases c15 : t128 < (y125.length : Int)
     ·rw [if_pos c15] at H
      have c15b0 : decide (t128 < (y125.length : Int)) = true := decide_eq_true c15
      clear c15
      simp only [Option.some.injEq, Prod.mk.injEq] at H
      obtain ⟨rfl, rfl⟩ := H
      go_wp2_with (first | ((with_reducible refine We (N := 16) rfl ?_); refine Kd.R_lit (Kd.int .i64) _ 3 ?hg (N := 16) ?hd (xs := ([(-1), t122, 20] : List Int)) (inner := [.int .i64 (-1), .int .i64 t122, .int .i64 20]) (ok := fun _ => True) (okp := fun _ => True) ?hr ?hp (fun _ hk => hk) trivial (Below.refl _ _) (Nat.le_refl _) (by simp) ?_; (case hd => rfl); (case hg => rfl); (case hr => first | (go_simp; done) | (go_simp; rfl)); (case hp => exact (Reps.one (show Kd.M (Kd.int .i64) _ _ _ (-1) [.int .i64 (-1)] from rfl) (Reps.one (show Kd.M (Kd.int .i64) _ _ _ t122 [.int .i64 t122] from rfl) (Reps.one (show Kd.M (Kd.int .i64) _ _ _ 20 [.int .i64 20] from rfl) (Reps.none _ _))))); intro v126 w16 ho17 hb hg_ hnew_; clear hg_ hnew_; (first | rw [<- Ny125.out] at ho17 | (simp only [Int.reduceToNat] at ho17; rw [<- Ny125.out] at ho17)); have n0_ := Qa.mk (Kd.Yy ho17 (Yd (w := w) (g := g) (row := none) (by repeat (first | (with_reducible first | exact HK.out | apply Qn.set_ | apply Qv | apply Qz | apply Qw | refine Wn ?_ GW121.out _) | exact HK.out)))); have n1_ := Qa.mk (Qk (bK BK121.out) hb); have n2_ := Qa.mk (Qi.below (by repeat (first | (with_reducible first | exact HI0.out | apply Qi.alloc | apply Qi.drewN | apply Qi.drew | apply Qi.Zr | refine Qi.far ?_ NB0_121.out _) | exact HI0.out)) hb); have n3_ := Qa.mk (Qn.trans (by repeat (first | (with_reducible first | exact HK.out | apply Qn.set_ | apply Qv | apply Qz | apply Qw | refine Wn ?_ GW121.out _) | exact HK.out)) (Qn.of_below hb g none) (.inl rfl)); have n4_ := Qa.mk (Ql (by repeat (first | (with_reducible first | exact HB.out | apply Qc | apply Qb | apply Qq | refine Qm ?_ (Qi.ge HI0.out) | refine Qm ?_ GE121.out) | exact HB.out)) hb); clear BK121; clear HI0; clear HK; clear HB; have HO127 := n0_; have BK121 := n1_; have HI0 := n2_; have HK := n3_; have HB := n4_; clear n0_ n1_ n2_ n3_ n4_; clear hb ho17) | ((with_reducible refine Wi (f := 42) rfl ?_); refine Zu (some 18) rfl rfl Try.func42 (by kernel_rfl) rfl #[.pointer (some ⟨g, 0, none⟩), .int .i64 3] rfl (by first | rfl | (simp only [List.map_toArray, List.map_cons, List.map_nil, List.length_drop, List.length_take]; try rfl)) ?_; (with_reducible refine (Qu.calls kj3 g s0_0 x1001_3 3 t128 t129 w0 _ ?side1 ?side2 A13.out).mono ?_); (case side1 => repeat (first | (with_reducible first | exact HI0.out | apply Qi.alloc | apply Qi.drewN | apply Qi.drew | apply Qi.Zr | refine Qi.far ?_ NB0_121.out _) | exact HI0.out)); (case side2 => repeat (first | (with_reducible first | exact HB.out | apply Qc | apply Qb | apply Qq | refine Qm ?_ (Qi.ge HI0.out) | refine Qm ?_ GE121.out) | exact HB.out)); rintro e w18 ⟨rfl, hi, hb, hk⟩; refine ⟨_, rfl, ?_⟩; have n0_ := Qa.mk (Qn.blk hk (g' := gb121) (o := .cells #[.int .i64 a1_0, .slice A1_1 l1_1.length c1_1] 25 (0, 0)) (bK BK121.out) NB121_0.out (by simp)); have n1_ := Qa.mk (Kd.Wz (Kd.R_keep (Qi.apart (show Qi w0 _ g s0_0 x1001_3 from by repeat (first | (with_reducible first | exact HI0.out | apply Qi.alloc | apply Qi.drewN | apply Qi.drew | apply Qi.Zr | refine Qi.far ?_ NB0_121.out _) | exact HI0.out)) (kR HO127.out) (by decide)) hk (fun _ h => h.2)) (fun _ h => h.1)); have n2_ := Qa.mk (Qn.trans (by repeat (first | (with_reducible first | exact HK.out | apply Qn.set_ | apply Qv | apply Qz | apply Qw | refine Wn ?_ GW121.out _) | exact HK.out)) hk (.inl rfl)); have n3_ := Qa.mk (hb); have n4_ := Qa.mk (hi); clear BK121; clear HO127; clear HK; clear HB; clear HI0; have BK121 := n0_; have HO127 := n1_; have HK := n2_; have HB := n3_; have HI0 := n4_; clear n0_ n1_ n2_ n3_ n4_; (try clear hb); (try clear hb2); (try clear hk); (try clear hi); obtain ⟨Ao19, co19, eo19⟩ := Kd.Zk HO127.out; subst eo19; have p130 : 0 <= (t128 : Int) := of_decide_eq_true (by first | (with_reducible assumption) | assumption); have q130 : t128 < (y125.length : Int) := of_decide_eq_true (by first | (with_reducible assumption) | assumption); obtain ⟨ad130, e130, hx130_0⟩ := Kd.at_int (Kd.R_reads' HO127.out).2.2 t128 p130 q130; cases e130; replace p130 := eq_true p130; replace q130 := eq_true q130))
      go_ret
      exact ⟨by first | rfl | (simp [Qt, Qs] <;> rfl) | (simp [*, Qt, Qs] <;> rfl) | (exfalso; simp_all; done), by repeat (first | (with_reducible first | exact HI0.out | apply Qi.alloc | apply Qi.drewN | apply Qi.drew | apply Qi.Zr | refine Qi.far ?_ NB0_121.out _) | exact HI0.out), by repeat (first | (with_reducible first | exact HB.out | apply Qc | apply Qb | apply Qq | refine Qm ?_ (Qi.ge HI0.out) | refine Qm ?_ GE121.out) | exact HB.out), by repeat (first | (with_reducible first | exact HK.out | apply Qn.set_ | apply Qv | apply Qz | apply Qw | refine Wn ?_ GW121.out _) | exact HK.out)⟩
     ·rw [if_neg c15] at H
      exact absurd H (by simp)
    ·rw [if_neg c14] at H
     exact absurd H (by simp)
   ·replace c12 := Bool.eq_false_iff.mpr c12
    subst c12
    have H1 : ((Qu.f kj3 s0_0 x1001_3 t122).bind fun bt131 => (some (bt131.1, bt131.2))) = some (r1, r2) := by rw [if_neg (show ¬ (false = true) by decide)] at H; exact H
    clear H
    have H := H1
    clear H1
    replace H := Option.bind_eq_some_iff.mp H
    obtain ⟨⟨t131, t132⟩, A200, H⟩ := H
    replace H : (some (t131, t132)) = some (r1, r2) := H
    have A20 := Qa.mk A200
    clear A200
    simp only [Option.some.injEq, Prod.mk.injEq] at H
    obtain ⟨rfl, rfl⟩ := H
    go_wp2_with (first | ((with_reducible refine Wi (f := 42) rfl ?_); refine Zu (some 23) rfl rfl Try.func42 (by kernel_rfl) rfl #[.pointer (some ⟨g, 0, none⟩), .int .i64 t122] rfl (by first | rfl | (simp only [List.map_toArray, List.map_cons, List.map_nil, List.length_drop, List.length_take]; try rfl)) ?_; (with_reducible refine (Qu.calls kj3 g s0_0 x1001_3 t122 t131 t132 w0 _ ?side1 ?side2 A20.out).mono ?_); (case side1 => repeat (first | (with_reducible first | exact HI0.out | apply Qi.alloc | apply Qi.drewN | apply Qi.drew | apply Qi.Zr | refine Qi.far ?_ NB0_121.out _) | exact HI0.out)); (case side2 => repeat (first | (with_reducible first | exact HB.out | apply Qc | apply Qb | apply Qq | refine Qm ?_ (Qi.ge HI0.out) | refine Qm ?_ GE121.out) | exact HB.out)); rintro e w21 ⟨rfl, hi, hb, hk⟩; refine ⟨_, rfl, ?_⟩; have n0_ := Qa.mk (Qn.blk hk (g' := gb121) (o := .cells #[.int .i64 a1_0, .slice A1_1 l1_1.length c1_1] 25 (0, 0)) (bK BK121.out) NB121_0.out (by simp)); have n1_ := Qa.mk (Qn.trans (by repeat (first | (with_reducible first | exact HK.out | apply Qn.set_ | apply Qv | apply Qz | apply Qw | refine Wn ?_ GW121.out _) | exact HK.out)) hk (.inl rfl)); have n2_ := Qa.mk (hb); have n3_ := Qa.mk (hi); clear BK121; clear HK; clear HB; clear HI0; have BK121 := n0_; have HK := n1_; have HB := n2_; have HI0 := n3_; clear n0_ n1_ n2_ n3_; (try clear hb); (try clear hb2); (try clear hk); (try clear hi)))
    go_ret
    exact ⟨by first | rfl | (simp [Qt, Qs] <;> rfl) | (simp [*, Qt, Qs] <;> rfl) | (exfalso; simp_all; done), by repeat (first | (with_reducible first | exact HI0.out | apply Qi.alloc | apply Qi.drewN | apply Qi.drew | apply Qi.Zr | refine Qi.far ?_ NB0_121.out _) | exact HI0.out), by repeat (first | (with_reducible first | exact HB.out | apply Qc | apply Qb | apply Qq | refine Qm ?_ (Qi.ge HI0.out) | refine Qm ?_ GE121.out) | exact HB.out), by repeat (first | (with_reducible first | exact HK.out | apply Qn.set_ | apply Qv | apply Qz | apply Qw | refine Wn ?_ GW121.out _) | exact HK.out)⟩
end Go.Proofs.Yteapnipnoadejaa.P
