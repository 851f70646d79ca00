/- PROVED: contracts of functions; No condition. -/
import Derived.Test.YteapnipnoadejaaPx0
import Derived.Test.YteapnipnoadejaaPx19
import Derived.Test.YteapnipnoadejaaPx22
import Derived.Test.YteapnipnoadejaaPx24
namespace Go.Proofs.Yteapnipnoadejaa.P
open Go.RowKit Go.Proofs.YteapnipnoadejaaW
set_option linter.unusedVariables false
set_option linter.unusedSimpArgs false
def Yl.l0 : Nat -> Int -> Int -> Int -> Int -> List (S42) -> Option (Int)
 | 0, _, _, _, _, _ => none
 | k + 1, x1, x2, x7, x326000, x326001 => (Yg.f x326000 x326001).bind fun t326 => (if x7 < t326 then ((Xm.f x326000 x326001 x7).bind fun bt327 => (if bt327.1 = x1 then ((Xy.f bt327.2).bind fun t330 => (if t330 = x2 then (some x7) else (Yl.l0 k x1 x2 (wrap64 (x7 + 1)) x326000 x326001))) else (Yl.l0 k x1 x2 (wrap64 (x7 + 1)) x326000 x326001))) else (some (-1)))
def Yl.f (k : Nat) (a0_0 : Int) (l0_1 : List (S42)) (a1 : Int) (a2 : Int) : Option (Int) := Yl.l0 k a1 a2 0 a0_0 l0_1
set_option maxHeartbeats 8000000 in
set_option maxRecDepth 100000 in
theorem Yl.calls (k : Nat) (a0_0 : Int) (A0_1 : Option Addr) (c0_1 : Nat) (l0_1 : List (S42)) (a1 : Int) (a2 : Int) (r : Int) (w : World) (hr0_1 : Kd.C k42 w A0_1 l0_1.length l0_1) (hc0_1 : l0_1.length <= c0_1) (h : Yl.f k a0_0 l0_1 a1 a2 = some r) :
  Calls Try.prog 78 #[.agg #[.int .i64 a0_0, .slice A0_1 l0_1.length c0_1], .int .i64 a1, .int .i64 a2] w fun e w' => e = .returned (.int .i64 r) ∧ Below w.heap.size w w' := by
 have hu25 := Try.underlying25
 have hu44 := Try.underlying44
 have HR0_1 := Qa.mk hr0_1
 have HC0_1 := Qa.mk hc0_1
 clear hr0_1 hc0_1
 have HB := Qa.mk (Below.refl w.heap.size w)
 have H : (Yl.l0 k a1 a2 0 a0_0 l0_1) = some r := h
 clear h
 have H' := Qa.mk H
 clear H
 go_enter Try.func78, Try.ntmps78
 go_wp2_with (first | ((with_reducible refine We (N := 3) rfl ?_); refine Qy rfl (N := 3) rfl (cs := #[.int .i64 a0_0, .slice A0_1 l0_1.length c0_1]) (t := 25) ?hr ?_; (case hr => first | (go_simp; done) | (go_simp; rfl)); intro gb325 hg w4 hbox hb; have n0_ := Qa.mk (Ql (by repeat first | exact HB.out | apply Qc | apply Qb) hb); have n1_ := Qa.mk (hbox); have n2_ := Qa.mk ((by rw [hg]; exact (Qr (by repeat first | exact HB.out | apply Qc | apply Qb)) : w.heap.size <= gb325)); have n3_ := n2_; clear HB; have HB := n0_; have BK325 := n1_; have GW325 := n2_; have GE325 := n3_; clear n0_ n1_ n2_ n3_; clear hb hbox hg))
 go_loopg [7] k (fun kq v7 w' => ∃ (x7_1 : Int), v7 = .int .i64 x7_1 ∧ Qa (Yl.l0 kq a1 a2 x7_1 a0_0 l0_1 = some r) ∧ Qa (kq <= k) ∧ Qa (w'.heap[gb325]? = some (.cells #[.int .i64 a0_0, (.slice A0_1 l0_1.length c0_1)] 25 (0, 0))) ∧ Qa (Below w.heap.size w w'))
 case atStart => exact ⟨(0), (by first | rfl | (simp; done) | (simp [*]; done)), H', ⟨Nat.le_refl _⟩, ⟨by (with_reducible repeat apply Qd); exact BK325.out⟩, ⟨by repeat first | exact HB.out | with_reducible refine Qh ?_ ‹_› | apply Qc | apply Qb⟩⟩
 case round =>
  clear H'
  try clear p2
  obtain ⟨x7_1, rfl, HA, HK1, BK325, HB⟩ := hrel
  cases gk with
  | zero => exact absurd HA.out (by simp [Yl.l0])
  | succ k1 =>
   have H := HA.out
   clear HA
   simp only [Yl.l0] at H
   replace H := Option.bind_eq_some_iff.mp H
   obtain ⟨t326, A50, H⟩ := H
   replace H : (if x7_1 < t326 then ((Xm.f a0_0 l0_1 x7_1).bind fun bt327 => (if bt327.1 = a1 then ((Xy.f bt327.2).bind fun t330 => (if t330 = a2 then (some x7_1) else (Yl.l0 k1 a1 a2 (wrap64 (x7_1 + 1)) a0_0 l0_1))) else (Yl.l0 k1 a1 a2 (wrap64 (x7_1 + 1)) a0_0 l0_1))) else (some (-1))) = some r := H
   have A5 := Qa.mk A50
   clear A50
   by_cases c6 : x7_1 < t326
   ·rw [if_pos c6] at H
    have c6b0 : decide (x7_1 < t326) = true := decide_eq_true c6
    clear c6
    replace H := Option.bind_eq_some_iff.mp H
    obtain ⟨⟨t327, t328⟩, A70, H⟩ := H
    replace H : (if t327 = a1 then ((Xy.f t328).bind fun t330 => (if t330 = a2 then (some x7_1) else (Yl.l0 k1 a1 a2 (wrap64 (x7_1 + 1)) a0_0 l0_1))) else (Yl.l0 k1 a1 a2 (wrap64 (x7_1 + 1)) a0_0 l0_1)) = some r := H
    have A7 := Qa.mk A70
    clear A70
    by_cases c8 : t327 = a1
    ·rw [if_pos c8] at H
     have c8b0 : (t327 == a1) = true := beq_iff_eq.mpr c8
     have c8b1 : (t327 != a1) = false := bne_eq_false_iff_eq.mpr c8
     clear c8
     replace H := Option.bind_eq_some_iff.mp H
     obtain ⟨t330, A90, H⟩ := H
     replace H : (if t330 = a2 then (some x7_1) else (Yl.l0 k1 a1 a2 (wrap64 (x7_1 + 1)) a0_0 l0_1)) = some r := H
     have A9 := Qa.mk A90
     clear A90
     by_cases c10 : t330 = a2
     ·rw [if_pos c10] at H
      have c10b0 : (t330 == a2) = true := beq_iff_eq.mpr c10
      have c10b1 : (t330 != a2) = false := bne_eq_false_iff_eq.mpr c10
      clear c10
      obtain rfl := Option.some.inj H
      have hcz11_0 : wr.cell? ⟨gb325, 0, none⟩ = some (.int .i64 a0_0) := (Qe BK325.out 0).trans rfl
      have hcz11_1 : wr.cell? ⟨gb325, 1, none⟩ = some (.slice A0_1 l0_1.length c0_1) := (Qe BK325.out 1).trans rfl
      have hfz11_0 := Qf BK325.out 0
      have hfz11_1 := Qf BK325.out 1
      go_wp2_with (first | ((with_reducible refine Wi (f := 49) rfl ?_); refine Zu (some 11) rfl rfl Try.func49 (by kernel_rfl) rfl #[.agg #[.int .i64 a0_0, .slice A0_1 l0_1.length c0_1]] rfl (by first | rfl | (simp only [List.map_toArray, List.map_cons, List.map_nil, List.length_drop, List.length_take]; try rfl)) ?_; (with_reducible refine (Yg.calls a0_0 _ _ l0_1 t326 _ ?side1 ?side2 A5.out).mono ?_); (case side1 => repeat (first | exact (Kd.Zi HR0_1.out HB.out) | (with_reducible refine Kd.Zm ?_ _) | (with_reducible refine Kd.Zl ?_ _) | (with_reducible refine Kd.Yb ?_))); (case side2 => exact HC0_1.out); rintro e w12 ⟨rfl, hb⟩; refine ⟨_, rfl, ?_⟩; have n0_ := Qa.mk (Qk (bK BK325.out) hb); have n1_ := Qa.mk (Ql (by repeat first | exact HB.out | with_reducible refine Qh ?_ ‹_› | apply Qc | apply Qb) hb); clear BK325; clear HB; have BK325 := n0_; have HB := n1_; clear n0_ n1_; (try clear hb); (try clear hb2); (try clear hk); (try clear hi); have hcz13_0 : w12.cell? ⟨gb325, 0, none⟩ = some (.int .i64 a0_0) := (Qe BK325.out 0).trans rfl; have hcz13_1 : w12.cell? ⟨gb325, 1, none⟩ = some (.slice A0_1 l0_1.length c0_1) := (Qe BK325.out 1).trans rfl; have hfz13_0 := Qf BK325.out 0; have hfz13_1 := Qf BK325.out 1) | ((with_reducible refine Wi (f := 50) rfl ?_); refine Zu (some 17) rfl rfl Try.func50 (by kernel_rfl) rfl #[.agg #[.int .i64 a0_0, .slice A0_1 l0_1.length c0_1], .int .i64 x7_1] rfl (by first | rfl | (simp only [List.map_toArray, List.map_cons, List.map_nil, List.length_drop, List.length_take]; try rfl)) ?_; (with_reducible refine (Xm.calls a0_0 _ _ l0_1 x7_1 t327 t328 _ ?side1 ?side2 A7.out).mono ?_); (case side1 => repeat (first | exact (Kd.Zi HR0_1.out HB.out) | (with_reducible refine Kd.Zm ?_ _) | (with_reducible refine Kd.Zl ?_ _) | (with_reducible refine Kd.Yb ?_))); (case side2 => exact HC0_1.out); rintro e w14 ⟨rfl, hb⟩; refine ⟨_, rfl, ?_⟩; have n0_ := Qa.mk (Qk (bK BK325.out) hb); have n1_ := Qa.mk (Ql (by repeat first | exact HB.out | with_reducible refine Qh ?_ ‹_› | apply Qc | apply Qb) hb); clear BK325; clear HB; have BK325 := n0_; have HB := n1_; clear n0_ n1_; (try clear hb); (try clear hb2); (try clear hk); (try clear hi)) | ((with_reducible refine We (N := 8) rfl ?_); refine Qy rfl (N := 8) rfl (cs := #[.int .i64 0, .int .i64 0]) (t := 44) ?hr ?_; (case hr => first | (go_simp; done) | (go_simp; rfl)); intro gb329 hg w15 hbox hb; have n0_ := Qa.mk (Qk (bK BK325.out) hb); have n1_ := Qa.mk (Ql (by repeat first | exact HB.out | with_reducible refine Qh ?_ ‹_› | apply Qc | apply Qb) hb); have n2_ := Qa.mk (hbox); have n3_ := Qa.mk ((by rw [hg]; exact (Qr (by repeat first | exact HB.out | with_reducible refine Qh ?_ ‹_› | apply Qc | apply Qb)) : w.heap.size <= gb329)); have n4_ := n3_; have n5_ := Qa.mk ((by rw [hg]; exact Nat.ne_of_lt (Wl (bK BK325.out)) : gb325 ≠ gb329)); have n6_ := Qa.mk ((by rw [hg]; exact Nat.ne_of_gt (Wl (bK BK325.out)) : gb329 ≠ gb325)); clear BK325; clear HB; have BK325 := n0_; have HB := n1_; have BK329 := n2_; have GW329 := n3_; have GE329 := n4_; have NB325_329 := n5_; have NB329_325 := n6_; clear n0_ n1_ n2_ n3_ n4_ n5_ n6_; clear hb hbox hg; have hnb16 := NB329_325.out; have hnc16 := NB325_329.out; have hcz17_0 : w15.cell? ⟨gb329, 0, none⟩ = some (.int .i64 0) := (Qe BK329.out 0).trans rfl; have hcz17_1 : w15.cell? ⟨gb329, 1, none⟩ = some (.int .i64 0) := (Qe BK329.out 1).trans rfl; have hfz17_0 := Qf BK329.out 0; have hfz17_1 := Qf BK329.out 1) | (go_at_call 79; (with_reducible refine (Xy.calls t328 t330 _ A9.out).mono ?_); rintro e w' ⟨rfl, ⟨nd, rfl⟩⟩))
      go_ret
      exact ⟨by first | rfl | (simp [Qt, Qs] <;> rfl) | (simp [*, Qt, Qs] <;> rfl) | (exfalso; simp_all; done), by repeat first | exact HB.out | with_reducible refine Qh ?_ ‹_› | apply Qc | apply Qb⟩
     ·rw [if_neg c10] at H
      have c10b0 : (t330 == a2) = false := beq_eq_false_iff_ne.mpr c10
      have c10b1 : (t330 != a2) = true := bne_iff_ne.mpr c10
      have H' := Qa.mk H
      clear H
      have hcz18_0 : wr.cell? ⟨gb325, 0, none⟩ = some (.int .i64 a0_0) := (Qe BK325.out 0).trans rfl
      have hcz18_1 : wr.cell? ⟨gb325, 1, none⟩ = some (.slice A0_1 l0_1.length c0_1) := (Qe BK325.out 1).trans rfl
      have hfz18_0 := Qf BK325.out 0
      have hfz18_1 := Qf BK325.out 1
      go_wp2_with (first | ((with_reducible refine Wi (f := 49) rfl ?_); refine Zu (some 11) rfl rfl Try.func49 (by kernel_rfl) rfl #[.agg #[.int .i64 a0_0, .slice A0_1 l0_1.length c0_1]] rfl (by first | rfl | (simp only [List.map_toArray, List.map_cons, List.map_nil, List.length_drop, List.length_take]; try rfl)) ?_; (with_reducible refine (Yg.calls a0_0 _ _ l0_1 t326 _ ?side1 ?side2 A5.out).mono ?_); (case side1 => repeat (first | exact (Kd.Zi HR0_1.out HB.out) | (with_reducible refine Kd.Zm ?_ _) | (with_reducible refine Kd.Zl ?_ _) | (with_reducible refine Kd.Yb ?_))); (case side2 => exact HC0_1.out); rintro e w19 ⟨rfl, hb⟩; refine ⟨_, rfl, ?_⟩; have n0_ := Qa.mk (Qk (bK BK325.out) hb); have n1_ := Qa.mk (Ql (by repeat first | exact HB.out | with_reducible refine Qh ?_ ‹_› | apply Qc | apply Qb) hb); clear BK325; clear HB; have BK325 := n0_; have HB := n1_; clear n0_ n1_; (try clear hb); (try clear hb2); (try clear hk); (try clear hi); have hcz20_0 : w19.cell? ⟨gb325, 0, none⟩ = some (.int .i64 a0_0) := (Qe BK325.out 0).trans rfl; have hcz20_1 : w19.cell? ⟨gb325, 1, none⟩ = some (.slice A0_1 l0_1.length c0_1) := (Qe BK325.out 1).trans rfl; have hfz20_0 := Qf BK325.out 0; have hfz20_1 := Qf BK325.out 1) | ((with_reducible refine Wi (f := 50) rfl ?_); refine Zu (some 17) rfl rfl Try.func50 (by kernel_rfl) rfl #[.agg #[.int .i64 a0_0, .slice A0_1 l0_1.length c0_1], .int .i64 x7_1] rfl (by first | rfl | (simp only [List.map_toArray, List.map_cons, List.map_nil, List.length_drop, List.length_take]; try rfl)) ?_; (with_reducible refine (Xm.calls a0_0 _ _ l0_1 x7_1 t327 t328 _ ?side1 ?side2 A7.out).mono ?_); (case side1 => repeat (first | exact (Kd.Zi HR0_1.out HB.out) | (with_reducible refine Kd.Zm ?_ _) | (with_reducible refine Kd.Zl ?_ _) | (with_reducible refine Kd.Yb ?_))); (case side2 => exact HC0_1.out); rintro e w21 ⟨rfl, hb⟩; refine ⟨_, rfl, ?_⟩; have n0_ := Qa.mk (Qk (bK BK325.out) hb); have n1_ := Qa.mk (Ql (by repeat first | exact HB.out | with_reducible refine Qh ?_ ‹_› | apply Qc | apply Qb) hb); clear BK325; clear HB; have BK325 := n0_; have HB := n1_; clear n0_ n1_; (try clear hb); (try clear hb2); (try clear hk); (try clear hi)) | ((with_reducible refine We (N := 8) rfl ?_); refine Qy rfl (N := 8) rfl (cs := #[.int .i64 0, .int .i64 0]) (t := 44) ?hr ?_; (case hr => first | (go_simp; done) | (go_simp; rfl)); intro gb329 hg w22 hbox hb; have n0_ := Qa.mk (Qk (bK BK325.out) hb); have n1_ := Qa.mk (Ql (by repeat first | exact HB.out | with_reducible refine Qh ?_ ‹_› | apply Qc | apply Qb) hb); have n2_ := Qa.mk (hbox); have n3_ := Qa.mk ((by rw [hg]; exact (Qr (by repeat first | exact HB.out | with_reducible refine Qh ?_ ‹_› | apply Qc | apply Qb)) : w.heap.size <= gb329)); have n4_ := n3_; have n5_ := Qa.mk ((by rw [hg]; exact Nat.ne_of_lt (Wl (bK BK325.out)) : gb325 ≠ gb329)); have n6_ := Qa.mk ((by rw [hg]; exact Nat.ne_of_gt (Wl (bK BK325.out)) : gb329 ≠ gb325)); clear BK325; clear HB; have BK325 := n0_; have HB := n1_; have BK329 := n2_; have GW329 := n3_; have GE329 := n4_; have NB325_329 := n5_; have NB329_325 := n6_; clear n0_ n1_ n2_ n3_ n4_ n5_ n6_; clear hb hbox hg; have hnb23 := NB329_325.out; have hnc23 := NB325_329.out; have hcz24_0 : w22.cell? ⟨gb329, 0, none⟩ = some (.int .i64 0) := (Qe BK329.out 0).trans rfl; have hcz24_1 : w22.cell? ⟨gb329, 1, none⟩ = some (.int .i64 0) := (Qe BK329.out 1).trans rfl; have hfz24_0 := Qf BK329.out 0; have hfz24_1 := Qf BK329.out 1) | (go_at_call 79; (with_reducible refine (Xy.calls t328 t330 _ A9.out).mono ?_); rintro e w' ⟨rfl, ⟨nd, rfl⟩⟩))
      go_roundg k1
      case measure => have := HK1.out; omega
      case rel => exact ⟨(wrap64 (x7_1 + 1)), (by first | rfl | (simp; done) | (simp [*]; done)), H', ⟨by have := HK1.out; omega⟩, ⟨by (with_reducible repeat apply Qd); refine Qo ?_ NB325_329.out _; (with_reducible repeat apply Qd); refine Qo ?_ NB325_329.out _; (with_reducible repeat apply Qd); exact BK325.out⟩, ⟨by repeat first | exact HB.out | with_reducible refine Qh ?_ ‹_› | apply Qc | apply Qb⟩⟩
    ·rw [if_neg c8] at H
     have c8b0 : (t327 == a1) = false := beq_eq_false_iff_ne.mpr c8
     have c8b1 : (t327 != a1) = true := bne_iff_ne.mpr c8
     have H' := Qa.mk H
     clear H
     have hcz25_0 : wr.cell? ⟨gb325, 0, none⟩ = some (.int .i64 a0_0) := (Qe BK325.out 0).trans rfl
     have hcz25_1 : wr.cell? ⟨gb325, 1, none⟩ = some (.slice A0_1 l0_1.length c0_1) := (Qe BK325.out 1).trans rfl
     have hfz25_0 := Qf BK325.out 0
     have hfz25_1 := Qf BK325.out 1
     go_wp2_with (first | ((with_reducible refine Wi (f := 49) rfl ?_); refine Zu (some 11) rfl rfl Try.func49 (by kernel_rfl) rfl #[.agg #[.int .i64 a0_0, .slice A0_1 l0_1.length c0_1]] rfl (by first | rfl | (simp only [List.map_toArray, List.map_cons, List.map_nil, List.length_drop, List.length_take]; try rfl)) ?_; (with_reducible refine (Yg.calls a0_0 _ _ l0_1 t326 _ ?side1 ?side2 A5.out).mono ?_); (case side1 => repeat (first | exact (Kd.Zi HR0_1.out HB.out) | (with_reducible refine Kd.Zm ?_ _) | (with_reducible refine Kd.Zl ?_ _) | (with_reducible refine Kd.Yb ?_))); (case side2 => exact HC0_1.out); rintro e w26 ⟨rfl, hb⟩; refine ⟨_, rfl, ?_⟩; have n0_ := Qa.mk (Qk (bK BK325.out) hb); have n1_ := Qa.mk (Ql (by repeat first | exact HB.out | with_reducible refine Qh ?_ ‹_› | apply Qc | apply Qb) hb); clear BK325; clear HB; have BK325 := n0_; have HB := n1_; clear n0_ n1_; (try clear hb); (try clear hb2); (try clear hk); (try clear hi); have hcz27_0 : w26.cell? ⟨gb325, 0, none⟩ = some (.int .i64 a0_0) := (Qe BK325.out 0).trans rfl; have hcz27_1 : w26.cell? ⟨gb325, 1, none⟩ = some (.slice A0_1 l0_1.length c0_1) := (Qe BK325.out 1).trans rfl; have hfz27_0 := Qf BK325.out 0; have hfz27_1 := Qf BK325.out 1) | ((with_reducible refine Wi (f := 50) rfl ?_); refine Zu (some 17) rfl rfl Try.func50 (by kernel_rfl) rfl #[.agg #[.int .i64 a0_0, .slice A0_1 l0_1.length c0_1], .int .i64 x7_1] rfl (by first | rfl | (simp only [List.map_toArray, List.map_cons, List.map_nil, List.length_drop, List.length_take]; try rfl)) ?_; (with_reducible refine (Xm.calls a0_0 _ _ l0_1 x7_1 t327 t328 _ ?side1 ?side2 A7.out).mono ?_); (case side1 => repeat (first | exact (Kd.Zi HR0_1.out HB.out) | (with_reducible refine Kd.Zm ?_ _) | (with_reducible refine Kd.Zl ?_ _) | (with_reducible refine Kd.Yb ?_))); (case side2 => exact HC0_1.out); rintro e w28 ⟨rfl, hb⟩; refine ⟨_, rfl, ?_⟩; have n0_ := Qa.mk (Qk (bK BK325.out) hb); have n1_ := Qa.mk (Ql (by repeat first | exact HB.out | with_reducible refine Qh ?_ ‹_› | apply Qc | apply Qb) hb); clear BK325; clear HB; have BK325 := n0_; have HB := n1_; clear n0_ n1_; (try clear hb); (try clear hb2); (try clear hk); (try clear hi)) | ((with_reducible refine We (N := 8) rfl ?_); refine Qy rfl (N := 8) rfl (cs := #[.int .i64 0, .int .i64 0]) (t := 44) ?hr ?_; (case hr => first | (go_simp; done) | (go_simp; rfl)); intro gb329 hg w29 hbox hb; have n0_ := Qa.mk (Qk (bK BK325.out) hb); have n1_ := Qa.mk (Ql (by repeat first | exact HB.out | with_reducible refine Qh ?_ ‹_› | apply Qc | apply Qb) hb); have n2_ := Qa.mk (hbox); have n3_ := Qa.mk ((by rw [hg]; exact (Qr (by repeat first | exact HB.out | with_reducible refine Qh ?_ ‹_› | apply Qc | apply Qb)) : w.heap.size <= gb329)); have n4_ := n3_; have n5_ := Qa.mk ((by rw [hg]; exact Nat.ne_of_lt (Wl (bK BK325.out)) : gb325 ≠ gb329)); have n6_ := Qa.mk ((by rw [hg]; exact Nat.ne_of_gt (Wl (bK BK325.out)) : gb329 ≠ gb325)); clear BK325; clear HB; have BK325 := n0_; have HB := n1_; have BK329 := n2_; have GW329 := n3_; have GE329 := n4_; have NB325_329 := n5_; have NB329_325 := n6_; clear n0_ n1_ n2_ n3_ n4_ n5_ n6_; clear hb hbox hg; have hnb30 := NB329_325.out; have hnc30 := NB325_329.out; have hcz31_0 : w29.cell? ⟨gb329, 0, none⟩ = some (.int .i64 0) := (Qe BK329.out 0).trans rfl; have hcz31_1 : w29.cell? ⟨gb329, 1, none⟩ = some (.int .i64 0) := (Qe BK329.out 1).trans rfl; have hfz31_0 := Qf BK329.out 0; have hfz31_1 := Qf BK329.out 1))
     go_roundg k1
     case measure => have := HK1.out; omega
     case rel => exact ⟨(wrap64 (x7_1 + 1)), (by first | rfl | (simp; done) | (simp [*]; done)), H', ⟨by have := HK1.out; omega⟩, ⟨by (with_reducible repeat apply Qd); refine Qo ?_ NB325_329.out _; (with_reducible repeat apply Qd); refine Qo ?_ NB325_329.out _; (with_reducible repeat apply Qd); exact BK325.out⟩, ⟨by repeat first | exact HB.out | with_reducible refine Qh ?_ ‹_› | apply Qc | apply Qb⟩⟩
   ·rw [if_neg c6] at H
    have c6b0 : decide (x7_1 < t326) = false := decide_eq_false c6
    clear c6
    obtain rfl := Option.some.inj H
    have hcz32_0 : wr.cell? ⟨gb325, 0, none⟩ = some (.int .i64 a0_0) := (Qe BK325.out 0).trans rfl
    have hcz32_1 : wr.cell? ⟨gb325, 1, none⟩ = some (.slice A0_1 l0_1.length c0_1) := (Qe BK325.out 1).trans rfl
    have hfz32_0 := Qf BK325.out 0
    have hfz32_1 := Qf BK325.out 1
    go_wp2_with (first | ((with_reducible refine Wi (f := 49) rfl ?_); refine Zu (some 11) rfl rfl Try.func49 (by kernel_rfl) rfl #[.agg #[.int .i64 a0_0, .slice A0_1 l0_1.length c0_1]] rfl (by first | rfl | (simp only [List.map_toArray, List.map_cons, List.map_nil, List.length_drop, List.length_take]; try rfl)) ?_; (with_reducible refine (Yg.calls a0_0 _ _ l0_1 t326 _ ?side1 ?side2 A5.out).mono ?_); (case side1 => repeat (first | exact (Kd.Zi HR0_1.out HB.out) | (with_reducible refine Kd.Zm ?_ _) | (with_reducible refine Kd.Zl ?_ _) | (with_reducible refine Kd.Yb ?_))); (case side2 => exact HC0_1.out); rintro e w33 ⟨rfl, hb⟩; refine ⟨_, rfl, ?_⟩; have n0_ := Qa.mk (Qk (bK BK325.out) hb); have n1_ := Qa.mk (Ql (by repeat first | exact HB.out | with_reducible refine Qh ?_ ‹_› | apply Qc | apply Qb) hb); clear BK325; clear HB; have BK325 := n0_; have HB := n1_; clear n0_ n1_; (try clear hb); (try clear hb2); (try clear hk); (try clear hi)))
    go_ret
    exact ⟨by first | rfl | (simp [Qt, Qs] <;> rfl) | (simp [*, Qt, Qs] <;> rfl) | (exfalso; simp_all; done), by repeat first | exact HB.out | with_reducible refine Qh ?_ ‹_› | apply Qc | apply Qb⟩
end Go.Proofs.Yteapnipnoadejaa.P
