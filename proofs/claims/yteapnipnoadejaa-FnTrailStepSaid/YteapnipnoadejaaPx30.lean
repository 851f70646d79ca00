/- PROVED: contracts of functions; No condition. -/
import Derived.Test.YteapnipnoadejaaPx0
import Derived.Test.YteapnipnoadejaaPx27
import Derived.Test.YteapnipnoadejaaPx34
import Derived.Test.YteapnipnoadejaaH1Ray
namespace Go.Proofs.Yteapnipnoadejaa.P
open Go.RowKit Go.Proofs.YteapnipnoadejaaW
set_option linter.unusedVariables false
set_option linter.unusedSimpArgs false
def Ww.j0 : Nat -> Int -> Int -> Bool -> Int -> List (S42) -> Option (Int × Int × Bool)
 | 0, _, _, _, _, _ => none
 | k + 1, x1, x2, x26, x474000, x474001 => if x26 = true then (some (0, 0, false)) else ((Yv.f x474000 x474001 x1 x2).bind fun bt477 => (some (bt477.1, bt477.2.1, bt477.2.2)))
def Ww.f (k : Nat) (a0_0 : Int) (l0_1 : List (S42)) (a1 : Int) (a2 : Int) : Option (Int × Int × Bool) := (Wq.f k a0_0 l0_1).bind fun t475 => (if t475 = true then (if a1 < 0 then (Ww.j0 k a1 a2 true a0_0 l0_1) else (if a1 >= (l0_1.length : Int) then (Ww.j0 k a1 a2 true a0_0 l0_1) else ((Yw.f a2).bind fun t476 => (Ww.j0 k a1 a2 (!t476) a0_0 l0_1)))) else (Ww.j0 k a1 a2 true a0_0 l0_1))
set_option maxHeartbeats 8000000 in
set_option maxRecDepth 100000 in
theorem Ww.calls (k : Nat) (a0_0 : Int) (A0_1 : Option Addr) (c0_1 : Nat) (l0_1 : List (S42)) (a1 : Int) (a2 : Int) (r1 : Int) (r2 : Int) (r3 : Bool) (w : World) (hr0_1 : Kd.C k42 w A0_1 l0_1.length l0_1) (hc0_1 : l0_1.length <= c0_1) (h : Ww.f k a0_0 l0_1 a1 a2 = some (r1, r2, r3)) :
  Calls Try.prog 21 #[.agg #[.int .i64 a0_0, .slice A0_1 l0_1.length c0_1], .int .i64 a1, .int .i64 a2] w fun e w' => e = .returned (.tuple #[.agg #[.int .i64 r1, .int .i64 r2], .bool r3]) ∧ Below w.heap.size w w' := by
 have hu25 := Try.underlying25
 have hu44 := Try.underlying44
 have HR0_1 := Qa.mk hr0_1
 have HC0_1 := Qa.mk hc0_1
 clear hr0_1 hc0_1
 have HB := Qa.mk (Below.refl w.heap.size w)
 have H : ((Wq.f k a0_0 l0_1).bind fun t475 => (if t475 = true then (if a1 < 0 then (Ww.j0 k a1 a2 true a0_0 l0_1) else (if a1 >= (l0_1.length : Int) then (Ww.j0 k a1 a2 true a0_0 l0_1) else ((Yw.f a2).bind fun t476 => (Ww.j0 k a1 a2 (!t476) a0_0 l0_1)))) else (Ww.j0 k a1 a2 true a0_0 l0_1))) = some (r1, r2, r3) := h
 clear h
 have HC4 := Qa.mk H
 clear H
 go_enter Try.func21, Try.ntmps21
 go_upto_region 1 with (first | ((with_reducible refine We (N := 3) rfl ?_); (try (refine gate_guard (by rfl) ?_; dsimp only)); refine Qy rfl (N := 3) rfl (cs := #[.int .i64 a0_0, .slice A0_1 l0_1.length c0_1]) (t := 25) ?hr ?_; (case hr => first | (go_simp; done) | (go_simp; rfl)); intro gb473 hg w5 hbox hb; have n0_ := Qa.mk (Ql (by repeat first | exact HB.out | apply Qc | apply Qb) hb); have n1_ := Qa.mk (hbox); have n2_ := Qa.mk ((by rw [hg]; exact (Qr (by repeat first | exact HB.out | apply Qc | apply Qb)) : w.heap.size <= gb473)); have n3_ := n2_; clear HB; have HB := n0_; have BK473 := n1_; have GW473 := n2_; have GE473 := n3_; clear n0_ n1_ n2_ n3_; clear hb hbox hg) | ((with_reducible refine We (N := 6) rfl ?_); (try (refine gate_guard (by rfl) ?_; dsimp only)); refine Qy rfl (N := 6) rfl (cs := #[.int .i64 0, .int .i64 0]) (t := 44) ?hr ?_; (case hr => first | (go_simp; done) | (go_simp; rfl)); intro gb474 hg w6 hbox hb; have n0_ := Qa.mk (Qk (bK BK473.out) hb); have n1_ := Qa.mk (Ql (by repeat first | exact HB.out | with_reducible refine Qh ?_ ‹_› | apply Qc | apply Qb) hb); have n2_ := Qa.mk (hbox); have n3_ := Qa.mk ((by rw [hg]; exact (Qr (by repeat first | exact HB.out | with_reducible refine Qh ?_ ‹_› | apply Qc | apply Qb)) : w.heap.size <= gb474)); have n4_ := n3_; have n5_ := Qa.mk ((by rw [hg]; exact Nat.ne_of_lt (Wl (bK BK473.out)) : gb473 ≠ gb474)); have n6_ := Qa.mk ((by rw [hg]; exact Nat.ne_of_gt (Wl (bK BK473.out)) : gb474 ≠ gb473)); clear BK473; clear HB; have BK473 := n0_; have HB := n1_; have BK474 := n2_; have GW474 := n3_; have GE474 := n4_; have NB473_474 := n5_; have NB474_473 := n6_; clear n0_ n1_ n2_ n3_ n4_ n5_ n6_; clear hb hbox hg))
 (try simp only [Act.put, List.setIfInBounds_toArray, List.set_cons_zero, List.set_cons_succ])
 go_cut [26] (fun v26 wc => ∃ (kq : Nat) (x26_3 : Bool), v26 = .bool x26_3 ∧ Qa (Ww.j0 kq a1 a2 x26_3 a0_0 l0_1 = some (r1, r2, r3)) ∧ Qa (kq <= k) ∧ Qa (wc.heap[gb473]? = some (.cells #[.int .i64 a0_0, (.slice A0_1 l0_1.length c0_1)] 25 (0, 0))) ∧ Qa (wc.heap[gb474]? = some (.cells #[.int .i64 0, .int .i64 0] 44 (0, 0))) ∧ Qa (Below w.heap.size w wc))
 case first =>
  have H := HC4.out
  clear HC4
  replace H := Option.bind_eq_some_iff.mp H
  obtain ⟨t475, A70, H⟩ := H
  replace H : (if t475 = true then (if a1 < 0 then (Ww.j0 k a1 a2 true a0_0 l0_1) else (if a1 >= (l0_1.length : Int) then (Ww.j0 k a1 a2 true a0_0 l0_1) else ((Yw.f a2).bind fun t476 => (Ww.j0 k a1 a2 (!t476) a0_0 l0_1)))) else (Ww.j0 k a1 a2 true a0_0 l0_1)) = some (r1, r2, r3) := H
  have A7 := Qa.mk A70
  clear A70
  by_cases c8 : t475 = true
  ·subst c8
   have H1 : (if a1 < 0 then (Ww.j0 k a1 a2 true a0_0 l0_1) else (if a1 >= (l0_1.length : Int) then (Ww.j0 k a1 a2 true a0_0 l0_1) else ((Yw.f a2).bind fun t476 => (Ww.j0 k a1 a2 (!t476) a0_0 l0_1)))) = some (r1, r2, r3) := by rw [if_pos rfl] at H; exact H
   clear H
   have H := H1
   clear H1
   by_cases c9 : a1 < 0
   ·rw [if_pos c9] at H
    have c9b0 : decide (a1 < 0) = true := decide_eq_true c9
    clear c9
    (first | rw [c9b0] | (simp only [Wp, Ws]; rw [c9b0]) | skip)
    have H' := Qa.mk H
    clear H
    have hnb10 := NB473_474.out
    have hnc10 := NB474_473.out
    have hcz11_0 : w6.cell? ⟨gb473, 0, none⟩ = some (.int .i64 a0_0) := (Qe BK473.out 0).trans rfl
    have hcz11_1 : w6.cell? ⟨gb473, 1, none⟩ = some (.slice A0_1 l0_1.length c0_1) := (Qe BK473.out 1).trans rfl
    have hfz11_0 := Qf BK473.out 0
    have hfz11_1 := Qf BK473.out 1
    go_wp2_with (first | ((with_reducible refine Wi (f := 36) rfl ?_); refine Zu (some 9) rfl rfl Try.func36 (by kernel_rfl) rfl #[.agg #[.int .i64 a0_0, .slice A0_1 l0_1.length c0_1]] rfl (by first | rfl | (simp only [List.map_toArray, List.map_cons, List.map_nil, List.length_drop, List.length_take]; try rfl)) ?_; (with_reducible refine (Wq.calls k a0_0 _ _ l0_1 true _ ?side1 ?side2 A7.out).mono ?_); (case side1 => repeat (first | exact (Kd.Zi HR0_1.out HB.out) | (with_reducible refine Kd.Zm ?_ _) | (with_reducible refine Kd.Zl ?_ _) | (with_reducible refine Kd.Yb ?_))); (case side2 => exact HC0_1.out); rintro e w12 ⟨rfl, hb⟩; refine ⟨_, rfl, ?_⟩; have n0_ := Qa.mk (Qk (bK BK473.out) hb); have n1_ := Qa.mk (Qk (bK BK474.out) hb); have n2_ := Qa.mk (Ql (by repeat first | exact HB.out | with_reducible refine Qh ?_ ‹_› | apply Qc | apply Qb) hb); clear BK473; clear BK474; clear HB; have BK473 := n0_; have BK474 := n1_; have HB := n2_; clear n0_ n1_ n2_; (try clear hb); (try clear hb2); (try clear hk); (try clear hi)))
    go_meet
    case rel => exact ⟨_, (true), (by first | rfl | (simp; done) | (simp [*]; done)), H', ⟨by first | omega | exact Nat.le_refl _⟩, ⟨by (with_reducible repeat apply Qd); exact BK473.out⟩, ⟨by (with_reducible repeat apply Qd); exact BK474.out⟩, ⟨by repeat first | exact HB.out | with_reducible refine Qh ?_ ‹_› | apply Qc | apply Qb⟩⟩
   ·rw [if_neg c9] at H
    have c9b0 : decide (a1 < 0) = false := decide_eq_false c9
    clear c9
    (first | rw [c9b0] | (simp only [Wp, Ws]; rw [c9b0]) | skip)
    by_cases c13 : a1 >= (l0_1.length : Int)
    ·rw [if_pos c13] at H
     have c13b0 : decide ((l0_1.length : Int) <= a1) = true := decide_eq_true c13
     clear c13
     have H' := Qa.mk H
     clear H
     have hnb14 := NB473_474.out
     have hnc14 := NB474_473.out
     have hcz15_0 : w6.cell? ⟨gb473, 0, none⟩ = some (.int .i64 a0_0) := (Qe BK473.out 0).trans rfl
     have hcz15_1 : w6.cell? ⟨gb473, 1, none⟩ = some (.slice A0_1 l0_1.length c0_1) := (Qe BK473.out 1).trans rfl
     have hfz15_0 := Qf BK473.out 0
     have hfz15_1 := Qf BK473.out 1
     go_wp2_with (first | ((with_reducible refine Wi (f := 36) rfl ?_); refine Zu (some 9) rfl rfl Try.func36 (by kernel_rfl) rfl #[.agg #[.int .i64 a0_0, .slice A0_1 l0_1.length c0_1]] rfl (by first | rfl | (simp only [List.map_toArray, List.map_cons, List.map_nil, List.length_drop, List.length_take]; try rfl)) ?_; (with_reducible refine (Wq.calls k a0_0 _ _ l0_1 true _ ?side1 ?side2 A7.out).mono ?_); (case side1 => repeat (first | exact (Kd.Zi HR0_1.out HB.out) | (with_reducible refine Kd.Zm ?_ _) | (with_reducible refine Kd.Zl ?_ _) | (with_reducible refine Kd.Yb ?_))); (case side2 => exact HC0_1.out); rintro e w16 ⟨rfl, hb⟩; refine ⟨_, rfl, ?_⟩; have n0_ := Qa.mk (Qk (bK BK473.out) hb); have n1_ := Qa.mk (Qk (bK BK474.out) hb); have n2_ := Qa.mk (Ql (by repeat first | exact HB.out | with_reducible refine Qh ?_ ‹_› | apply Qc | apply Qb) hb); clear BK473; clear BK474; clear HB; have BK473 := n0_; have BK474 := n1_; have HB := n2_; clear n0_ n1_ n2_; (try clear hb); (try clear hb2); (try clear hk); (try clear hi); have hcz17_0 : w16.cell? ⟨gb473, 0, none⟩ = some (.int .i64 a0_0) := (Qe BK473.out 0).trans rfl; have hcz17_1 : w16.cell? ⟨gb473, 1, none⟩ = some (.slice A0_1 l0_1.length c0_1) := (Qe BK473.out 1).trans rfl; have hfz17_0 := Qf BK473.out 0; have hfz17_1 := Qf BK473.out 1))
     go_meet
     case rel => exact ⟨_, (true), (by first | rfl | (simp; done) | (simp [*]; done)), H', ⟨by first | omega | exact Nat.le_refl _⟩, ⟨by (with_reducible repeat apply Qd); exact BK473.out⟩, ⟨by (with_reducible repeat apply Qd); exact BK474.out⟩, ⟨by repeat first | exact HB.out | with_reducible refine Qh ?_ ‹_› | apply Qc | apply Qb⟩⟩
    ·rw [if_neg c13] at H
     have c13b0 : decide ((l0_1.length : Int) <= a1) = false := decide_eq_false c13
     clear c13
     replace H := Option.bind_eq_some_iff.mp H
     obtain ⟨t476, A180, H⟩ := H
     replace H : (Ww.j0 k a1 a2 (!t476) a0_0 l0_1) = some (r1, r2, r3) := H
     have A18 := Qa.mk A180
     clear A180
     have H' := Qa.mk H
     clear H
     have hnb19 := NB473_474.out
     have hnc19 := NB474_473.out
     have hcz20_0 : w6.cell? ⟨gb473, 0, none⟩ = some (.int .i64 a0_0) := (Qe BK473.out 0).trans rfl
     have hcz20_1 : w6.cell? ⟨gb473, 1, none⟩ = some (.slice A0_1 l0_1.length c0_1) := (Qe BK473.out 1).trans rfl
     have hfz20_0 := Qf BK473.out 0
     have hfz20_1 := Qf BK473.out 1
     go_wp2_with (first | ((with_reducible refine Wi (f := 36) rfl ?_); refine Zu (some 9) rfl rfl Try.func36 (by kernel_rfl) rfl #[.agg #[.int .i64 a0_0, .slice A0_1 l0_1.length c0_1]] rfl (by first | rfl | (simp only [List.map_toArray, List.map_cons, List.map_nil, List.length_drop, List.length_take]; try rfl)) ?_; (with_reducible refine (Wq.calls k a0_0 _ _ l0_1 true _ ?side1 ?side2 A7.out).mono ?_); (case side1 => repeat (first | exact (Kd.Zi HR0_1.out HB.out) | (with_reducible refine Kd.Zm ?_ _) | (with_reducible refine Kd.Zl ?_ _) | (with_reducible refine Kd.Yb ?_))); (case side2 => exact HC0_1.out); rintro e w21 ⟨rfl, hb⟩; refine ⟨_, rfl, ?_⟩; have n0_ := Qa.mk (Qk (bK BK473.out) hb); have n1_ := Qa.mk (Qk (bK BK474.out) hb); have n2_ := Qa.mk (Ql (by repeat first | exact HB.out | with_reducible refine Qh ?_ ‹_› | apply Qc | apply Qb) hb); clear BK473; clear BK474; clear HB; have BK473 := n0_; have BK474 := n1_; have HB := n2_; clear n0_ n1_ n2_; (try clear hb); (try clear hb2); (try clear hk); (try clear hi); have hcz22_0 : w21.cell? ⟨gb473, 0, none⟩ = some (.int .i64 a0_0) := (Qe BK473.out 0).trans rfl; have hcz22_1 : w21.cell? ⟨gb473, 1, none⟩ = some (.slice A0_1 l0_1.length c0_1) := (Qe BK473.out 1).trans rfl; have hfz22_0 := Qf BK473.out 0; have hfz22_1 := Qf BK473.out 1) | (go_at_call 37; (with_reducible refine (Yw.calls a2 t476 _ A18.out).mono ?_); rintro e w' ⟨rfl, ⟨nd, rfl⟩⟩))
     go_meet
     case rel => exact ⟨_, (!t476), (by first | rfl | (simp; done) | (simp [*]; done)), H', ⟨by first | omega | exact Nat.le_refl _⟩, ⟨by (with_reducible repeat apply Qd); exact BK473.out⟩, ⟨by (with_reducible repeat apply Qd); exact BK474.out⟩, ⟨by repeat first | exact HB.out | with_reducible refine Qh ?_ ‹_› | apply Qc | apply Qb⟩⟩
  ·replace c8 := Bool.eq_false_iff.mpr c8
   subst c8
   have H1 : (Ww.j0 k a1 a2 true a0_0 l0_1) = some (r1, r2, r3) := by rw [if_neg (show ¬ (false = true) by decide)] at H; exact H
   clear H
   have H := H1
   clear H1
   have H' := Qa.mk H
   clear H
   have hnb23 := NB473_474.out
   have hnc23 := NB474_473.out
   have hcz24_0 : w6.cell? ⟨gb473, 0, none⟩ = some (.int .i64 a0_0) := (Qe BK473.out 0).trans rfl
   have hcz24_1 : w6.cell? ⟨gb473, 1, none⟩ = some (.slice A0_1 l0_1.length c0_1) := (Qe BK473.out 1).trans rfl
   have hfz24_0 := Qf BK473.out 0
   have hfz24_1 := Qf BK473.out 1
   go_wp2_with (first | ((with_reducible refine Wi (f := 36) rfl ?_); refine Zu (some 9) rfl rfl Try.func36 (by kernel_rfl) rfl #[.agg #[.int .i64 a0_0, .slice A0_1 l0_1.length c0_1]] rfl (by first | rfl | (simp only [List.map_toArray, List.map_cons, List.map_nil, List.length_drop, List.length_take]; try rfl)) ?_; (with_reducible refine (Wq.calls k a0_0 _ _ l0_1 false _ ?side1 ?side2 A7.out).mono ?_); (case side1 => repeat (first | exact (Kd.Zi HR0_1.out HB.out) | (with_reducible refine Kd.Zm ?_ _) | (with_reducible refine Kd.Zl ?_ _) | (with_reducible refine Kd.Yb ?_))); (case side2 => exact HC0_1.out); rintro e w25 ⟨rfl, hb⟩; refine ⟨_, rfl, ?_⟩; have n0_ := Qa.mk (Qk (bK BK473.out) hb); have n1_ := Qa.mk (Qk (bK BK474.out) hb); have n2_ := Qa.mk (Ql (by repeat first | exact HB.out | with_reducible refine Qh ?_ ‹_› | apply Qc | apply Qb) hb); clear BK473; clear BK474; clear HB; have BK473 := n0_; have BK474 := n1_; have HB := n2_; clear n0_ n1_ n2_; (try clear hb); (try clear hb2); (try clear hk); (try clear hi)))
   go_meet
   case rel => exact ⟨_, (true), (by first | rfl | (simp; done) | (simp [*]; done)), H', ⟨by first | omega | exact Nat.le_refl _⟩, ⟨by (with_reducible repeat apply Qd); exact BK473.out⟩, ⟨by (with_reducible repeat apply Qd); exact BK474.out⟩, ⟨by repeat first | exact HB.out | with_reducible refine Qh ?_ ‹_› | apply Qc | apply Qb⟩⟩
 case rest =>
  clear HC4
  try clear c1
  try clear c2
  try clear p2
  try clear c3
  try clear c8
  try clear c9
  try clear c9b0
  try clear c10
  try clear c13
  try clear c13b0
  try clear c14
  try clear c19
  try clear c21
  try clear c23
  try clear hcz11_0
  try clear hcz11_1
  try clear hcz15_0
  try clear hcz15_1
  try clear hcz17_0
  try clear hcz17_1
  try clear hcz20_0
  try clear hcz20_1
  try clear hcz22_0
  try clear hcz22_1
  try clear hcz24_0
  try clear hcz24_1
  try clear hfz11_0
  try clear hfz11_1
  try clear hfz15_0
  try clear hfz15_1
  try clear hfz17_0
  try clear hfz17_1
  try clear hfz20_0
  try clear hfz20_1
  try clear hfz22_0
  try clear hfz22_1
  try clear hfz24_0
  try clear hfz24_1
  obtain ⟨kq, x26_3, rfl, HA, HJ3, BK473, BK474, HB⟩ := hcut
  cases kq with
  | zero => exact absurd HA.out (by simp [Ww.j0])
  | succ kj3 =>
   have H := HA.out
   clear HA
   simp only [Ww.j0] at H
   by_cases c26 : x26_3 = true
   ·subst c26
    have H1 : (some (0, 0, false)) = some (r1, r2, r3) := by rw [if_pos rfl] at H; exact H
    clear H
    have H := H1
    clear H1
    simp only [Option.some.injEq, Prod.mk.injEq] at H
    obtain ⟨rfl, rfl, rfl⟩ := H
    have hnb27 := NB474_473.out
    have hnc27 := NB473_474.out
    have hcz28_0 : wc.cell? ⟨gb474, 0, none⟩ = some (.int .i64 0) := (Qe BK474.out 0).trans rfl
    have hcz28_1 : wc.cell? ⟨gb474, 1, none⟩ = some (.int .i64 0) := (Qe BK474.out 1).trans rfl
    have hfz28_0 := Qf BK474.out 0
    have hfz28_1 := Qf BK474.out 1
    go_wp2
    refine bodyPost_ret (results_ct rfl _ _ gb474 44 #[.int .i64 0, .int .i64 0] (0, 0) _ rfl (by (with_reducible repeat apply Qd); refine Wm (cs := #[.int .i64 0, .int .i64 0]) ?_ 1 _ rfl; (with_reducible repeat apply Qd); refine Wm (cs := #[.int .i64 0, .int .i64 0]) ?_ 0 _ rfl; (with_reducible repeat apply Qd); exact BK474.out) Try.underlying44 rfl (by kernel_rfl)) rfl ?_
    exact ⟨by first | rfl | (simp [Qt, Qs] <;> rfl) | (simp [*, Qt, Qs] <;> rfl) | (exfalso; simp_all; done), by repeat first | exact HB.out | with_reducible refine Qh ?_ ‹_› | apply Qc | apply Qb⟩
   ·replace c26 := Bool.eq_false_iff.mpr c26
    subst c26
    have H1 : ((Yv.f a0_0 l0_1 a1 a2).bind fun bt477 => (some (bt477.1, bt477.2.1, bt477.2.2))) = some (r1, r2, r3) := by rw [if_neg (show ¬ (false = true) by decide)] at H; exact H
    clear H
    have H := H1
    clear H1
    replace H := Option.bind_eq_some_iff.mp H
    obtain ⟨⟨t477, t478, t479⟩, A290, H⟩ := H
    replace H : (some (t477, t478, t479)) = some (r1, r2, r3) := H
    have A29 := Qa.mk A290
    clear A290
    simp only [Option.some.injEq, Prod.mk.injEq] at H
    obtain ⟨rfl, rfl, rfl⟩ := H
    have hnb30 := NB473_474.out
    have hnc30 := NB474_473.out
    have hcz31_0 : wc.cell? ⟨gb473, 0, none⟩ = some (.int .i64 a0_0) := (Qe BK473.out 0).trans rfl
    have hcz31_1 : wc.cell? ⟨gb473, 1, none⟩ = some (.slice A0_1 l0_1.length c0_1) := (Qe BK473.out 1).trans rfl
    have hfz31_0 := Qf BK473.out 0
    have hfz31_1 := Qf BK473.out 1
    go_wp2_with (first | ((with_reducible refine Wi (f := 38) rfl ?_); refine Zu (some 31) rfl rfl Try.func38 (by kernel_rfl) rfl #[.agg #[.int .i64 a0_0, .slice A0_1 l0_1.length c0_1], .int .i64 a1, .int .i64 a2] rfl (by first | rfl | (simp only [List.map_toArray, List.map_cons, List.map_nil, List.length_drop, List.length_take]; try rfl)) ?_; (with_reducible refine (Yv.calls a0_0 _ _ l0_1 a1 a2 t477 t478 t479 _ ?side1 ?side2 A29.out).mono ?_); (case side1 => repeat (first | exact (Kd.Zi HR0_1.out HB.out) | (with_reducible refine Kd.Zm ?_ _) | (with_reducible refine Kd.Zl ?_ _) | (with_reducible refine Kd.Yb ?_))); (case side2 => exact HC0_1.out); rintro e w32 ⟨rfl, hb⟩; refine ⟨_, rfl, ?_⟩; have n0_ := Qa.mk (Qk (bK BK473.out) hb); have n1_ := Qa.mk (Qk (bK BK474.out) hb); have n2_ := Qa.mk (Ql (by repeat first | exact HB.out | with_reducible refine Qh ?_ ‹_› | apply Qc | apply Qb) hb); clear BK473; clear BK474; clear HB; have BK473 := n0_; have BK474 := n1_; have HB := n2_; clear n0_ n1_ n2_; (try clear hb); (try clear hb2); (try clear hk); (try clear hi); have hcz33_0 : w32.cell? ⟨gb474, 0, none⟩ = some (.int .i64 0) := (Qe BK474.out 0).trans rfl; have hcz33_1 : w32.cell? ⟨gb474, 1, none⟩ = some (.int .i64 0) := (Qe BK474.out 1).trans rfl; have hfz33_0 := Qf BK474.out 0; have hfz33_1 := Qf BK474.out 1))
    refine bodyPost_ret (results_ct rfl _ _ gb474 44 #[.int .i64 t477, .int .i64 t478] (0, 0) _ rfl (by (with_reducible repeat apply Qd); refine Wm (cs := #[.int .i64 t477, .int .i64 0]) ?_ 1 _ rfl; (with_reducible repeat apply Qd); refine Wm (cs := #[.int .i64 0, .int .i64 0]) ?_ 0 _ rfl; (with_reducible repeat apply Qd); exact BK474.out) Try.underlying44 rfl (by kernel_rfl)) rfl ?_
    exact ⟨by first | rfl | (simp [Qt, Qs] <;> rfl) | (simp [*, Qt, Qs] <;> rfl) | (exfalso; simp_all; done), by repeat first | exact HB.out | with_reducible refine Qh ?_ ‹_› | apply Qc | apply Qb⟩
end Go.Proofs.Yteapnipnoadejaa.P
