/- PROVED: contracts of functions; No condition. -/
import Derived.Test.YteapnipnoadejaaPx0
import Derived.Test.YteapnipnoadejaaPx28
import Derived.Test.YteapnipnoadejaaPx33
namespace Go.Proofs.Yteapnipnoadejaa.P
open Go.RowKit Go.Proofs.YteapnipnoadejaaW
set_option linter.unusedVariables false
set_option linter.unusedSimpArgs false
def Xh.f (k : Nat) (a0_0 : Int) (l0_1 : List (S42)) (a1 : Int) : Option (Int × Int × Bool) := if a1 < 0 then (some (0, 0, false)) else ((Xb.f k a0_0 l0_1).bind fun t241 => (if a1 >= t241 then (some (0, 0, false)) else ((Wt.f k a0_0 l0_1).bind fun t242 => (if 0 <= a1 then (if a1 < (t242.length : Int) then (some ((rd_T44 t242 a1).f0, (rd_T44 t242 a1).f1, true)) else (none)) else (none)))))
set_option maxHeartbeats 8000000 in
set_option maxRecDepth 100000 in
theorem Xh.calls (k : Nat) (a0_0 : Int) (A0_1 : Option Addr) (c0_1 : Nat) (l0_1 : List (S42)) (a1 : Int) (r1 : Int) (r2 : Int) (r3 : Bool) (w : World) (hr0_1 : Kd.C k42 w A0_1 l0_1.length l0_1) (hc0_1 : l0_1.length <= c0_1) (h : Xh.f k a0_0 l0_1 a1 = some (r1, r2, r3)) :
  Calls Try.prog 20 #[.agg #[.int .i64 a0_0, .slice A0_1 l0_1.length c0_1], .int .i64 a1] w fun e w' => e = .returned (.tuple #[.agg #[.int .i64 r1, .int .i64 r2], .bool r3]) ∧ Below w.heap.size w w' := by
 have hu25 := Try.underlying25
 have hu44 := Try.underlying44
 have HR0_1 := Qa.mk hr0_1
 have HC0_1 := Qa.mk hc0_1
 clear hr0_1 hc0_1
 have HB := Qa.mk (Below.refl w.heap.size w)
 have H : (if a1 < 0 then (some (0, 0, false)) else ((Xb.f k a0_0 l0_1).bind fun t241 => (if a1 >= t241 then (some (0, 0, false)) else ((Wt.f k a0_0 l0_1).bind fun t242 => (if 0 <= a1 then (if a1 < (t242.length : Int) then (some ((rd_T44 t242 a1).f0, (rd_T44 t242 a1).f1, true)) else (none)) else (none)))))) = some (r1, r2, r3) := h
 clear h
 by_cases c3 : a1 < 0
 ·rw [if_pos c3] at H
  have c3b0 : decide (a1 < 0) = true := decide_eq_true c3
  clear c3
  simp only [Option.some.injEq, Prod.mk.injEq] at H
  obtain ⟨rfl, rfl, rfl⟩ := H
  go_enter Try.func20, Try.ntmps20
  go_wp2_with (first | ((with_reducible refine We (N := 2) rfl ?_); refine Qy rfl (N := 2) rfl (cs := #[.int .i64 a0_0, .slice A0_1 l0_1.length c0_1]) (t := 25) ?hr ?_; (case hr => first | (go_simp; done) | (go_simp; rfl)); intro gb239 hg w4 hbox hb; have n0_ := Qa.mk (Ql (by repeat first | exact HB.out | apply Qc | apply Qb) hb); have n1_ := Qa.mk (hbox); have n2_ := Qa.mk ((by rw [hg]; exact (Qr (by repeat first | exact HB.out | apply Qc | apply Qb)) : w.heap.size <= gb239)); have n3_ := n2_; clear HB; have HB := n0_; have BK239 := n1_; have GW239 := n2_; have GE239 := n3_; clear n0_ n1_ n2_ n3_; clear hb hbox hg) | ((with_reducible refine We (N := 4) rfl ?_); refine Qy rfl (N := 4) rfl (cs := #[.int .i64 0, .int .i64 0]) (t := 44) ?hr ?_; (case hr => first | (go_simp; done) | (go_simp; rfl)); intro gb240 hg w5 hbox hb; have n0_ := Qa.mk (Qk (bK BK239.out) hb); have n1_ := Qa.mk (Ql (by repeat first | exact HB.out | with_reducible refine Qh ?_ ‹_› | apply Qc | apply Qb) hb); have n2_ := Qa.mk (hbox); have n3_ := Qa.mk ((by rw [hg]; exact (Qr (by repeat first | exact HB.out | with_reducible refine Qh ?_ ‹_› | apply Qc | apply Qb)) : w.heap.size <= gb240)); have n4_ := n3_; have n5_ := Qa.mk ((by rw [hg]; exact Nat.ne_of_lt (Wl (bK BK239.out)) : gb239 ≠ gb240)); have n6_ := Qa.mk ((by rw [hg]; exact Nat.ne_of_gt (Wl (bK BK239.out)) : gb240 ≠ gb239)); clear BK239; clear HB; have BK239 := n0_; have HB := n1_; have BK240 := n2_; have GW240 := n3_; have GE240 := n4_; have NB239_240 := n5_; have NB240_239 := n6_; clear n0_ n1_ n2_ n3_ n4_ n5_ n6_; clear hb hbox hg; have hnb6 := NB240_239.out; have hnc6 := NB239_240.out; have hcz7_0 : w5.cell? ⟨gb240, 0, none⟩ = some (.int .i64 0) := (Qe BK240.out 0).trans rfl; have hcz7_1 : w5.cell? ⟨gb240, 1, none⟩ = some (.int .i64 0) := (Qe BK240.out 1).trans rfl; have hfz7_0 := Qf BK240.out 0; have hfz7_1 := Qf BK240.out 1))
  refine bodyPost_ret (results_ct rfl _ _ gb240 44 #[.int .i64 0, .int .i64 0] (0, 0) _ rfl (by (with_reducible repeat apply Qd); refine Wm (cs := #[.int .i64 0, .int .i64 0]) ?_ 1 _ rfl; (with_reducible repeat apply Qd); refine Wm (cs := #[.int .i64 0, .int .i64 0]) ?_ 0 _ rfl; (with_reducible repeat apply Qd); exact BK240.out) Try.underlying44 rfl (by kernel_rfl)) rfl ?_
  exact ⟨by first | rfl | (simp [Qt, Qs] <;> rfl) | (simp [*, Qt, Qs] <;> rfl) | (exfalso; simp_all; done), by repeat first | exact HB.out | with_reducible refine Qh ?_ ‹_› | apply Qc | apply Qb⟩
 ·rw [if_neg c3] at H
  have c3b0 : decide (a1 < 0) = false := decide_eq_false c3
  clear c3
  replace H := Option.bind_eq_some_iff.mp H
  obtain ⟨t241, A80, H⟩ := H
  replace H : (if a1 >= t241 then (some (0, 0, false)) else ((Wt.f k a0_0 l0_1).bind fun t242 => (if 0 <= a1 then (if a1 < (t242.length : Int) then (some ((rd_T44 t242 a1).f0, (rd_T44 t242 a1).f1, true)) else (none)) else (none)))) = some (r1, r2, r3) := H
  have A8 := Qa.mk A80
  clear A80
  by_cases c9 : a1 >= t241
  ·rw [if_pos c9] at H
   have c9b0 : decide (t241 <= a1) = true := decide_eq_true c9
   clear c9
   simp only [Option.some.injEq, Prod.mk.injEq] at H
   obtain ⟨rfl, rfl, rfl⟩ := H
   go_enter Try.func20, Try.ntmps20
   go_wp2_with (first | ((with_reducible refine We (N := 2) rfl ?_); refine Qy rfl (N := 2) rfl (cs := #[.int .i64 a0_0, .slice A0_1 l0_1.length c0_1]) (t := 25) ?hr ?_; (case hr => first | (go_simp; done) | (go_simp; rfl)); intro gb239 hg w10 hbox hb; have n0_ := Qa.mk (Ql (by repeat first | exact HB.out | apply Qc | apply Qb) hb); have n1_ := Qa.mk (hbox); have n2_ := Qa.mk ((by rw [hg]; exact (Qr (by repeat first | exact HB.out | apply Qc | apply Qb)) : w.heap.size <= gb239)); have n3_ := n2_; clear HB; have HB := n0_; have BK239 := n1_; have GW239 := n2_; have GE239 := n3_; clear n0_ n1_ n2_ n3_; clear hb hbox hg) | ((with_reducible refine We (N := 4) rfl ?_); refine Qy rfl (N := 4) rfl (cs := #[.int .i64 0, .int .i64 0]) (t := 44) ?hr ?_; (case hr => first | (go_simp; done) | (go_simp; rfl)); intro gb240 hg w11 hbox hb; have n0_ := Qa.mk (Qk (bK BK239.out) hb); have n1_ := Qa.mk (Ql (by repeat first | exact HB.out | with_reducible refine Qh ?_ ‹_› | apply Qc | apply Qb) hb); have n2_ := Qa.mk (hbox); have n3_ := Qa.mk ((by rw [hg]; exact (Qr (by repeat first | exact HB.out | with_reducible refine Qh ?_ ‹_› | apply Qc | apply Qb)) : w.heap.size <= gb240)); have n4_ := n3_; have n5_ := Qa.mk ((by rw [hg]; exact Nat.ne_of_lt (Wl (bK BK239.out)) : gb239 ≠ gb240)); have n6_ := Qa.mk ((by rw [hg]; exact Nat.ne_of_gt (Wl (bK BK239.out)) : gb240 ≠ gb239)); clear BK239; clear HB; have BK239 := n0_; have HB := n1_; have BK240 := n2_; have GW240 := n3_; have GE240 := n4_; have NB239_240 := n5_; have NB240_239 := n6_; clear n0_ n1_ n2_ n3_ n4_ n5_ n6_; clear hb hbox hg; have hnb12 := NB239_240.out; have hnc12 := NB240_239.out; have hcz13_0 : w11.cell? ⟨gb239, 0, none⟩ = some (.int .i64 a0_0) := (Qe BK239.out 0).trans rfl; have hcz13_1 : w11.cell? ⟨gb239, 1, none⟩ = some (.slice A0_1 l0_1.length c0_1) := (Qe BK239.out 1).trans rfl; have hfz13_0 := Qf BK239.out 0; have hfz13_1 := Qf BK239.out 1) | (go_at_call 33; (with_reducible refine (Xb.calls k a0_0 _ _ l0_1 t241 _ ?side1 ?side2 A8.out).mono ?_); (case side1 => repeat (first | exact (Kd.Zi HR0_1.out HB.out) | (with_reducible refine Kd.Zm ?_ _) | (with_reducible refine Kd.Zl ?_ _) | (with_reducible refine Kd.Yb ?_))); (case side2 => exact HC0_1.out); rintro e w14 ⟨rfl, hb⟩; have n0_ := Qa.mk (Qk (bK BK239.out) hb); have n1_ := Qa.mk (Qk (bK BK240.out) hb); have n2_ := Qa.mk (Ql (by repeat first | exact HB.out | with_reducible refine Qh ?_ ‹_› | apply Qc | apply Qb) hb); clear BK239; clear BK240; clear HB; have BK239 := n0_; have BK240 := n1_; have HB := n2_; clear n0_ n1_ n2_; (try clear hb); (try clear hb2); (try clear hk); (try clear hi); have hcz15_0 : w14.cell? ⟨gb240, 0, none⟩ = some (.int .i64 0) := (Qe BK240.out 0).trans rfl; have hcz15_1 : w14.cell? ⟨gb240, 1, none⟩ = some (.int .i64 0) := (Qe BK240.out 1).trans rfl; have hfz15_0 := Qf BK240.out 0; have hfz15_1 := Qf BK240.out 1))
   refine bodyPost_ret (results_ct rfl _ _ gb240 44 #[.int .i64 0, .int .i64 0] (0, 0) _ rfl (by (with_reducible repeat apply Qd); refine Wm (cs := #[.int .i64 0, .int .i64 0]) ?_ 1 _ rfl; (with_reducible repeat apply Qd); refine Wm (cs := #[.int .i64 0, .int .i64 0]) ?_ 0 _ rfl; (with_reducible repeat apply Qd); exact BK240.out) Try.underlying44 rfl (by kernel_rfl)) rfl ?_
   exact ⟨by first | rfl | (simp [Qt, Qs] <;> rfl) | (simp [*, Qt, Qs] <;> rfl) | (exfalso; simp_all; done), by repeat first | exact HB.out | with_reducible refine Qh ?_ ‹_› | apply Qc | apply Qb⟩
  ·rw [if_neg c9] at H
   have c9b0 : decide (t241 <= a1) = false := decide_eq_false c9
   clear c9
   replace H := Option.bind_eq_some_iff.mp H
   obtain ⟨t242, A160, H⟩ := H
   replace H : (if 0 <= a1 then (if a1 < (t242.length : Int) then (some ((rd_T44 t242 a1).f0, (rd_T44 t242 a1).f1, true)) else (none)) else (none)) = some (r1, r2, r3) := H
   have A16 := Qa.mk A160
   clear A160
   by_cases c17 : 0 <= a1
   ·rw [if_pos c17] at H
    have c17b0 : decide (0 <= a1) = true := decide_eq_true c17
    clear c17
    by_cases c18 : a1 < (t242.length : Int)
    ·rw [if_pos c18] at H
     have c18b0 : decide (a1 < (t242.length : Int)) = true := decide_eq_true c18
     clear c18
     simp only [Option.some.injEq, Prod.mk.injEq] at H
     obtain ⟨rfl, rfl, rfl⟩ := H
     go_enter Try.func20, Try.ntmps20
     go_wp2_with (first | ((with_reducible refine We (N := 2) rfl ?_); refine Qy rfl (N := 2) rfl (cs := #[.int .i64 a0_0, .slice A0_1 l0_1.length c0_1]) (t := 25) ?hr ?_; (case hr => first | (go_simp; done) | (go_simp; rfl)); intro gb239 hg w19 hbox hb; have n0_ := Qa.mk (Ql (by repeat first | exact HB.out | apply Qc | apply Qb) hb); have n1_ := Qa.mk (hbox); have n2_ := Qa.mk ((by rw [hg]; exact (Qr (by repeat first | exact HB.out | apply Qc | apply Qb)) : w.heap.size <= gb239)); have n3_ := n2_; clear HB; have HB := n0_; have BK239 := n1_; have GW239 := n2_; have GE239 := n3_; clear n0_ n1_ n2_ n3_; clear hb hbox hg) | ((with_reducible refine We (N := 4) rfl ?_); refine Qy rfl (N := 4) rfl (cs := #[.int .i64 0, .int .i64 0]) (t := 44) ?hr ?_; (case hr => first | (go_simp; done) | (go_simp; rfl)); intro gb240 hg w20 hbox hb; have n0_ := Qa.mk (Qk (bK BK239.out) hb); have n1_ := Qa.mk (Ql (by repeat first | exact HB.out | with_reducible refine Qh ?_ ‹_› | apply Qc | apply Qb) hb); have n2_ := Qa.mk (hbox); have n3_ := Qa.mk ((by rw [hg]; exact (Qr (by repeat first | exact HB.out | with_reducible refine Qh ?_ ‹_› | apply Qc | apply Qb)) : w.heap.size <= gb240)); have n4_ := n3_; have n5_ := Qa.mk ((by rw [hg]; exact Nat.ne_of_lt (Wl (bK BK239.out)) : gb239 ≠ gb240)); have n6_ := Qa.mk ((by rw [hg]; exact Nat.ne_of_gt (Wl (bK BK239.out)) : gb240 ≠ gb239)); clear BK239; clear HB; have BK239 := n0_; have HB := n1_; have BK240 := n2_; have GW240 := n3_; have GE240 := n4_; have NB239_240 := n5_; have NB240_239 := n6_; clear n0_ n1_ n2_ n3_ n4_ n5_ n6_; clear hb hbox hg; have hnb21 := NB239_240.out; have hnc21 := NB240_239.out; have hcz22_0 : w20.cell? ⟨gb239, 0, none⟩ = some (.int .i64 a0_0) := (Qe BK239.out 0).trans rfl; have hcz22_1 : w20.cell? ⟨gb239, 1, none⟩ = some (.slice A0_1 l0_1.length c0_1) := (Qe BK239.out 1).trans rfl; have hfz22_0 := Qf BK239.out 0; have hfz22_1 := Qf BK239.out 1) | (go_at_call 33; (with_reducible refine (Xb.calls k a0_0 _ _ l0_1 t241 _ ?side1 ?side2 A8.out).mono ?_); (case side1 => repeat (first | exact (Kd.Zi HR0_1.out HB.out) | (with_reducible refine Kd.Zm ?_ _) | (with_reducible refine Kd.Zl ?_ _) | (with_reducible refine Kd.Yb ?_))); (case side2 => exact HC0_1.out); rintro e w23 ⟨rfl, hb⟩; have n0_ := Qa.mk (Qk (bK BK239.out) hb); have n1_ := Qa.mk (Qk (bK BK240.out) hb); have n2_ := Qa.mk (Ql (by repeat first | exact HB.out | with_reducible refine Qh ?_ ‹_› | apply Qc | apply Qb) hb); clear BK239; clear BK240; clear HB; have BK239 := n0_; have BK240 := n1_; have HB := n2_; clear n0_ n1_ n2_; (try clear hb); (try clear hb2); (try clear hk); (try clear hi); have hcz24_0 : w23.cell? ⟨gb239, 0, none⟩ = some (.int .i64 a0_0) := (Qe BK239.out 0).trans rfl; have hcz24_1 : w23.cell? ⟨gb239, 1, none⟩ = some (.slice A0_1 l0_1.length c0_1) := (Qe BK239.out 1).trans rfl; have hfz24_0 := Qf BK239.out 0; have hfz24_1 := Qf BK239.out 1) | ((with_reducible refine Wi (f := 34) rfl ?_); refine Zu (some 17) rfl rfl Try.func34 (by kernel_rfl) rfl #[.agg #[.int .i64 a0_0, .slice A0_1 l0_1.length c0_1], .func (.func 35) #[] #[]] rfl (by first | rfl | (simp only [List.map_toArray, List.map_cons, List.map_nil, List.length_drop, List.length_take]; try rfl)) ?_; (with_reducible refine (Wt.calls k a0_0 _ _ l0_1  t242 _ ?side1 ?side2 A16.out).mono ?_); (case side1 => repeat (first | exact (Kd.Zi HR0_1.out HB.out) | (with_reducible refine Kd.Zm ?_ _) | (with_reducible refine Kd.Zl ?_ _) | (with_reducible refine Kd.Yb ?_))); (case side2 => exact HC0_1.out); rintro e w25 ⟨v243, rfl, ho0, hb⟩; refine ⟨_, rfl, ?_⟩; have n0_ := Qa.mk (Kd.Yy (Kd.R_newB ho0 (g := gb240) (o := .cells #[.int .i64 0, .int .i64 0] 44 (0, 0)) (bK BK240.out)) (Qr (by repeat first | exact HB.out | with_reducible refine Qh ?_ ‹_› | apply Qc | apply Qb))); have n1_ := Qa.mk (Qk (bK BK239.out) hb); have n2_ := Qa.mk (Qk (bK BK240.out) hb); have n3_ := Qa.mk (Ql (by repeat first | exact HB.out | with_reducible refine Qh ?_ ‹_› | apply Qc | apply Qb) hb); clear BK239; clear BK240; clear HB; have HO244 := n0_; have BK239 := n1_; have BK240 := n2_; have HB := n3_; clear n0_ n1_ n2_ n3_; (try clear hb); (try clear hb2); (try clear hk); (try clear hi); (try clear ho0); obtain ⟨Ao26, co26, eo26⟩ := Kd.Zk HO244.out; subst eo26; have p245 : 0 <= (a1 : Int) := of_decide_eq_true (by first | (with_reducible assumption) | assumption); have q245 : a1 < (t242.length : Int) := of_decide_eq_true (by first | (with_reducible assumption) | assumption); obtain ⟨ad245, e245, hx245_0, hx245_1⟩ := at_T44 (Kd.R_reads' HO244.out).2.2 a1 p245 q245; cases e245; replace p245 := eq_true p245; replace q245 := eq_true q245; have hcz27_0 : w25.cell? ⟨gb240, 0, none⟩ = some (.int .i64 0) := (Qe BK240.out 0).trans rfl; have hcz27_1 : w25.cell? ⟨gb240, 1, none⟩ = some (.int .i64 0) := (Qe BK240.out 1).trans rfl; have hfz27_0 := Qf BK240.out 0; have hfz27_1 := Qf BK240.out 1))
     refine bodyPost_ret (results_ct rfl _ _ gb240 44 #[.int .i64 ((rd_T44 t242 a1).f0), .int .i64 ((rd_T44 t242 a1).f1)] (0, 0) _ rfl (by (with_reducible repeat apply Qd); refine Wm (cs := #[.int .i64 ((rd_T44 t242 a1).f0), .int .i64 0]) ?_ 1 _ rfl; (with_reducible repeat apply Qd); refine Wm (cs := #[.int .i64 0, .int .i64 0]) ?_ 0 _ rfl; (with_reducible repeat apply Qd); exact BK240.out) Try.underlying44 rfl (by kernel_rfl)) rfl ?_
     exact ⟨by first | rfl | (simp [Qt, Qs] <;> rfl) | (simp [*, Qt, Qs] <;> rfl) | (exfalso; simp_all; done), by repeat first | exact HB.out | with_reducible refine Qh ?_ ‹_› | apply Qc | apply Qb⟩
    ·rw [if_neg c18] at H
     exact absurd H (by simp)
   ·rw [if_neg c17] at H
    exact absurd H (by simp)
end Go.Proofs.Yteapnipnoadejaa.P
