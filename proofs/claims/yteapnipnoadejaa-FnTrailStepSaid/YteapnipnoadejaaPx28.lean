/- PROVED: contracts of functions; No condition. -/
import Derived.Test.YteapnipnoadejaaPx0
import Derived.Test.YteapnipnoadejaaPx27
import Derived.Test.YteapnipnoadejaaPx31
namespace Go.Proofs.Yteapnipnoadejaa.P
open Go.RowKit Go.Proofs.YteapnipnoadejaaW
set_option linter.unusedVariables false
set_option linter.unusedSimpArgs false
def Xb.f (k : Nat) (a0_0 : Int) (l0_1 : List (S42)) : Option (Int) := (Wq.f k a0_0 l0_1).bind fun t210 => (if t210 = true then ((Yj.f a0_0 l0_1).bind fun t211 => (some (wrap64 (2 * (wrap64 (a0_0 + t211)))))) else (some 0))
set_option maxHeartbeats 8000000 in
set_option maxRecDepth 100000 in
theorem Xb.calls (k : Nat) (a0_0 : Int) (A0_1 : Option Addr) (c0_1 : Nat) (l0_1 : List (S42)) (r : Int) (w : World) (hr0_1 : Kd.C k42 w A0_1 l0_1.length l0_1) (hc0_1 : l0_1.length <= c0_1) (h : Xb.f k a0_0 l0_1 = some r) :
    Calls Try.prog 33 #[.agg #[.int .i64 a0_0, .slice A0_1 l0_1.length c0_1]] w fun e w' => e = .returned (.int .i64 r) ∧ Below w.heap.size w w' := by
  have hu25 := Try.underlying25
  have HR0_1 := Qa.mk hr0_1
  have HC0_1 := Qa.mk hc0_1
  clear hr0_1 hc0_1
  have HB := Qa.mk (Below.refl w.heap.size w)
  have H : ((Wq.f k a0_0 l0_1).bind fun t210 => (if t210 = true then ((Yj.f a0_0 l0_1).bind fun t211 => (some (wrap64 (2 * (wrap64 (a0_0 + t211)))))) else (some 0))) = some r := h
  clear h
  replace H := Option.bind_eq_some_iff.mp H
  obtain ⟨t210, A20, H⟩ := H
  replace H : (if t210 = true then ((Yj.f a0_0 l0_1).bind fun t211 => (some (wrap64 (2 * (wrap64 (a0_0 + t211)))))) else (some 0)) = some r := H
  have A2 := Qa.mk A20
  clear A20
  by_cases c3 : t210 = true
  · subst c3
    have H1 : ((Yj.f a0_0 l0_1).bind fun t211 => (some (wrap64 (2 * (wrap64 (a0_0 + t211)))))) = some r := by rw [if_pos rfl] at H; exact H
    clear H
    have H := H1
    clear H1
    replace H := Option.bind_eq_some_iff.mp H
    obtain ⟨t211, A40, H⟩ := H
    replace H : (some (wrap64 (2 * (wrap64 (a0_0 + t211))))) = some r := H
    have A4 := Qa.mk A40
    clear A40
    obtain rfl := Option.some.inj H
    go_enter Try.func33, Try.ntmps33
    try go_wp2_with (first | ((with_reducible refine We (N := 1) rfl ?_); refine Qy rfl (N := 1) rfl (cs := #[.int .i64 a0_0, .slice A0_1 l0_1.length c0_1]) (t := 25) ?hr ?_; (case hr => first | (go_simp; done) | (go_simp; rfl)); intro gb209 hg w5 hbox hb; have n0_ := Qa.mk (Ql (by repeat first | exact HB.out | apply Qc | apply Qb) hb); have n1_ := Qa.mk (hbox); have n2_ := Qa.mk ((by rw [hg]; exact (Qr (by repeat first | exact HB.out | apply Qc | apply Qb)) : w.heap.size <= gb209)); have n3_ := n2_; clear HB; have HB := n0_; have BK209 := n1_; have GW209 := n2_; have GE209 := n3_; clear n0_ n1_ n2_ n3_; clear hb hbox hg; have hcz6_0 : w5.cell? ⟨gb209, 0, none⟩ = some (.int .i64 a0_0) := (Qe BK209.out 0).trans rfl; have hcz6_1 : w5.cell? ⟨gb209, 1, none⟩ = some (.slice A0_1 l0_1.length c0_1) := (Qe BK209.out 1).trans rfl; have hfz6_0 := Qf BK209.out 0; have hfz6_1 := Qf BK209.out 1) | ((with_reducible refine Wi (f := 36) rfl ?_); refine Zu (some 4) rfl rfl Try.func36 (by kernel_rfl) rfl #[.agg #[.int .i64 a0_0, .slice A0_1 l0_1.length c0_1]] rfl (by first | rfl | (simp only [List.map_toArray, List.map_cons, List.map_nil, List.length_drop, List.length_take]; try rfl)) ?_; (with_reducible refine (Wq.calls k a0_0 _ _ l0_1 true _ ?side1 ?side2 A2.out).mono ?_); (case side1 => repeat (first | exact (Kd.Zi HR0_1.out HB.out) | (with_reducible refine Kd.Zm ?_ _) | (with_reducible refine Kd.Zl ?_ _) | (with_reducible refine Kd.Yb ?_))); (case side2 => exact HC0_1.out); rintro e w7 ⟨rfl, hb⟩; refine ⟨_, rfl, ?_⟩; have n0_ := Qa.mk (Qk (g := gb209) (o := .cells #[.int .i64 a0_0, .slice A0_1 l0_1.length c0_1] 25 (0, 0)) (by (with_reducible repeat apply Qd); exact BK209.out) hb); have n1_ := Qa.mk (Ql (by repeat first | exact HB.out | with_reducible refine Qh ?_ ‹_› | apply Qc | apply Qb) hb); clear BK209; clear HB; have BK209 := n0_; have HB := n1_; clear n0_ n1_; (try clear hb); (try clear hb2); (try clear hk); (try clear hi)))
    have n0_ := Qa.mk (Ye BK209.out)
    have n1_ := Qa.mk (Qq HB.out)
    clear BK209
    clear HB
    have BK209 := n0_
    have HB := n1_
    clear n0_ n1_
    refine start_ (n := 7) (S := fun w' => w'.cell? ⟨gb209, 0, none⟩ = some (.int .i64 a0_0) ∧ w'.cell? ⟨gb209, 1, none⟩ = some (.slice A0_1 l0_1.length c0_1)) (ds := []) #[false, false, false, false, false, false, false] (by kernel_rfl) rfl rfl ⟨(Qe BK209.out 0).trans rfl, (Qe BK209.out 1).trans rfl⟩ (fun hHeld => ?_)
    generalize w7.drew = w8 at BK209 HB hHeld ⊢
    refine Zt (i := 0) (N := some 6) (v := ?_) (a' := ?_) #[true, false, false, false, false, false, false] rfl rfl (by kernel_rfl) (fun _ _ _ h => h) (Or.inl ⟨by rfl, ?_⟩) ?_ ?_
    rotate_left
    · intro w'
      go_simp
      with_reducible rfl
    rotate_left
    · simp only [Act.put, sA_, sZ_, sS_, Wp, Ws]
      rfl
    refine Xt (i := 1) (N := some 7) (v := ?_) (a' := ?_) #[true, true, false, false, false, false, false] rfl rfl (by kernel_rfl) (fun _ _ _ h => h) (Or.inl ⟨by rfl, ?_⟩) hHeld ?_ ?_
    rotate_left
    · rintro w' ⟨s0, s1⟩
      go_simp
      with_reducible rfl
    rotate_left
    · simp only [Act.put, sA_, sZ_, sS_, Wp, Ws]
      rfl
    refine Xt (i := 2) (N := some 8) (v := ?_) (a' := ?_) #[true, true, true, false, false, false, false] rfl rfl (by kernel_rfl) (fun _ _ _ h => h) (Or.inl ⟨by rfl, ?_⟩) hHeld ?_ ?_
    rotate_left
    · rintro w' ⟨s0, s1⟩
      go_simp
      with_reducible rfl
    rotate_left
    · simp only [Act.put, sA_, sZ_, sS_, Wp, Ws]
      rfl
    refine one_ (i := 3) (N := some 9) #[true, true, true, true, false, false, false] rfl rfl (by kernel_rfl) (by decide) (fun K hK => ?_)
    refine goes_ Try.func52 (by kernel_rfl) rfl #[.agg #[.int .i64 a0_0, .slice A0_1 l0_1.length c0_1]] (by rfl) rfl rfl (by first | rfl | (simp only [List.map_toArray, List.map_cons, List.map_nil, List.length_drop, List.length_take]; try rfl)) ?_
    with_reducible refine (Yj.calls a0_0 _ _ l0_1 t211 _ ?side1 ?side2 A4.out).mono ?_
    (case side1 => repeat (first | exact (Kd.Zi HR0_1.out HB.out) | (with_reducible refine Kd.Zm ?_ _) | (with_reducible refine Kd.Zl ?_ _) | (with_reducible refine Kd.Yb ?_)))
    (case side2 => exact HC0_1.out)
    rintro e w9 ⟨rfl, hb⟩
    refine ⟨_, rfl, ?_⟩
    have n0_ := Qa.mk (Qk (g := gb209) (o := .cells #[.int .i64 a0_0, .slice A0_1 l0_1.length c0_1] 25 (0, 0)) (by (with_reducible repeat apply Qd); exact BK209.out) hb)
    have n1_ := Qa.mk (Ql (by repeat first | exact HB.out | with_reducible refine Qh ?_ ‹_› | apply Qc | apply Qb) hb)
    clear BK209
    clear HB
    have BK209 := n0_
    have HB := n1_
    clear n0_ n1_
    (try clear hb)
    (try clear hb2)
    (try clear hk)
    (try clear hi)
    refine hK.out _ _ ⟨(Qe BK209.out 0).trans rfl, (Qe BK209.out 1).trans rfl⟩ (fun hHeld => ?_)
    clear hK K
    refine Xp (a' := ?_) ?_ ?_
    rotate_left
    · show Act.put _ (some 9) _ = _
      simp only [Act.put, sA_, sZ_, sS_, Wp, Ws]
      rfl
    refine Zt (i := 4) (N := some 10) (v := ?_) (a' := ?_) #[true, true, true, true, true, false, false] rfl rfl (by kernel_rfl) (fun _ _ _ h => h) (Or.inl ⟨by rfl, ?_⟩) ?_ ?_
    rotate_left
    · intro w'
      go_simp
      with_reducible rfl
    rotate_left
    · simp only [Act.put, sA_, sZ_, sS_, Wp, Ws]
      rfl
    refine Zt (i := 5) (N := some 11) (v := ?_) (a' := ?_) #[true, true, true, true, true, true, false] rfl rfl (by kernel_rfl) (fun _ _ _ h => h) (Or.inl ⟨by rfl, ?_⟩) ?_ ?_
    rotate_left
    · intro w'
      go_simp
      with_reducible rfl
    rotate_left
    · simp only [Act.put, sA_, sZ_, sS_, Wp, Ws]
      rfl
    refine Zt (i := 6) (N := some 2) (v := ?_) (a' := ?_) #[true, true, true, true, true, true, true] rfl rfl (by kernel_rfl) (fun _ _ _ h => h) (Or.inl ⟨by rfl, ?_⟩) ?_ ?_
    rotate_left
    · intro w'
      go_simp
      with_reducible rfl
    rotate_left
    · simp only [Act.put, sA_, sZ_, sS_, Wp, Ws]
      rfl
    refine done_ (by kernel_rfl) ?_
    try go_wp2
    go_ret
    exact ⟨by first | rfl | (simp [Qt, Qs] <;> rfl) | (simp [*, Qt, Qs] <;> rfl) | (exfalso; simp_all; done), by repeat first | exact HB.out | with_reducible refine Qh ?_ ‹_› | apply Qc | apply Qb⟩
  · replace c3 := Bool.eq_false_iff.mpr c3
    subst c3
    have H1 : (some 0) = some r := by rw [if_neg (show ¬ (false = true) by decide)] at H; exact H
    clear H
    have H := H1
    clear H1
    obtain rfl := Option.some.inj H
    go_enter Try.func33, Try.ntmps33
    go_wp2_with (first | ((with_reducible refine We (N := 1) rfl ?_); refine Qy rfl (N := 1) rfl (cs := #[.int .i64 a0_0, .slice A0_1 l0_1.length c0_1]) (t := 25) ?hr ?_; (case hr => first | (go_simp; done) | (go_simp; rfl)); intro gb209 hg w10 hbox hb; have n0_ := Qa.mk (Ql (by repeat first | exact HB.out | apply Qc | apply Qb) hb); have n1_ := Qa.mk (hbox); have n2_ := Qa.mk ((by rw [hg]; exact (Qr (by repeat first | exact HB.out | apply Qc | apply Qb)) : w.heap.size <= gb209)); have n3_ := n2_; clear HB; have HB := n0_; have BK209 := n1_; have GW209 := n2_; have GE209 := n3_; clear n0_ n1_ n2_ n3_; clear hb hbox hg; have hcz11_0 : w10.cell? ⟨gb209, 0, none⟩ = some (.int .i64 a0_0) := (Qe BK209.out 0).trans rfl; have hcz11_1 : w10.cell? ⟨gb209, 1, none⟩ = some (.slice A0_1 l0_1.length c0_1) := (Qe BK209.out 1).trans rfl; have hfz11_0 := Qf BK209.out 0; have hfz11_1 := Qf BK209.out 1) | ((with_reducible refine Wi (f := 36) rfl ?_); refine Zu (some 4) rfl rfl Try.func36 (by kernel_rfl) rfl #[.agg #[.int .i64 a0_0, .slice A0_1 l0_1.length c0_1]] rfl (by first | rfl | (simp only [List.map_toArray, List.map_cons, List.map_nil, List.length_drop, List.length_take]; try rfl)) ?_; (with_reducible refine (Wq.calls k a0_0 _ _ l0_1 false _ ?side1 ?side2 A2.out).mono ?_); (case side1 => repeat (first | exact (Kd.Zi HR0_1.out HB.out) | (with_reducible refine Kd.Zm ?_ _) | (with_reducible refine Kd.Zl ?_ _) | (with_reducible refine Kd.Yb ?_))); (case side2 => exact HC0_1.out); rintro e w12 ⟨rfl, hb⟩; refine ⟨_, rfl, ?_⟩; have n0_ := Qa.mk (Qk (g := gb209) (o := .cells #[.int .i64 a0_0, .slice A0_1 l0_1.length c0_1] 25 (0, 0)) (by (with_reducible repeat apply Qd); exact BK209.out) hb); have n1_ := Qa.mk (Ql (by repeat first | exact HB.out | with_reducible refine Qh ?_ ‹_› | apply Qc | apply Qb) hb); clear BK209; clear HB; have BK209 := n0_; have HB := n1_; clear n0_ n1_; (try clear hb); (try clear hb2); (try clear hk); (try clear hi)))
    go_ret
    exact ⟨by first | rfl | (simp [Qt, Qs] <;> rfl) | (simp [*, Qt, Qs] <;> rfl) | (exfalso; simp_all; done), by repeat first | exact HB.out | with_reducible refine Qh ?_ ‹_› | apply Qc | apply Qb⟩
end Go.Proofs.Yteapnipnoadejaa.P
