/- PROVED: contracts of functions; No condition. -/
import Derived.Test.YteapnipnoadejaaPx0
import Derived.Test.YteapnipnoadejaaPx36
namespace Go.Proofs.Yteapnipnoadejaa.P
open Go.RowKit Go.Proofs.YteapnipnoadejaaW
set_option linter.unusedVariables false
set_option linter.unusedSimpArgs false
def Yt.f (k : Nat) (a0_0 : Int) (l0_1 : List (S42)) (a1 : Int) : Option ((List (S34))) := (Wj.f k a0_0 l0_1 a1).bind fun bt297 => (some bt297.1)
set_option maxHeartbeats 8000000 in
set_option maxRecDepth 100000 in
theorem Yt.calls (k : Nat) (a0_0 : Int) (A0_1 : Option Addr) (c0_1 : Nat) (l0_1 : List (S42)) (a1 : Int) (r : List (S34)) (w : World) (hr0_1 : Kd.C k42 w A0_1 l0_1.length l0_1) (hc0_1 : l0_1.length <= c0_1) (h : Yt.f k a0_0 l0_1 a1 = some r) :
    Calls Try.prog 11 #[.agg #[.int .i64 a0_0, .slice A0_1 l0_1.length c0_1], .int .i64 a1] w fun e w' => ∃ v0_ : Value, e = .returned (v0_) ∧ Kd.R k34 34 w' w.heap.size (fun _ => True) v0_ r ∧ Below w.heap.size w w' := by
  have hu25 := Try.underlying25
  have hutr_ := Try.underlying55
  have hfd0_ : ∀ (A1 A2 : Option Addr) (n1 c1 n2 c2 : Nat) (W : World), (Instr.field 55 (.agg #[.slice A1 n1 c1, .slice A2 n2 c2]) 0).run Try.prog W = .ok (.slice A1 n1 c1) W := fun A1 A2 n1 c1 n2 c2 W => by simp [Instr.field, go_sem, hutr_, asAgg]
  have hfd1_ : ∀ (A1 A2 : Option Addr) (n1 c1 n2 c2 : Nat) (W : World), (Instr.field 55 (.agg #[.slice A1 n1 c1, .slice A2 n2 c2]) 1).run Try.prog W = .ok (.slice A2 n2 c2) W := fun A1 A2 n1 c1 n2 c2 W => by simp [Instr.field, go_sem, hutr_, asAgg]
  have HR0_1 := Qa.mk hr0_1
  have HC0_1 := Qa.mk hc0_1
  clear hr0_1 hc0_1
  have HB := Qa.mk (Below.refl w.heap.size w)
  have H : ((Wj.f k a0_0 l0_1 a1).bind fun bt297 => (some bt297.1)) = some r := h
  clear h
  replace H := Option.bind_eq_some_iff.mp H
  obtain ⟨⟨t297, t300⟩, A30, H⟩ := H
  replace H : (some t297) = some r := H
  have A3 := Qa.mk A30
  clear A30
  obtain rfl := Option.some.inj H
  go_enter Try.func11, Try.ntmps11
  go_wp2_with (first | ((with_reducible refine We (N := 2) rfl ?_); refine Qy rfl (N := 2) rfl (cs := #[.int .i64 a0_0, .slice A0_1 l0_1.length c0_1]) (t := 25) ?hr ?_; (case hr => first | (go_simp; done) | (go_simp; rfl)); intro gb296 hg w4 hbox hb; have n0_ := Qa.mk (Ql (by repeat first | exact HB.out | apply Qc | apply Qb) hb); have n1_ := Qa.mk (hbox); have n2_ := Qa.mk ((by rw [hg]; exact (Qr (by repeat first | exact HB.out | apply Qc | apply Qb)) : w.heap.size <= gb296)); have n3_ := n2_; clear HB; have HB := n0_; have BK296 := n1_; have GW296 := n2_; have GE296 := n3_; clear n0_ n1_ n2_ n3_; clear hb hbox hg; have hcz5_0 : w4.cell? ⟨gb296, 0, none⟩ = some (.int .i64 a0_0) := (Qe BK296.out 0).trans rfl; have hcz5_1 : w4.cell? ⟨gb296, 1, none⟩ = some (.slice A0_1 l0_1.length c0_1) := (Qe BK296.out 1).trans rfl; have hfz5_0 := Qf BK296.out 0; have hfz5_1 := Qf BK296.out 1) | ((with_reducible refine Wi (f := 28) rfl ?_); refine Zu (some 7) rfl rfl Try.func28 (by kernel_rfl) rfl #[.agg #[.int .i64 a0_0, .slice A0_1 l0_1.length c0_1], .int .i64 a1] rfl (by first | rfl | (simp only [List.map_toArray, List.map_cons, List.map_nil, List.length_drop, List.length_take]; try rfl)) ?_; (with_reducible refine (Wj.calls k a0_0 _ _ l0_1 a1 t297 t300 _ ?side1 ?side2 A3.out).mono ?_); (case side1 => repeat (first | exact (Kd.Zi HR0_1.out HB.out) | (with_reducible refine Kd.Zm ?_ _) | (with_reducible refine Kd.Zl ?_ _) | (with_reducible refine Kd.Yb ?_))); (case side2 => exact HC0_1.out); rintro e w6 ⟨v298, v301, rfl, ho0, ho1, hb⟩; refine ⟨_, rfl, ?_⟩; have n0_ := Qa.mk (Kd.Yy ho0 (Qr (by repeat first | exact HB.out | with_reducible refine Qh ?_ ‹_› | apply Qc | apply Qb))); have n1_ := Qa.mk (Kd.Yy ho1 (Qr (by repeat first | exact HB.out | with_reducible refine Qh ?_ ‹_› | apply Qc | apply Qb))); have n2_ := Qa.mk (Qk (g := gb296) (o := .cells #[.int .i64 a0_0, .slice A0_1 l0_1.length c0_1] 25 (0, 0)) (by (with_reducible repeat apply Qd); exact BK296.out) hb); have n3_ := Qa.mk (Ql (by repeat first | exact HB.out | with_reducible refine Qh ?_ ‹_› | apply Qc | apply Qb) hb); clear BK296; clear HB; have HO299 := n0_; have HO302 := n1_; have BK296 := n2_; have HB := n3_; clear n0_ n1_ n2_ n3_; obtain ⟨Axx299_, cxx299_, exx299_⟩ := Kd.Zk HO299.out; subst exx299_; obtain ⟨Axx302_, cxx302_, exx302_⟩ := Kd.Zk HO302.out; subst exx302_; (try clear hb); (try clear hb2); (try clear hk); (try clear hi); (try clear ho0); (try clear ho1)))
  go_ret
  exact ⟨_, by first | rfl | (simp [Qt, Qs] <;> rfl) | (simp [*, Qt, Qs] <;> rfl) | (exfalso; simp_all; done), by (with_reducible repeat apply Kd.Wo); exact HO299.out, by repeat first | exact HB.out | with_reducible refine Qh ?_ ‹_› | apply Qc | apply Qb⟩
end Go.Proofs.Yteapnipnoadejaa.P
