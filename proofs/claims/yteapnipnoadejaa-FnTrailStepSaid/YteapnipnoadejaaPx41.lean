/- PROVED: contracts of functions; No condition. -/
import Derived.Test.YteapnipnoadejaaPx0
import Derived.Test.YteapnipnoadejaaPx20
namespace Go.Proofs.Yteapnipnoadejaa.P
open Go.RowKit Go.Proofs.YteapnipnoadejaaW
set_option linter.unusedVariables false
set_option linter.unusedSimpArgs false
def Yr.f (k : Nat) (a0_0 : Int) (l0_1 : List (S42)) (a1 : Int) : Option (Bool) := if a1 >= 0 then ((Yp.f k a0_0 l0_1).bind fun t337 => (some (decide (a1 < t337)))) else (some false)
set_option maxHeartbeats 8000000 in
set_option maxRecDepth 100000 in
theorem Yr.calls (k : Nat) (a0_0 : Int) (A0_1 : Option Addr) (c0_1 : Nat) (l0_1 : List (S42)) (a1 : Int) (r : Bool) (w : World) (hr0_1 : Kd.C k42 w A0_1 l0_1.length l0_1) (hc0_1 : l0_1.length <= c0_1) (h : Yr.f k a0_0 l0_1 a1 = some r) :
    Calls Try.prog 14 #[.agg #[.int .i64 a0_0, .slice A0_1 l0_1.length c0_1], .int .i64 a1] w fun e w' => e = .returned (.bool r) ∧ Below w.heap.size w w' := by
  have hu25 := Try.underlying25
  have HR0_1 := Qa.mk hr0_1
  have HC0_1 := Qa.mk hc0_1
  clear hr0_1 hc0_1
  have HB := Qa.mk (Below.refl w.heap.size w)
  have H : (if a1 >= 0 then ((Yp.f k a0_0 l0_1).bind fun t337 => (some (decide (a1 < t337)))) else (some false)) = some r := h
  clear h
  by_cases c3 : a1 >= 0
  · rw [if_pos c3] at H
    have c3b0 : decide (0 <= a1) = true := decide_eq_true c3
    clear c3
    replace H := Option.bind_eq_some_iff.mp H
    obtain ⟨t337, A40, H⟩ := H
    replace H : (some (decide (a1 < t337))) = some r := H
    have A4 := Qa.mk A40
    clear A40
    obtain rfl := Option.some.inj H
    go_enter Try.func14, Try.ntmps14
    go_wp2_with (first | ((with_reducible refine We (N := 2) rfl ?_); refine Qy rfl (N := 2) rfl (cs := #[.int .i64 a0_0, .slice A0_1 l0_1.length c0_1]) (t := 25) ?hr ?_; (case hr => first | (go_simp; done) | (go_simp; rfl)); intro gb336 hg w5 hbox hb; have n0_ := Qa.mk (Ql (by repeat first | exact HB.out | apply Qc | apply Qb) hb); have n1_ := Qa.mk (hbox); have n2_ := Qa.mk ((by rw [hg]; exact (Qr (by repeat first | exact HB.out | apply Qc | apply Qb)) : w.heap.size <= gb336)); have n3_ := n2_; clear HB; have HB := n0_; have BK336 := n1_; have GW336 := n2_; have GE336 := n3_; clear n0_ n1_ n2_ n3_; clear hb hbox hg; have hcz6_0 : w5.cell? ⟨gb336, 0, none⟩ = some (.int .i64 a0_0) := (Qe BK336.out 0).trans rfl; have hcz6_1 : w5.cell? ⟨gb336, 1, none⟩ = some (.slice A0_1 l0_1.length c0_1) := (Qe BK336.out 1).trans rfl; have hfz6_0 := Qf BK336.out 0; have hfz6_1 := Qf BK336.out 1) | (go_at_call 31; (with_reducible refine (Yp.calls k a0_0 _ _ l0_1 t337 _ ?side1 ?side2 A4.out).mono ?_); (case side1 => repeat (first | exact (Kd.Zi HR0_1.out HB.out) | (with_reducible refine Kd.Zm ?_ _) | (with_reducible refine Kd.Zl ?_ _) | (with_reducible refine Kd.Yb ?_))); (case side2 => exact HC0_1.out); rintro e w7 ⟨rfl, hb⟩; have n0_ := Qa.mk (Qk (g := gb336) (o := .cells #[.int .i64 a0_0, .slice A0_1 l0_1.length c0_1] 25 (0, 0)) (by (with_reducible repeat apply Qd); exact BK336.out) hb); have n1_ := Qa.mk (Ql (by repeat first | exact HB.out | with_reducible refine Qh ?_ ‹_› | apply Qc | apply Qb) hb); clear BK336; clear HB; have BK336 := n0_; have HB := n1_; clear n0_ n1_; (try clear hb); (try clear hb2); (try clear hk); (try clear hi)))
    go_ret
    exact ⟨by first | rfl | (simp [Qt, Qs] <;> rfl) | (simp [*, Qt, Qs] <;> rfl) | (exfalso; simp_all; done), by repeat first | exact HB.out | with_reducible refine Qh ?_ ‹_› | apply Qc | apply Qb⟩
  · rw [if_neg c3] at H
    have c3b0 : decide (0 <= a1) = false := decide_eq_false c3
    clear c3
    obtain rfl := Option.some.inj H
    go_enter Try.func14, Try.ntmps14
    go_wp2_with (first | ((with_reducible refine We (N := 2) rfl ?_); refine Qy rfl (N := 2) rfl (cs := #[.int .i64 a0_0, .slice A0_1 l0_1.length c0_1]) (t := 25) ?hr ?_; (case hr => first | (go_simp; done) | (go_simp; rfl)); intro gb336 hg w8 hbox hb; have n0_ := Qa.mk (Ql (by repeat first | exact HB.out | apply Qc | apply Qb) hb); have n1_ := Qa.mk (hbox); have n2_ := Qa.mk ((by rw [hg]; exact (Qr (by repeat first | exact HB.out | apply Qc | apply Qb)) : w.heap.size <= gb336)); have n3_ := n2_; clear HB; have HB := n0_; have BK336 := n1_; have GW336 := n2_; have GE336 := n3_; clear n0_ n1_ n2_ n3_; clear hb hbox hg))
    go_ret
    exact ⟨by first | rfl | (simp [Qt, Qs] <;> rfl) | (simp [*, Qt, Qs] <;> rfl) | (exfalso; simp_all; done), by repeat first | exact HB.out | with_reducible refine Qh ?_ ‹_› | apply Qc | apply Qb⟩
end Go.Proofs.Yteapnipnoadejaa.P
