/- PROVED: the program's SightOf tells the last viewpoint whose ray is the one that goes back. No condition but that the grid can be held. -/
import Derived.Test.YteapnipnoadejaaPx27
import Derived.Test.YteapnipnoadejaaPx34
import Derived.Test.YteapnipnoadejaaPx35
import Derived.Test.YteapnipnoadejaaH2Told
namespace Go.Proofs.Yteapnipnoadejaa.P
open Go.RowKit Go.Proofs.YteapnipnoadejaaW
set_option linter.unusedVariables false
set_option linter.unusedSimpArgs false
theorem sa_size (w : World) (o : Obj) : (w.alloc o).heap.size = w.heap.size + 1 := Array.size_push _
theorem sa_lt (w : World) (o : Obj) : w.heap.size < (w.alloc o).heap.size := by rw [sa_size]; exact Nat.lt_succ_self _
theorem sa_le (w : World) (o : Obj) : (w.alloc o).heap.size <= w.heap.size + 1 := by rw [sa_size]; exact Nat.le_refl _
theorem sa_ne (w : World) : w.heap.size ≠ w.heap.size + 1 := Nat.ne_of_lt (Nat.lt_succ_self _)
theorem sa_new (w : World) (o o' : Obj) : ((w.alloc o).alloc o').heap[w.heap.size + 1]? = some o' := by rw [<- sa_size w o]; exact blk_new _ _
theorem sa_cell {w : World} {q : Nat} {x : Int} {t : TypeId} (h : w.heap[q]? = some (.cells #[.int .i64 x] t (0, 0))) : w.cell? ⟨q, 0, none⟩ = some (.int .i64 x) := (Qe h 0).trans rfl
def impl_SightOf.f (n : Int) (l : List S42) (a d : Int) : Option Int :=
 (Wq.f (l.length + 100) n l).bind fun g => if g = true then (Yw.f d).bind fun o => if o = true then (Xv.f d).bind fun b => (Yz.f a b (l.length + 100) n l).bind fun L => some (lastT L) else some (-1) else some (-1)
set_option maxRecDepth 100000 in
set_option maxHeartbeats 2000000 in
theorem impl_SightOf.calls (n : Int) (A0 : Option Addr) (c0 : Nat) (l : List S42) (a d r : Int) (w : World) (hr : Kd.C k42 w A0 l.length l) (hc : l.length <= c0) (h : impl_SightOf.f n l a d = some r) :
  Calls Try.prog 65 #[.agg #[.int .i64 n, .slice A0 l.length c0], .int .i64 a, .int .i64 d] w fun e w' => e = .returned (.int .i64 r) ∧ Below w.heap.size w w' := by
 have huG := Try.underlying25
 have huR := Try.underlying44
 have HR := Qa.mk hr
 have HC := Qa.mk hc
 clear hr hc
 have HB := Qa.mk (Below.refl w.heap.size w)
 unfold impl_SightOf.f at h
 obtain ⟨g, A1, h⟩ := Option.bind_eq_some_iff.mp h
 have A1_ := A1
 clear A1
 have A1 := Qa.mk A1_
 clear A1_
 cases g with
 | false =>
  rw [if_neg (by decide)] at h
  obtain rfl := Option.some.inj h
  clear h
  go_enter Try.func65, Try.ntmps65
  go_wp2_with (first | ((with_reducible refine We (N := 3) rfl ?_); refine Qy ?hg (N := 3) ?hd (cs := #[.int .i64 n, .slice A0 l.length c0]) (t := 25) ?hr ?_; (case hd => rfl); (case hg => rfl); (case hr => first | (go_simp; done) | (go_simp; rfl)); intro gb hg w1 hbox hb; have n0_ := Qa.mk (Ql HB.out hb); clear HB; have HB := n0_; clear n0_; have BK := Qa.mk hbox; have GE := Qa.mk (by rw [hg]; exact Nat.le_refl _ : w.heap.size <= gb); have hb0 : w1.cell? ⟨gb, 0, none⟩ = some (.int .i64 n) := (Qe hbox 0).trans rfl; have hb1 : w1.cell? ⟨gb, 1, none⟩ = some (.slice A0 l.length c0) := (Qe hbox 1).trans rfl; clear hg hb hbox) | (go_at_call 36; (with_reducible refine (Wq.calls (l.length + 100) n _ _ l false _ ?side1 ?side2 A1.out).mono ?_); (case side1 => exact Kd.Zi HR.out HB.out); (case side2 => exact HC.out); rintro e w2 ⟨rfl, hb⟩; have n0_ := Qa.mk (Ql HB.out hb); have n1_ := Qa.mk (Qk BK.out hb); clear HB; clear BK; have HB := n0_; have BK := n1_; clear n0_ n1_; clear hb; clear hb0 hb1; have hb0 : w2.cell? ⟨gb, 0, none⟩ = some (.int .i64 n) := (Qe BK.out 0).trans rfl; have hb1 : w2.cell? ⟨gb, 1, none⟩ = some (.slice A0 l.length c0) := (Qe BK.out 1).trans rfl))
  go_ret
  exact ⟨rfl, by repeat (first | exact HB.out | apply Qc | apply Qb | apply Qq)⟩
 | true =>
  rw [if_pos rfl] at h
  obtain ⟨o, A2, h⟩ := Option.bind_eq_some_iff.mp h
  have A2_ := A2
  clear A2
  have A2 := Qa.mk A2_
  clear A2_
  cases o with
  | false =>
   rw [if_neg (by decide)] at h
   obtain rfl := Option.some.inj h
   clear h
   go_enter Try.func65, Try.ntmps65
   go_wp2_with (first | ((with_reducible refine We (N := 3) rfl ?_); refine Qy ?hg (N := 3) ?hd (cs := #[.int .i64 n, .slice A0 l.length c0]) (t := 25) ?hr ?_; (case hd => rfl); (case hg => rfl); (case hr => first | (go_simp; done) | (go_simp; rfl)); intro gb hg w1 hbox hb; have n0_ := Qa.mk (Ql HB.out hb); clear HB; have HB := n0_; clear n0_; have BK := Qa.mk hbox; have GE := Qa.mk (by rw [hg]; exact Nat.le_refl _ : w.heap.size <= gb); have hb0 : w1.cell? ⟨gb, 0, none⟩ = some (.int .i64 n) := (Qe hbox 0).trans rfl; have hb1 : w1.cell? ⟨gb, 1, none⟩ = some (.slice A0 l.length c0) := (Qe hbox 1).trans rfl; clear hg hb hbox) | (go_at_call 36; (with_reducible refine (Wq.calls (l.length + 100) n _ _ l true _ ?side1 ?side2 A1.out).mono ?_); (case side1 => exact Kd.Zi HR.out HB.out); (case side2 => exact HC.out); rintro e w2 ⟨rfl, hb⟩; have n0_ := Qa.mk (Ql HB.out hb); have n1_ := Qa.mk (Qk BK.out hb); clear HB; clear BK; have HB := n0_; have BK := n1_; clear n0_ n1_; clear hb; clear hb0 hb1; have hb0 : w2.cell? ⟨gb, 0, none⟩ = some (.int .i64 n) := (Qe BK.out 0).trans rfl; have hb1 : w2.cell? ⟨gb, 1, none⟩ = some (.slice A0 l.length c0) := (Qe BK.out 1).trans rfl) | (go_at_call 37; (with_reducible refine (Yw.calls d false _ A2.out).mono ?_); rintro e w3 ⟨rfl, hd⟩; have hb := hd.below; clear hd; have n0_ := Qa.mk (Ql HB.out hb); have n1_ := Qa.mk (Qk BK.out hb); clear HB; clear BK; have HB := n0_; have BK := n1_; clear n0_ n1_; clear hb; clear hb0 hb1; have hb0 : w3.cell? ⟨gb, 0, none⟩ = some (.int .i64 n) := (Qe BK.out 0).trans rfl; have hb1 : w3.cell? ⟨gb, 1, none⟩ = some (.slice A0 l.length c0) := (Qe BK.out 1).trans rfl))
   go_ret
   exact ⟨rfl, by repeat (first | exact HB.out | apply Qc | apply Qb | apply Qq)⟩
  | true =>
   rw [if_pos rfl] at h
   obtain ⟨b, A3, h⟩ := Option.bind_eq_some_iff.mp h
   have A3_ := A3
   clear A3
   have A3 := Qa.mk A3_
   clear A3_
   obtain ⟨L, A4, h⟩ := Option.bind_eq_some_iff.mp h
   have A4_ := A4
   clear A4
   have A4 := Qa.mk A4_
   clear A4_
   obtain rfl := Option.some.inj h
   clear h
   go_enter Try.func65, Try.ntmps65
   go_wp2_with (first | ((with_reducible refine We (N := 3) rfl ?_); refine Qy ?hg (N := 3) ?hd (cs := #[.int .i64 n, .slice A0 l.length c0]) (t := 25) ?hr ?_; (case hd => rfl); (case hg => rfl); (case hr => first | (go_simp; done) | (go_simp; rfl)); intro gb hg w1 hbox hb; have n0_ := Qa.mk (Ql HB.out hb); clear HB; have HB := n0_; clear n0_; have BK := Qa.mk hbox; have GE := Qa.mk (by rw [hg]; exact Nat.le_refl _ : w.heap.size <= gb); have hb0 : w1.cell? ⟨gb, 0, none⟩ = some (.int .i64 n) := (Qe hbox 0).trans rfl; have hb1 : w1.cell? ⟨gb, 1, none⟩ = some (.slice A0 l.length c0) := (Qe hbox 1).trans rfl; clear hg hb hbox) | (go_at_call 36; (with_reducible refine (Wq.calls (l.length + 100) n _ _ l true _ ?side1 ?side2 A1.out).mono ?_); (case side1 => exact Kd.Zi HR.out HB.out); (case side2 => exact HC.out); rintro e w2 ⟨rfl, hb⟩; have n0_ := Qa.mk (Ql HB.out hb); have n1_ := Qa.mk (Qk BK.out hb); clear HB; clear BK; have HB := n0_; have BK := n1_; clear n0_ n1_; clear hb; clear hb0 hb1; have hb0 : w2.cell? ⟨gb, 0, none⟩ = some (.int .i64 n) := (Qe BK.out 0).trans rfl; have hb1 : w2.cell? ⟨gb, 1, none⟩ = some (.slice A0 l.length c0) := (Qe BK.out 1).trans rfl) | (go_at_call 37; (with_reducible refine (Yw.calls d true _ A2.out).mono ?_); rintro e w3 ⟨rfl, hd⟩; have hb := hd.below; clear hd; have n0_ := Qa.mk (Ql HB.out hb); have n1_ := Qa.mk (Qk BK.out hb); clear HB; clear BK; have HB := n0_; have BK := n1_; clear n0_ n1_; clear hb; clear hb0 hb1; have hb0 : w3.cell? ⟨gb, 0, none⟩ = some (.int .i64 n) := (Qe BK.out 0).trans rfl; have hb1 : w3.cell? ⟨gb, 1, none⟩ = some (.slice A0 l.length c0) := (Qe BK.out 1).trans rfl) | (go_at_call 74; (with_reducible refine (Xv.calls d b _ A3.out).mono ?_); rintro e w4 ⟨rfl, hd⟩; have hb := hd.below; clear hd; have n0_ := Qa.mk (Ql HB.out hb); have n1_ := Qa.mk (Qk BK.out hb); clear HB; clear BK; have HB := n0_; have BK := n1_; clear n0_ n1_; clear hb; clear hb0 hb1; have hb0 : w4.cell? ⟨gb, 0, none⟩ = some (.int .i64 n) := (Qe BK.out 0).trans rfl; have hb1 : w4.cell? ⟨gb, 1, none⟩ = some (.slice A0 l.length c0) := (Qe BK.out 1).trans rfl; have hb2 : ∀ o o', ((w4.alloc o).alloc o').cell? ⟨gb, 0, none⟩ = some (.int .i64 n) := fun o o' => (Qe (Qd (Qd BK.out o) o') 0).trans rfl; have hb3 : ∀ o o', ((w4.alloc o).alloc o').cell? ⟨gb, 1, none⟩ = some (.slice A0 l.length c0) := fun o o' => (Qe (Qd (Qd BK.out o) o') 1).trans rfl; have HW4 := Qa.mk (rfl : w4 = w4)) | (go_at_call 75; go_loud ((refine (Yz.calls a b _ _ (_ : World) (sa_lt _ _) (sa_le _ _) (sa_ne _) (l.length + 100) n _ _ l L _ (blk_new _ _) (sa_new _ _ _) (Qc (Below.refl _ _) _) (Kd.Zi HR.out (Qc HB.out _)) HC.out A4.out).mono ?_); rintro e w5 ⟨v0, rfl, hR, hQ, hb⟩; have n0_ := Qa.mk (Below.trans (Qc HB.out _) (Below.mono hb (Qr (Qc HB.out _)))); clear HB; have HB := n0_; clear n0_; have hq0 := sa_cell hQ; clear hb0 hb1 hb2 hb3 hR hQ hb)))
   go_ret
   exact ⟨rfl, by repeat (first | exact HB.out | apply Qc | apply Qb | apply Qq)⟩
end Go.Proofs.Yteapnipnoadejaa.P
