/- PROVED: the program's SightOf tells the last viewpoint whose ray is the one that goes back. No condition but that the grid can be held. -/
import Derived.Test.YtmohfoleolmijaaPx47
import Derived.Test.YtmohfoleolmijaaPx53
import Derived.Test.YtmohfoleolmijaaPx54
import Derived.Test.YtmohfoleolmijaaH2Told
namespace Go.Proofs.Ytmohfoleolmijaa.P
open Go.RowKit Go.Proofs.YtmohfoleolmijaaW
set_option linter.unusedVariables false
set_option linter.unusedSimpArgs false
theorem sa_size (w : World) (o : Obj) : (w.alloc o).heap.size = w.heap.size + 1 := Array.size_push _
theorem sa_lt (w : World) (o : Obj) : w.heap.size < (w.alloc o).heap.size := by rw [sa_size]; exact Nat.lt_succ_self _
theorem sa_le (w : World) (o : Obj) : (w.alloc o).heap.size <= w.heap.size + 1 := by rw [sa_size]; exact Nat.le_refl _
theorem sa_ne (w : World) : w.heap.size ≠ w.heap.size + 1 := Nat.ne_of_lt (Nat.lt_succ_self _)
theorem sa_new (w : World) (o o' : Obj) : ((w.alloc o).alloc o').heap[w.heap.size + 1]? = some o' := by rw [<- sa_size w o]; exact blk_new _ _
theorem sa_cell {w : World} {q : Nat} {x : Int} {t : TypeId} (h : w.heap[q]? = some (.cells #[.int .i64 x] t (0, 0))) : w.cell? ⟨q, 0, none⟩ = some (.int .i64 x) := (blk_cell h 0).trans rfl
def impl_SightOf.f (n : Int) (l : List S57) (a d : Int) : Option Int :=
 (impl_GridOk.f (l.length + 100) n l).bind fun g => if g = true then (impl_dirOk.f d).bind fun o => if o = true then (impl_dirOpposite.f d).bind fun b => (toldB.f a b (l.length + 100) n l).bind fun L => some (lastT L) else some (-1) else some (-1)
set_option maxRecDepth 100000 in
set_option maxHeartbeats 2000000 in
theorem impl_SightOf.calls (n : Int) (A0 : Option Addr) (c0 : Nat) (l : List S57) (a d r : Int) (w : World) (hr : Kd.C k57 w A0 l.length l) (hc : l.length <= c0) (h : impl_SightOf.f n l a d = some r) :
  Calls Try.prog 81 #[.agg #[.int .i64 n, .slice A0 l.length c0], .int .i64 a, .int .i64 d] w fun e w' => e = .returned (.int .i64 r) ∧ Below w.heap.size w w' := by
 have huG := Try.underlying30
 have huR := Try.underlying51
 have HR := Aside0.mk hr
 have HC := Aside0.mk hc
 clear hr hc
 have HB := Aside0.mk (Below.refl w.heap.size w)
 unfold impl_SightOf.f at h
 obtain ⟨g, A1, h⟩ := Option.bind_eq_some_iff.mp h
 have A1_ := A1
 clear A1
 have A1 := Aside0.mk A1_
 clear A1_
 cases g with
 | false =>
  rw [if_neg (by decide)] at h
  obtain rfl := Option.some.inj h
  clear h
  go_enter Try.func81, Try.ntmps81
  go_wp2_with (first | ((with_reducible refine gate_dst (N := 3) rfl ?_); refine box_event ?hg (N := 3) ?hd (cs := #[.int .i64 n, .slice A0 l.length c0]) (t := 30) ?hr ?_; (case hd => rfl); (case hg => rfl); (case hr => first | (go_simp; done) | (go_simp; rfl)); intro gb hg w1 hbox hb; have n0_ := Aside0.mk (below_step HB.out hb); clear HB; have HB := n0_; clear n0_; have BK := Aside0.mk hbox; have GE := Aside0.mk (by rw [hg]; exact Nat.le_refl _ : w.heap.size <= gb); have hb0 : w1.cell? ⟨gb, 0, none⟩ = some (.int .i64 n) := (blk_cell hbox 0).trans rfl; have hb1 : w1.cell? ⟨gb, 1, none⟩ = some (.slice A0 l.length c0) := (blk_cell hbox 1).trans rfl; clear hg hb hbox) | (go_at_call 65; (with_reducible refine (impl_GridOk.calls (l.length + 100) n _ _ l false _ ?side1 ?side2 A1.out).mono ?_); (case side1 => exact Kd.C_below HR.out HB.out); (case side2 => exact HC.out); rintro e w2 ⟨rfl, hb⟩; have n0_ := Aside0.mk (below_step HB.out hb); have n1_ := Aside0.mk (blk_below BK.out hb); clear HB; clear BK; have HB := n0_; have BK := n1_; clear n0_ n1_; clear hb; clear hb0 hb1; have hb0 : w2.cell? ⟨gb, 0, none⟩ = some (.int .i64 n) := (blk_cell BK.out 0).trans rfl; have hb1 : w2.cell? ⟨gb, 1, none⟩ = some (.slice A0 l.length c0) := (blk_cell BK.out 1).trans rfl))
  go_ret
  exact ⟨rfl, by repeat (first | exact HB.out | apply below_alloc | apply pw_below_drewN | apply below_drew1)⟩
 | true =>
  rw [if_pos rfl] at h
  obtain ⟨o, A2, h⟩ := Option.bind_eq_some_iff.mp h
  have A2_ := A2
  clear A2
  have A2 := Aside0.mk A2_
  clear A2_
  cases o with
  | false =>
   rw [if_neg (by decide)] at h
   obtain rfl := Option.some.inj h
   clear h
   go_enter Try.func81, Try.ntmps81
   go_wp2_with (first | ((with_reducible refine gate_dst (N := 3) rfl ?_); refine box_event ?hg (N := 3) ?hd (cs := #[.int .i64 n, .slice A0 l.length c0]) (t := 30) ?hr ?_; (case hd => rfl); (case hg => rfl); (case hr => first | (go_simp; done) | (go_simp; rfl)); intro gb hg w1 hbox hb; have n0_ := Aside0.mk (below_step HB.out hb); clear HB; have HB := n0_; clear n0_; have BK := Aside0.mk hbox; have GE := Aside0.mk (by rw [hg]; exact Nat.le_refl _ : w.heap.size <= gb); have hb0 : w1.cell? ⟨gb, 0, none⟩ = some (.int .i64 n) := (blk_cell hbox 0).trans rfl; have hb1 : w1.cell? ⟨gb, 1, none⟩ = some (.slice A0 l.length c0) := (blk_cell hbox 1).trans rfl; clear hg hb hbox) | (go_at_call 65; (with_reducible refine (impl_GridOk.calls (l.length + 100) n _ _ l true _ ?side1 ?side2 A1.out).mono ?_); (case side1 => exact Kd.C_below HR.out HB.out); (case side2 => exact HC.out); rintro e w2 ⟨rfl, hb⟩; have n0_ := Aside0.mk (below_step HB.out hb); have n1_ := Aside0.mk (blk_below BK.out hb); clear HB; clear BK; have HB := n0_; have BK := n1_; clear n0_ n1_; clear hb; clear hb0 hb1; have hb0 : w2.cell? ⟨gb, 0, none⟩ = some (.int .i64 n) := (blk_cell BK.out 0).trans rfl; have hb1 : w2.cell? ⟨gb, 1, none⟩ = some (.slice A0 l.length c0) := (blk_cell BK.out 1).trans rfl) | (go_at_call 82; (with_reducible refine (impl_dirOk.calls d false _ A2.out).mono ?_); rintro e w3 ⟨rfl, hd⟩; have hb := hd.below; clear hd; have n0_ := Aside0.mk (below_step HB.out hb); have n1_ := Aside0.mk (blk_below BK.out hb); clear HB; clear BK; have HB := n0_; have BK := n1_; clear n0_ n1_; clear hb; clear hb0 hb1; have hb0 : w3.cell? ⟨gb, 0, none⟩ = some (.int .i64 n) := (blk_cell BK.out 0).trans rfl; have hb1 : w3.cell? ⟨gb, 1, none⟩ = some (.slice A0 l.length c0) := (blk_cell BK.out 1).trans rfl))
   go_ret
   exact ⟨rfl, by repeat (first | exact HB.out | apply below_alloc | apply pw_below_drewN | apply below_drew1)⟩
  | true =>
   rw [if_pos rfl] at h
   obtain ⟨b, A3, h⟩ := Option.bind_eq_some_iff.mp h
   have A3_ := A3
   clear A3
   have A3 := Aside0.mk A3_
   clear A3_
   obtain ⟨L, A4, h⟩ := Option.bind_eq_some_iff.mp h
   have A4_ := A4
   clear A4
   have A4 := Aside0.mk A4_
   clear A4_
   obtain rfl := Option.some.inj h
   clear h
   go_enter Try.func81, Try.ntmps81
   go_wp2_with (first | ((with_reducible refine gate_dst (N := 3) rfl ?_); refine box_event ?hg (N := 3) ?hd (cs := #[.int .i64 n, .slice A0 l.length c0]) (t := 30) ?hr ?_; (case hd => rfl); (case hg => rfl); (case hr => first | (go_simp; done) | (go_simp; rfl)); intro gb hg w1 hbox hb; have n0_ := Aside0.mk (below_step HB.out hb); clear HB; have HB := n0_; clear n0_; have BK := Aside0.mk hbox; have GE := Aside0.mk (by rw [hg]; exact Nat.le_refl _ : w.heap.size <= gb); have hb0 : w1.cell? ⟨gb, 0, none⟩ = some (.int .i64 n) := (blk_cell hbox 0).trans rfl; have hb1 : w1.cell? ⟨gb, 1, none⟩ = some (.slice A0 l.length c0) := (blk_cell hbox 1).trans rfl; clear hg hb hbox) | (go_at_call 65; (with_reducible refine (impl_GridOk.calls (l.length + 100) n _ _ l true _ ?side1 ?side2 A1.out).mono ?_); (case side1 => exact Kd.C_below HR.out HB.out); (case side2 => exact HC.out); rintro e w2 ⟨rfl, hb⟩; have n0_ := Aside0.mk (below_step HB.out hb); have n1_ := Aside0.mk (blk_below BK.out hb); clear HB; clear BK; have HB := n0_; have BK := n1_; clear n0_ n1_; clear hb; clear hb0 hb1; have hb0 : w2.cell? ⟨gb, 0, none⟩ = some (.int .i64 n) := (blk_cell BK.out 0).trans rfl; have hb1 : w2.cell? ⟨gb, 1, none⟩ = some (.slice A0 l.length c0) := (blk_cell BK.out 1).trans rfl) | (go_at_call 82; (with_reducible refine (impl_dirOk.calls d true _ A2.out).mono ?_); rintro e w3 ⟨rfl, hd⟩; have hb := hd.below; clear hd; have n0_ := Aside0.mk (below_step HB.out hb); have n1_ := Aside0.mk (blk_below BK.out hb); clear HB; clear BK; have HB := n0_; have BK := n1_; clear n0_ n1_; clear hb; clear hb0 hb1; have hb0 : w3.cell? ⟨gb, 0, none⟩ = some (.int .i64 n) := (blk_cell BK.out 0).trans rfl; have hb1 : w3.cell? ⟨gb, 1, none⟩ = some (.slice A0 l.length c0) := (blk_cell BK.out 1).trans rfl) | (go_at_call 91; (with_reducible refine (impl_dirOpposite.calls d b _ A3.out).mono ?_); rintro e w4 ⟨rfl, hd⟩; have hb := hd.below; clear hd; have n0_ := Aside0.mk (below_step HB.out hb); have n1_ := Aside0.mk (blk_below BK.out hb); clear HB; clear BK; have HB := n0_; have BK := n1_; clear n0_ n1_; clear hb; clear hb0 hb1; have hb0 : w4.cell? ⟨gb, 0, none⟩ = some (.int .i64 n) := (blk_cell BK.out 0).trans rfl; have hb1 : w4.cell? ⟨gb, 1, none⟩ = some (.slice A0 l.length c0) := (blk_cell BK.out 1).trans rfl; have hb2 : ∀ o o', ((w4.alloc o).alloc o').cell? ⟨gb, 0, none⟩ = some (.int .i64 n) := fun o o' => (blk_cell (blk_alloc (blk_alloc BK.out o) o') 0).trans rfl; have hb3 : ∀ o o', ((w4.alloc o).alloc o').cell? ⟨gb, 1, none⟩ = some (.slice A0 l.length c0) := fun o o' => (blk_cell (blk_alloc (blk_alloc BK.out o) o') 1).trans rfl; have HW4 := Aside0.mk (rfl : w4 = w4)) | (go_at_call 92; go_loud ((refine (toldB.calls a b _ _ (_ : World) (sa_lt _ _) (sa_le _ _) (sa_ne _) (l.length + 100) n _ _ l L _ (blk_new _ _) (sa_new _ _ _) (below_alloc (Below.refl _ _) _) (Kd.C_below HR.out (below_alloc HB.out _)) HC.out A4.out).mono ?_); rintro e w5 ⟨v0, rfl, hR, hQ, hb⟩; have n0_ := Aside0.mk (Below.trans (below_alloc HB.out _) (Below.mono hb (below_size (below_alloc HB.out _)))); clear HB; have HB := n0_; clear n0_; have hq0 := sa_cell hQ; clear hb0 hb1 hb2 hb3 hR hQ hb)))
   go_ret
   exact ⟨rfl, by repeat (first | exact HB.out | apply below_alloc | apply pw_below_drewN | apply below_drew1)⟩
end Go.Proofs.Ytmohfoleolmijaa.P
