/- PROVED: the program's GridFlip returns a grid of its own with the cells that flipF tells, exchanged. No condition but that the grid can be held. -/
import Derived.Test.YtbnofnamkgfadaaPx37
import Derived.Test.YtbnofnamkgfadaaH2Moved
namespace Go.Proofs.Ytbnofnamkgfadaa.P
open Go.RowKit Go.Proofs.YtbnofnamkgfadaaW.PrintWords Go.Proofs.YtbnofnamkgfadaaW.PrintLast Go.Proofs.YtbnofnamkgfadaaW.PrintMore
attribute [local go_sem] max2_int min2_int max_two min_two max_three min_three max_four min_four
set_option linter.unusedVariables false
set_option linter.unusedSimpArgs false
/-- From which cell a cell of the grid in the mirror comes. -/
def flipF (n row col : Int) : Option Int := some (wrap64 (wrap64 (wrap64 (wrap64 (row * n) + n) - 1) - col))
set_option maxRecDepth 100000 in
set_option maxHeartbeats 2000000 in
theorem flip1_calls (n row col r : Int) (pb : Nat) (w : World) (hp : w.cell? ⟨pb, 0, none⟩ = some (.int .i64 n)) (h : flipF n row col = some r) :
    Calls Try.prog 57 #[.int .i64 row, .int .i64 col, .pointer (some ⟨pb, 0, none⟩)] w fun e w' => e = .returned (.int .i64 r) ∧ Drawn0 w w' := by
  have huG := Try.underlying30
  have hr := Aside0.mk (Option.some.inj h)
  clear h
  go_enter Try.func57, Try.ntmps57
  go_wp2
  go_ret
  refine ⟨?_, Drawn0.refl _⟩
  rw [← hr.out]
  simp only [i64_w]
  rfl
theorem cellR_set {w : World} {base : Nat} {v : Value} {xs : List S24} (h : Kd.R k24 24 w base (fun _ => True) v xs) {g : Nat} {cells : Array Value} (hb : w.heap[g]? = some (.cells cells 30 (0, 0))) (j : Nat) (u : Value) : Kd.R k24 24 (w.setCell ⟨g, j, none⟩ u) base (fun _ => True) v xs :=
  Kd.R_mono (Kd.R_far (p := ⟨g, j, none⟩) (Kd.R_types h hb (by decide)) (fun _ hk => hk.2) u) (fun _ _ => trivial)
theorem flipHF {n : Int} {v : Value} {gb : Nat} {w : World} (hb : w.heap[gb]? = some (.cells #[.int .i64 n, v] 30 (0, 0))) : ∀ (x y t_ : Int) (W : World), Below w.heap.size w W → flipF n x y = some t_ → Calls Try.prog 57 (#[.int .i64 x, .int .i64 y] ++ #[.pointer (some ⟨gb, 0, none⟩)]) W fun e w' => e = .returned (.int .i64 t_) ∧ Drawn0 W w' := by
  intro x y t_ W hW hxy
  have e : (#[.int .i64 x, .int .i64 y] ++ #[.pointer (some ⟨gb, 0, none⟩)] : Array Value) = #[.int .i64 x, .int .i64 y, .pointer (some ⟨gb, 0, none⟩)] := rfl
  rw [e]
  exact flip1_calls n x y t_ gb W ((blk_cell (blk_below hb hW) 0).trans rfl) hxy
def impl_GridFlip.f (n : Int) (l : List S24) : Option (Int × List S24) :=
  (impl_GridOk.f (l.length + 100) n l).bind fun g => if g = true then gridMovedF.f (flipF n) (l.length + 100) n l n else some (0, [])
set_option maxRecDepth 100000 in
set_option maxHeartbeats 2000000 in
theorem impl_GridFlip.calls (n : Int) (A0 : Option Addr) (c0 : Nat) (l : List S24) (r1 : Int) (r2 : List S24) (w : World) (hr : Kd.C k24 w A0 l.length l) (hc : l.length ≤ c0) (h : impl_GridFlip.f n l = some (r1, r2)) :
    Calls Try.prog 26 #[.agg #[.int .i64 n, .slice A0 l.length c0]] w fun e w' => ∃ v1_ : Value, e = .returned (.agg #[.int .i64 r1, v1_]) ∧ Kd.R k24 24 w' w.heap.size (fun _ => True) v1_ r2 ∧ Below w.heap.size w w' := by
  have huG := Try.underlying30
  have HR := Aside0.mk hr
  have HC := Aside0.mk hc
  clear hr hc
  have HB := Aside0.mk (Below.refl w.heap.size w)
  unfold impl_GridFlip.f at h
  obtain ⟨g, A1_, h⟩ := Option.bind_eq_some_iff.mp h
  have A1 := Aside0.mk A1_
  clear A1_
  cases g with
  | false =>
    rw [if_neg (by decide)] at h
    obtain ⟨rfl, rfl⟩ := Prod.mk.inj (Option.some.inj h)
    clear h
    go_enter Try.func26, Try.ntmps26
    go_wp2_with (first | ((with_reducible refine gate_dst (N := 1) rfl ?_); refine box_event ?hg (N := 1) ?hd (cs := #[.int .i64 n, .slice A0 l.length c0]) (t := 30) ?hr ?_; (case hd => rfl); (case hg => rfl); (case hr => first | (go_simp; done) | (go_simp; rfl)); intro gb hg w1 hbox hb; have n0_ := Aside0.mk (below_step HB.out hb); clear HB; have HB := n0_; clear n0_; have BK := Aside0.mk hbox; have GE := Aside0.mk (by rw [hg]; exact Nat.le_refl _ : w.heap.size ≤ gb); have hb0 : ∀ o, (w1.alloc o).cell? ⟨gb, 0, none⟩ = some (.int .i64 n) := fun o => (blk_cell (blk_alloc hbox o) 0).trans rfl; have hb1 : ∀ o, (w1.alloc o).cell? ⟨gb, 1, none⟩ = some (.slice A0 l.length c0) := fun o => (blk_cell (blk_alloc hbox o) 1).trans rfl; clear hg hb hbox) | (go_at_call 22; go_loud ((with_reducible refine (impl_GridOk.calls (l.length + 100) n _ _ l false _ ?side1 ?side2 A1.out).mono ?_); (case side1 => exact Kd.C_below HR.out (below_alloc HB.out _)); (case side2 => exact HC.out); rintro e w2 ⟨rfl, hb⟩; have n0_ := Aside0.mk (below_step (below_alloc HB.out _) hb); have n1_ := Aside0.mk (blk_below (blk_new w1 _) hb); have n2_ := Aside0.mk (below_size HB.out); clear HB; have HB := n0_; have BR := n1_; have GR := n2_; clear n0_ n1_ n2_; clear hb; clear hb0 hb1; have hr0 : w2.frozen? ⟨w1.heap.size, 0, none⟩ = false := blk_frozen BR.out 0; have hr1 : w2.frozen? ⟨w1.heap.size, 1, none⟩ = false := blk_frozen BR.out 1; have hr2 : w2.cell? ⟨w1.heap.size, 0, none⟩ = some (.int .i64 0) := (blk_cell BR.out 0).trans rfl; have hr3 : w2.cell? ⟨w1.heap.size, 1, none⟩ = some (.slice none 0 0) := (blk_cell BR.out 1).trans rfl)))
    exact bodyPost_ret (v := .agg #[.int .i64 0, .slice none 0 0]) (by simp [results, Try.results26, go_sem, hr0, hr1, hr2, hr3]) rfl ⟨_, rfl, Kd.R_nil _ _ _ _ _, by repeat (first | exact HB.out | refine below_set ?_ GR.out | apply below_alloc)⟩
  | true =>
    rw [if_pos rfl] at h
    have H := Aside0.mk h
    clear h
    go_enter Try.func26, Try.ntmps26
    go_wp2_with (first | ((with_reducible refine gate_dst (N := 1) rfl ?_); refine box_event ?hg (N := 1) ?hd (cs := #[.int .i64 n, .slice A0 l.length c0]) (t := 30) ?hr ?_; (case hd => rfl); (case hg => rfl); (case hr => first | (go_simp; done) | (go_simp; rfl)); intro gb hg w1 hbox hb; have n0_ := Aside0.mk (below_step HB.out hb); clear HB; have HB := n0_; clear n0_; have BK := Aside0.mk hbox; have GE := Aside0.mk (by rw [hg]; exact Nat.le_refl _ : w.heap.size ≤ gb); have hb0 : ∀ o, (w1.alloc o).cell? ⟨gb, 0, none⟩ = some (.int .i64 n) := fun o => (blk_cell (blk_alloc hbox o) 0).trans rfl; have hb1 : ∀ o, (w1.alloc o).cell? ⟨gb, 1, none⟩ = some (.slice A0 l.length c0) := fun o => (blk_cell (blk_alloc hbox o) 1).trans rfl; clear hg hb hbox) | (go_at_call 22; go_loud ((with_reducible refine (impl_GridOk.calls (l.length + 100) n _ _ l true _ ?side1 ?side2 A1.out).mono ?_); (case side1 => exact Kd.C_below HR.out (below_alloc HB.out _)); (case side2 => exact HC.out); rintro e w2 ⟨rfl, hb⟩; have n0_ := Aside0.mk (below_step (below_alloc HB.out _) hb); have n1_ := Aside0.mk (blk_below (blk_new w1 _) hb); have n2_ := Aside0.mk (below_size HB.out); clear HB; have HB := n0_; have BR := n1_; have GR := n2_; clear n0_ n1_ n2_; have BK2 := Aside0.mk (blk_below (blk_alloc BK.out _) hb); clear hb; clear hb0 hb1; have hb0 : w2.cell? ⟨gb, 0, none⟩ = some (.int .i64 n) := (blk_cell BK2.out 0).trans rfl; have hb1 : w2.cell? ⟨gb, 1, none⟩ = some (.slice A0 l.length c0) := (blk_cell BK2.out 1).trans rfl; have hr0 : w2.frozen? ⟨w1.heap.size, 0, none⟩ = false := blk_frozen BR.out 0; have hr1 : w2.frozen? ⟨w1.heap.size, 1, none⟩ = false := blk_frozen BR.out 1; have hr2 : w2.cell? ⟨w1.heap.size, 0, none⟩ = some (.int .i64 0) := (blk_cell BR.out 0).trans rfl; have hr3 : w2.cell? ⟨w1.heap.size, 1, none⟩ = some (.slice none 0 0) := (blk_cell BR.out 1).trans rfl)) | (go_at_call 52; go_loud ((with_reducible refine (movedFlip.calls (flipF n) #[.pointer (some ⟨gb, 0, none⟩)] (l.length + 100) n _ _ l n r1 r2 _ (Kd.C_below HR.out HB.out) HC.out (flipHF BK2.out) H.out).mono ?_); rintro e w3 ⟨v1, rfl, hR, hb⟩; obtain ⟨Ao, co, eo⟩ := Kd.R_slice hR; subst eo; have n0_ := Aside0.mk (below_step HB.out hb); have n1_ := Aside0.mk (blk_below BR.out hb); have HO := Aside0.mk (Kd.R_lower hR (below_size HB.out)); clear HB; clear BR; have HB := n0_; have BR := n1_; clear n0_ n1_; clear hR hb hb0 hb1 hr0 hr1 hr2 hr3; have hr0 : w3.frozen? ⟨w1.heap.size, 0, none⟩ = false := blk_frozen BR.out 0; have hr1 : w3.frozen? ⟨w1.heap.size, 1, none⟩ = false := blk_frozen BR.out 1; have hr2 : w3.cell? ⟨w1.heap.size, 0, none⟩ = some (.int .i64 0) := (blk_cell BR.out 0).trans rfl; have hr3 : w3.cell? ⟨w1.heap.size, 1, none⟩ = some (.slice none 0 0) := (blk_cell BR.out 1).trans rfl)))
    exact bodyPost_ret (v := .agg #[.int .i64 r1, .slice Ao r2.length co]) (by simp [results, Try.results26, go_sem, hr0, hr1, hr2, hr3]) rfl ⟨_, rfl, cellR_set (cellR_set HO.out BR.out 0 _) (blk_set BR.out 0 _) 1 _, by repeat (first | exact HB.out | refine below_set ?_ GR.out | apply below_alloc)⟩
end Go.Proofs.Ytbnofnamkgfadaa.P
