/- PROVED: contracts of functions; No condition. -/
import Derived.Test.YtmohfoleolmijaaPx0
import Derived.Test.YtmohfoleolmijaaPx50
import Derived.Test.YtmohfoleolmijaaPx51
namespace Go.Proofs.Ytmohfoleolmijaa.P
open Go.RowKit Go.Proofs.YtmohfoleolmijaaW
set_option linter.unusedVariables false
set_option linter.unusedSimpArgs false
mutual
def impl_Ray.l0 : Nat -> Int -> Int -> List (S51) -> Int -> Int -> Option ((List (S51)))
 | 0, _, _, _, _, _ => none
 | k + 1, x5, x6, x7, x21, x22 => if x22 < x21 then ((impl_SightRay_1.f (x7.length : Int) x22 2).bind fun bt176 => (if x7.length < 8796093022208 then (impl_Ray.l0 k x5 x6 (x7 ++ [(⟨bt176.1, bt176.2⟩ : S51)]) x21 (wrap64 (x22 + 1))) else (none))) else (impl_Ray.l1 k x5 x6 x7 x6 0)
def impl_Ray.l1 : Nat -> Int -> Int -> List (S51) -> Int -> Int -> Option ((List (S51)))
 | 0, _, _, _, _, _ => none
 | k + 1, x5, x6, x7, x35, x36 => if x36 < x35 then ((impl_SightRay_1.f (x7.length : Int) (wrap64 ((wrap64 ((wrap64 (x36 * x5)) + x5)) - 1)) 3).bind fun bt181 => (if x7.length < 8796093022208 then (impl_Ray.l1 k x5 x6 (x7 ++ [(⟨bt181.1, bt181.2⟩ : S51)]) x35 (wrap64 (x36 + 1))) else (none))) else (impl_Ray.l2 k x5 x6 x7 x5 0)
def impl_Ray.l2 : Nat -> Int -> Int -> List (S51) -> Int -> Int -> Option ((List (S51)))
 | 0, _, _, _, _, _ => none
 | k + 1, x5, x6, x7, x54, x55 => if x55 < x54 then ((impl_SightRay_1.f (x7.length : Int) (wrap64 ((wrap64 ((wrap64 (x6 * x5)) - 1)) - x55)) 0).bind fun bt186 => (if x7.length < 8796093022208 then (impl_Ray.l2 k x5 x6 (x7 ++ [(⟨bt186.1, bt186.2⟩ : S51)]) x54 (wrap64 (x55 + 1))) else (none))) else (impl_Ray.l3 k x5 x6 x7 x6 0)
def impl_Ray.l3 : Nat -> Int -> Int -> List (S51) -> Int -> Int -> Option ((List (S51)))
 | 0, _, _, _, _, _ => none
 | k + 1, x5, x6, x7, x73, x74 => if x74 < x73 then ((impl_SightRay_1.f (x7.length : Int) (wrap64 ((wrap64 ((wrap64 (x6 - 1)) - x74)) * x5)) 1).bind fun bt191 => (if x7.length < 8796093022208 then (impl_Ray.l3 k x5 x6 (x7 ++ [(⟨bt191.1, bt191.2⟩ : S51)]) x73 (wrap64 (x74 + 1))) else (none))) else (some x7)
end
def impl_Ray.f (k : Nat) (a0_0 : Int) (l0_1 : List (S57))  : Option ((List (S51))) := (impl_gridRows.f a0_0 l0_1).bind fun t172 => (if 0 <= (wrap64 (2 * (wrap64 (a0_0 + t172)))) then (if (wrap64 (2 * (wrap64 (a0_0 + t172))) : Int).toNat <= 17592186044416 then (impl_Ray.l0 k a0_0 t172 (([] : List (S51))) a0_0 0) else (none)) else (none))
set_option maxHeartbeats 8000000 in
set_option maxRecDepth 100000 in
theorem impl_Ray.calls (k : Nat) (a0_0 : Int) (A0_1 : Option Addr) (c0_1 : Nat) (l0_1 : List (S57))  (r : List (S51)) (w : World) (hr0_1 : Kd.C k57 w A0_1 l0_1.length l0_1) (hc0_1 : l0_1.length <= c0_1) (h : impl_Ray.f k a0_0 l0_1 = some r) :
  Calls Try.prog 48 #[.agg #[.int .i64 a0_0, .slice A0_1 l0_1.length c0_1], .func (.func 49) #[] #[]] w fun e w' => ∃ v0_ : Value, e = .returned (v0_) ∧ Kd.R k51 51 w' w.heap.size (fun _ => True) v0_ r ∧ Below w.heap.size w w' := by
 have hu30 := Try.underlying30
 have hu51 := Try.underlying51
 have HR0_1 := Aside0.mk hr0_1
 have HC0_1 := Aside0.mk hc0_1
 clear hr0_1 hc0_1
 have HB := Aside0.mk (Below.refl w.heap.size w)
 have H : ((impl_gridRows.f a0_0 l0_1).bind fun t172 => (if 0 <= (wrap64 (2 * (wrap64 (a0_0 + t172)))) then (if (wrap64 (2 * (wrap64 (a0_0 + t172))) : Int).toNat <= 17592186044416 then (impl_Ray.l0 k a0_0 t172 (([] : List (S51))) a0_0 0) else (none)) else (none))) = some r := h
 clear h
 replace H := Option.bind_eq_some_iff.mp H
 obtain ⟨t172, A30, H⟩ := H
 replace H : (if 0 <= (wrap64 (2 * (wrap64 (a0_0 + t172)))) then (if (wrap64 (2 * (wrap64 (a0_0 + t172))) : Int).toNat <= 17592186044416 then (impl_Ray.l0 k a0_0 t172 (([] : List (S51))) a0_0 0) else (none)) else (none)) = some r := H
 have A3 := Aside0.mk A30
 clear A30
 obtain ⟨ji4, hji4⟩ : ∃ j_ : Int, (wrap64 (2 * (wrap64 (a0_0 + t172)))) = j_ := ⟨_, rfl⟩
 replace H : (if 0 <= (ji4) then (if (ji4 : Int).toNat <= 17592186044416 then (impl_Ray.l0 k a0_0 t172 (([] : List (S51))) a0_0 0) else (none)) else (none)) = some r := by first | (rw [hji4] at H; exact H) | (simp only [hji4] at H ⊢; exact H)
 (try rw [hji4] at A3)
 have hji4w : (IntKind.i64.wrap (2 * (wrap64 (a0_0 + t172)))) = ji4 := (i64_w _).trans hji4
 by_cases c5 : 0 <= (ji4)
 ·rw [if_pos c5] at H
  have c5b0 := eq_true c5
  have c5b1 : decide (0 <= (ji4)) = true := decide_eq_true c5
  clear c5
  by_cases c6 : (ji4 : Int).toNat <= 17592186044416
  ·rw [if_pos c6] at H
   have c6b0 := eq_true c6
   have c6b1 : decide ((ji4 : Int).toNat <= 17592186044416) = true := decide_eq_true c6
   clear c6
   obtain ⟨y173, hy173⟩ : ∃ y_ : List (S51), y_ = (([] : List (S51))) := ⟨_, rfl⟩
   replace H : (impl_Ray.l0 k a0_0 t172 y173 a0_0 0) = some r := by first | (rw [hy173]; with_reducible exact H) | (have H2_ := (Option.bind_some _ _).symm.trans H; rw [hy173]; with_reducible exact H2_) | (have H2_ := (Option.bind_some _ _).symm.trans H; with_reducible exact H2_) | with_reducible exact H | (rw [hy173]; exact H) | exact H
   have Ny173 := Aside0.mk hy173
   clear hy173
   have H' := Aside0.mk H
   clear H
   go_enter Try.func48, Try.ntmps48
   try go_wp2_with (first | ((with_reducible refine gate_dst (N := 2) rfl ?_); refine box_event rfl (N := 2) rfl (cs := #[.int .i64 a0_0, .slice A0_1 l0_1.length c0_1]) (t := 30) ?hr ?_; (case hr => first | (go_simp; done) | (go_simp; rfl)); intro gb171 hg w7 hbox hb; have n0_ := Aside0.mk (below_step (by repeat first | exact HB.out | apply below_alloc | apply pw_below_drewN) hb); have n1_ := Aside0.mk (hbox); have n2_ := Aside0.mk ((by rw [hg]; exact (below_size (by repeat first | exact HB.out | apply below_alloc | apply pw_below_drewN)) : w.heap.size <= gb171)); have n3_ := n2_; clear HB; have HB := n0_; have BK171 := n1_; have GW171 := n2_; have GE171 := n3_; clear n0_ n1_ n2_ n3_; clear hb hbox hg))
   have n0_ := Aside0.mk (blk_drew BK171.out)
   have n1_ := Aside0.mk (below_drew1 HB.out)
   clear BK171
   clear HB
   have BK171 := n0_
   have HB := n1_
   clear n0_ n1_
   refine start_ (n := 6) (S := fun w' => w'.cell? ⟨gb171, 0, none⟩ = some (.int .i64 a0_0) ∧ w'.cell? ⟨gb171, 1, none⟩ = some (.slice A0_1 l0_1.length c0_1)) (ds := []) #[false, false, false, false, false, false] (by kernel_rfl) rfl rfl ⟨(blk_cell BK171.out 0).trans rfl, (blk_cell BK171.out 1).trans rfl⟩ (fun hHeld => ?_)
   generalize w7.drew = w8 at BK171 HB hHeld ⊢
   refine pure_ (i := 0) (N := some 12) (v := ?_) (a' := ?_) #[true, false, false, false, false, false] rfl rfl (by kernel_rfl) (fun _ _ _ h => h) (Or.inl ⟨by rfl, ?_⟩) ?_ ?_
   rotate_left
   ·intro w'
    go_simp
    with_reducible rfl
   rotate_left
   ·simp only [Act.put, sA_, sZ_, sS_, i64_w, i32_w]
    rfl
   refine take_ (i := 1) (N := some 13) (v := ?_) (a' := ?_) #[true, true, false, false, false, false] rfl rfl (by kernel_rfl) (fun _ _ _ h => h) (Or.inl ⟨by rfl, ?_⟩) hHeld ?_ ?_
   rotate_left
   ·rintro w' ⟨s0, s1⟩
    go_simp
    with_reducible rfl
   rotate_left
   ·simp only [Act.put, sA_, sZ_, sS_, i64_w, i32_w]
    rfl
   refine take_ (i := 2) (N := some 14) (v := ?_) (a' := ?_) #[true, true, true, false, false, false] rfl rfl (by kernel_rfl) (fun _ _ _ h => h) (Or.inl ⟨by rfl, ?_⟩) hHeld ?_ ?_
   rotate_left
   ·rintro w' ⟨s0, s1⟩
    go_simp
    with_reducible rfl
   rotate_left
   ·simp only [Act.put, sA_, sZ_, sS_, i64_w, i32_w]
    rfl
   refine one_ (i := 3) (N := some 15) #[true, true, true, true, false, false] rfl rfl (by kernel_rfl) (by decide) (fun K hK => ?_)
   refine goes_ Try.func66 (by kernel_rfl) rfl #[.agg #[.int .i64 a0_0, .slice A0_1 l0_1.length c0_1]] (by rfl) rfl rfl (by first | rfl | (simp only [List.map_toArray, List.map_cons, List.map_nil, List.length_drop, List.length_take]; try rfl)) ?_
   with_reducible refine (impl_gridRows.calls a0_0 _ _ l0_1 t172 _ ?side1 ?side2 A3.out).mono ?_
   (case side1 => repeat (first | exact (Kd.C_below HR0_1.out HB.out) | (with_reducible refine Kd.C_alloc ?_ _) | (with_reducible refine Kd.C_drewN ?_ _) | (with_reducible refine Kd.C_drew ?_)))
   (case side2 => exact HC0_1.out)
   rintro e w9 ⟨rfl, hb⟩
   refine ⟨_, rfl, ?_⟩
   have n0_ := Aside0.mk (blk_below (bK BK171.out) hb)
   have n1_ := Aside0.mk (below_step (by repeat first | exact HB.out | with_reducible refine below_setA ?_ ‹_› | apply below_alloc | apply pw_below_drewN) hb)
   clear BK171
   clear HB
   have BK171 := n0_
   have HB := n1_
   clear n0_ n1_
   (try clear hb)
   (try clear hb2)
   (try clear hk)
   (try clear hi)
   refine hK.out _ _ ⟨(blk_cell BK171.out 0).trans rfl, (blk_cell BK171.out 1).trans rfl⟩ (fun hHeld => ?_)
   clear hK K
   refine norm_ (a' := ?_) ?_ ?_
   rotate_left
   ·show Act.put _ (some 15) _ = _
    simp only [Act.put, sA_, sZ_, sS_, i64_w, i32_w]
    rfl
   refine pure_ (i := 4) (N := some 5) (v := ?_) (a' := ?_) #[true, true, true, true, true, false] rfl rfl (by kernel_rfl) (fun _ _ _ h => h) (Or.inl ⟨by rfl, ?_⟩) ?_ ?_
   rotate_left
   ·intro w'
    go_simp
    with_reducible rfl
   rotate_left
   ·simp only [Act.put, sA_, sZ_, sS_, i64_w, i32_w]
    rfl
   refine pure_ (i := 5) (N := some 6) (v := ?_) (a' := ?_) #[true, true, true, true, true, true] rfl rfl (by kernel_rfl) (fun _ _ _ h => h) (Or.inl ⟨by rfl, ?_⟩) ?_ ?_
   rotate_left
   ·intro w'
    go_simp
    with_reducible rfl
   rotate_left
   ·simp only [Act.put, sA_, sZ_, sS_, i64_w, i32_w]
    rfl
   refine done_ (by kernel_rfl) ?_
   try go_wp2_with (first | ((with_reducible refine gate_dst (N := 20) rfl ?_); refine Kd.R_make0 k51 _ 51 rfl (N := 20) rfl 73 _ _ rfl ji4 rfl rfl Try.underlying73 (.agg #[(.int .i64 0), (.int .i64 0)]) 16 info51 rfl (by decide) (by omega) (ok := fun _ => True) (okp := fun _ => True) (fun _ hk => hk) trivial (of_decide_eq_true (by first | (with_reducible assumption) | assumption)) (Nat.le_trans (Nat.mul_le_mul_right _ (of_decide_eq_true (by first | (with_reducible assumption) | assumption) : ji4.toNat <= 17592186044416)) (by omega)) (Below.refl _ _) (Nat.le_refl _) ?_; intro v174 w10 ho11 hb hg_ hnew_; clear hg_ hnew_; (first | rw [<- Ny173.out] at ho11 | (simp only [Int.reduceToNat] at ho11; rw [<- Ny173.out] at ho11)); have n0_ := Aside0.mk (Kd.R_lower ho11 (below_size (by repeat first | exact HB.out | with_reducible refine below_setA ?_ ‹_› | apply below_alloc | apply pw_below_drewN))); have n1_ := Aside0.mk (blk_below (bK BK171.out) hb); have n2_ := Aside0.mk (below_step (by repeat first | exact HB.out | with_reducible refine below_setA ?_ ‹_› | apply below_alloc | apply pw_below_drewN) hb); clear BK171; clear HB; have HO175 := n0_; have BK171 := n1_; have HB := n2_; clear n0_ n1_ n2_; clear hb ho11))
   go_loopg [7, 22] k (fun kq v7 v22 w' => ∃ (x7_1 : List (S51)) (x22_1 : Int), v22 = .int .i64 x22_1 ∧ Aside0 (impl_Ray.l0 kq a0_0 t172 x7_1 a0_0 x22_1 = some r) ∧ Aside0 (kq <= k) ∧ Aside0 (Kd.R k51 51 w' w.heap.size (fun _ => True) v7 x7_1) ∧ Aside0 (w'.heap[gb171]? = some (.cells #[.int .i64 a0_0, (.slice A0_1 l0_1.length c0_1)] 30 (0, 0))) ∧ Aside0 (Below w.heap.size w w'))
   case atStart => exact ⟨(y173), (0), (by first | rfl | (simp; done) | (simp [*]; done)), H', ⟨Nat.le_refl _⟩, ⟨by (with_reducible repeat apply Kd.R_alloc); exact HO175.out⟩, ⟨by (with_reducible repeat apply blk_alloc); exact BK171.out⟩, ⟨by repeat first | exact HB.out | with_reducible refine below_setA ?_ ‹_› | apply below_alloc | apply pw_below_drewN⟩⟩
   case round =>
    clear H'
    try clear p2
    try clear c4
    try clear c5
    try clear c5b0
    try clear c5b1
    try clear c6
    try clear c6b0
    try clear c6b1
    try clear p6
    obtain ⟨x7_1, x22_1, rfl, HA, HK1, HO_7, BK171, HB⟩ := hrel
    cases gk with
    | zero => exact absurd HA.out (by simp [impl_Ray.l0])
    | succ k1 =>
     have H := HA.out
     clear HA
     simp only [impl_Ray.l0] at H
     by_cases c12 : x22_1 < a0_0
     ·rw [if_pos c12] at H
      have c12b0 : decide (x22_1 < a0_0) = true := decide_eq_true c12
      clear c12
      replace H := Option.bind_eq_some_iff.mp H
      obtain ⟨⟨t176, t177⟩, A130, H⟩ := H
      replace H : (if x7_1.length < 8796093022208 then (impl_Ray.l0 k1 a0_0 t172 (x7_1 ++ [(⟨t176, t177⟩ : S51)]) a0_0 (wrap64 (x22_1 + 1))) else (none)) = some r := H
      have A13 := Aside0.mk A130
      clear A130
      by_cases c14 : x7_1.length < 8796093022208
      ·rw [if_pos c14] at H
       have LMc14 := Aside0.mk c14
       clear c14
       obtain ⟨y178, hy178⟩ : ∃ y_ : List (S51), y_ = (x7_1 ++ [(⟨t176, t177⟩ : S51)]) := ⟨_, rfl⟩
       replace H : (impl_Ray.l0 k1 a0_0 t172 y178 a0_0 (wrap64 (x22_1 + 1))) = some r := by first | (rw [hy178]; with_reducible exact H) | (have H2_ := (Option.bind_some _ _).symm.trans H; rw [hy178]; with_reducible exact H2_) | (have H2_ := (Option.bind_some _ _).symm.trans H; with_reducible exact H2_) | with_reducible exact H | (rw [hy178]; exact H) | exact H
       have Ny178 := Aside0.mk hy178
       clear hy178
       have H' := Aside0.mk H
       clear H
       obtain ⟨Ao15, co15, eo15⟩ := Kd.R_slice HO_7.out
       subst eo15
       go_wp2_with (first | ((with_reducible refine gate_dst (N := 31) rfl ?_); refine goesV_ (some 31) rfl rfl Try.func49 (by kernel_rfl) rfl #[.int .i64 (x7_1.length : Int), .agg #[.int .i64 x22_1, .int .i64 2]] rfl rfl (by first | rfl | (simp only [List.map_toArray, List.map_cons, List.map_nil, List.length_drop, List.length_take]; try rfl)) ?_; (with_reducible refine (impl_SightRay_1.calls (x7_1.length : Int) x22_1 2 t176 t177 _ A13.out).mono ?_); rintro e w16 ⟨rfl, hb⟩; refine ⟨_, rfl, ?_⟩; have n0_ := Aside0.mk (Kd.R_below (kR HO_7.out) hb); have n1_ := Aside0.mk (blk_below (bK BK171.out) hb); have n2_ := Aside0.mk (below_step (by repeat first | exact HB.out | with_reducible refine below_setA ?_ ‹_› | apply below_alloc | apply pw_below_drewN) hb); clear HO_7; clear BK171; clear HB; have HO_7 := n0_; have BK171 := n1_; have HB := n2_; clear n0_ n1_ n2_; (try clear hb); (try clear hb2); (try clear hk); (try clear hi)) | ((with_reducible refine gate_builtin (b := .append) (xs := #[.tmp 25, .tmp 32]) rfl ?_); at_builtin; refine Kd.R_append k51 (w0 := w) w.heap.size rfl (.tmp 25) (.tmp 32) 73 51 (.agg #[(.int .i64 0), (.int .i64 0)]) 16 rfl Try.underlying73 info51 rfl (by decide) (by omega) (.slice Ao15 x7_1.length co15) x7_1 (⟨t176, t177⟩ : S51) [.int .i64 t176, .int .i64 t177] (fun _ => True) (fun _ => False) rfl rfl ?aP (fun _ hk => hk.elim) ?aF ?aO ?aB ?aS ?aL ?_; (case aP => exact k51_mkM _ _ _ (⟨t176, t177⟩ : S51)); (case aB => exact (by repeat first | exact HB.out | with_reducible refine below_setA ?_ ‹_› | apply below_alloc | apply pw_below_drewN)); (case aF => exact (fun _ _ => trivial)); (case aO => exact (kR HO_7.out)); (case aS => exact (below_size (by repeat first | exact HB.out | with_reducible refine below_setA ?_ ‹_› | apply below_alloc | apply pw_below_drewN))); (case aL => have := LMc14.out; omega); intro v179 w17 ho hb hg hat; rw [<- Ny178.out] at ho; have n0_ := Aside0.mk (blk_grown (g := gb171) (o := .cells #[.int .i64 a0_0, .slice A0_1 l0_1.length c0_1] 30 (0, 0)) (bK BK171.out) hg (Kd.R_ne HO_7.out BK171.out (by decide))); have n1_ := Aside0.mk (hb); have n2_ := Aside0.mk (ho); clear BK171; clear HB; clear HO_7; have BK171 := n0_; have HB := n1_; have HO180 := n2_; clear n0_ n1_ n2_; clear ho hb hg hat))
       go_roundg k1
       case measure => have := HK1.out; omega
       case rel => exact ⟨(y178), (wrap64 (x22_1 + 1)), (by first | rfl | (simp; done) | (simp [*]; done)), H', ⟨by have := HK1.out; omega⟩, ⟨by (with_reducible repeat apply Kd.R_alloc); exact HO180.out⟩, ⟨by (with_reducible repeat apply blk_alloc); exact BK171.out⟩, ⟨by repeat first | exact HB.out | with_reducible refine below_setA ?_ ‹_› | apply below_alloc | apply pw_below_drewN⟩⟩
      ·rw [if_neg c14] at H
       exact absurd H (by simp)
     ·rw [if_neg c12] at H
      have c12b0 : decide (x22_1 < a0_0) = false := decide_eq_false c12
      clear c12
      have H' := Aside0.mk H
      clear H
      go_wp2
      go_loopg [7, 36] k1 (fun kq v7 v36 w' => ∃ (x7_2 : List (S51)) (x36_2 : Int), v36 = .int .i64 x36_2 ∧ Aside0 (impl_Ray.l1 kq a0_0 t172 x7_2 t172 x36_2 = some r) ∧ Aside0 (kq <= k1) ∧ Aside0 (Kd.R k51 51 w' w.heap.size (fun _ => True) v7 x7_2) ∧ Aside0 (w'.heap[gb171]? = some (.cells #[.int .i64 a0_0, (.slice A0_1 l0_1.length c0_1)] 30 (0, 0))) ∧ Aside0 (Below w.heap.size w w'))
      case atStart => exact ⟨(x7_1), (0), (by first | rfl | (simp; done) | (simp [*]; done)), H', ⟨Nat.le_refl _⟩, ⟨by (with_reducible repeat apply Kd.R_alloc); exact HO_7.out⟩, ⟨by (with_reducible repeat apply blk_alloc); exact BK171.out⟩, ⟨by repeat first | exact HB.out | with_reducible refine below_setA ?_ ‹_› | apply below_alloc | apply pw_below_drewN⟩⟩
      case round =>
       clear H'
       try clear c1
       try clear p2
       try clear c4
       try clear c5
       try clear c5b0
       try clear c5b1
       try clear c6
       try clear c6b0
       try clear c6b1
       try clear p6
       try clear c12
       try clear c12b0
       try clear c14
       try clear p2
       try clear p6
       obtain ⟨x7_2, x36_2, rfl, HA, HK2, HO_7, BK171, HB⟩ := hrel
       cases gk with
       | zero => exact absurd HA.out (by simp [impl_Ray.l1])
       | succ k2 =>
        have H := HA.out
        clear HA
        simp only [impl_Ray.l1] at H
        by_cases c18 : x36_2 < t172
        ·rw [if_pos c18] at H
         have c18b0 : decide (x36_2 < t172) = true := decide_eq_true c18
         clear c18
         replace H := Option.bind_eq_some_iff.mp H
         obtain ⟨⟨t181, t182⟩, A190, H⟩ := H
         replace H : (if x7_2.length < 8796093022208 then (impl_Ray.l1 k2 a0_0 t172 (x7_2 ++ [(⟨t181, t182⟩ : S51)]) t172 (wrap64 (x36_2 + 1))) else (none)) = some r := H
         have A19 := Aside0.mk A190
         clear A190
         by_cases c20 : x7_2.length < 8796093022208
         ·rw [if_pos c20] at H
          have LMc20 := Aside0.mk c20
          clear c20
          obtain ⟨y183, hy183⟩ : ∃ y_ : List (S51), y_ = (x7_2 ++ [(⟨t181, t182⟩ : S51)]) := ⟨_, rfl⟩
          replace H : (impl_Ray.l1 k2 a0_0 t172 y183 t172 (wrap64 (x36_2 + 1))) = some r := by first | (rw [hy183]; with_reducible exact H) | (have H2_ := (Option.bind_some _ _).symm.trans H; rw [hy183]; with_reducible exact H2_) | (have H2_ := (Option.bind_some _ _).symm.trans H; with_reducible exact H2_) | with_reducible exact H | (rw [hy183]; exact H) | exact H
          have Ny183 := Aside0.mk hy183
          clear hy183
          have H' := Aside0.mk H
          clear H
          obtain ⟨Ao21, co21, eo21⟩ := Kd.R_slice HO_7.out
          subst eo21
          go_wp2_with (first | ((with_reducible refine gate_dst (N := 50) rfl ?_); refine goesV_ (some 50) rfl rfl Try.func49 (by kernel_rfl) rfl #[.int .i64 (x7_2.length : Int), .agg #[.int .i64 (wrap64 ((wrap64 ((wrap64 (x36_2 * a0_0)) + a0_0)) - 1)), .int .i64 3]] rfl rfl (by first | rfl | (simp only [List.map_toArray, List.map_cons, List.map_nil, List.length_drop, List.length_take]; try rfl)) ?_; (with_reducible refine (impl_SightRay_1.calls (x7_2.length : Int) (wrap64 ((wrap64 ((wrap64 (x36_2 * a0_0)) + a0_0)) - 1)) 3 t181 t182 _ A19.out).mono ?_); rintro e w22 ⟨rfl, hb⟩; refine ⟨_, rfl, ?_⟩; have n0_ := Aside0.mk (Kd.R_below (kR HO_7.out) hb); have n1_ := Aside0.mk (blk_below (bK BK171.out) hb); have n2_ := Aside0.mk (below_step (by repeat first | exact HB.out | with_reducible refine below_setA ?_ ‹_› | apply below_alloc | apply pw_below_drewN) hb); clear HO_7; clear BK171; clear HB; have HO_7 := n0_; have BK171 := n1_; have HB := n2_; clear n0_ n1_ n2_; (try clear hb); (try clear hb2); (try clear hk); (try clear hi)) | ((with_reducible refine gate_builtin (b := .append) (xs := #[.tmp 39, .tmp 51]) rfl ?_); at_builtin; refine Kd.R_append k51 (w0 := w) w.heap.size rfl (.tmp 39) (.tmp 51) 73 51 (.agg #[(.int .i64 0), (.int .i64 0)]) 16 rfl Try.underlying73 info51 rfl (by decide) (by omega) (.slice Ao21 x7_2.length co21) x7_2 (⟨t181, t182⟩ : S51) [.int .i64 t181, .int .i64 t182] (fun _ => True) (fun _ => False) rfl rfl ?aP (fun _ hk => hk.elim) ?aF ?aO ?aB ?aS ?aL ?_; (case aP => exact k51_mkM _ _ _ (⟨t181, t182⟩ : S51)); (case aB => exact (by repeat first | exact HB.out | with_reducible refine below_setA ?_ ‹_› | apply below_alloc | apply pw_below_drewN)); (case aF => exact (fun _ _ => trivial)); (case aO => exact (kR HO_7.out)); (case aS => exact (below_size (by repeat first | exact HB.out | with_reducible refine below_setA ?_ ‹_› | apply below_alloc | apply pw_below_drewN))); (case aL => have := LMc20.out; omega); intro v184 w23 ho hb hg hat; rw [<- Ny183.out] at ho; have n0_ := Aside0.mk (blk_grown (g := gb171) (o := .cells #[.int .i64 a0_0, .slice A0_1 l0_1.length c0_1] 30 (0, 0)) (bK BK171.out) hg (Kd.R_ne HO_7.out BK171.out (by decide))); have n1_ := Aside0.mk (hb); have n2_ := Aside0.mk (ho); clear BK171; clear HB; clear HO_7; have BK171 := n0_; have HB := n1_; have HO185 := n2_; clear n0_ n1_ n2_; clear ho hb hg hat))
          go_roundg k2
          case measure => have := HK1.out; have := HK2.out; omega
          case rel => exact ⟨(y183), (wrap64 (x36_2 + 1)), (by first | rfl | (simp; done) | (simp [*]; done)), H', ⟨by have := HK1.out; have := HK2.out; omega⟩, ⟨by (with_reducible repeat apply Kd.R_alloc); exact HO185.out⟩, ⟨by (with_reducible repeat apply blk_alloc); exact BK171.out⟩, ⟨by repeat first | exact HB.out | with_reducible refine below_setA ?_ ‹_› | apply below_alloc | apply pw_below_drewN⟩⟩
         ·rw [if_neg c20] at H
          exact absurd H (by simp)
        ·rw [if_neg c18] at H
         have c18b0 : decide (x36_2 < t172) = false := decide_eq_false c18
         clear c18
         have H' := Aside0.mk H
         clear H
         go_wp2
         go_loopg [7, 55] k2 (fun kq v7 v55 w' => ∃ (x7_3 : List (S51)) (x55_3 : Int), v55 = .int .i64 x55_3 ∧ Aside0 (impl_Ray.l2 kq a0_0 t172 x7_3 a0_0 x55_3 = some r) ∧ Aside0 (kq <= k2) ∧ Aside0 (Kd.R k51 51 w' w.heap.size (fun _ => True) v7 x7_3) ∧ Aside0 (w'.heap[gb171]? = some (.cells #[.int .i64 a0_0, (.slice A0_1 l0_1.length c0_1)] 30 (0, 0))) ∧ Aside0 (Below w.heap.size w w'))
         case atStart => exact ⟨(x7_2), (0), (by first | rfl | (simp; done) | (simp [*]; done)), H', ⟨Nat.le_refl _⟩, ⟨by (with_reducible repeat apply Kd.R_alloc); exact HO_7.out⟩, ⟨by (with_reducible repeat apply blk_alloc); exact BK171.out⟩, ⟨by repeat first | exact HB.out | with_reducible refine below_setA ?_ ‹_› | apply below_alloc | apply pw_below_drewN⟩⟩
         case round =>
          clear H'
          try clear c1
          try clear c2
          try clear p2
          try clear c4
          try clear c5
          try clear c5b0
          try clear c5b1
          try clear c6
          try clear c6b0
          try clear c6b1
          try clear p6
          try clear c12
          try clear c12b0
          try clear c14
          try clear c18
          try clear c18b0
          try clear c20
          try clear p2
          try clear p6
          obtain ⟨x7_3, x55_3, rfl, HA, HK3, HO_7, BK171, HB⟩ := hrel
          cases gk with
          | zero => exact absurd HA.out (by simp [impl_Ray.l2])
          | succ k3 =>
           have H := HA.out
           clear HA
           simp only [impl_Ray.l2] at H
           by_cases c24 : x55_3 < a0_0
           ·rw [if_pos c24] at H
            have c24b0 : decide (x55_3 < a0_0) = true := decide_eq_true c24
            clear c24
            replace H := Option.bind_eq_some_iff.mp H
            obtain ⟨⟨t186, t187⟩, A250, H⟩ := H
            replace H : (if x7_3.length < 8796093022208 then (impl_Ray.l2 k3 a0_0 t172 (x7_3 ++ [(⟨t186, t187⟩ : S51)]) a0_0 (wrap64 (x55_3 + 1))) else (none)) = some r := H
            have A25 := Aside0.mk A250
            clear A250
            by_cases c26 : x7_3.length < 8796093022208
            ·rw [if_pos c26] at H
             have LMc26 := Aside0.mk c26
             clear c26
             obtain ⟨y188, hy188⟩ : ∃ y_ : List (S51), y_ = (x7_3 ++ [(⟨t186, t187⟩ : S51)]) := ⟨_, rfl⟩
             replace H : (impl_Ray.l2 k3 a0_0 t172 y188 a0_0 (wrap64 (x55_3 + 1))) = some r := by first | (rw [hy188]; with_reducible exact H) | (have H2_ := (Option.bind_some _ _).symm.trans H; rw [hy188]; with_reducible exact H2_) | (have H2_ := (Option.bind_some _ _).symm.trans H; with_reducible exact H2_) | with_reducible exact H | (rw [hy188]; exact H) | exact H
             have Ny188 := Aside0.mk hy188
             clear hy188
             have H' := Aside0.mk H
             clear H
             obtain ⟨Ao27, co27, eo27⟩ := Kd.R_slice HO_7.out
             subst eo27
             go_wp2_with (first | ((with_reducible refine gate_dst (N := 69) rfl ?_); refine goesV_ (some 69) rfl rfl Try.func49 (by kernel_rfl) rfl #[.int .i64 (x7_3.length : Int), .agg #[.int .i64 (wrap64 ((wrap64 ((wrap64 (t172 * a0_0)) - 1)) - x55_3)), .int .i64 0]] rfl rfl (by first | rfl | (simp only [List.map_toArray, List.map_cons, List.map_nil, List.length_drop, List.length_take]; try rfl)) ?_; (with_reducible refine (impl_SightRay_1.calls (x7_3.length : Int) (wrap64 ((wrap64 ((wrap64 (t172 * a0_0)) - 1)) - x55_3)) 0 t186 t187 _ A25.out).mono ?_); rintro e w28 ⟨rfl, hb⟩; refine ⟨_, rfl, ?_⟩; have n0_ := Aside0.mk (Kd.R_below (kR HO_7.out) hb); have n1_ := Aside0.mk (blk_below (bK BK171.out) hb); have n2_ := Aside0.mk (below_step (by repeat first | exact HB.out | with_reducible refine below_setA ?_ ‹_› | apply below_alloc | apply pw_below_drewN) hb); clear HO_7; clear BK171; clear HB; have HO_7 := n0_; have BK171 := n1_; have HB := n2_; clear n0_ n1_ n2_; (try clear hb); (try clear hb2); (try clear hk); (try clear hi)) | ((with_reducible refine gate_builtin (b := .append) (xs := #[.tmp 58, .tmp 70]) rfl ?_); at_builtin; refine Kd.R_append k51 (w0 := w) w.heap.size rfl (.tmp 58) (.tmp 70) 73 51 (.agg #[(.int .i64 0), (.int .i64 0)]) 16 rfl Try.underlying73 info51 rfl (by decide) (by omega) (.slice Ao27 x7_3.length co27) x7_3 (⟨t186, t187⟩ : S51) [.int .i64 t186, .int .i64 t187] (fun _ => True) (fun _ => False) rfl rfl ?aP (fun _ hk => hk.elim) ?aF ?aO ?aB ?aS ?aL ?_; (case aP => exact k51_mkM _ _ _ (⟨t186, t187⟩ : S51)); (case aB => exact (by repeat first | exact HB.out | with_reducible refine below_setA ?_ ‹_› | apply below_alloc | apply pw_below_drewN)); (case aF => exact (fun _ _ => trivial)); (case aO => exact (kR HO_7.out)); (case aS => exact (below_size (by repeat first | exact HB.out | with_reducible refine below_setA ?_ ‹_› | apply below_alloc | apply pw_below_drewN))); (case aL => have := LMc26.out; omega); intro v189 w29 ho hb hg hat; rw [<- Ny188.out] at ho; have n0_ := Aside0.mk (blk_grown (g := gb171) (o := .cells #[.int .i64 a0_0, .slice A0_1 l0_1.length c0_1] 30 (0, 0)) (bK BK171.out) hg (Kd.R_ne HO_7.out BK171.out (by decide))); have n1_ := Aside0.mk (hb); have n2_ := Aside0.mk (ho); clear BK171; clear HB; clear HO_7; have BK171 := n0_; have HB := n1_; have HO190 := n2_; clear n0_ n1_ n2_; clear ho hb hg hat))
             go_roundg k3
             case measure => have := HK1.out; have := HK2.out; have := HK3.out; omega
             case rel => exact ⟨(y188), (wrap64 (x55_3 + 1)), (by first | rfl | (simp; done) | (simp [*]; done)), H', ⟨by have := HK1.out; have := HK2.out; have := HK3.out; omega⟩, ⟨by (with_reducible repeat apply Kd.R_alloc); exact HO190.out⟩, ⟨by (with_reducible repeat apply blk_alloc); exact BK171.out⟩, ⟨by repeat first | exact HB.out | with_reducible refine below_setA ?_ ‹_› | apply below_alloc | apply pw_below_drewN⟩⟩
            ·rw [if_neg c26] at H
             exact absurd H (by simp)
           ·rw [if_neg c24] at H
            have c24b0 : decide (x55_3 < a0_0) = false := decide_eq_false c24
            clear c24
            have H' := Aside0.mk H
            clear H
            go_wp2
            go_loopg [7, 74] k3 (fun kq v7 v74 w' => ∃ (x7_4 : List (S51)) (x74_4 : Int), v74 = .int .i64 x74_4 ∧ Aside0 (impl_Ray.l3 kq a0_0 t172 x7_4 t172 x74_4 = some r) ∧ Aside0 (kq <= k3) ∧ Aside0 (Kd.R k51 51 w' w.heap.size (fun _ => True) v7 x7_4) ∧ Aside0 (w'.heap[gb171]? = some (.cells #[.int .i64 a0_0, (.slice A0_1 l0_1.length c0_1)] 30 (0, 0))) ∧ Aside0 (Below w.heap.size w w'))
            case atStart => exact ⟨(x7_3), (0), (by first | rfl | (simp; done) | (simp [*]; done)), H', ⟨Nat.le_refl _⟩, ⟨by (with_reducible repeat apply Kd.R_alloc); exact HO_7.out⟩, ⟨by (with_reducible repeat apply blk_alloc); exact BK171.out⟩, ⟨by repeat first | exact HB.out | with_reducible refine below_setA ?_ ‹_› | apply below_alloc | apply pw_below_drewN⟩⟩
            case round =>
             clear H'
             try clear c1
             try clear c2
             try clear p2
             try clear c4
             try clear c5
             try clear c5b0
             try clear c5b1
             try clear c6
             try clear c6b0
             try clear c6b1
             try clear p6
             try clear c12
             try clear c12b0
             try clear c14
             try clear c18
             try clear c18b0
             try clear c20
             try clear c24
             try clear c24b0
             try clear c26
             try clear p2
             try clear p6
             obtain ⟨x7_4, x74_4, rfl, HA, HK4, HO_7, BK171, HB⟩ := hrel
             cases gk with
             | zero => exact absurd HA.out (by simp [impl_Ray.l3])
             | succ k4 =>
              have H := HA.out
              clear HA
              simp only [impl_Ray.l3] at H
              by_cases c30 : x74_4 < t172
              ·rw [if_pos c30] at H
               have c30b0 : decide (x74_4 < t172) = true := decide_eq_true c30
               clear c30
               replace H := Option.bind_eq_some_iff.mp H
               obtain ⟨⟨t191, t192⟩, A310, H⟩ := H
               replace H : (if x7_4.length < 8796093022208 then (impl_Ray.l3 k4 a0_0 t172 (x7_4 ++ [(⟨t191, t192⟩ : S51)]) t172 (wrap64 (x74_4 + 1))) else (none)) = some r := H
               have A31 := Aside0.mk A310
               clear A310
               by_cases c32 : x7_4.length < 8796093022208
               ·rw [if_pos c32] at H
                have LMc32 := Aside0.mk c32
                clear c32
                obtain ⟨y193, hy193⟩ : ∃ y_ : List (S51), y_ = (x7_4 ++ [(⟨t191, t192⟩ : S51)]) := ⟨_, rfl⟩
                replace H : (impl_Ray.l3 k4 a0_0 t172 y193 t172 (wrap64 (x74_4 + 1))) = some r := by first | (rw [hy193]; with_reducible exact H) | (have H2_ := (Option.bind_some _ _).symm.trans H; rw [hy193]; with_reducible exact H2_) | (have H2_ := (Option.bind_some _ _).symm.trans H; with_reducible exact H2_) | with_reducible exact H | (rw [hy193]; exact H) | exact H
                have Ny193 := Aside0.mk hy193
                clear hy193
                have H' := Aside0.mk H
                clear H
                obtain ⟨Ao33, co33, eo33⟩ := Kd.R_slice HO_7.out
                subst eo33
                go_wp2_with (first | ((with_reducible refine gate_dst (N := 88) rfl ?_); refine goesV_ (some 88) rfl rfl Try.func49 (by kernel_rfl) rfl #[.int .i64 (x7_4.length : Int), .agg #[.int .i64 (wrap64 ((wrap64 ((wrap64 (t172 - 1)) - x74_4)) * a0_0)), .int .i64 1]] rfl rfl (by first | rfl | (simp only [List.map_toArray, List.map_cons, List.map_nil, List.length_drop, List.length_take]; try rfl)) ?_; (with_reducible refine (impl_SightRay_1.calls (x7_4.length : Int) (wrap64 ((wrap64 ((wrap64 (t172 - 1)) - x74_4)) * a0_0)) 1 t191 t192 _ A31.out).mono ?_); rintro e w34 ⟨rfl, hb⟩; refine ⟨_, rfl, ?_⟩; have n0_ := Aside0.mk (Kd.R_below (kR HO_7.out) hb); have n1_ := Aside0.mk (blk_below (bK BK171.out) hb); have n2_ := Aside0.mk (below_step (by repeat first | exact HB.out | with_reducible refine below_setA ?_ ‹_› | apply below_alloc | apply pw_below_drewN) hb); clear HO_7; clear BK171; clear HB; have HO_7 := n0_; have BK171 := n1_; have HB := n2_; clear n0_ n1_ n2_; (try clear hb); (try clear hb2); (try clear hk); (try clear hi)) | ((with_reducible refine gate_builtin (b := .append) (xs := #[.tmp 77, .tmp 89]) rfl ?_); at_builtin; refine Kd.R_append k51 (w0 := w) w.heap.size rfl (.tmp 77) (.tmp 89) 73 51 (.agg #[(.int .i64 0), (.int .i64 0)]) 16 rfl Try.underlying73 info51 rfl (by decide) (by omega) (.slice Ao33 x7_4.length co33) x7_4 (⟨t191, t192⟩ : S51) [.int .i64 t191, .int .i64 t192] (fun _ => True) (fun _ => False) rfl rfl ?aP (fun _ hk => hk.elim) ?aF ?aO ?aB ?aS ?aL ?_; (case aP => exact k51_mkM _ _ _ (⟨t191, t192⟩ : S51)); (case aB => exact (by repeat first | exact HB.out | with_reducible refine below_setA ?_ ‹_› | apply below_alloc | apply pw_below_drewN)); (case aF => exact (fun _ _ => trivial)); (case aO => exact (kR HO_7.out)); (case aS => exact (below_size (by repeat first | exact HB.out | with_reducible refine below_setA ?_ ‹_› | apply below_alloc | apply pw_below_drewN))); (case aL => have := LMc32.out; omega); intro v194 w35 ho hb hg hat; rw [<- Ny193.out] at ho; have n0_ := Aside0.mk (blk_grown (g := gb171) (o := .cells #[.int .i64 a0_0, .slice A0_1 l0_1.length c0_1] 30 (0, 0)) (bK BK171.out) hg (Kd.R_ne HO_7.out BK171.out (by decide))); have n1_ := Aside0.mk (hb); have n2_ := Aside0.mk (ho); clear BK171; clear HB; clear HO_7; have BK171 := n0_; have HB := n1_; have HO195 := n2_; clear n0_ n1_ n2_; clear ho hb hg hat))
                go_roundg k4
                case measure => have := HK1.out; have := HK2.out; have := HK3.out; have := HK4.out; omega
                case rel => exact ⟨(y193), (wrap64 (x74_4 + 1)), (by first | rfl | (simp; done) | (simp [*]; done)), H', ⟨by have := HK1.out; have := HK2.out; have := HK3.out; have := HK4.out; omega⟩, ⟨by (with_reducible repeat apply Kd.R_alloc); exact HO195.out⟩, ⟨by (with_reducible repeat apply blk_alloc); exact BK171.out⟩, ⟨by repeat first | exact HB.out | with_reducible refine below_setA ?_ ‹_› | apply below_alloc | apply pw_below_drewN⟩⟩
               ·rw [if_neg c32] at H
                exact absurd H (by simp)
              ·rw [if_neg c30] at H
               have c30b0 : decide (x74_4 < t172) = false := decide_eq_false c30
               clear c30
               obtain rfl := Option.some.inj H
               go_wp2
               go_ret
               exact ⟨_, by first | rfl | (simp [errW_none, errW_some] <;> rfl) | (simp only [<- hji4]; first | rfl | (simp [errW_none, errW_some] <;> rfl)) | (simp [*, errW_none, errW_some] <;> rfl) | (exfalso; simp_all; done), by (with_reducible repeat apply Kd.R_alloc); exact HO_7.out, by repeat first | exact HB.out | with_reducible refine below_setA ?_ ‹_› | apply below_alloc | apply pw_below_drewN⟩
  ·rw [if_neg c6] at H
   exact absurd H (by simp)
 ·rw [if_neg c5] at H
  exact absurd H (by simp)
end Go.Proofs.Ytmohfoleolmijaa.P
