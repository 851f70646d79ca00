/- PROVED: contracts of functions; No condition. -/
import Derived.Test.YteapnipnoadejaaPx0
import Derived.Test.YteapnipnoadejaaPx31
import Derived.Test.YteapnipnoadejaaPx32
namespace Go.Proofs.Yteapnipnoadejaa.P
open Go.RowKit Go.Proofs.YteapnipnoadejaaW
set_option linter.unusedVariables false
set_option linter.unusedSimpArgs false
mutual
def Wt.l0 : Nat -> Int -> Int -> List (S44) -> Int -> Int -> Option ((List (S44)))
 | 0, _, _, _, _, _ => none
 | k + 1, x5, x6, x7, x21, x22 => if x22 < x21 then ((Zy.f (x7.length : Int) x22 2).bind fun bt219 => (if x7.length < 8796093022208 then (Wt.l0 k x5 x6 (x7 ++ [(⟨bt219.1, bt219.2⟩ : S44)]) x21 (wrap64 (x22 + 1))) else (none))) else (Wt.l1 k x5 x6 x7 x6 0)
def Wt.l1 : Nat -> Int -> Int -> List (S44) -> Int -> Int -> Option ((List (S44)))
 | 0, _, _, _, _, _ => none
 | k + 1, x5, x6, x7, x35, x36 => if x36 < x35 then ((Zy.f (x7.length : Int) (wrap64 ((wrap64 ((wrap64 (x36 * x5)) + x5)) - 1)) 3).bind fun bt224 => (if x7.length < 8796093022208 then (Wt.l1 k x5 x6 (x7 ++ [(⟨bt224.1, bt224.2⟩ : S44)]) x35 (wrap64 (x36 + 1))) else (none))) else (Wt.l2 k x5 x6 x7 x5 0)
def Wt.l2 : Nat -> Int -> Int -> List (S44) -> Int -> Int -> Option ((List (S44)))
 | 0, _, _, _, _, _ => none
 | k + 1, x5, x6, x7, x54, x55 => if x55 < x54 then ((Zy.f (x7.length : Int) (wrap64 ((wrap64 ((wrap64 (x6 * x5)) - 1)) - x55)) 0).bind fun bt229 => (if x7.length < 8796093022208 then (Wt.l2 k x5 x6 (x7 ++ [(⟨bt229.1, bt229.2⟩ : S44)]) x54 (wrap64 (x55 + 1))) else (none))) else (Wt.l3 k x5 x6 x7 x6 0)
def Wt.l3 : Nat -> Int -> Int -> List (S44) -> Int -> Int -> Option ((List (S44)))
 | 0, _, _, _, _, _ => none
 | k + 1, x5, x6, x7, x73, x74 => if x74 < x73 then ((Zy.f (x7.length : Int) (wrap64 ((wrap64 ((wrap64 (x6 - 1)) - x74)) * x5)) 1).bind fun bt234 => (if x7.length < 8796093022208 then (Wt.l3 k x5 x6 (x7 ++ [(⟨bt234.1, bt234.2⟩ : S44)]) x73 (wrap64 (x74 + 1))) else (none))) else (some x7)
end
def Wt.f (k : Nat) (a0_0 : Int) (l0_1 : List (S42))  : Option ((List (S44))) := (Yj.f a0_0 l0_1).bind fun t215 => (if 0 <= (wrap64 (2 * (wrap64 (a0_0 + t215)))) then (if (wrap64 (2 * (wrap64 (a0_0 + t215))) : Int).toNat <= 17592186044416 then (Wt.l0 k a0_0 t215 (([] : List (S44))) a0_0 0) else (none)) else (none))
set_option maxHeartbeats 8000000 in
set_option maxRecDepth 100000 in
theorem Wt.calls (k : Nat) (a0_0 : Int) (A0_1 : Option Addr) (c0_1 : Nat) (l0_1 : List (S42))  (r : List (S44)) (w : World) (hr0_1 : Kd.C k42 w A0_1 l0_1.length l0_1) (hc0_1 : l0_1.length <= c0_1) (h : Wt.f k a0_0 l0_1 = some r) :
  Calls Try.prog 34 #[.agg #[.int .i64 a0_0, .slice A0_1 l0_1.length c0_1], .func (.func 35) #[] #[]] w fun e w' => ∃ v0_ : Value, e = .returned (v0_) ∧ Kd.R k44 44 w' w.heap.size (fun _ => True) v0_ r ∧ Below w.heap.size w w' := by
 have hu25 := Try.underlying25
 have hu44 := Try.underlying44
 have HR0_1 := Qa.mk hr0_1
 have HC0_1 := Qa.mk hc0_1
 clear hr0_1 hc0_1
 have HB := Qa.mk (Below.refl w.heap.size w)
 have H : ((Yj.f a0_0 l0_1).bind fun t215 => (if 0 <= (wrap64 (2 * (wrap64 (a0_0 + t215)))) then (if (wrap64 (2 * (wrap64 (a0_0 + t215))) : Int).toNat <= 17592186044416 then (Wt.l0 k a0_0 t215 (([] : List (S44))) a0_0 0) else (none)) else (none))) = some r := h
 clear h
 replace H := Option.bind_eq_some_iff.mp H
 obtain ⟨t215, A30, H⟩ := H
 replace H : (if 0 <= (wrap64 (2 * (wrap64 (a0_0 + t215)))) then (if (wrap64 (2 * (wrap64 (a0_0 + t215))) : Int).toNat <= 17592186044416 then (Wt.l0 k a0_0 t215 (([] : List (S44))) a0_0 0) else (none)) else (none)) = some r := H
 have A3 := Qa.mk A30
 clear A30
 obtain ⟨ji4, hji4⟩ : ∃ j_ : Int, (wrap64 (2 * (wrap64 (a0_0 + t215)))) = j_ := ⟨_, rfl⟩
 replace H : (if 0 <= (ji4) then (if (ji4 : Int).toNat <= 17592186044416 then (Wt.l0 k a0_0 t215 (([] : List (S44))) a0_0 0) else (none)) else (none)) = some r := by first | (rw [hji4] at H; exact H) | (simp only [hji4] at H ⊢; exact H)
 (try rw [hji4] at A3)
 have hji4w : (IntKind.i64.wrap (2 * (wrap64 (a0_0 + t215)))) = ji4 := (Wp _).trans hji4
 by_cases c5 : 0 <= (ji4)
 ·rw [if_pos c5] at H
  have c5b0 := eq_true c5
  have c5b1 : decide (0 <= (ji4)) = true := decide_eq_true c5
  clear c5
  by_cases c6 : (ji4 : Int).toNat <= 17592186044416
  ·rw [if_pos c6] at H
   have c6b0 := eq_true c6
   have c6b1 : decide ((ji4 : Int).toNat <= 17592186044416) = true := decide_eq_true c6
   clear c6
   obtain ⟨y216, hy216⟩ : ∃ y_ : List (S44), y_ = (([] : List (S44))) := ⟨_, rfl⟩
   replace H : (Wt.l0 k a0_0 t215 y216 a0_0 0) = some r := by first | (rw [hy216]; with_reducible exact H) | (have H2_ := (Option.bind_some _ _).symm.trans H; rw [hy216]; with_reducible exact H2_) | (have H2_ := (Option.bind_some _ _).symm.trans H; with_reducible exact H2_) | with_reducible exact H | (rw [hy216]; exact H) | exact H
   have Ny216 := Qa.mk hy216
   clear hy216
   have H' := Qa.mk H
   clear H
   go_enter Try.func34, Try.ntmps34
   try go_wp2_with (first | ((with_reducible refine We (N := 2) rfl ?_); refine Qy rfl (N := 2) rfl (cs := #[.int .i64 a0_0, .slice A0_1 l0_1.length c0_1]) (t := 25) ?hr ?_; (case hr => first | (go_simp; done) | (go_simp; rfl)); intro gb214 hg w7 hbox hb; have n0_ := Qa.mk (Ql (by repeat first | exact HB.out | apply Qc | apply Qb) hb); have n1_ := Qa.mk (hbox); have n2_ := Qa.mk ((by rw [hg]; exact (Qr (by repeat first | exact HB.out | apply Qc | apply Qb)) : w.heap.size <= gb214)); have n3_ := n2_; clear HB; have HB := n0_; have BK214 := n1_; have GW214 := n2_; have GE214 := n3_; clear n0_ n1_ n2_ n3_; clear hb hbox hg))
   have n0_ := Qa.mk (Ye BK214.out)
   have n1_ := Qa.mk (Qq HB.out)
   clear BK214
   clear HB
   have BK214 := n0_
   have HB := n1_
   clear n0_ n1_
   refine start_ (n := 6) (S := fun w' => w'.cell? ⟨gb214, 0, none⟩ = some (.int .i64 a0_0) ∧ w'.cell? ⟨gb214, 1, none⟩ = some (.slice A0_1 l0_1.length c0_1)) (ds := []) #[false, false, false, false, false, false] (by kernel_rfl) rfl rfl ⟨(Qe BK214.out 0).trans rfl, (Qe BK214.out 1).trans rfl⟩ (fun hHeld => ?_)
   generalize w7.drew = w8 at BK214 HB hHeld ⊢
   refine Zt (i := 0) (N := some 12) (v := ?_) (a' := ?_) #[true, false, false, false, false, false] rfl rfl (by kernel_rfl) (fun _ _ _ h => h) (Or.inl ⟨by rfl, ?_⟩) ?_ ?_
   rotate_left
   ·intro w'
    go_simp
    with_reducible rfl
   rotate_left
   ·simp only [Act.put, sA_, sZ_, sS_, Wp, Ws]
    rfl
   refine Xt (i := 1) (N := some 13) (v := ?_) (a' := ?_) #[true, true, false, false, false, false] rfl rfl (by kernel_rfl) (fun _ _ _ h => h) (Or.inl ⟨by rfl, ?_⟩) hHeld ?_ ?_
   rotate_left
   ·rintro w' ⟨s0, s1⟩
    go_simp
    with_reducible rfl
   rotate_left
   ·simp only [Act.put, sA_, sZ_, sS_, Wp, Ws]
    rfl
   refine Xt (i := 2) (N := some 14) (v := ?_) (a' := ?_) #[true, true, true, false, false, false] rfl rfl (by kernel_rfl) (fun _ _ _ h => h) (Or.inl ⟨by rfl, ?_⟩) hHeld ?_ ?_
   rotate_left
   ·rintro w' ⟨s0, s1⟩
    go_simp
    with_reducible rfl
   rotate_left
   ·simp only [Act.put, sA_, sZ_, sS_, Wp, Ws]
    rfl
   refine one_ (i := 3) (N := some 15) #[true, true, true, true, false, false] rfl rfl (by kernel_rfl) (by decide) (fun K hK => ?_)
   refine goes_ Try.func52 (by kernel_rfl) rfl #[.agg #[.int .i64 a0_0, .slice A0_1 l0_1.length c0_1]] (by rfl) rfl rfl (by first | rfl | (simp only [List.map_toArray, List.map_cons, List.map_nil, List.length_drop, List.length_take]; try rfl)) ?_
   with_reducible refine (Yj.calls a0_0 _ _ l0_1 t215 _ ?side1 ?side2 A3.out).mono ?_
   (case side1 => repeat (first | exact (Kd.Zi HR0_1.out HB.out) | (with_reducible refine Kd.Zm ?_ _) | (with_reducible refine Kd.Zl ?_ _) | (with_reducible refine Kd.Yb ?_)))
   (case side2 => exact HC0_1.out)
   rintro e w9 ⟨rfl, hb⟩
   refine ⟨_, rfl, ?_⟩
   have n0_ := Qa.mk (Qk (bK BK214.out) hb)
   have n1_ := Qa.mk (Ql (by repeat first | exact HB.out | with_reducible refine Qh ?_ ‹_› | apply Qc | apply Qb) hb)
   clear BK214
   clear HB
   have BK214 := n0_
   have HB := n1_
   clear n0_ n1_
   (try clear hb)
   (try clear hb2)
   (try clear hk)
   (try clear hi)
   refine hK.out _ _ ⟨(Qe BK214.out 0).trans rfl, (Qe BK214.out 1).trans rfl⟩ (fun hHeld => ?_)
   clear hK K
   refine Xp (a' := ?_) ?_ ?_
   rotate_left
   ·show Act.put _ (some 15) _ = _
    simp only [Act.put, sA_, sZ_, sS_, Wp, Ws]
    rfl
   refine Zt (i := 4) (N := some 5) (v := ?_) (a' := ?_) #[true, true, true, true, true, false] rfl rfl (by kernel_rfl) (fun _ _ _ h => h) (Or.inl ⟨by rfl, ?_⟩) ?_ ?_
   rotate_left
   ·intro w'
    go_simp
    with_reducible rfl
   rotate_left
   ·simp only [Act.put, sA_, sZ_, sS_, Wp, Ws]
    rfl
   refine Zt (i := 5) (N := some 6) (v := ?_) (a' := ?_) #[true, true, true, true, true, true] rfl rfl (by kernel_rfl) (fun _ _ _ h => h) (Or.inl ⟨by rfl, ?_⟩) ?_ ?_
   rotate_left
   ·intro w'
    go_simp
    with_reducible rfl
   rotate_left
   ·simp only [Act.put, sA_, sZ_, sS_, Wp, Ws]
    rfl
   refine done_ (by kernel_rfl) ?_
   try go_wp2_with (first | ((with_reducible refine We (N := 20) rfl ?_); refine Kd.R_make0 k44 _ 44 rfl (N := 20) rfl 63 _ _ rfl ji4 rfl rfl Try.underlying63 (.agg #[(.int .i64 0), (.int .i64 0)]) 16 info44 rfl (by decide) (by omega) (ok := fun _ => True) (okp := fun _ => True) (fun _ hk => hk) trivial (of_decide_eq_true (by first | (with_reducible assumption) | assumption)) (Nat.le_trans (Nat.mul_le_mul_right _ (of_decide_eq_true (by first | (with_reducible assumption) | assumption) : ji4.toNat <= 17592186044416)) (by omega)) (Below.refl _ _) (Nat.le_refl _) ?_; intro v217 w10 ho11 hb hg_ hnew_; clear hg_ hnew_; (first | rw [<- Ny216.out] at ho11 | (simp only [Int.reduceToNat] at ho11; rw [<- Ny216.out] at ho11)); have n0_ := Qa.mk (Kd.Yy ho11 (Qr (by repeat first | exact HB.out | with_reducible refine Qh ?_ ‹_› | apply Qc | apply Qb))); have n1_ := Qa.mk (Qk (bK BK214.out) hb); have n2_ := Qa.mk (Ql (by repeat first | exact HB.out | with_reducible refine Qh ?_ ‹_› | apply Qc | apply Qb) hb); clear BK214; clear HB; have HO218 := n0_; have BK214 := n1_; have HB := n2_; clear n0_ n1_ n2_; clear hb ho11))
   go_loopg [7, 22] k (fun kq v7 v22 w' => ∃ (x7_1 : List (S44)) (x22_1 : Int), v22 = .int .i64 x22_1 ∧ Qa (Wt.l0 kq a0_0 t215 x7_1 a0_0 x22_1 = some r) ∧ Qa (kq <= k) ∧ Qa (Kd.R k44 44 w' w.heap.size (fun _ => True) v7 x7_1) ∧ Qa (w'.heap[gb214]? = some (.cells #[.int .i64 a0_0, (.slice A0_1 l0_1.length c0_1)] 25 (0, 0))) ∧ Qa (Below w.heap.size w w'))
   case atStart => exact ⟨(y216), (0), (by first | rfl | (simp; done) | (simp [*]; done)), H', ⟨Nat.le_refl _⟩, ⟨by (with_reducible repeat apply Kd.Wo); exact HO218.out⟩, ⟨by (with_reducible repeat apply Qd); exact BK214.out⟩, ⟨by repeat first | exact HB.out | with_reducible refine Qh ?_ ‹_› | apply Qc | apply Qb⟩⟩
   case round =>
    clear H'
    try clear p2
    try clear c3
    try clear c5
    try clear c5b0
    try clear c5b1
    try clear c6
    try clear c6b0
    try clear c6b1
    try clear p6
    obtain ⟨x7_1, x22_1, rfl, HA, HK1, HO_7, BK214, HB⟩ := hrel
    cases gk with
    | zero => exact absurd HA.out (by simp [Wt.l0])
    | succ k1 =>
     have H := HA.out
     clear HA
     simp only [Wt.l0] at H
     by_cases c12 : x22_1 < a0_0
     ·rw [if_pos c12] at H
      have c12b0 : decide (x22_1 < a0_0) = true := decide_eq_true c12
      clear c12
      replace H := Option.bind_eq_some_iff.mp H
      obtain ⟨⟨t219, t220⟩, A130, H⟩ := H
      replace H : (if x7_1.length < 8796093022208 then (Wt.l0 k1 a0_0 t215 (x7_1 ++ [(⟨t219, t220⟩ : S44)]) a0_0 (wrap64 (x22_1 + 1))) else (none)) = some r := H
      have A13 := Qa.mk A130
      clear A130
      by_cases c14 : x7_1.length < 8796093022208
      ·rw [if_pos c14] at H
       have LMc14 := Qa.mk c14
       clear c14
       obtain ⟨y221, hy221⟩ : ∃ y_ : List (S44), y_ = (x7_1 ++ [(⟨t219, t220⟩ : S44)]) := ⟨_, rfl⟩
       replace H : (Wt.l0 k1 a0_0 t215 y221 a0_0 (wrap64 (x22_1 + 1))) = some r := by first | (rw [hy221]; with_reducible exact H) | (have H2_ := (Option.bind_some _ _).symm.trans H; rw [hy221]; with_reducible exact H2_) | (have H2_ := (Option.bind_some _ _).symm.trans H; with_reducible exact H2_) | with_reducible exact H | (rw [hy221]; exact H) | exact H
       have Ny221 := Qa.mk hy221
       clear hy221
       have H' := Qa.mk H
       clear H
       obtain ⟨Ao15, co15, eo15⟩ := Kd.Zk HO_7.out
       subst eo15
       go_wp2_with (first | ((with_reducible refine We (N := 31) rfl ?_); refine goesV_ (some 31) rfl rfl Try.func35 (by kernel_rfl) rfl #[.int .i64 (x7_1.length : Int), .agg #[.int .i64 x22_1, .int .i64 2]] rfl rfl (by first | rfl | (simp only [List.map_toArray, List.map_cons, List.map_nil, List.length_drop, List.length_take]; try rfl)) ?_; (with_reducible refine (Zy.calls (x7_1.length : Int) x22_1 2 t219 t220 _ A13.out).mono ?_); rintro e w16 ⟨rfl, hb⟩; refine ⟨_, rfl, ?_⟩; have n0_ := Qa.mk (Kd.Ze (kR HO_7.out) hb); have n1_ := Qa.mk (Qk (bK BK214.out) hb); have n2_ := Qa.mk (Ql (by repeat first | exact HB.out | with_reducible refine Qh ?_ ‹_› | apply Qc | apply Qb) hb); clear HO_7; clear BK214; clear HB; have HO_7 := n0_; have BK214 := n1_; have HB := n2_; clear n0_ n1_ n2_; (try clear hb); (try clear hb2); (try clear hk); (try clear hi)) | ((with_reducible refine Zz (b := .append) (xs := #[.tmp 25, .tmp 32]) rfl ?_); at_builtin; refine Kd.Xd k44 (w0 := w) w.heap.size rfl (.tmp 25) (.tmp 32) 63 44 (.agg #[(.int .i64 0), (.int .i64 0)]) 16 rfl Try.underlying63 info44 rfl (by decide) (by omega) (.slice Ao15 x7_1.length co15) x7_1 (⟨t219, t220⟩ : S44) [.int .i64 t219, .int .i64 t220] (fun _ => True) (fun _ => False) rfl rfl ?aP (fun _ hk => hk.elim) ?aF ?aO ?aB ?aS ?aL ?_; (case aP => exact k44_mkM _ _ _ (⟨t219, t220⟩ : S44)); (case aB => exact (by repeat first | exact HB.out | with_reducible refine Qh ?_ ‹_› | apply Qc | apply Qb)); (case aF => exact (fun _ _ => trivial)); (case aO => exact (kR HO_7.out)); (case aS => exact (Qr (by repeat first | exact HB.out | with_reducible refine Qh ?_ ‹_› | apply Qc | apply Qb))); (case aL => have := LMc14.out; omega); intro v222 w17 ho hb hg hat; rw [<- Ny221.out] at ho; have n0_ := Qa.mk (Wu (g := gb214) (o := .cells #[.int .i64 a0_0, .slice A0_1 l0_1.length c0_1] 25 (0, 0)) (bK BK214.out) hg (Kd.R_ne HO_7.out BK214.out (by decide))); have n1_ := Qa.mk (hb); have n2_ := Qa.mk (ho); clear BK214; clear HB; clear HO_7; have BK214 := n0_; have HB := n1_; have HO223 := n2_; clear n0_ n1_ n2_; clear ho hb hg hat))
       go_roundg k1
       case measure => have := HK1.out; omega
       case rel => exact ⟨(y221), (wrap64 (x22_1 + 1)), (by first | rfl | (simp; done) | (simp [*]; done)), H', ⟨by have := HK1.out; omega⟩, ⟨by (with_reducible repeat apply Kd.Wo); exact HO223.out⟩, ⟨by (with_reducible repeat apply Qd); exact BK214.out⟩, ⟨by repeat first | exact HB.out | with_reducible refine Qh ?_ ‹_› | apply Qc | apply Qb⟩⟩
      ·rw [if_neg c14] at H
       exact absurd H (by simp)
     ·rw [if_neg c12] at H
      have c12b0 : decide (x22_1 < a0_0) = false := decide_eq_false c12
      clear c12
      have H' := Qa.mk H
      clear H
      go_wp2
      go_loopg [7, 36] k1 (fun kq v7 v36 w' => ∃ (x7_2 : List (S44)) (x36_2 : Int), v36 = .int .i64 x36_2 ∧ Qa (Wt.l1 kq a0_0 t215 x7_2 t215 x36_2 = some r) ∧ Qa (kq <= k1) ∧ Qa (Kd.R k44 44 w' w.heap.size (fun _ => True) v7 x7_2) ∧ Qa (w'.heap[gb214]? = some (.cells #[.int .i64 a0_0, (.slice A0_1 l0_1.length c0_1)] 25 (0, 0))) ∧ Qa (Below w.heap.size w w'))
      case atStart => exact ⟨(x7_1), (0), (by first | rfl | (simp; done) | (simp [*]; done)), H', ⟨Nat.le_refl _⟩, ⟨by (with_reducible repeat apply Kd.Wo); exact HO_7.out⟩, ⟨by (with_reducible repeat apply Qd); exact BK214.out⟩, ⟨by repeat first | exact HB.out | with_reducible refine Qh ?_ ‹_› | apply Qc | apply Qb⟩⟩
      case round =>
       clear H'
       try clear c1
       try clear p2
       try clear c3
       try clear c5
       try clear c5b0
       try clear c5b1
       try clear c6
       try clear c6b0
       try clear c6b1
       try clear p6
       try clear c12
       try clear c12b0
       try clear c14
       try clear p2
       try clear p6
       obtain ⟨x7_2, x36_2, rfl, HA, HK2, HO_7, BK214, HB⟩ := hrel
       cases gk with
       | zero => exact absurd HA.out (by simp [Wt.l1])
       | succ k2 =>
        have H := HA.out
        clear HA
        simp only [Wt.l1] at H
        by_cases c18 : x36_2 < t215
        ·rw [if_pos c18] at H
         have c18b0 : decide (x36_2 < t215) = true := decide_eq_true c18
         clear c18
         replace H := Option.bind_eq_some_iff.mp H
         obtain ⟨⟨t224, t225⟩, A190, H⟩ := H
         replace H : (if x7_2.length < 8796093022208 then (Wt.l1 k2 a0_0 t215 (x7_2 ++ [(⟨t224, t225⟩ : S44)]) t215 (wrap64 (x36_2 + 1))) else (none)) = some r := H
         have A19 := Qa.mk A190
         clear A190
         by_cases c20 : x7_2.length < 8796093022208
         ·rw [if_pos c20] at H
          have LMc20 := Qa.mk c20
          clear c20
          obtain ⟨y226, hy226⟩ : ∃ y_ : List (S44), y_ = (x7_2 ++ [(⟨t224, t225⟩ : S44)]) := ⟨_, rfl⟩
          replace H : (Wt.l1 k2 a0_0 t215 y226 t215 (wrap64 (x36_2 + 1))) = some r := by first | (rw [hy226]; with_reducible exact H) | (have H2_ := (Option.bind_some _ _).symm.trans H; rw [hy226]; with_reducible exact H2_) | (have H2_ := (Option.bind_some _ _).symm.trans H; with_reducible exact H2_) | with_reducible exact H | (rw [hy226]; exact H) | exact H
          have Ny226 := Qa.mk hy226
          clear hy226
          have H' := Qa.mk H
          clear H
          obtain ⟨Ao21, co21, eo21⟩ := Kd.Zk HO_7.out
          subst eo21
          go_wp2_with (first | ((with_reducible refine We (N := 50) rfl ?_); refine goesV_ (some 50) rfl rfl Try.func35 (by kernel_rfl) rfl #[.int .i64 (x7_2.length : Int), .agg #[.int .i64 (wrap64 ((wrap64 ((wrap64 (x36_2 * a0_0)) + a0_0)) - 1)), .int .i64 3]] rfl rfl (by first | rfl | (simp only [List.map_toArray, List.map_cons, List.map_nil, List.length_drop, List.length_take]; try rfl)) ?_; (with_reducible refine (Zy.calls (x7_2.length : Int) (wrap64 ((wrap64 ((wrap64 (x36_2 * a0_0)) + a0_0)) - 1)) 3 t224 t225 _ A19.out).mono ?_); rintro e w22 ⟨rfl, hb⟩; refine ⟨_, rfl, ?_⟩; have n0_ := Qa.mk (Kd.Ze (kR HO_7.out) hb); have n1_ := Qa.mk (Qk (bK BK214.out) hb); have n2_ := Qa.mk (Ql (by repeat first | exact HB.out | with_reducible refine Qh ?_ ‹_› | apply Qc | apply Qb) hb); clear HO_7; clear BK214; clear HB; have HO_7 := n0_; have BK214 := n1_; have HB := n2_; clear n0_ n1_ n2_; (try clear hb); (try clear hb2); (try clear hk); (try clear hi)) | ((with_reducible refine Zz (b := .append) (xs := #[.tmp 39, .tmp 51]) rfl ?_); at_builtin; refine Kd.Xd k44 (w0 := w) w.heap.size rfl (.tmp 39) (.tmp 51) 63 44 (.agg #[(.int .i64 0), (.int .i64 0)]) 16 rfl Try.underlying63 info44 rfl (by decide) (by omega) (.slice Ao21 x7_2.length co21) x7_2 (⟨t224, t225⟩ : S44) [.int .i64 t224, .int .i64 t225] (fun _ => True) (fun _ => False) rfl rfl ?aP (fun _ hk => hk.elim) ?aF ?aO ?aB ?aS ?aL ?_; (case aP => exact k44_mkM _ _ _ (⟨t224, t225⟩ : S44)); (case aB => exact (by repeat first | exact HB.out | with_reducible refine Qh ?_ ‹_› | apply Qc | apply Qb)); (case aF => exact (fun _ _ => trivial)); (case aO => exact (kR HO_7.out)); (case aS => exact (Qr (by repeat first | exact HB.out | with_reducible refine Qh ?_ ‹_› | apply Qc | apply Qb))); (case aL => have := LMc20.out; omega); intro v227 w23 ho hb hg hat; rw [<- Ny226.out] at ho; have n0_ := Qa.mk (Wu (g := gb214) (o := .cells #[.int .i64 a0_0, .slice A0_1 l0_1.length c0_1] 25 (0, 0)) (bK BK214.out) hg (Kd.R_ne HO_7.out BK214.out (by decide))); have n1_ := Qa.mk (hb); have n2_ := Qa.mk (ho); clear BK214; clear HB; clear HO_7; have BK214 := n0_; have HB := n1_; have HO228 := n2_; clear n0_ n1_ n2_; clear ho hb hg hat))
          go_roundg k2
          case measure => have := HK1.out; have := HK2.out; omega
          case rel => exact ⟨(y226), (wrap64 (x36_2 + 1)), (by first | rfl | (simp; done) | (simp [*]; done)), H', ⟨by have := HK1.out; have := HK2.out; omega⟩, ⟨by (with_reducible repeat apply Kd.Wo); exact HO228.out⟩, ⟨by (with_reducible repeat apply Qd); exact BK214.out⟩, ⟨by repeat first | exact HB.out | with_reducible refine Qh ?_ ‹_› | apply Qc | apply Qb⟩⟩
         ·rw [if_neg c20] at H
          exact absurd H (by simp)
        ·rw [if_neg c18] at H
         have c18b0 : decide (x36_2 < t215) = false := decide_eq_false c18
         clear c18
         have H' := Qa.mk H
         clear H
         go_wp2
         go_loopg [7, 55] k2 (fun kq v7 v55 w' => ∃ (x7_3 : List (S44)) (x55_3 : Int), v55 = .int .i64 x55_3 ∧ Qa (Wt.l2 kq a0_0 t215 x7_3 a0_0 x55_3 = some r) ∧ Qa (kq <= k2) ∧ Qa (Kd.R k44 44 w' w.heap.size (fun _ => True) v7 x7_3) ∧ Qa (w'.heap[gb214]? = some (.cells #[.int .i64 a0_0, (.slice A0_1 l0_1.length c0_1)] 25 (0, 0))) ∧ Qa (Below w.heap.size w w'))
         case atStart => exact ⟨(x7_2), (0), (by first | rfl | (simp; done) | (simp [*]; done)), H', ⟨Nat.le_refl _⟩, ⟨by (with_reducible repeat apply Kd.Wo); exact HO_7.out⟩, ⟨by (with_reducible repeat apply Qd); exact BK214.out⟩, ⟨by repeat first | exact HB.out | with_reducible refine Qh ?_ ‹_› | apply Qc | apply Qb⟩⟩
         case round =>
          clear H'
          try clear c1
          try clear c2
          try clear p2
          try clear c3
          try clear c5
          try clear c5b0
          try clear c5b1
          try clear c6
          try clear c6b0
          try clear c6b1
          try clear p6
          try clear c12
          try clear c12b0
          try clear c14
          try clear c18
          try clear c18b0
          try clear c20
          try clear p2
          try clear p6
          obtain ⟨x7_3, x55_3, rfl, HA, HK3, HO_7, BK214, HB⟩ := hrel
          cases gk with
          | zero => exact absurd HA.out (by simp [Wt.l2])
          | succ k3 =>
           have H := HA.out
           clear HA
           simp only [Wt.l2] at H
           by_cases c24 : x55_3 < a0_0
           ·rw [if_pos c24] at H
            have c24b0 : decide (x55_3 < a0_0) = true := decide_eq_true c24
            clear c24
            replace H := Option.bind_eq_some_iff.mp H
            obtain ⟨⟨t229, t230⟩, A250, H⟩ := H
            replace H : (if x7_3.length < 8796093022208 then (Wt.l2 k3 a0_0 t215 (x7_3 ++ [(⟨t229, t230⟩ : S44)]) a0_0 (wrap64 (x55_3 + 1))) else (none)) = some r := H
            have A25 := Qa.mk A250
            clear A250
            by_cases c26 : x7_3.length < 8796093022208
            ·rw [if_pos c26] at H
             have LMc26 := Qa.mk c26
             clear c26
             obtain ⟨y231, hy231⟩ : ∃ y_ : List (S44), y_ = (x7_3 ++ [(⟨t229, t230⟩ : S44)]) := ⟨_, rfl⟩
             replace H : (Wt.l2 k3 a0_0 t215 y231 a0_0 (wrap64 (x55_3 + 1))) = some r := by first | (rw [hy231]; with_reducible exact H) | (have H2_ := (Option.bind_some _ _).symm.trans H; rw [hy231]; with_reducible exact H2_) | (have H2_ := (Option.bind_some _ _).symm.trans H; with_reducible exact H2_) | with_reducible exact H | (rw [hy231]; exact H) | exact H
             have Ny231 := Qa.mk hy231
             clear hy231
             have H' := Qa.mk H
             clear H
             obtain ⟨Ao27, co27, eo27⟩ := Kd.Zk HO_7.out
             subst eo27
             go_wp2_with (first | ((with_reducible refine We (N := 69) rfl ?_); refine goesV_ (some 69) rfl rfl Try.func35 (by kernel_rfl) rfl #[.int .i64 (x7_3.length : Int), .agg #[.int .i64 (wrap64 ((wrap64 ((wrap64 (t215 * a0_0)) - 1)) - x55_3)), .int .i64 0]] rfl rfl (by first | rfl | (simp only [List.map_toArray, List.map_cons, List.map_nil, List.length_drop, List.length_take]; try rfl)) ?_; (with_reducible refine (Zy.calls (x7_3.length : Int) (wrap64 ((wrap64 ((wrap64 (t215 * a0_0)) - 1)) - x55_3)) 0 t229 t230 _ A25.out).mono ?_); rintro e w28 ⟨rfl, hb⟩; refine ⟨_, rfl, ?_⟩; have n0_ := Qa.mk (Kd.Ze (kR HO_7.out) hb); have n1_ := Qa.mk (Qk (bK BK214.out) hb); have n2_ := Qa.mk (Ql (by repeat first | exact HB.out | with_reducible refine Qh ?_ ‹_› | apply Qc | apply Qb) hb); clear HO_7; clear BK214; clear HB; have HO_7 := n0_; have BK214 := n1_; have HB := n2_; clear n0_ n1_ n2_; (try clear hb); (try clear hb2); (try clear hk); (try clear hi)) | ((with_reducible refine Zz (b := .append) (xs := #[.tmp 58, .tmp 70]) rfl ?_); at_builtin; refine Kd.Xd k44 (w0 := w) w.heap.size rfl (.tmp 58) (.tmp 70) 63 44 (.agg #[(.int .i64 0), (.int .i64 0)]) 16 rfl Try.underlying63 info44 rfl (by decide) (by omega) (.slice Ao27 x7_3.length co27) x7_3 (⟨t229, t230⟩ : S44) [.int .i64 t229, .int .i64 t230] (fun _ => True) (fun _ => False) rfl rfl ?aP (fun _ hk => hk.elim) ?aF ?aO ?aB ?aS ?aL ?_; (case aP => exact k44_mkM _ _ _ (⟨t229, t230⟩ : S44)); (case aB => exact (by repeat first | exact HB.out | with_reducible refine Qh ?_ ‹_› | apply Qc | apply Qb)); (case aF => exact (fun _ _ => trivial)); (case aO => exact (kR HO_7.out)); (case aS => exact (Qr (by repeat first | exact HB.out | with_reducible refine Qh ?_ ‹_› | apply Qc | apply Qb))); (case aL => have := LMc26.out; omega); intro v232 w29 ho hb hg hat; rw [<- Ny231.out] at ho; have n0_ := Qa.mk (Wu (g := gb214) (o := .cells #[.int .i64 a0_0, .slice A0_1 l0_1.length c0_1] 25 (0, 0)) (bK BK214.out) hg (Kd.R_ne HO_7.out BK214.out (by decide))); have n1_ := Qa.mk (hb); have n2_ := Qa.mk (ho); clear BK214; clear HB; clear HO_7; have BK214 := n0_; have HB := n1_; have HO233 := n2_; clear n0_ n1_ n2_; clear ho hb hg hat))
             go_roundg k3
             case measure => have := HK1.out; have := HK2.out; have := HK3.out; omega
             case rel => exact ⟨(y231), (wrap64 (x55_3 + 1)), (by first | rfl | (simp; done) | (simp [*]; done)), H', ⟨by have := HK1.out; have := HK2.out; have := HK3.out; omega⟩, ⟨by (with_reducible repeat apply Kd.Wo); exact HO233.out⟩, ⟨by (with_reducible repeat apply Qd); exact BK214.out⟩, ⟨by repeat first | exact HB.out | with_reducible refine Qh ?_ ‹_› | apply Qc | apply Qb⟩⟩
            ·rw [if_neg c26] at H
             exact absurd H (by simp)
           ·rw [if_neg c24] at H
            have c24b0 : decide (x55_3 < a0_0) = false := decide_eq_false c24
            clear c24
            have H' := Qa.mk H
            clear H
            go_wp2
            go_loopg [7, 74] k3 (fun kq v7 v74 w' => ∃ (x7_4 : List (S44)) (x74_4 : Int), v74 = .int .i64 x74_4 ∧ Qa (Wt.l3 kq a0_0 t215 x7_4 t215 x74_4 = some r) ∧ Qa (kq <= k3) ∧ Qa (Kd.R k44 44 w' w.heap.size (fun _ => True) v7 x7_4) ∧ Qa (w'.heap[gb214]? = some (.cells #[.int .i64 a0_0, (.slice A0_1 l0_1.length c0_1)] 25 (0, 0))) ∧ Qa (Below w.heap.size w w'))
            case atStart => exact ⟨(x7_3), (0), (by first | rfl | (simp; done) | (simp [*]; done)), H', ⟨Nat.le_refl _⟩, ⟨by (with_reducible repeat apply Kd.Wo); exact HO_7.out⟩, ⟨by (with_reducible repeat apply Qd); exact BK214.out⟩, ⟨by repeat first | exact HB.out | with_reducible refine Qh ?_ ‹_› | apply Qc | apply Qb⟩⟩
            case round =>
             clear H'
             try clear c1
             try clear c2
             try clear p2
             try clear c3
             try clear c5
             try clear c5b0
             try clear c5b1
             try clear c6
             try clear c6b0
             try clear c6b1
             try clear p6
             try clear c12
             try clear c12b0
             try clear c14
             try clear c18
             try clear c18b0
             try clear c20
             try clear c24
             try clear c24b0
             try clear c26
             try clear p2
             try clear p6
             obtain ⟨x7_4, x74_4, rfl, HA, HK4, HO_7, BK214, HB⟩ := hrel
             cases gk with
             | zero => exact absurd HA.out (by simp [Wt.l3])
             | succ k4 =>
              have H := HA.out
              clear HA
              simp only [Wt.l3] at H
              by_cases c30 : x74_4 < t215
              ·rw [if_pos c30] at H
               have c30b0 : decide (x74_4 < t215) = true := decide_eq_true c30
               clear c30
               replace H := Option.bind_eq_some_iff.mp H
               obtain ⟨⟨t234, t235⟩, A310, H⟩ := H
               replace H : (if x7_4.length < 8796093022208 then (Wt.l3 k4 a0_0 t215 (x7_4 ++ [(⟨t234, t235⟩ : S44)]) t215 (wrap64 (x74_4 + 1))) else (none)) = some r := H
               have A31 := Qa.mk A310
               clear A310
               by_cases c32 : x7_4.length < 8796093022208
               ·rw [if_pos c32] at H
                have LMc32 := Qa.mk c32
                clear c32
                obtain ⟨y236, hy236⟩ : ∃ y_ : List (S44), y_ = (x7_4 ++ [(⟨t234, t235⟩ : S44)]) := ⟨_, rfl⟩
                replace H : (Wt.l3 k4 a0_0 t215 y236 t215 (wrap64 (x74_4 + 1))) = some r := by first | (rw [hy236]; with_reducible exact H) | (have H2_ := (Option.bind_some _ _).symm.trans H; rw [hy236]; with_reducible exact H2_) | (have H2_ := (Option.bind_some _ _).symm.trans H; with_reducible exact H2_) | with_reducible exact H | (rw [hy236]; exact H) | exact H
                have Ny236 := Qa.mk hy236
                clear hy236
                have H' := Qa.mk H
                clear H
                obtain ⟨Ao33, co33, eo33⟩ := Kd.Zk HO_7.out
                subst eo33
                go_wp2_with (first | ((with_reducible refine We (N := 88) rfl ?_); refine goesV_ (some 88) rfl rfl Try.func35 (by kernel_rfl) rfl #[.int .i64 (x7_4.length : Int), .agg #[.int .i64 (wrap64 ((wrap64 ((wrap64 (t215 - 1)) - x74_4)) * a0_0)), .int .i64 1]] rfl rfl (by first | rfl | (simp only [List.map_toArray, List.map_cons, List.map_nil, List.length_drop, List.length_take]; try rfl)) ?_; (with_reducible refine (Zy.calls (x7_4.length : Int) (wrap64 ((wrap64 ((wrap64 (t215 - 1)) - x74_4)) * a0_0)) 1 t234 t235 _ A31.out).mono ?_); rintro e w34 ⟨rfl, hb⟩; refine ⟨_, rfl, ?_⟩; have n0_ := Qa.mk (Kd.Ze (kR HO_7.out) hb); have n1_ := Qa.mk (Qk (bK BK214.out) hb); have n2_ := Qa.mk (Ql (by repeat first | exact HB.out | with_reducible refine Qh ?_ ‹_› | apply Qc | apply Qb) hb); clear HO_7; clear BK214; clear HB; have HO_7 := n0_; have BK214 := n1_; have HB := n2_; clear n0_ n1_ n2_; (try clear hb); (try clear hb2); (try clear hk); (try clear hi)) | ((with_reducible refine Zz (b := .append) (xs := #[.tmp 77, .tmp 89]) rfl ?_); at_builtin; refine Kd.Xd k44 (w0 := w) w.heap.size rfl (.tmp 77) (.tmp 89) 63 44 (.agg #[(.int .i64 0), (.int .i64 0)]) 16 rfl Try.underlying63 info44 rfl (by decide) (by omega) (.slice Ao33 x7_4.length co33) x7_4 (⟨t234, t235⟩ : S44) [.int .i64 t234, .int .i64 t235] (fun _ => True) (fun _ => False) rfl rfl ?aP (fun _ hk => hk.elim) ?aF ?aO ?aB ?aS ?aL ?_; (case aP => exact k44_mkM _ _ _ (⟨t234, t235⟩ : S44)); (case aB => exact (by repeat first | exact HB.out | with_reducible refine Qh ?_ ‹_› | apply Qc | apply Qb)); (case aF => exact (fun _ _ => trivial)); (case aO => exact (kR HO_7.out)); (case aS => exact (Qr (by repeat first | exact HB.out | with_reducible refine Qh ?_ ‹_› | apply Qc | apply Qb))); (case aL => have := LMc32.out; omega); intro v237 w35 ho hb hg hat; rw [<- Ny236.out] at ho; have n0_ := Qa.mk (Wu (g := gb214) (o := .cells #[.int .i64 a0_0, .slice A0_1 l0_1.length c0_1] 25 (0, 0)) (bK BK214.out) hg (Kd.R_ne HO_7.out BK214.out (by decide))); have n1_ := Qa.mk (hb); have n2_ := Qa.mk (ho); clear BK214; clear HB; clear HO_7; have BK214 := n0_; have HB := n1_; have HO238 := n2_; clear n0_ n1_ n2_; clear ho hb hg hat))
                go_roundg k4
                case measure => have := HK1.out; have := HK2.out; have := HK3.out; have := HK4.out; omega
                case rel => exact ⟨(y236), (wrap64 (x74_4 + 1)), (by first | rfl | (simp; done) | (simp [*]; done)), H', ⟨by have := HK1.out; have := HK2.out; have := HK3.out; have := HK4.out; omega⟩, ⟨by (with_reducible repeat apply Kd.Wo); exact HO238.out⟩, ⟨by (with_reducible repeat apply Qd); exact BK214.out⟩, ⟨by repeat first | exact HB.out | with_reducible refine Qh ?_ ‹_› | apply Qc | apply Qb⟩⟩
               ·rw [if_neg c32] at H
                exact absurd H (by simp)
              ·rw [if_neg c30] at H
               have c30b0 : decide (x74_4 < t215) = false := decide_eq_false c30
               clear c30
               obtain rfl := Option.some.inj H
               go_wp2
               go_ret
               exact ⟨_, by first | rfl | (simp [Qt, Qs] <;> rfl) | (simp only [<- hji4]; first | rfl | (simp [Qt, Qs] <;> rfl)) | (simp [*, Qt, Qs] <;> rfl) | (exfalso; simp_all; done), by (with_reducible repeat apply Kd.Wo); exact HO_7.out, by repeat first | exact HB.out | with_reducible refine Qh ?_ ‹_› | apply Qc | apply Qb⟩
  ·rw [if_neg c6] at H
   exact absurd H (by simp)
 ·rw [if_neg c5] at H
  exact absurd H (by simp)
end Go.Proofs.Yteapnipnoadejaa.P
