/- PROVED: contracts of functions; No condition. -/
import Derived.Test.YteapnipnoadejaaPx0
import Derived.Test.YteapnipnoadejaaPx5
import Derived.Test.YteapnipnoadejaaPx18
namespace Go.Proofs.Yteapnipnoadejaa.P
open Go.RowKit Go.Proofs.YteapnipnoadejaaW
set_option linter.unusedVariables false
set_option linter.unusedSimpArgs false
def Wv.j0 : Nat -> Int -> Int -> Int -> Bool -> Int -> List (S42) -> Option (Int × Int × Bool)
 | 0, _, _, _, _, _, _ => none
 | k + 1, x2, x8, x9, x41, x313000, x313001 => if x41 = true then (some (0, 0, false)) else (some (wrap64 ((wrap64 (x8 * x313000)) + x9), x2, true))
def Wv.f (k : Nat) (a0_0 : Int) (l0_1 : List (S42)) (a1 : Int) (a2 : Int) : Option (Int × Int × Bool) := if a0_0 = 0 then (none) else ((some (([(-1), 0, 1, 0] : List Int) : List Int)).bind fun y314 => (if 0 <= a2 then (if a2 < (y314.length : Int) then ((some (([0, 1, 0, (-1)] : List Int) : List Int)).bind fun y318 => (if a2 < (y318.length : Int) then ((Yh.f a0_0 l0_1).bind fun t322 => ((Wy.f (wrap64 ((wrap64 (Int.tdiv a1 a0_0)) + (rd y314 a2))) 0 (wrap64 (t322 - 1))).bind fun t323 => (if t323 = true then ((Wy.f (wrap64 ((Int.tmod a1 a0_0) + (rd y318 a2))) 0 (wrap64 (a0_0 - 1))).bind fun t324 => (Wv.j0 k a2 (wrap64 ((wrap64 (Int.tdiv a1 a0_0)) + (rd y314 a2))) (wrap64 ((Int.tmod a1 a0_0) + (rd y318 a2))) (!t324) a0_0 l0_1)) else (Wv.j0 k a2 (wrap64 ((wrap64 (Int.tdiv a1 a0_0)) + (rd y314 a2))) (wrap64 ((Int.tmod a1 a0_0) + (rd y318 a2))) true a0_0 l0_1)))) else (none))) else (none)) else (none)))
def Wv.T1 : Bool × List (List Nat × List Nat) := (true, [([], []), ([], []), ([1], [1]), ([0, 2], [0, 2]), ([], []), ([], []), ([4, 5], [4, 5]), ([6], [6]), ([3, 7], [3, 7]), ([8, 0, 1, 2, 3, 4, 5, 6, 7, 8], [8])])
def Wv.B1 : List Nat := [0, 0, 2, 7, 0, 0, 48, 112, 255, 511]
theorem Wv.tab1 : rtab .any (opsOf Try.f77 1) = Wv.T1 := by kernel_rfl
theorem Wv.bits1 : waitsOk Wv.T1.2 Wv.B1 = true := by kernel_rfl
def Wv.T2 : Bool × List (List Nat × List Nat) := (true, [([], []), ([], []), ([1], [1]), ([0, 2], [0, 2]), ([], []), ([], []), ([4, 5], [4, 5]), ([6], [6]), ([3, 7], [3, 7]), ([8, 0, 1, 2, 3, 4, 5, 6, 7, 8], [8])])
def Wv.B2 : List Nat := [0, 0, 2, 7, 0, 0, 48, 112, 255, 511]
theorem Wv.tab2 : rtab .any (opsOf Try.f77 2) = Wv.T2 := by kernel_rfl
theorem Wv.bits2 : waitsOk Wv.T2.2 Wv.B2 = true := by kernel_rfl
set_option maxHeartbeats 8000000 in
set_option maxRecDepth 100000 in
theorem Wv.calls (k : Nat) (a0_0 : Int) (A0_1 : Option Addr) (c0_1 : Nat) (l0_1 : List (S42)) (a1 : Int) (a2 : Int) (r1 : Int) (r2 : Int) (r3 : Bool) (w : World) (hr0_1 : Kd.C k42 w A0_1 l0_1.length l0_1) (hc0_1 : l0_1.length <= c0_1) (h : Wv.f k a0_0 l0_1 a1 a2 = some (r1, r2, r3)) :
  Calls Try.prog 77 #[.agg #[.int .i64 a0_0, .slice A0_1 l0_1.length c0_1], .int .i64 a1, .int .i64 a2] w fun e w' => e = .returned (.tuple #[.agg #[.int .i64 r1, .int .i64 r2], .bool r3]) ∧ Below w.heap.size w w' := by
 have hu25 := Try.underlying25
 have hu44 := Try.underlying44
 have HR0_1 := Qa.mk hr0_1
 have HC0_1 := Qa.mk hc0_1
 clear hr0_1 hc0_1
 have HB := Qa.mk (Below.refl w.heap.size w)
 have H : (if a0_0 = 0 then (none) else ((some (([(-1), 0, 1, 0] : List Int) : List Int)).bind fun y314 => (if 0 <= a2 then (if a2 < (y314.length : Int) then ((some (([0, 1, 0, (-1)] : List Int) : List Int)).bind fun y318 => (if a2 < (y318.length : Int) then ((Yh.f a0_0 l0_1).bind fun t322 => ((Wy.f (wrap64 ((wrap64 (Int.tdiv a1 a0_0)) + (rd y314 a2))) 0 (wrap64 (t322 - 1))).bind fun t323 => (if t323 = true then ((Wy.f (wrap64 ((Int.tmod a1 a0_0) + (rd y318 a2))) 0 (wrap64 (a0_0 - 1))).bind fun t324 => (Wv.j0 k a2 (wrap64 ((wrap64 (Int.tdiv a1 a0_0)) + (rd y314 a2))) (wrap64 ((Int.tmod a1 a0_0) + (rd y318 a2))) (!t324) a0_0 l0_1)) else (Wv.j0 k a2 (wrap64 ((wrap64 (Int.tdiv a1 a0_0)) + (rd y314 a2))) (wrap64 ((Int.tmod a1 a0_0) + (rd y318 a2))) true a0_0 l0_1)))) else (none))) else (none)) else (none)))) = some (r1, r2, r3) := h
 clear h
 by_cases c4 : a0_0 = 0
 ·rw [if_pos c4] at H
  exact absurd H (by simp)
 ·rw [if_neg c4] at H
  have c4b0 : (a0_0 == 0) = false := beq_eq_false_iff_ne.mpr c4
  have c4b1 : (a0_0 != 0) = true := bne_iff_ne.mpr c4
  obtain ⟨y314, hy314⟩ : ∃ y_ : List Int, y_ = (([(-1), 0, 1, 0] : List Int)) := ⟨_, rfl⟩
  replace H : (if 0 <= a2 then (if a2 < (y314.length : Int) then ((some (([0, 1, 0, (-1)] : List Int) : List Int)).bind fun y318 => (if a2 < (y318.length : Int) then ((Yh.f a0_0 l0_1).bind fun t322 => ((Wy.f (wrap64 ((wrap64 (Int.tdiv a1 a0_0)) + (rd y314 a2))) 0 (wrap64 (t322 - 1))).bind fun t323 => (if t323 = true then ((Wy.f (wrap64 ((Int.tmod a1 a0_0) + (rd y318 a2))) 0 (wrap64 (a0_0 - 1))).bind fun t324 => (Wv.j0 k a2 (wrap64 ((wrap64 (Int.tdiv a1 a0_0)) + (rd y314 a2))) (wrap64 ((Int.tmod a1 a0_0) + (rd y318 a2))) (!t324) a0_0 l0_1)) else (Wv.j0 k a2 (wrap64 ((wrap64 (Int.tdiv a1 a0_0)) + (rd y314 a2))) (wrap64 ((Int.tmod a1 a0_0) + (rd y318 a2))) true a0_0 l0_1)))) else (none))) else (none)) else (none)) = some (r1, r2, r3) := by first | (rw [hy314]; with_reducible exact H) | (have H2_ := (Option.bind_some _ _).symm.trans H; rw [hy314]; with_reducible exact H2_) | (have H2_ := (Option.bind_some _ _).symm.trans H; with_reducible exact H2_) | with_reducible exact H | (rw [hy314]; exact H) | exact H
  have Ny314 := Qa.mk hy314
  clear hy314
  by_cases c5 : 0 <= a2
  ·rw [if_pos c5] at H
   have c5b0 : decide (0 <= a2) = true := decide_eq_true c5
   clear c5
   by_cases c6 : a2 < (y314.length : Int)
   ·rw [if_pos c6] at H
    have c6b0 : decide (a2 < (y314.length : Int)) = true := decide_eq_true c6
    clear c6
    obtain ⟨y318, hy318⟩ : ∃ y_ : List Int, y_ = (([0, 1, 0, (-1)] : List Int)) := ⟨_, rfl⟩
    replace H : (if a2 < (y318.length : Int) then ((Yh.f a0_0 l0_1).bind fun t322 => ((Wy.f (wrap64 ((wrap64 (Int.tdiv a1 a0_0)) + (rd y314 a2))) 0 (wrap64 (t322 - 1))).bind fun t323 => (if t323 = true then ((Wy.f (wrap64 ((Int.tmod a1 a0_0) + (rd y318 a2))) 0 (wrap64 (a0_0 - 1))).bind fun t324 => (Wv.j0 k a2 (wrap64 ((wrap64 (Int.tdiv a1 a0_0)) + (rd y314 a2))) (wrap64 ((Int.tmod a1 a0_0) + (rd y318 a2))) (!t324) a0_0 l0_1)) else (Wv.j0 k a2 (wrap64 ((wrap64 (Int.tdiv a1 a0_0)) + (rd y314 a2))) (wrap64 ((Int.tmod a1 a0_0) + (rd y318 a2))) true a0_0 l0_1)))) else (none)) = some (r1, r2, r3) := by first | (rw [hy318]; with_reducible exact H) | (have H2_ := (Option.bind_some _ _).symm.trans H; rw [hy318]; with_reducible exact H2_) | (have H2_ := (Option.bind_some _ _).symm.trans H; with_reducible exact H2_) | with_reducible exact H | (rw [hy318]; exact H) | exact H
    have Ny318 := Qa.mk hy318
    clear hy318
    by_cases c7 : a2 < (y318.length : Int)
    ·rw [if_pos c7] at H
     have c7b0 : decide (a2 < (y318.length : Int)) = true := decide_eq_true c7
     clear c7
     have HC8 := Qa.mk H
     clear H
     go_enter Try.func77, Try.ntmps77
     try go_wp2_with (first | ((with_reducible refine We (N := 3) rfl ?_); refine Qy rfl (N := 3) rfl (cs := #[.int .i64 a0_0, .slice A0_1 l0_1.length c0_1]) (t := 25) ?hr ?_; (case hr => first | (go_simp; done) | (go_simp; rfl)); intro gb312 hg w9 hbox hb; have n0_ := Qa.mk (Ql (by repeat first | exact HB.out | apply Qc | apply Qb) hb); have n1_ := Qa.mk (hbox); have n2_ := Qa.mk ((by rw [hg]; exact (Qr (by repeat first | exact HB.out | apply Qc | apply Qb)) : w.heap.size <= gb312)); have n3_ := n2_; clear HB; have HB := n0_; have BK312 := n1_; have GW312 := n2_; have GE312 := n3_; clear n0_ n1_ n2_ n3_; clear hb hbox hg) | ((with_reducible refine We (N := 6) rfl ?_); refine Qy rfl (N := 6) rfl (cs := #[.int .i64 0, .int .i64 0]) (t := 44) ?hr ?_; (case hr => first | (go_simp; done) | (go_simp; rfl)); intro gb313 hg w10 hbox hb; have n0_ := Qa.mk (Qk (bK BK312.out) hb); have n1_ := Qa.mk (Ql (by repeat first | exact HB.out | with_reducible refine Qh ?_ ‹_› | apply Qc | apply Qb) hb); have n2_ := Qa.mk (hbox); have n3_ := Qa.mk ((by rw [hg]; exact (Qr (by repeat first | exact HB.out | with_reducible refine Qh ?_ ‹_› | apply Qc | apply Qb)) : w.heap.size <= gb313)); have n4_ := n3_; have n5_ := Qa.mk ((by rw [hg]; exact Nat.ne_of_lt (Wl (bK BK312.out)) : gb312 ≠ gb313)); have n6_ := Qa.mk ((by rw [hg]; exact Nat.ne_of_gt (Wl (bK BK312.out)) : gb313 ≠ gb312)); clear BK312; clear HB; have BK312 := n0_; have HB := n1_; have BK313 := n2_; have GW313 := n3_; have GE313 := n4_; have NB312_313 := n5_; have NB313_312 := n6_; clear n0_ n1_ n2_ n3_ n4_ n5_ n6_; clear hb hbox hg))
     have pi317 : (0 <= (a2 : Int)) = True := eq_true (of_decide_eq_true (by first | (with_reducible assumption) | assumption))
     have qi317 : (a2 < (y314.length : Int)) = True := eq_true (of_decide_eq_true (by first | (with_reducible assumption) | assumption))
     have n0_ := Qa.mk (Ye BK312.out)
     have n1_ := Qa.mk (Ye BK313.out)
     have n2_ := Qa.mk (Qq HB.out)
     clear BK312
     clear BK313
     clear HB
     have BK312 := n0_
     have BK313 := n1_
     have HB := n2_
     clear n0_ n1_ n2_
     refine start_ (n := 10) (S := fun w' => w'.cell? ⟨gb312, 0, none⟩ = some (.int .i64 a0_0) ∧ w'.cell? ⟨gb312, 1, none⟩ = some (.slice A0_1 l0_1.length c0_1)) (ds := []) #[false, false, false, false, false, false, false, false, false, false] (by kernel_rfl) rfl rfl ⟨(Qe BK312.out 0).trans rfl, (Qe BK312.out 1).trans rfl⟩ (fun hHeld => ?_); refine with_tabW Wv.tab1 Wv.bits1 (fun HT_ HW_ => ?_)
     generalize w10.drew = w11 at BK312 BK313 HB hHeld ⊢
     refine Zt (i := 0) (N := some 10) (v := ?_) (a' := ?_) #[true, false, false, false, false, false, false, false, false, false] rfl rfl (Zh HT_.out (by kernel_rfl)) (fun _ _ _ h => h) (Or.inl ⟨by rfl, ?_⟩) ?_ ?_
     rotate_left
     ·intro w'
      go_simp
      with_reducible rfl
     rotate_left
     ·simp only [Act.put, sA_, sZ_, sS_, Wp, Ws]
      rfl
     refine Zt (i := 1) (N := some 11) (v := ?_) (a' := ?_) #[true, true, false, false, false, false, false, false, false, false] rfl rfl (Zh HT_.out (by kernel_rfl)) (fun _ _ _ h => h) (Or.inl ⟨by rfl, ?_⟩) ?_ ?_
     rotate_left
     ·intro w'
      go_simp
      with_reducible rfl
     rotate_left
     ·simp only [Act.put, sA_, sZ_, sS_, Wp, Ws]
      rfl
     refine Zt (i := 5) (N := some 15) (v := ?_) (a' := ?_) #[true, true, false, false, false, true, false, false, false, false] rfl rfl (Zh HT_.out (by kernel_rfl)) (fun _ _ _ h => h) (Or.inl ⟨by rfl, ?_⟩) ?_ ?_
     rotate_left
     ·intro w'
      go_simp
      with_reducible rfl
     rotate_left
     ·simp only [Act.put, sA_, sZ_, sS_, Wp, Ws]
      rfl
     refine Xt (i := 2) (N := some 12) (v := ?_) (a' := ?_) #[true, true, true, false, false, true, false, false, false, false] rfl rfl (Yn HT_.out HW_.out (by kernel_rfl)) (fun _ _ _ h => h) (Or.inl ⟨by rfl, ?_⟩) hHeld ?_ ?_
     rotate_left
     ·rintro w' ⟨s0, s1⟩
      go_simp
      with_reducible rfl
     rotate_left
     ·simp only [Act.put, sA_, sZ_, sS_, Wp, Ws]
      rfl
     refine Zt (i := 3) (N := some 13) (v := ?_) (a' := ?_) #[true, true, true, true, false, true, false, false, false, false] rfl rfl (Zh HT_.out (by kernel_rfl)) (fun _ _ _ h => h) (Or.inl ⟨by rfl, ?_⟩) ?_ ?_
     rotate_left
     ·intro w'
      go_simp
      with_reducible rfl
     rotate_left
     ·simp only [Act.put, sA_, sZ_, sS_, Wp, Ws]
      rfl
     refine one_ (i := 4) (N := some 14) #[true, true, true, true, true, true, false, false, false, false] rfl rfl (Xq HT_.out (by kernel_rfl)) (by decide) (fun K hK => ?_)
     refine Kd.R_lit_step (Kd.int .i64) _ 3 ?hg (N := 14) ?hd (xs := ([(-1), 0, 1, 0] : List Int)) (inner := [.int .i64 (-1), .int .i64 0, .int .i64 1, .int .i64 0]) (ok := fun _ => True) (okp := fun _ => True) ?hr ?hp (fun _ hk => hk) trivial (Below.refl _ _) (Nat.le_refl _) (by simp) ?_; (case hd => rfl); (case hg => rfl); (case hr => first | (go_simp; done) | (go_simp; rfl)); (case hp => exact (Reps.one (show Kd.M (Kd.int .i64) _ _ _ (-1) [.int .i64 (-1)] from rfl) (Reps.one (show Kd.M (Kd.int .i64) _ _ _ 0 [.int .i64 0] from rfl) (Reps.one (show Kd.M (Kd.int .i64) _ _ _ 1 [.int .i64 1] from rfl) (Reps.one (show Kd.M (Kd.int .i64) _ _ _ 0 [.int .i64 0] from rfl) (Reps.none _ _))))))
     intro v315 w12 ho13 hb hg_ hnew_
     clear hg_ hnew_
     (first | rw [<- Ny314.out] at ho13 | (simp only [Int.reduceToNat] at ho13; rw [<- Ny314.out] at ho13))
     have n0_ := Qa.mk (Kd.Yy ho13 (Qr (by repeat first | exact HB.out | with_reducible refine Qh ?_ ‹_› | apply Qc | apply Qb)))
     have n1_ := Qa.mk (Qk (bK BK312.out) hb)
     have n2_ := Qa.mk (Qk (bK BK313.out) hb)
     have n3_ := Qa.mk (Ql (by repeat first | exact HB.out | with_reducible refine Qh ?_ ‹_› | apply Qc | apply Qb) hb)
     clear BK312
     clear BK313
     clear HB
     have HO316 := n0_
     have BK312 := n1_
     have BK313 := n2_
     have HB := n3_
     clear n0_ n1_ n2_ n3_
     clear hb ho13
     obtain ⟨Ao14, co14, eo14⟩ := Kd.Zk HO316.out
     subst eo14
     obtain ⟨ado14, fo14, _⟩ := Kd.at_int (Kd.R_reads' HO316.out).2.2 0 (by decide) (by rw [Ny314.out]; simp)
     cases fo14
     refine hK.out _ _ ⟨(Qe BK312.out 0).trans rfl, (Qe BK312.out 1).trans rfl⟩ (fun hHeld => ?_)
     clear hK K
     refine Xp (a' := ?_) ?_ ?_
     rotate_left
     ·show Act.put _ (some 14) _ = _
      simp only [Act.put, sA_, sZ_, sS_, Wp, Ws]
      rfl
     refine Zt (i := 6) (N := some 16) (v := ?_) (a' := ?_) #[true, true, true, true, true, true, true, false, false, false] rfl rfl (Zh HT_.out (by kernel_rfl)) (fun _ _ _ h => h) (Or.inl ⟨by rfl, ?_⟩) ?_ ?_
     rotate_left
     ·intro w'
      go_simp
      with_reducible rfl
     rotate_left
     ·simp only [Act.put, sA_, sZ_, sS_, Wp, Ws]
      rfl
     refine one_ (i := 7) (N := some 17) #[true, true, true, true, true, true, true, true, false, false] rfl rfl (Xq HT_.out (by kernel_rfl)) (by decide) (fun K hK => ?_)
     (have p317 : 0 <= (a2 : Int) := of_decide_eq_true (by first | (with_reducible assumption) | assumption); have q317 : a2 < (y314.length : Int) := of_decide_eq_true (by first | (with_reducible assumption) | assumption); obtain ⟨ad317, e317, hx317_0⟩ := Kd.at_int (Kd.R_reads' HO316.out).2.2 a2 p317 q317; obtain rfl : ado14 = ad317 := (by injection e317))
     refine value_ (w1 := ?_) (v := ?_) (by rfl) rfl ?_ ?_
     rotate_left 2
     ·go_simp
      constructor
      ·rfl
      ·rfl
     clear hx317_0
     refine hK.out _ _ ⟨(Qe BK312.out 0).trans rfl, (Qe BK312.out 1).trans rfl⟩ (fun hHeld => ?_)
     clear hK K
     refine Xp (a' := ?_) ?_ ?_
     rotate_left
     ·show Act.put _ (some 17) _ = _
      simp only [Act.put, sA_, sZ_, sS_, Wp, Ws]
      rfl
     refine Zt (i := 8) (N := some 18) (v := ?_) (a' := ?_) #[true, true, true, true, true, true, true, true, true, false] rfl rfl (Zh HT_.out (by kernel_rfl)) (fun _ _ _ h => h) (Or.inl ⟨by rfl, ?_⟩) ?_ ?_
     rotate_left
     ·intro w'
      go_simp
      with_reducible rfl
     rotate_left
     ·simp only [Act.put, sA_, sZ_, sS_, Wp, Ws]
      rfl
     refine Zt (i := 9) (N := some 8) (v := ?_) (a' := ?_) #[true, true, true, true, true, true, true, true, true, true] rfl rfl (Zh HT_.out (by kernel_rfl)) (fun _ _ _ h => h) (Or.inl ⟨by rfl, ?_⟩) ?_ ?_
     rotate_left
     ·intro w'
      go_simp
      with_reducible rfl
     rotate_left
     ·simp only [Act.put, sA_, sZ_, sS_, Wp, Ws]
      rfl
     refine done_ (done_of HT_.out (by kernel_rfl)) ?_
     try go_wp2
     have pi321 : (0 <= (a2 : Int)) = True := eq_true (of_decide_eq_true (by first | (with_reducible assumption) | assumption))
     have qi321 : (a2 < (y318.length : Int)) = True := eq_true (of_decide_eq_true (by first | (with_reducible assumption) | assumption))
     have n0_ := Qa.mk (Kd.R_drew HO316.out)
     have n1_ := Qa.mk (Ye BK312.out)
     have n2_ := Qa.mk (Ye BK313.out)
     have n3_ := Qa.mk (Qq HB.out)
     clear HO316
     clear BK312
     clear BK313
     clear HB
     have HO316 := n0_
     have BK312 := n1_
     have BK313 := n2_
     have HB := n3_
     clear n0_ n1_ n2_ n3_
     refine start_ (n := 10) (S := fun w' => w'.cell? ⟨gb312, 0, none⟩ = some (.int .i64 a0_0) ∧ w'.cell? ⟨gb312, 1, none⟩ = some (.slice A0_1 l0_1.length c0_1)) (ds := []) #[false, false, false, false, false, false, false, false, false, false] (by kernel_rfl) rfl rfl ⟨(Qe BK312.out 0).trans rfl, (Qe BK312.out 1).trans rfl⟩ (fun hHeld => ?_); refine with_tabW Wv.tab2 Wv.bits2 (fun HT_ HW_ => ?_)
     generalize w12.drew = w15 at HO316 BK312 BK313 HB hHeld ⊢
     refine Zt (i := 0) (N := some 19) (v := ?_) (a' := ?_) #[true, false, false, false, false, false, false, false, false, false] rfl rfl (Zh HT_.out (by kernel_rfl)) (fun _ _ _ h => h) (Or.inl ⟨by rfl, ?_⟩) ?_ ?_
     rotate_left
     ·intro w'
      go_simp
      with_reducible rfl
     rotate_left
     ·simp only [Act.put, sA_, sZ_, sS_, Wp, Ws]
      rfl
     refine Zt (i := 1) (N := some 20) (v := ?_) (a' := ?_) #[true, true, false, false, false, false, false, false, false, false] rfl rfl (Zh HT_.out (by kernel_rfl)) (fun _ _ _ h => h) (Or.inl ⟨by rfl, ?_⟩) ?_ ?_
     rotate_left
     ·intro w'
      go_simp
      with_reducible rfl
     rotate_left
     ·simp only [Act.put, sA_, sZ_, sS_, Wp, Ws]
      rfl
     refine Zt (i := 5) (N := some 24) (v := ?_) (a' := ?_) #[true, true, false, false, false, true, false, false, false, false] rfl rfl (Zh HT_.out (by kernel_rfl)) (fun _ _ _ h => h) (Or.inl ⟨by rfl, ?_⟩) ?_ ?_
     rotate_left
     ·intro w'
      go_simp
      with_reducible rfl
     rotate_left
     ·simp only [Act.put, sA_, sZ_, sS_, Wp, Ws]
      rfl
     refine Xt (i := 2) (N := some 21) (v := ?_) (a' := ?_) #[true, true, true, false, false, true, false, false, false, false] rfl rfl (Yn HT_.out HW_.out (by kernel_rfl)) (fun _ _ _ h => h) (Or.inl ⟨by rfl, ?_⟩) hHeld ?_ ?_
     rotate_left
     ·rintro w' ⟨s0, s1⟩
      go_simp
      with_reducible rfl
     rotate_left
     ·simp only [Act.put, sA_, sZ_, sS_, Wp, Ws]
      rfl
     refine Zt (i := 3) (N := some 22) (v := ?_) (a' := ?_) #[true, true, true, true, false, true, false, false, false, false] rfl rfl (Zh HT_.out (by kernel_rfl)) (fun _ _ _ h => h) (Or.inl ⟨by rfl, ?_⟩) ?_ ?_
     rotate_left
     ·intro w'
      go_simp
      with_reducible rfl
     rotate_left
     ·simp only [Act.put, sA_, sZ_, sS_, Wp, Ws]
      rfl
     refine one_ (i := 4) (N := some 23) #[true, true, true, true, true, true, false, false, false, false] rfl rfl (Xq HT_.out (by kernel_rfl)) (by decide) (fun K hK => ?_)
     refine Kd.R_lit_step (Kd.int .i64) _ 3 ?hg (N := 23) ?hd (xs := ([0, 1, 0, (-1)] : List Int)) (inner := [.int .i64 0, .int .i64 1, .int .i64 0, .int .i64 (-1)]) (ok := fun _ => True) (okp := fun _ => True) ?hr ?hp (fun _ hk => hk) trivial (Below.refl _ _) (Nat.le_refl _) (by simp) ?_; (case hd => rfl); (case hg => rfl); (case hr => first | (go_simp; done) | (go_simp; rfl)); (case hp => exact (Reps.one (show Kd.M (Kd.int .i64) _ _ _ 0 [.int .i64 0] from rfl) (Reps.one (show Kd.M (Kd.int .i64) _ _ _ 1 [.int .i64 1] from rfl) (Reps.one (show Kd.M (Kd.int .i64) _ _ _ 0 [.int .i64 0] from rfl) (Reps.one (show Kd.M (Kd.int .i64) _ _ _ (-1) [.int .i64 (-1)] from rfl) (Reps.none _ _))))))
     intro v319 w16 ho17 hb hg_ hnew_
     clear hg_ hnew_
     (first | rw [<- Ny318.out] at ho17 | (simp only [Int.reduceToNat] at ho17; rw [<- Ny318.out] at ho17))
     have n0_ := Qa.mk (Kd.R_elder' (kR HO316.out) (Kd.R_base ho17) hb)
     have n1_ := Qa.mk (Kd.Yy (Kd.R_new' ho17 (Kd.R_lt (kR HO316.out))) (Qr (by repeat first | exact HB.out | with_reducible refine Qh ?_ ‹_› | apply Qc | apply Qb)))
     have n2_ := Qa.mk (Qk (bK BK312.out) hb)
     have n3_ := Qa.mk (Qk (bK BK313.out) hb)
     have n4_ := Qa.mk (Ql (by repeat first | exact HB.out | with_reducible refine Qh ?_ ‹_› | apply Qc | apply Qb) hb)
     clear HO316
     clear BK312
     clear BK313
     clear HB
     have HO316 := n0_
     have HO320 := n1_
     have BK312 := n2_
     have BK313 := n3_
     have HB := n4_
     clear n0_ n1_ n2_ n3_ n4_
     clear hb ho17
     obtain ⟨Ao18, co18, eo18⟩ := Kd.Zk HO320.out
     subst eo18
     obtain ⟨ado18, fo18, _⟩ := Kd.at_int (Kd.R_reads' HO320.out).2.2 0 (by decide) (by rw [Ny318.out]; simp)
     cases fo18
     refine hK.out _ _ ⟨(Qe BK312.out 0).trans rfl, (Qe BK312.out 1).trans rfl⟩ (fun hHeld => ?_)
     clear hK K
     refine Xp (a' := ?_) ?_ ?_
     rotate_left
     ·show Act.put _ (some 23) _ = _
      simp only [Act.put, sA_, sZ_, sS_, Wp, Ws]
      rfl
     refine Zt (i := 6) (N := some 25) (v := ?_) (a' := ?_) #[true, true, true, true, true, true, true, false, false, false] rfl rfl (Zh HT_.out (by kernel_rfl)) (fun _ _ _ h => h) (Or.inl ⟨by rfl, ?_⟩) ?_ ?_
     rotate_left
     ·intro w'
      go_simp
      with_reducible rfl
     rotate_left
     ·simp only [Act.put, sA_, sZ_, sS_, Wp, Ws]
      rfl
     refine one_ (i := 7) (N := some 26) #[true, true, true, true, true, true, true, true, false, false] rfl rfl (Xq HT_.out (by kernel_rfl)) (by decide) (fun K hK => ?_)
     (have p321 : 0 <= (a2 : Int) := of_decide_eq_true (by first | (with_reducible assumption) | assumption); have q321 : a2 < (y318.length : Int) := of_decide_eq_true (by first | (with_reducible assumption) | assumption); obtain ⟨ad321, e321, hx321_0⟩ := Kd.at_int (Kd.R_reads' HO320.out).2.2 a2 p321 q321; obtain rfl : ado18 = ad321 := (by injection e321))
     refine value_ (w1 := ?_) (v := ?_) (by rfl) rfl ?_ ?_
     rotate_left 2
     ·go_simp
      constructor
      ·rfl
      ·rfl
     clear hx321_0
     refine hK.out _ _ ⟨(Qe BK312.out 0).trans rfl, (Qe BK312.out 1).trans rfl⟩ (fun hHeld => ?_)
     clear hK K
     refine Xp (a' := ?_) ?_ ?_
     rotate_left
     ·show Act.put _ (some 26) _ = _
      simp only [Act.put, sA_, sZ_, sS_, Wp, Ws]
      rfl
     refine Zt (i := 8) (N := some 27) (v := ?_) (a' := ?_) #[true, true, true, true, true, true, true, true, true, false] rfl rfl (Zh HT_.out (by kernel_rfl)) (fun _ _ _ h => h) (Or.inl ⟨by rfl, ?_⟩) ?_ ?_
     rotate_left
     ·intro w'
      go_simp
      with_reducible rfl
     rotate_left
     ·simp only [Act.put, sA_, sZ_, sS_, Wp, Ws]
      rfl
     refine Zt (i := 9) (N := some 9) (v := ?_) (a' := ?_) #[true, true, true, true, true, true, true, true, true, true] rfl rfl (Zh HT_.out (by kernel_rfl)) (fun _ _ _ h => h) (Or.inl ⟨by rfl, ?_⟩) ?_ ?_
     rotate_left
     ·intro w'
      go_simp
      with_reducible rfl
     rotate_left
     ·simp only [Act.put, sA_, sZ_, sS_, Wp, Ws]
      rfl
     refine done_ (done_of HT_.out (by kernel_rfl)) ?_
     go_upto_region 3 with (fail)
     go_cut [41] (fun v41 wc => ∃ (kq : Nat) (x41_7 : Bool), v41 = .bool x41_7 ∧ Qa (Wv.j0 kq a2 (wrap64 ((wrap64 (Int.tdiv a1 a0_0)) + (rd y314 a2))) (wrap64 ((Int.tmod a1 a0_0) + (rd y318 a2))) x41_7 a0_0 l0_1 = some (r1, r2, r3)) ∧ Qa (kq <= k) ∧ Qa (wc.heap[gb312]? = some (.cells #[.int .i64 a0_0, (.slice A0_1 l0_1.length c0_1)] 25 (0, 0))) ∧ Qa (wc.heap[gb313]? = some (.cells #[.int .i64 0, .int .i64 0] 44 (0, 0))) ∧ Qa (Below w.heap.size w wc))
     case first =>
      have H := HC8.out
      clear HC8
      replace H := Option.bind_eq_some_iff.mp H
      obtain ⟨t322, A190, H⟩ := H
      replace H : ((Wy.f (wrap64 ((wrap64 (Int.tdiv a1 a0_0)) + (rd y314 a2))) 0 (wrap64 (t322 - 1))).bind fun t323 => (if t323 = true then ((Wy.f (wrap64 ((Int.tmod a1 a0_0) + (rd y318 a2))) 0 (wrap64 (a0_0 - 1))).bind fun t324 => (Wv.j0 k a2 (wrap64 ((wrap64 (Int.tdiv a1 a0_0)) + (rd y314 a2))) (wrap64 ((Int.tmod a1 a0_0) + (rd y318 a2))) (!t324) a0_0 l0_1)) else (Wv.j0 k a2 (wrap64 ((wrap64 (Int.tdiv a1 a0_0)) + (rd y314 a2))) (wrap64 ((Int.tmod a1 a0_0) + (rd y318 a2))) true a0_0 l0_1))) = some (r1, r2, r3) := H
      have A19 := Qa.mk A190
      clear A190
      replace H := Option.bind_eq_some_iff.mp H
      obtain ⟨t323, A200, H⟩ := H
      replace H : (if t323 = true then ((Wy.f (wrap64 ((Int.tmod a1 a0_0) + (rd y318 a2))) 0 (wrap64 (a0_0 - 1))).bind fun t324 => (Wv.j0 k a2 (wrap64 ((wrap64 (Int.tdiv a1 a0_0)) + (rd y314 a2))) (wrap64 ((Int.tmod a1 a0_0) + (rd y318 a2))) (!t324) a0_0 l0_1)) else (Wv.j0 k a2 (wrap64 ((wrap64 (Int.tdiv a1 a0_0)) + (rd y314 a2))) (wrap64 ((Int.tmod a1 a0_0) + (rd y318 a2))) true a0_0 l0_1)) = some (r1, r2, r3) := H
      have A20 := Qa.mk A200
      clear A200
      by_cases c21 : t323 = true
      ·subst c21
       have H1 : ((Wy.f (wrap64 ((Int.tmod a1 a0_0) + (rd y318 a2))) 0 (wrap64 (a0_0 - 1))).bind fun t324 => (Wv.j0 k a2 (wrap64 ((wrap64 (Int.tdiv a1 a0_0)) + (rd y314 a2))) (wrap64 ((Int.tmod a1 a0_0) + (rd y318 a2))) (!t324) a0_0 l0_1)) = some (r1, r2, r3) := by rw [if_pos rfl] at H; exact H
       clear H
       have H := H1
       clear H1
       replace H := Option.bind_eq_some_iff.mp H
       obtain ⟨t324, A220, H⟩ := H
       replace H : (Wv.j0 k a2 (wrap64 ((wrap64 (Int.tdiv a1 a0_0)) + (rd y314 a2))) (wrap64 ((Int.tmod a1 a0_0) + (rd y318 a2))) (!t324) a0_0 l0_1) = some (r1, r2, r3) := H
       have A22 := Qa.mk A220
       clear A220
       have H' := Qa.mk H
       clear H
       have hnb23 := NB312_313.out
       have hnc23 := NB313_312.out
       have hcz24_0 : w16.cell? ⟨gb312, 0, none⟩ = some (.int .i64 a0_0) := (Qe BK312.out 0).trans rfl
       have hcz24_1 : w16.cell? ⟨gb312, 1, none⟩ = some (.slice A0_1 l0_1.length c0_1) := (Qe BK312.out 1).trans rfl
       have hfz24_0 := Qf BK312.out 0
       have hfz24_1 := Qf BK312.out 1
       go_wp2_with (first | ((with_reducible refine Wi (f := 67) rfl ?_); refine Zu (some 30) rfl rfl Try.func67 (by kernel_rfl) rfl #[.agg #[.int .i64 a0_0, .slice A0_1 l0_1.length c0_1]] rfl (by first | rfl | (simp only [List.map_toArray, List.map_cons, List.map_nil, List.length_drop, List.length_take]; try rfl)) ?_; (with_reducible refine (Yh.calls a0_0 _ _ l0_1 t322 _ ?side1 ?side2 A19.out).mono ?_); (case side1 => repeat (first | exact (Kd.Zi HR0_1.out HB.out) | (with_reducible refine Kd.Zm ?_ _) | (with_reducible refine Kd.Zl ?_ _) | (with_reducible refine Kd.Yb ?_))); (case side2 => exact HC0_1.out); rintro e w25 ⟨rfl, hb⟩; refine ⟨_, rfl, ?_⟩; have n0_ := Qa.mk (Kd.Ze (kR HO316.out) hb); have n1_ := Qa.mk (Kd.Ze (kR HO320.out) hb); have n2_ := Qa.mk (Qk (bK BK312.out) hb); have n3_ := Qa.mk (Qk (bK BK313.out) hb); have n4_ := Qa.mk (Ql (by repeat first | exact HB.out | with_reducible refine Qh ?_ ‹_› | apply Qc | apply Qb) hb); clear HO316; clear HO320; clear BK312; clear BK313; clear HB; have HO316 := n0_; have HO320 := n1_; have BK312 := n2_; have BK313 := n3_; have HB := n4_; clear n0_ n1_ n2_ n3_ n4_; (try clear hb); (try clear hb2); (try clear hk); (try clear hi)) | ((with_reducible refine Wi (f := 48) rfl ?_); refine Zu (some 32) rfl rfl Try.func48 (by kernel_rfl) rfl #[.int .i64 (wrap64 ((wrap64 (Int.tdiv a1 a0_0)) + (rd y314 a2))), .int .i64 0, .int .i64 (wrap64 (t322 - 1))] rfl (by first | rfl | (simp only [List.map_toArray, List.map_cons, List.map_nil, List.length_drop, List.length_take]; try rfl)) ?_; (with_reducible refine (Wy.calls (wrap64 ((wrap64 (Int.tdiv a1 a0_0)) + (rd y314 a2))) 0 (wrap64 (t322 - 1)) true _ A20.out).mono ?_); rintro e w' ⟨rfl, ⟨nd, rfl⟩⟩; refine ⟨_, rfl, ?_⟩; have hcz26_0 : w25.cell? ⟨gb312, 0, none⟩ = some (.int .i64 a0_0) := (Qe BK312.out 0).trans rfl; have hcz26_1 : w25.cell? ⟨gb312, 1, none⟩ = some (.slice A0_1 l0_1.length c0_1) := (Qe BK312.out 1).trans rfl; have hfz26_0 := Qf BK312.out 0; have hfz26_1 := Qf BK312.out 1) | (go_at_call 48; (with_reducible refine (Wy.calls (wrap64 ((Int.tmod a1 a0_0) + (rd y318 a2))) 0 (wrap64 (a0_0 - 1)) t324 _ A22.out).mono ?_); rintro e w' ⟨rfl, ⟨nd, rfl⟩⟩))
       go_meet
       case rel => exact ⟨_, (!t324), (by first | rfl | (simp; done) | (simp [*]; done)), H', ⟨by first | omega | exact Nat.le_refl _⟩, ⟨by (with_reducible repeat apply Qd); exact BK312.out⟩, ⟨by (with_reducible repeat apply Qd); exact BK313.out⟩, ⟨by repeat first | exact HB.out | with_reducible refine Qh ?_ ‹_› | apply Qc | apply Qb⟩⟩
      ·replace c21 := Bool.eq_false_iff.mpr c21
       subst c21
       have H1 : (Wv.j0 k a2 (wrap64 ((wrap64 (Int.tdiv a1 a0_0)) + (rd y314 a2))) (wrap64 ((Int.tmod a1 a0_0) + (rd y318 a2))) true a0_0 l0_1) = some (r1, r2, r3) := by rw [if_neg (show ¬ (false = true) by decide)] at H; exact H
       clear H
       have H := H1
       clear H1
       have H' := Qa.mk H
       clear H
       have hnb27 := NB312_313.out
       have hnc27 := NB313_312.out
       have hcz28_0 : w16.cell? ⟨gb312, 0, none⟩ = some (.int .i64 a0_0) := (Qe BK312.out 0).trans rfl
       have hcz28_1 : w16.cell? ⟨gb312, 1, none⟩ = some (.slice A0_1 l0_1.length c0_1) := (Qe BK312.out 1).trans rfl
       have hfz28_0 := Qf BK312.out 0
       have hfz28_1 := Qf BK312.out 1
       go_wp2_with (first | ((with_reducible refine Wi (f := 67) rfl ?_); refine Zu (some 30) rfl rfl Try.func67 (by kernel_rfl) rfl #[.agg #[.int .i64 a0_0, .slice A0_1 l0_1.length c0_1]] rfl (by first | rfl | (simp only [List.map_toArray, List.map_cons, List.map_nil, List.length_drop, List.length_take]; try rfl)) ?_; (with_reducible refine (Yh.calls a0_0 _ _ l0_1 t322 _ ?side1 ?side2 A19.out).mono ?_); (case side1 => repeat (first | exact (Kd.Zi HR0_1.out HB.out) | (with_reducible refine Kd.Zm ?_ _) | (with_reducible refine Kd.Zl ?_ _) | (with_reducible refine Kd.Yb ?_))); (case side2 => exact HC0_1.out); rintro e w29 ⟨rfl, hb⟩; refine ⟨_, rfl, ?_⟩; have n0_ := Qa.mk (Kd.Ze (kR HO316.out) hb); have n1_ := Qa.mk (Kd.Ze (kR HO320.out) hb); have n2_ := Qa.mk (Qk (bK BK312.out) hb); have n3_ := Qa.mk (Qk (bK BK313.out) hb); have n4_ := Qa.mk (Ql (by repeat first | exact HB.out | with_reducible refine Qh ?_ ‹_› | apply Qc | apply Qb) hb); clear HO316; clear HO320; clear BK312; clear BK313; clear HB; have HO316 := n0_; have HO320 := n1_; have BK312 := n2_; have BK313 := n3_; have HB := n4_; clear n0_ n1_ n2_ n3_ n4_; (try clear hb); (try clear hb2); (try clear hk); (try clear hi)) | ((with_reducible refine Wi (f := 48) rfl ?_); refine Zu (some 32) rfl rfl Try.func48 (by kernel_rfl) rfl #[.int .i64 (wrap64 ((wrap64 (Int.tdiv a1 a0_0)) + (rd y314 a2))), .int .i64 0, .int .i64 (wrap64 (t322 - 1))] rfl (by first | rfl | (simp only [List.map_toArray, List.map_cons, List.map_nil, List.length_drop, List.length_take]; try rfl)) ?_; (with_reducible refine (Wy.calls (wrap64 ((wrap64 (Int.tdiv a1 a0_0)) + (rd y314 a2))) 0 (wrap64 (t322 - 1)) false _ A20.out).mono ?_); rintro e w' ⟨rfl, ⟨nd, rfl⟩⟩; refine ⟨_, rfl, ?_⟩))
       go_meet
       case rel => exact ⟨_, (true), (by first | rfl | (simp; done) | (simp [*]; done)), H', ⟨by first | omega | exact Nat.le_refl _⟩, ⟨by (with_reducible repeat apply Qd); exact BK312.out⟩, ⟨by (with_reducible repeat apply Qd); exact BK313.out⟩, ⟨by repeat first | exact HB.out | with_reducible refine Qh ?_ ‹_› | apply Qc | apply Qb⟩⟩
     case rest =>
      clear HC8
      try clear c2
      try clear p2
      try clear p3
      try clear q3
      try clear hx3
      try clear qi3
      try clear c4
      try clear c4b0
      try clear c4b1
      try clear c5
      try clear c5b0
      try clear c6
      try clear c6b0
      try clear p6
      try clear c7
      try clear c7b0
      try clear c21
      try clear c23
      try clear c27
      try clear hcz24_0
      try clear hcz24_1
      try clear hcz26_0
      try clear hcz26_1
      try clear hcz28_0
      try clear hcz28_1
      try clear hfz24_0
      try clear hfz24_1
      try clear hfz26_0
      try clear hfz26_1
      try clear hfz28_0
      try clear hfz28_1
      try clear hx317_0
      try clear hx321_0
      try clear p317
      try clear p321
      try clear q317
      try clear q321
      obtain ⟨kq, x41_7, rfl, HA, HJ7, BK312, BK313, HB⟩ := hcut
      cases kq with
      | zero => exact absurd HA.out (by simp [Wv.j0])
      | succ kj7 =>
       have H := HA.out
       clear HA
       simp only [Wv.j0] at H
       by_cases c30 : x41_7 = true
       ·subst c30
        have H1 : (some (0, 0, false)) = some (r1, r2, r3) := by rw [if_pos rfl] at H; exact H
        clear H
        have H := H1
        clear H1
        simp only [Option.some.injEq, Prod.mk.injEq] at H
        obtain ⟨rfl, rfl, rfl⟩ := H
        have hnb31 := NB313_312.out
        have hnc31 := NB312_313.out
        have hcz32_0 : wc.cell? ⟨gb313, 0, none⟩ = some (.int .i64 0) := (Qe BK313.out 0).trans rfl
        have hcz32_1 : wc.cell? ⟨gb313, 1, none⟩ = some (.int .i64 0) := (Qe BK313.out 1).trans rfl
        have hfz32_0 := Qf BK313.out 0
        have hfz32_1 := Qf BK313.out 1
        go_wp2
        refine bodyPost_ret (results_ct rfl _ _ gb313 44 #[.int .i64 0, .int .i64 0] (0, 0) _ rfl (by (with_reducible repeat apply Qd); refine Wm (cs := #[.int .i64 0, .int .i64 0]) ?_ 1 _ rfl; (with_reducible repeat apply Qd); refine Wm (cs := #[.int .i64 0, .int .i64 0]) ?_ 0 _ rfl; (with_reducible repeat apply Qd); exact BK313.out) Try.underlying44 rfl (by kernel_rfl)) rfl ?_
        exact ⟨by first | rfl | (simp [Qt, Qs] <;> rfl) | (simp [*, Qt, Qs] <;> rfl) | (exfalso; simp_all; done), by repeat first | exact HB.out | with_reducible refine Qh ?_ ‹_› | apply Qc | apply Qb⟩
       ·replace c30 := Bool.eq_false_iff.mpr c30
        subst c30
        have H1 : (some (wrap64 ((wrap64 ((wrap64 ((wrap64 (Int.tdiv a1 a0_0)) + (rd y314 a2))) * a0_0)) + (wrap64 ((Int.tmod a1 a0_0) + (rd y318 a2)))), a2, true)) = some (r1, r2, r3) := by rw [if_neg (show ¬ (false = true) by decide)] at H; exact H
        clear H
        have H := H1
        clear H1
        simp only [Option.some.injEq, Prod.mk.injEq] at H
        obtain ⟨rfl, rfl, rfl⟩ := H
        have hnb33 := NB312_313.out
        have hnc33 := NB313_312.out
        have hcz34_0 : wc.cell? ⟨gb312, 0, none⟩ = some (.int .i64 a0_0) := (Qe BK312.out 0).trans rfl
        have hcz34_1 : wc.cell? ⟨gb312, 1, none⟩ = some (.slice A0_1 l0_1.length c0_1) := (Qe BK312.out 1).trans rfl
        have hfz34_0 := Qf BK312.out 0
        have hfz34_1 := Qf BK312.out 1
        have hcz35_0 : wc.cell? ⟨gb313, 0, none⟩ = some (.int .i64 0) := (Qe BK313.out 0).trans rfl
        have hcz35_1 : wc.cell? ⟨gb313, 1, none⟩ = some (.int .i64 0) := (Qe BK313.out 1).trans rfl
        have hfz35_0 := Qf BK313.out 0
        have hfz35_1 := Qf BK313.out 1
        go_wp2
        refine bodyPost_ret (results_ct rfl _ _ gb313 44 #[.int .i64 (wrap64 ((wrap64 ((wrap64 ((wrap64 (Int.tdiv a1 a0_0)) + (rd y314 a2))) * a0_0)) + (wrap64 ((Int.tmod a1 a0_0) + (rd y318 a2))))), .int .i64 a2] (0, 0) _ rfl (by (with_reducible repeat apply Qd); refine Wm (cs := #[.int .i64 (wrap64 ((wrap64 ((wrap64 ((wrap64 (Int.tdiv a1 a0_0)) + (rd y314 a2))) * a0_0)) + (wrap64 ((Int.tmod a1 a0_0) + (rd y318 a2))))), .int .i64 0]) ?_ 1 _ rfl; (with_reducible repeat apply Qd); refine Wm (cs := #[.int .i64 0, .int .i64 0]) ?_ 0 _ rfl; (with_reducible repeat apply Qd); exact BK313.out) Try.underlying44 rfl (by kernel_rfl)) rfl ?_
        exact ⟨by first | rfl | (simp [Qt, Qs] <;> rfl) | (simp [*, Qt, Qs] <;> rfl) | (exfalso; simp_all; done), by repeat first | exact HB.out | with_reducible refine Qh ?_ ‹_› | apply Qc | apply Qb⟩
    ·rw [if_neg c7] at H
     exact absurd H (by simp)
   ·rw [if_neg c6] at H
    exact absurd H (by simp)
  ·rw [if_neg c5] at H
   exact absurd H (by simp)
end Go.Proofs.Yteapnipnoadejaa.P
