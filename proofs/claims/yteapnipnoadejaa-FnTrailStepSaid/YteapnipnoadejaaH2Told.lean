/- PROVED: the program's SightOf tells the last viewpoint whose ray is the one that goes back. No condition but that the grid can be held. -/
import Derived.Test.YteapnipnoadejaaWAll
import Derived.Test.YteapnipnoadejaaH0Fn
import Derived.Test.YteapnipnoadejaaH1Ray
import Derived.Test.YteapnipnoadejaaPx31
namespace Go.Proofs.Yteapnipnoadejaa.P
open Go.RowKit Go.Proofs.YteapnipnoadejaaW
set_option linter.unusedVariables false
set_option linter.unusedSimpArgs false
theorem eqRayIn (d : Nat) (w : World) (x0 y0 : Int) (x1 y1 : Int) :
    (Op.equalIn (d + 2) 44 (.agg #[.int .i64 x0, .int .i64 x1]) (.agg #[.int .i64 y0, .int .i64 y1])).run Try.prog w = .ok (x0 == y0 && (x1 == y1)) w := by
  refine eqA_of Try.underlying44 (by kernel_rfl) ?_
  refine eqf_cons (by rfl) (by go_simp; rfl) (by go_simp; rfl) (by go_simp) ?_
  exact eqf_last (by rfl) (by go_simp; rfl) (by go_simp; rfl) (by go_simp)
attribute [local go_sem high] eqRayIn
theorem below_low {a b : Nat} {w w1 : World} (h : Below b w w1) (hab : a <= b) : Below a w w1 := ⟨h.os, h.tape, h.output, h.size, fun k hk => h.block k (Nat.lt_of_lt_of_le hk hab)⟩
/-- Is it the ray that is looked for? -/
def isIn (A D at_ dir : Int) : Bool := at_ == A && dir == D
set_option maxRecDepth 100000 in
set_option maxHeartbeats 2000000 in
theorem tell_calls (k at_ dir A D x : Int) (b : Bool) (x' : Int) (hb : b = isIn A D at_ dir) (hx : x' = bif b then k else x) (pb qb : Nat) (w : World) (hne : pb ≠ qb) (hp : w.heap[pb]? = some (.cells #[.int .i64 A, .int .i64 D] 44 (0, 0))) (hq : w.heap[qb]? = some (.cells #[.int .i64 x] 3 (0, 0))) :
    Calls Try.prog 76 #[.int .i64 k, .agg #[.int .i64 at_, .int .i64 dir], .pointer (some ⟨pb, 0, none⟩), .pointer (some ⟨qb, 0, none⟩)] w fun e w' =>
      e = .returned (.bool b) ∧ Below qb w w' ∧ Qn w w' qb none ∧ w'.heap[qb]? = some (.cells #[.int .i64 x'] 3 (0, 0)) := by
  have hbx := Qa.mk hb
  have hxx := Qa.mk hx
  clear hb hx
  have hu37 := Try.underlying44
  have hlt : pb < w.heap.size := (Array.getElem?_eq_some_iff.1 hp).1
  have hlq : qb < w.heap.size := (Array.getElem?_eq_some_iff.1 hq).1
  go_enter Try.func76, Try.ntmps76
  go_wp2_with (first | ((with_reducible refine We (N := 5) rfl ?_); refine Qy rfl (N := 5) rfl (cs := #[.int .i64 at_, .int .i64 dir]) (t := 44) ?hr ?_; (case hr => first | (go_simp; done) | (go_simp; rfl)); intro gb hgb w1 hbox hb; have hb0 : w1.cell? ⟨gb, 0, none⟩ = some (.int .i64 at_) := (Qe hbox 0).trans rfl; have hb1 : w1.cell? ⟨gb, 1, none⟩ = some (.int .i64 dir) := (Qe hbox 1).trans rfl; have hp' := (hb.block pb hlt).trans hp; have hq' := (hb.block qb hlq).trans hq; have hp0 : w1.cell? ⟨pb, 0, none⟩ = some (.int .i64 A) := (Qe hp' 0).trans rfl; have hp1 : w1.cell? ⟨pb, 1, none⟩ = some (.int .i64 D) := (Qe hp' 1).trans rfl; have hf : w1.frozen? ⟨qb, 0, none⟩ = false := Qf hq' 0; have hq0 : w1.cell? ⟨qb, 0, none⟩ = some (.int .i64 x) := (Qe hq' 0).trans rfl; have hng : gb ≠ qb := (by rw [hgb]; exact Nat.ne_of_gt hlq); have hng' : qb ≠ gb := Ne.symm hng; have hne' : qb ≠ pb := Ne.symm hne; have HB := Qa.mk hb; have HQ := Qa.mk hq'; clear hgb hb hbox hp' hq'))
  · rename_i h
    go_ret
    have eb : isIn A D at_ dir = true := by unfold isIn; simp [h]
    have e0 := hbx.out
    rw [eb] at e0
    have e1 := hxx.out
    rw [e0, cond_true] at e1
    refine ⟨by rw [e0]; simp [h], ?_, ?_, ?_⟩
    · exact (Below.setCell (below_low HB.out (Nat.le_of_lt hlq)) (Nat.le_refl _) _)
    · exact Qn.set_ (Qn.of_below HB.out qb none) 0 _
    · rw [e1]
      exact Wm HQ.out 0 _ rfl
  · rename_i h
    go_ret
    have eb : isIn A D at_ dir = false := by
      have h' : ¬at_ = A ∨ ¬dir = D := by simpa using h
      unfold isIn
      rcases h' with h' | h' <;> simp [h']
    have e0 := hbx.out
    rw [eb] at e0
    have e1 := hxx.out
    rw [e0, cond_false] at e1
    refine ⟨by rw [e0]; have h' : ¬at_ = A ∨ ¬dir = D := by simpa using h
               rcases h' with h' | h' <;> simp [h'], below_low HB.out (Nat.le_of_lt hlq), Qn.of_below HB.out qb none, ?_⟩
    rw [e1]
    exact HQ.out
/-- What the closure tells. -/
def tellB (A D k at_ dir : Int) : Option Bool := some (isIn A D at_ dir)
theorem tellB_eq {A D k at_ dir : Int} {b : Bool} (h : tellB A D k at_ dir = some b) : b = isIn A D at_ dir := (Option.some.inj h).symm
/-- The last place that holds. -/
def lastFrom (c : Int) (f : Int) : List Bool -> Int
  | [] => f
  | b :: l => lastFrom (c + 1) (bif b then c else f) l
def lastT (l : List Bool) : Int := lastFrom 0 (-1) l
theorem lastFrom_snoc (b : Bool) : ∀ (l : List Bool) (c f : Int), lastFrom c f (l ++ [b]) = bif b then c + (l.length : Int) else lastFrom c f l
  | [], c, f => by simp [lastFrom]
  | x :: l, c, f => by
    simp only [List.cons_append, lastFrom, List.length_cons]
    rw [lastFrom_snoc b l, show c + 1 + (l.length : Int) = c + ((l.length + 1 : Nat) : Int) from by omega]
theorem lastT_snoc (l : List Bool) (b : Bool) : lastT (l ++ [b]) = bif b then (l.length : Int) else lastT l := by
  unfold lastT
  rw [lastFrom_snoc, Int.zero_add]
theorem infoB_ : (Try.prog.info? 4).map (fun i => (i.zero, i.size, i.bytes)) = some (some (.bool false), 1, 1) := by kernel_rfl
mutual
def Yz.l0 (A D : Int) : Nat -> Int -> Int -> List Bool -> Int -> Int -> Option (List Bool)
  | 0, _, _, _, _, _ => none
  | k + 1, x5, x6, x7, x21, x22 => if x22 < x21 then ((tellB A D (x7.length : Int) x22 2).bind fun t378 => (if x7.length < 140737488355328 then (Yz.l0 A D k x5 x6 (x7 ++ [t378]) x21 (wrap64 (x22 + 1))) else (none))) else (Yz.l1 A D k x5 x6 x7 x6 0)
def Yz.l1 (A D : Int) : Nat -> Int -> Int -> List Bool -> Int -> Int -> Option (List Bool)
  | 0, _, _, _, _, _ => none
  | k + 1, x5, x6, x7, x35, x36 => if x36 < x35 then ((tellB A D (x7.length : Int) (wrap64 ((wrap64 ((wrap64 (x36 * x5)) + x5)) - 1)) 3).bind fun t382 => (if x7.length < 140737488355328 then (Yz.l1 A D k x5 x6 (x7 ++ [t382]) x35 (wrap64 (x36 + 1))) else (none))) else (Yz.l2 A D k x5 x6 x7 x5 0)
def Yz.l2 (A D : Int) : Nat -> Int -> Int -> List Bool -> Int -> Int -> Option (List Bool)
  | 0, _, _, _, _, _ => none
  | k + 1, x5, x6, x7, x54, x55 => if x55 < x54 then ((tellB A D (x7.length : Int) (wrap64 ((wrap64 ((wrap64 (x6 * x5)) - 1)) - x55)) 0).bind fun t386 => (if x7.length < 140737488355328 then (Yz.l2 A D k x5 x6 (x7 ++ [t386]) x54 (wrap64 (x55 + 1))) else (none))) else (Yz.l3 A D k x5 x6 x7 x6 0)
def Yz.l3 (A D : Int) : Nat -> Int -> Int -> List Bool -> Int -> Int -> Option (List Bool)
  | 0, _, _, _, _, _ => none
  | k + 1, x5, x6, x7, x73, x74 => if x74 < x73 then ((tellB A D (x7.length : Int) (wrap64 ((wrap64 ((wrap64 (x6 - 1)) - x74)) * x5)) 1).bind fun t390 => (if x7.length < 140737488355328 then (Yz.l3 A D k x5 x6 (x7 ++ [t390]) x73 (wrap64 (x74 + 1))) else (none))) else (some x7)
end
def Yz.f (A D : Int) (k : Nat) (a0_0 : Int) (l0_1 : List (S42))  : Option (List Bool) := (Yj.f a0_0 l0_1).bind fun t374 => (if 0 <= (wrap64 (2 * (wrap64 (a0_0 + t374)))) then (if (wrap64 (2 * (wrap64 (a0_0 + t374))) : Int).toNat <= 281474976710656 then (Yz.l0 A D k a0_0 t374 (([] : List Bool)) a0_0 0) else (none)) else (none))
set_option maxHeartbeats 8000000 in
set_option maxRecDepth 100000 in
theorem Yz.calls (A D : Int) (pb qb : Nat) (w0 : World) (hpl : pb < w0.heap.size) (hql : w0.heap.size <= qb) (hne : pb ≠ qb) (k : Nat) (a0_0 : Int) (A0_1 : Option Addr) (c0_1 : Nat) (l0_1 : List (S42)) (r : List Bool) (w : World) (hp : w0.heap[pb]? = some (.cells #[.int .i64 A, .int .i64 D] 44 (0, 0))) (hq : w.heap[qb]? = some (.cells #[.int .i64 (-1)] 3 (0, 0))) (hB : Below w0.heap.size w0 w) (hr0_1 : Kd.C k42 w0 A0_1 l0_1.length l0_1) (hc0_1 : l0_1.length <= c0_1) (h : Yz.f A D k a0_0 l0_1 = some r) :
    Calls Try.prog 75 #[.agg #[.int .i64 a0_0, .slice A0_1 l0_1.length c0_1], .func (.func 76) #[] #[.pointer (some ⟨pb, 0, none⟩), .pointer (some ⟨qb, 0, none⟩)]] w fun e w' => ∃ v0_ : Value, e = .returned (v0_) ∧ Kd.R Kd.bool 4 w' w0.heap.size (fun _ => True) v0_ r ∧ w'.heap[qb]? = some (.cells #[.int .i64 (lastT r)] 3 (0, 0)) ∧ Below w0.heap.size w0 w' := by
  have huG := Try.underlying25
  have huR := Try.underlying44
  have HR0_1 := Qa.mk hr0_1
  have HC0_1 := Qa.mk hc0_1
  clear hr0_1 hc0_1
  have HB := Qa.mk hB
  have BKQ := Qa.mk hq
  have HPW := Qa.mk hp
  have HPL := Qa.mk hpl
  have HQL := Qa.mk hql
  have HNE := Qa.mk hne
  clear hB hq hp hpl hql hne
  have H : ((Yj.f a0_0 l0_1).bind fun t374 => (if 0 <= (wrap64 (2 * (wrap64 (a0_0 + t374)))) then (if (wrap64 (2 * (wrap64 (a0_0 + t374))) : Int).toNat <= 281474976710656 then (Yz.l0 A D k a0_0 t374 (([] : List Bool)) a0_0 0) else (none)) else (none))) = some r := h
  clear h
  replace H := Option.bind_eq_some_iff.mp H
  obtain ⟨t374, A30, H⟩ := H
  replace H : (if 0 <= (wrap64 (2 * (wrap64 (a0_0 + t374)))) then (if (wrap64 (2 * (wrap64 (a0_0 + t374))) : Int).toNat <= 281474976710656 then (Yz.l0 A D k a0_0 t374 (([] : List Bool)) a0_0 0) else (none)) else (none)) = some r := H
  have A3 := Qa.mk A30
  clear A30
  obtain ⟨ji4, hji4⟩ : ∃ j_ : Int, (wrap64 (2 * (wrap64 (a0_0 + t374)))) = j_ := ⟨_, rfl⟩
  replace H : (if 0 <= (ji4) then (if (ji4 : Int).toNat <= 281474976710656 then (Yz.l0 A D k a0_0 t374 (([] : List Bool)) a0_0 0) else (none)) else (none)) = some r := by first | (rw [hji4] at H; exact H) | (simp only [hji4] at H ⊢; exact H)
  (try rw [hji4] at A3)
  have hji4w : (IntKind.i64.wrap (2 * (wrap64 (a0_0 + t374)))) = ji4 := (Wp _).trans hji4
  by_cases c5 : 0 <= (ji4)
  · rw [if_pos c5] at H
    have c5b0 := eq_true c5
    have c5b1 : decide (0 <= (ji4)) = true := decide_eq_true c5
    clear c5
    by_cases c6 : (ji4 : Int).toNat <= 281474976710656
    · rw [if_pos c6] at H
      have c6b0 := eq_true c6
      have c6b1 : decide ((ji4 : Int).toNat <= 281474976710656) = true := decide_eq_true c6
      clear c6
      obtain ⟨y375, hy375⟩ : ∃ y_ : List Bool, y_ = (([] : List Bool)) := ⟨_, rfl⟩
      replace H : (Yz.l0 A D k a0_0 t374 y375 a0_0 0) = some r := by first | (rw [hy375]; with_reducible exact H) | (have H2_ := (Option.bind_some _ _).symm.trans H; rw [hy375]; with_reducible exact H2_) | (have H2_ := (Option.bind_some _ _).symm.trans H; with_reducible exact H2_) | with_reducible exact H | (rw [hy375]; exact H) | exact H
      have Ny375 := Qa.mk hy375
      clear hy375
      have H' := Qa.mk H
      clear H
      go_enter Try.func75, Try.ntmps75
      try go_wp2_with (first | ((with_reducible refine We (N := 2) rfl ?_); refine Qy rfl (N := 2) rfl (cs := #[.int .i64 a0_0, .slice A0_1 l0_1.length c0_1]) (t := 25) ?hr ?_; (case hr => first | (go_simp; done) | (go_simp; rfl)); intro gb373 hg w7 hbox hb; have n0_ := Qa.mk (Ql (by repeat first | exact HB.out | apply Qc | apply Qb) hb); have n1_ := Qa.mk (hbox); have n2_ := Qa.mk ((by rw [hg]; exact (Qr (by repeat first | exact HB.out | apply Qc | apply Qb)) : w0.heap.size <= gb373)); have n3_ := Qa.mk ((by rw [hg]; exact (Qr (by repeat first | exact HB.out | apply Qc | apply Qb)) : w0.heap.size <= gb373)); clear HB; have HB := n0_; have BK373 := n1_; have GW373 := n2_; have GE373 := n3_; clear n0_ n1_ n2_ n3_; have nq_ := Qa.mk (Qk BKQ.out hb); have GNE := Qa.mk (by rw [hg]; exact Nat.ne_of_gt (Wl BKQ.out) : gb373 ≠ qb); clear BKQ; have BKQ := nq_; clear nq_; clear hb hbox hg))
      have nq_ := Qa.mk (Ye BKQ.out)
      clear BKQ
      have BKQ := nq_
      clear nq_
      have n0_ := Qa.mk (Ye BK373.out)
      have n1_ := Qa.mk (Qq HB.out)
      clear BK373
      clear HB
      have BK373 := n0_
      have HB := n1_
      clear n0_ n1_
      refine start_ (n := 6) (S := fun w' => w'.cell? ⟨gb373, 0, none⟩ = some (.int .i64 a0_0) ∧ w'.cell? ⟨gb373, 1, none⟩ = some (.slice A0_1 l0_1.length c0_1)) (ds := []) #[false, false, false, false, false, false] (by kernel_rfl) rfl rfl ⟨(Qe BK373.out 0).trans rfl, (Qe BK373.out 1).trans rfl⟩ (fun hHeld => ?_)
      generalize w7.drew = w8 at BK373 BKQ HB hHeld ⊢
      refine Zt (i := 0) (N := some 12) (v := ?_) (a' := ?_) #[true, false, false, false, false, false] rfl rfl (by kernel_rfl) (fun _ _ _ h => h) (Or.inl ⟨by rfl, ?_⟩) ?_ ?_
      rotate_left
      · intro w'
        go_simp
        with_reducible rfl
      rotate_left
      · simp only [Act.put, sA_, sZ_, sS_, Wp, Ws]
        rfl
      refine Xt (i := 1) (N := some 13) (v := ?_) (a' := ?_) #[true, true, false, false, false, false] rfl rfl (by kernel_rfl) (fun _ _ _ h => h) (Or.inl ⟨by rfl, ?_⟩) hHeld ?_ ?_
      rotate_left
      · rintro w' ⟨s0, s1⟩
        go_simp
        with_reducible rfl
      rotate_left
      · simp only [Act.put, sA_, sZ_, sS_, Wp, Ws]
        rfl
      refine Xt (i := 2) (N := some 14) (v := ?_) (a' := ?_) #[true, true, true, false, false, false] rfl rfl (by kernel_rfl) (fun _ _ _ h => h) (Or.inl ⟨by rfl, ?_⟩) hHeld ?_ ?_
      rotate_left
      · rintro w' ⟨s0, s1⟩
        go_simp
        with_reducible rfl
      rotate_left
      · simp only [Act.put, sA_, sZ_, sS_, Wp, Ws]
        rfl
      refine one_ (i := 3) (N := some 15) #[true, true, true, true, false, false] rfl rfl (by kernel_rfl) (by decide) (fun K hK => ?_)
      refine goes_ Try.func52 (by kernel_rfl) rfl #[.agg #[.int .i64 a0_0, .slice A0_1 l0_1.length c0_1]] (by rfl) rfl rfl (by first | rfl | (simp only [List.map_toArray, List.map_cons, List.map_nil, List.length_drop, List.length_take]; try rfl)) ?_
      with_reducible refine (Yj.calls a0_0 _ _ l0_1 t374 _ ?side1 ?side2 A3.out).mono ?_
      (case side1 => repeat (first | exact (Kd.Zi HR0_1.out HB.out) | (with_reducible refine Kd.Zm ?_ _) | (with_reducible refine Kd.Zl ?_ _) | (with_reducible refine Kd.Yb ?_)))
      (case side2 => exact HC0_1.out)
      rintro e w9 ⟨rfl, hb⟩
      refine ⟨_, rfl, ?_⟩
      have nq_ := Qa.mk (Qk (by (with_reducible repeat apply Qd); exact BKQ.out) hb)
      clear BKQ
      have BKQ := nq_
      clear nq_
      have n0_ := Qa.mk (Qk (g := gb373) (o := .cells #[.int .i64 a0_0, .slice A0_1 l0_1.length c0_1] 25 (0, 0)) (by (with_reducible repeat apply Qd); exact BK373.out) hb)
      have n1_ := Qa.mk (Ql (by repeat first | exact HB.out | with_reducible refine Qh ?_ ‹_› | apply Qc | apply Qb) hb)
      clear BK373
      clear HB
      have BK373 := n0_
      have HB := n1_
      clear n0_ n1_
      (try clear hb)
      (try clear hb2)
      (try clear hk)
      (try clear hi)
      refine hK.out _ _ ⟨(Qe BK373.out 0).trans rfl, (Qe BK373.out 1).trans rfl⟩ (fun hHeld => ?_)
      clear hK K
      refine Xp (a' := ?_) ?_ ?_
      rotate_left
      · show Act.put _ (some 15) _ = _
        simp only [Act.put, sA_, sZ_, sS_, Wp, Ws]
        rfl
      refine Zt (i := 4) (N := some 5) (v := ?_) (a' := ?_) #[true, true, true, true, true, false] rfl rfl (by kernel_rfl) (fun _ _ _ h => h) (Or.inl ⟨by rfl, ?_⟩) ?_ ?_
      rotate_left
      · intro w'
        go_simp
        with_reducible rfl
      rotate_left
      · simp only [Act.put, sA_, sZ_, sS_, Wp, Ws]
        rfl
      refine Zt (i := 5) (N := some 6) (v := ?_) (a' := ?_) #[true, true, true, true, true, true] rfl rfl (by kernel_rfl) (fun _ _ _ h => h) (Or.inl ⟨by rfl, ?_⟩) ?_ ?_
      rotate_left
      · intro w'
        go_simp
        with_reducible rfl
      rotate_left
      · simp only [Act.put, sA_, sZ_, sS_, Wp, Ws]
        rfl
      refine done_ (by kernel_rfl) ?_
      try go_wp2_with (first | ((with_reducible refine We (N := 20) rfl ?_); refine Kd.R_make0 Kd.bool _ 4 rfl (N := 20) rfl 100 _ _ rfl ji4 rfl rfl Try.underlying100 (.bool false) 1 infoB_ rfl (by decide) (by omega) (ok := fun _ => True) (okp := fun _ => True) (fun _ hk => hk) trivial (of_decide_eq_true (by first | (with_reducible assumption) | assumption)) (Nat.le_trans (Nat.mul_le_mul_right _ (of_decide_eq_true (by first | (with_reducible assumption) | assumption) : ji4.toNat <= 281474976710656)) (by omega)) (Below.refl _ _) (Nat.le_refl _) ?_; intro v376 w10 ho11 hb hg_ hnew_; clear hg_ hnew_; (first | rw [<- Ny375.out] at ho11 | (simp only [Int.reduceToNat] at ho11; rw [<- Ny375.out] at ho11)); have n0_ := Qa.mk (Kd.Yy ho11 (Qr (by repeat first | exact HB.out | with_reducible refine Qh ?_ ‹_› | apply Qc | apply Qb))); have nq_ := Qa.mk (Qk (by (with_reducible repeat apply Qd); exact BKQ.out) hb); clear BKQ; have BKQ := nq_; clear nq_; have n1_ := Qa.mk (Qk (g := gb373) (o := .cells #[.int .i64 a0_0, .slice A0_1 l0_1.length c0_1] 25 (0, 0)) (by (with_reducible repeat apply Qd); exact BK373.out) hb); have n2_ := Qa.mk (Ql (by repeat first | exact HB.out | with_reducible refine Qh ?_ ‹_› | apply Qc | apply Qb) hb); clear BK373; clear HB; have HO377 := n0_; have BK373 := n1_; have HB := n2_; clear n0_ n1_ n2_; clear hb ho11))
      go_loopg [7, 22] k (fun kq v7 v22 w' => ∃ (x7_1 : List Bool) (x22_1 : Int), v22 = .int .i64 x22_1 ∧ Qa (Yz.l0 A D kq a0_0 t374 x7_1 a0_0 x22_1 = some r) ∧ Qa (kq <= k) ∧ Qa (Kd.R Kd.bool 4 w' w0.heap.size (fun _ => True) v7 x7_1) ∧ Qa (w'.heap[gb373]? = some (.cells #[.int .i64 a0_0, (.slice A0_1 l0_1.length c0_1)] 25 (0, 0))) ∧ Qa (w'.heap[qb]? = some (.cells #[.int .i64 (lastT x7_1)] 3 (0, 0))) ∧ Qa (Below w0.heap.size w0 w'))
      case atStart => exact ⟨(y375), (0), (by first | rfl | (simp; done) | (simp [*]; done)), H', ⟨Nat.le_refl _⟩, ⟨by (with_reducible repeat apply Kd.Wo); exact HO377.out⟩, ⟨by (with_reducible repeat apply Qd); exact BK373.out⟩, ⟨by rw [Ny375.out]; exact ((by (with_reducible repeat apply Qd); exact BKQ.out))⟩, ⟨by repeat first | exact HB.out | with_reducible refine Qh ?_ ‹_› | apply Qc | apply Qb⟩⟩
      case round =>
        clear H'
        try clear p2
        try clear c5
        try clear c5b0
        try clear c5b1
        try clear c6
        try clear c6b0
        try clear c6b1
        try clear p6
        obtain ⟨x7_1, x22_1, rfl, HA, HK1, HO_7, BK373, BKQ, HB⟩ := hrel
        cases gk with
        | zero => exact absurd HA.out (by simp [Yz.l0])
        | succ k1 =>
          have H := HA.out
          clear HA
          simp only [Yz.l0] at H
          by_cases c12 : x22_1 < a0_0
          · rw [if_pos c12] at H
            have c12b0 : decide (x22_1 < a0_0) = true := decide_eq_true c12
            clear c12
            replace H := Option.bind_eq_some_iff.mp H
            obtain ⟨t378, A130, H⟩ := H
            replace H : (if x7_1.length < 140737488355328 then (Yz.l0 A D k1 a0_0 t374 (x7_1 ++ [t378]) a0_0 (wrap64 (x22_1 + 1))) else (none)) = some r := H
            have A13 := Qa.mk A130
            clear A130
            by_cases c14 : x7_1.length < 140737488355328
            · rw [if_pos c14] at H
              have LMc14 := Qa.mk c14
              clear c14
              obtain ⟨y379, hy379⟩ : ∃ y_ : List Bool, y_ = (x7_1 ++ [t378]) := ⟨_, rfl⟩
              replace H : (Yz.l0 A D k1 a0_0 t374 y379 a0_0 (wrap64 (x22_1 + 1))) = some r := by first | (rw [hy379]; with_reducible exact H) | (have H2_ := (Option.bind_some _ _).symm.trans H; rw [hy379]; with_reducible exact H2_) | (have H2_ := (Option.bind_some _ _).symm.trans H; with_reducible exact H2_) | with_reducible exact H | (rw [hy379]; exact H) | exact H
              have Ny379 := Qa.mk hy379
              clear hy379
              have H' := Qa.mk H
              clear H
              obtain ⟨Ao15, co15, eo15⟩ := Kd.Zk HO_7.out
              subst eo15
              go_wp2_with (first | (go_at_call 76; (with_reducible refine (tell_calls (x7_1.length : Int) x22_1 2 A D (lastT x7_1) t378 (lastT (x7_1 ++ [t378])) ?tb ?tx pb qb _ HNE.out ?tp ?tq).mono ?_); (case tb => exact tellB_eq A13.out); (case tx => exact lastT_snoc _ _); (case tp => exact ((by repeat first | exact HB.out | with_reducible refine Qh ?_ ‹_› | apply Qc | apply Qb : Below w0.heap.size w0 _).block pb HPL.out).trans HPW.out); (case tq => exact (by (with_reducible repeat apply Qd); exact BKQ.out)); rintro e w16 ⟨rfl, hq1, hk1, hq2⟩; have n0_ := Qa.mk (Kd.Wz (Kd.R_keep (Kd.Zq (by (with_reducible repeat apply Kd.Wo); exact HO_7.out) (by (with_reducible repeat apply Qd); exact BKQ.out) (by decide)) hk1 (fun _ h => h.2)) (fun _ _ => trivial)); have n1_ := Qa.mk (Qn.blk hk1 (by (with_reducible repeat apply Qd); exact BK373.out) GNE.out (by simp)); have n2_ := Qa.mk (Below.trans (by repeat first | exact HB.out | with_reducible refine Qh ?_ ‹_› | apply Qc | apply Qb) (below_low hq1 HQL.out)); have nq_ := Qa.mk hq2; clear BKQ; have BKQ := nq_; clear nq_; clear HO_7; clear BK373; clear HB; have HO_7 := n0_; have BK373 := n1_; have HB := n2_; clear n0_ n1_ n2_; clear hq1 hk1 hq2; (try clear hb); (try clear hb2); (try clear hk); (try clear hi)) | ((with_reducible refine Zz (b := .append) (xs := #[.tmp 25, .tmp 32]) rfl ?_); at_builtin; refine Kd.Xd Kd.bool (w0 := w0) w0.heap.size rfl (.tmp 25) (.tmp 32) 100 4 (.bool false) 1 rfl Try.underlying100 infoB_ rfl (by decide) (by omega) (.slice Ao15 x7_1.length co15) x7_1 t378 [.bool t378] (fun _ => True) (fun _ => False) rfl rfl ?aP (fun _ hk => hk.elim) ?aF ?aO ?aB ?aS ?aL ?_; (case aP => exact rfl); (case aB => exact (by repeat first | exact HB.out | with_reducible refine Qh ?_ ‹_› | apply Qc | apply Qb)); (case aF => exact (fun _ _ => trivial)); (case aO => exact (by (with_reducible repeat apply Kd.Wo); exact HO_7.out)); (case aS => exact (Qr (by repeat first | exact HB.out | with_reducible refine Qh ?_ ‹_› | apply Qc | apply Qb))); (case aL => have := LMc14.out; omega); intro v380 w17 ho hb hg hat; rw [<- Ny379.out] at ho; have n0_ := Qa.mk (Wu (g := gb373) (o := .cells #[.int .i64 a0_0, .slice A0_1 l0_1.length c0_1] 25 (0, 0)) (by (with_reducible repeat apply Qd); exact BK373.out) hg (Kd.R_ne HO_7.out BK373.out (by decide))); have nq_ := Qa.mk (Wu (by (with_reducible repeat apply Qd); exact BKQ.out) hg (Kd.R_ne HO_7.out BKQ.out (by decide))); clear BKQ; have BKQ := nq_; clear nq_; have n1_ := Qa.mk (hb); have n2_ := Qa.mk (ho); clear BK373; clear HB; clear HO_7; have BK373 := n0_; have HB := n1_; have HO381 := n2_; clear n0_ n1_ n2_; clear ho hb hg hat))
              go_roundg k1
              case measure => have := HK1.out; omega
              case rel => exact ⟨(y379), (wrap64 (x22_1 + 1)), (by first | rfl | (simp; done) | (simp [*]; done)), H', ⟨by have := HK1.out; omega⟩, ⟨by (with_reducible repeat apply Kd.Wo); exact HO381.out⟩, ⟨by (with_reducible repeat apply Qd); exact BK373.out⟩, ⟨by rw [Ny379.out]; exact ((by (with_reducible repeat apply Qd); exact BKQ.out))⟩, ⟨by repeat first | exact HB.out | with_reducible refine Qh ?_ ‹_› | apply Qc | apply Qb⟩⟩
            · rw [if_neg c14] at H
              exact absurd H (by simp)
          · rw [if_neg c12] at H
            have c12b0 : decide (x22_1 < a0_0) = false := decide_eq_false c12
            clear c12
            have H' := Qa.mk H
            clear H
            go_wp2
            go_loopg [7, 36] k1 (fun kq v7 v36 w' => ∃ (x7_2 : List Bool) (x36_2 : Int), v36 = .int .i64 x36_2 ∧ Qa (Yz.l1 A D kq a0_0 t374 x7_2 t374 x36_2 = some r) ∧ Qa (kq <= k1) ∧ Qa (Kd.R Kd.bool 4 w' w0.heap.size (fun _ => True) v7 x7_2) ∧ Qa (w'.heap[gb373]? = some (.cells #[.int .i64 a0_0, (.slice A0_1 l0_1.length c0_1)] 25 (0, 0))) ∧ Qa (w'.heap[qb]? = some (.cells #[.int .i64 (lastT x7_2)] 3 (0, 0))) ∧ Qa (Below w0.heap.size w0 w'))
            case atStart => exact ⟨(x7_1), (0), (by first | rfl | (simp; done) | (simp [*]; done)), H', ⟨Nat.le_refl _⟩, ⟨by (with_reducible repeat apply Kd.Wo); exact HO_7.out⟩, ⟨by (with_reducible repeat apply Qd); exact BK373.out⟩, ⟨by exact ((by (with_reducible repeat apply Qd); exact BKQ.out))⟩, ⟨by repeat first | exact HB.out | with_reducible refine Qh ?_ ‹_› | apply Qc | apply Qb⟩⟩
            case round =>
              clear H'
              try clear c1
              try clear p2
              try clear c5
              try clear c5b0
              try clear c5b1
              try clear c6
              try clear c6b0
              try clear c6b1
              try clear p6
              try clear c12
              try clear c12b0
              try clear c14
              try clear p2
              try clear p6
              obtain ⟨x7_2, x36_2, rfl, HA, HK2, HO_7, BK373, BKQ, HB⟩ := hrel
              cases gk with
              | zero => exact absurd HA.out (by simp [Yz.l1])
              | succ k2 =>
                have H := HA.out
                clear HA
                simp only [Yz.l1] at H
                by_cases c18 : x36_2 < t374
                · rw [if_pos c18] at H
                  have c18b0 : decide (x36_2 < t374) = true := decide_eq_true c18
                  clear c18
                  replace H := Option.bind_eq_some_iff.mp H
                  obtain ⟨t382, A190, H⟩ := H
                  replace H : (if x7_2.length < 140737488355328 then (Yz.l1 A D k2 a0_0 t374 (x7_2 ++ [t382]) t374 (wrap64 (x36_2 + 1))) else (none)) = some r := H
                  have A19 := Qa.mk A190
                  clear A190
                  by_cases c20 : x7_2.length < 140737488355328
                  · rw [if_pos c20] at H
                    have LMc20 := Qa.mk c20
                    clear c20
                    obtain ⟨y383, hy383⟩ : ∃ y_ : List Bool, y_ = (x7_2 ++ [t382]) := ⟨_, rfl⟩
                    replace H : (Yz.l1 A D k2 a0_0 t374 y383 t374 (wrap64 (x36_2 + 1))) = some r := by first | (rw [hy383]; with_reducible exact H) | (have H2_ := (Option.bind_some _ _).symm.trans H; rw [hy383]; with_reducible exact H2_) | (have H2_ := (Option.bind_some _ _).symm.trans H; with_reducible exact H2_) | with_reducible exact H | (rw [hy383]; exact H) | exact H
                    have Ny383 := Qa.mk hy383
                    clear hy383
                    have H' := Qa.mk H
                    clear H
                    obtain ⟨Ao21, co21, eo21⟩ := Kd.Zk HO_7.out
                    subst eo21
                    go_wp2_with (first | (go_at_call 76; (with_reducible refine (tell_calls (x7_2.length : Int) (wrap64 ((wrap64 ((wrap64 (x36_2 * a0_0)) + a0_0)) - 1)) 3 A D (lastT x7_2) t382 (lastT (x7_2 ++ [t382])) ?tb ?tx pb qb _ HNE.out ?tp ?tq).mono ?_); (case tb => exact tellB_eq A19.out); (case tx => exact lastT_snoc _ _); (case tp => exact ((by repeat first | exact HB.out | with_reducible refine Qh ?_ ‹_› | apply Qc | apply Qb : Below w0.heap.size w0 _).block pb HPL.out).trans HPW.out); (case tq => exact (by (with_reducible repeat apply Qd); exact BKQ.out)); rintro e w22 ⟨rfl, hq1, hk1, hq2⟩; have n0_ := Qa.mk (Kd.Wz (Kd.R_keep (Kd.Zq (by (with_reducible repeat apply Kd.Wo); exact HO_7.out) (by (with_reducible repeat apply Qd); exact BKQ.out) (by decide)) hk1 (fun _ h => h.2)) (fun _ _ => trivial)); have n1_ := Qa.mk (Qn.blk hk1 (by (with_reducible repeat apply Qd); exact BK373.out) GNE.out (by simp)); have n2_ := Qa.mk (Below.trans (by repeat first | exact HB.out | with_reducible refine Qh ?_ ‹_› | apply Qc | apply Qb) (below_low hq1 HQL.out)); have nq_ := Qa.mk hq2; clear BKQ; have BKQ := nq_; clear nq_; clear HO_7; clear BK373; clear HB; have HO_7 := n0_; have BK373 := n1_; have HB := n2_; clear n0_ n1_ n2_; clear hq1 hk1 hq2; (try clear hb); (try clear hb2); (try clear hk); (try clear hi)) | ((with_reducible refine Zz (b := .append) (xs := #[.tmp 39, .tmp 51]) rfl ?_); at_builtin; refine Kd.Xd Kd.bool (w0 := w0) w0.heap.size rfl (.tmp 39) (.tmp 51) 100 4 (.bool false) 1 rfl Try.underlying100 infoB_ rfl (by decide) (by omega) (.slice Ao21 x7_2.length co21) x7_2 t382 [.bool t382] (fun _ => True) (fun _ => False) rfl rfl ?aP (fun _ hk => hk.elim) ?aF ?aO ?aB ?aS ?aL ?_; (case aP => exact rfl); (case aB => exact (by repeat first | exact HB.out | with_reducible refine Qh ?_ ‹_› | apply Qc | apply Qb)); (case aF => exact (fun _ _ => trivial)); (case aO => exact (by (with_reducible repeat apply Kd.Wo); exact HO_7.out)); (case aS => exact (Qr (by repeat first | exact HB.out | with_reducible refine Qh ?_ ‹_› | apply Qc | apply Qb))); (case aL => have := LMc20.out; omega); intro v384 w23 ho hb hg hat; rw [<- Ny383.out] at ho; have n0_ := Qa.mk (Wu (g := gb373) (o := .cells #[.int .i64 a0_0, .slice A0_1 l0_1.length c0_1] 25 (0, 0)) (by (with_reducible repeat apply Qd); exact BK373.out) hg (Kd.R_ne HO_7.out BK373.out (by decide))); have nq_ := Qa.mk (Wu (by (with_reducible repeat apply Qd); exact BKQ.out) hg (Kd.R_ne HO_7.out BKQ.out (by decide))); clear BKQ; have BKQ := nq_; clear nq_; have n1_ := Qa.mk (hb); have n2_ := Qa.mk (ho); clear BK373; clear HB; clear HO_7; have BK373 := n0_; have HB := n1_; have HO385 := n2_; clear n0_ n1_ n2_; clear ho hb hg hat))
                    go_roundg k2
                    case measure => have := HK1.out; have := HK2.out; omega
                    case rel => exact ⟨(y383), (wrap64 (x36_2 + 1)), (by first | rfl | (simp; done) | (simp [*]; done)), H', ⟨by have := HK1.out; have := HK2.out; omega⟩, ⟨by (with_reducible repeat apply Kd.Wo); exact HO385.out⟩, ⟨by (with_reducible repeat apply Qd); exact BK373.out⟩, ⟨by rw [Ny383.out]; exact ((by (with_reducible repeat apply Qd); exact BKQ.out))⟩, ⟨by repeat first | exact HB.out | with_reducible refine Qh ?_ ‹_› | apply Qc | apply Qb⟩⟩
                  · rw [if_neg c20] at H
                    exact absurd H (by simp)
                · rw [if_neg c18] at H
                  have c18b0 : decide (x36_2 < t374) = false := decide_eq_false c18
                  clear c18
                  have H' := Qa.mk H
                  clear H
                  go_wp2
                  go_loopg [7, 55] k2 (fun kq v7 v55 w' => ∃ (x7_3 : List Bool) (x55_3 : Int), v55 = .int .i64 x55_3 ∧ Qa (Yz.l2 A D kq a0_0 t374 x7_3 a0_0 x55_3 = some r) ∧ Qa (kq <= k2) ∧ Qa (Kd.R Kd.bool 4 w' w0.heap.size (fun _ => True) v7 x7_3) ∧ Qa (w'.heap[gb373]? = some (.cells #[.int .i64 a0_0, (.slice A0_1 l0_1.length c0_1)] 25 (0, 0))) ∧ Qa (w'.heap[qb]? = some (.cells #[.int .i64 (lastT x7_3)] 3 (0, 0))) ∧ Qa (Below w0.heap.size w0 w'))
                  case atStart => exact ⟨(x7_2), (0), (by first | rfl | (simp; done) | (simp [*]; done)), H', ⟨Nat.le_refl _⟩, ⟨by (with_reducible repeat apply Kd.Wo); exact HO_7.out⟩, ⟨by (with_reducible repeat apply Qd); exact BK373.out⟩, ⟨by exact ((by (with_reducible repeat apply Qd); exact BKQ.out))⟩, ⟨by repeat first | exact HB.out | with_reducible refine Qh ?_ ‹_› | apply Qc | apply Qb⟩⟩
                  case round =>
                    clear H'
                    try clear c1
                    try clear c2
                    try clear p2
                    try clear c5
                    try clear c5b0
                    try clear c5b1
                    try clear c6
                    try clear c6b0
                    try clear c6b1
                    try clear p6
                    try clear c12
                    try clear c12b0
                    try clear c14
                    try clear c18
                    try clear c18b0
                    try clear c20
                    try clear p2
                    try clear p6
                    obtain ⟨x7_3, x55_3, rfl, HA, HK3, HO_7, BK373, BKQ, HB⟩ := hrel
                    cases gk with
                    | zero => exact absurd HA.out (by simp [Yz.l2])
                    | succ k3 =>
                      have H := HA.out
                      clear HA
                      simp only [Yz.l2] at H
                      by_cases c24 : x55_3 < a0_0
                      · rw [if_pos c24] at H
                        have c24b0 : decide (x55_3 < a0_0) = true := decide_eq_true c24
                        clear c24
                        replace H := Option.bind_eq_some_iff.mp H
                        obtain ⟨t386, A250, H⟩ := H
                        replace H : (if x7_3.length < 140737488355328 then (Yz.l2 A D k3 a0_0 t374 (x7_3 ++ [t386]) a0_0 (wrap64 (x55_3 + 1))) else (none)) = some r := H
                        have A25 := Qa.mk A250
                        clear A250
                        by_cases c26 : x7_3.length < 140737488355328
                        · rw [if_pos c26] at H
                          have LMc26 := Qa.mk c26
                          clear c26
                          obtain ⟨y387, hy387⟩ : ∃ y_ : List Bool, y_ = (x7_3 ++ [t386]) := ⟨_, rfl⟩
                          replace H : (Yz.l2 A D k3 a0_0 t374 y387 a0_0 (wrap64 (x55_3 + 1))) = some r := by first | (rw [hy387]; with_reducible exact H) | (have H2_ := (Option.bind_some _ _).symm.trans H; rw [hy387]; with_reducible exact H2_) | (have H2_ := (Option.bind_some _ _).symm.trans H; with_reducible exact H2_) | with_reducible exact H | (rw [hy387]; exact H) | exact H
                          have Ny387 := Qa.mk hy387
                          clear hy387
                          have H' := Qa.mk H
                          clear H
                          obtain ⟨Ao27, co27, eo27⟩ := Kd.Zk HO_7.out
                          subst eo27
                          go_wp2_with (first | (go_at_call 76; (with_reducible refine (tell_calls (x7_3.length : Int) (wrap64 ((wrap64 ((wrap64 (t374 * a0_0)) - 1)) - x55_3)) 0 A D (lastT x7_3) t386 (lastT (x7_3 ++ [t386])) ?tb ?tx pb qb _ HNE.out ?tp ?tq).mono ?_); (case tb => exact tellB_eq A25.out); (case tx => exact lastT_snoc _ _); (case tp => exact ((by repeat first | exact HB.out | with_reducible refine Qh ?_ ‹_› | apply Qc | apply Qb : Below w0.heap.size w0 _).block pb HPL.out).trans HPW.out); (case tq => exact (by (with_reducible repeat apply Qd); exact BKQ.out)); rintro e w28 ⟨rfl, hq1, hk1, hq2⟩; have n0_ := Qa.mk (Kd.Wz (Kd.R_keep (Kd.Zq (by (with_reducible repeat apply Kd.Wo); exact HO_7.out) (by (with_reducible repeat apply Qd); exact BKQ.out) (by decide)) hk1 (fun _ h => h.2)) (fun _ _ => trivial)); have n1_ := Qa.mk (Qn.blk hk1 (by (with_reducible repeat apply Qd); exact BK373.out) GNE.out (by simp)); have n2_ := Qa.mk (Below.trans (by repeat first | exact HB.out | with_reducible refine Qh ?_ ‹_› | apply Qc | apply Qb) (below_low hq1 HQL.out)); have nq_ := Qa.mk hq2; clear BKQ; have BKQ := nq_; clear nq_; clear HO_7; clear BK373; clear HB; have HO_7 := n0_; have BK373 := n1_; have HB := n2_; clear n0_ n1_ n2_; clear hq1 hk1 hq2; (try clear hb); (try clear hb2); (try clear hk); (try clear hi)) | ((with_reducible refine Zz (b := .append) (xs := #[.tmp 58, .tmp 70]) rfl ?_); at_builtin; refine Kd.Xd Kd.bool (w0 := w0) w0.heap.size rfl (.tmp 58) (.tmp 70) 100 4 (.bool false) 1 rfl Try.underlying100 infoB_ rfl (by decide) (by omega) (.slice Ao27 x7_3.length co27) x7_3 t386 [.bool t386] (fun _ => True) (fun _ => False) rfl rfl ?aP (fun _ hk => hk.elim) ?aF ?aO ?aB ?aS ?aL ?_; (case aP => exact rfl); (case aB => exact (by repeat first | exact HB.out | with_reducible refine Qh ?_ ‹_› | apply Qc | apply Qb)); (case aF => exact (fun _ _ => trivial)); (case aO => exact (by (with_reducible repeat apply Kd.Wo); exact HO_7.out)); (case aS => exact (Qr (by repeat first | exact HB.out | with_reducible refine Qh ?_ ‹_› | apply Qc | apply Qb))); (case aL => have := LMc26.out; omega); intro v388 w29 ho hb hg hat; rw [<- Ny387.out] at ho; have n0_ := Qa.mk (Wu (g := gb373) (o := .cells #[.int .i64 a0_0, .slice A0_1 l0_1.length c0_1] 25 (0, 0)) (by (with_reducible repeat apply Qd); exact BK373.out) hg (Kd.R_ne HO_7.out BK373.out (by decide))); have nq_ := Qa.mk (Wu (by (with_reducible repeat apply Qd); exact BKQ.out) hg (Kd.R_ne HO_7.out BKQ.out (by decide))); clear BKQ; have BKQ := nq_; clear nq_; have n1_ := Qa.mk (hb); have n2_ := Qa.mk (ho); clear BK373; clear HB; clear HO_7; have BK373 := n0_; have HB := n1_; have HO389 := n2_; clear n0_ n1_ n2_; clear ho hb hg hat))
                          go_roundg k3
                          case measure => have := HK1.out; have := HK2.out; have := HK3.out; omega
                          case rel => exact ⟨(y387), (wrap64 (x55_3 + 1)), (by first | rfl | (simp; done) | (simp [*]; done)), H', ⟨by have := HK1.out; have := HK2.out; have := HK3.out; omega⟩, ⟨by (with_reducible repeat apply Kd.Wo); exact HO389.out⟩, ⟨by (with_reducible repeat apply Qd); exact BK373.out⟩, ⟨by rw [Ny387.out]; exact ((by (with_reducible repeat apply Qd); exact BKQ.out))⟩, ⟨by repeat first | exact HB.out | with_reducible refine Qh ?_ ‹_› | apply Qc | apply Qb⟩⟩
                        · rw [if_neg c26] at H
                          exact absurd H (by simp)
                      · rw [if_neg c24] at H
                        have c24b0 : decide (x55_3 < a0_0) = false := decide_eq_false c24
                        clear c24
                        have H' := Qa.mk H
                        clear H
                        go_wp2
                        go_loopg [7, 74] k3 (fun kq v7 v74 w' => ∃ (x7_4 : List Bool) (x74_4 : Int), v74 = .int .i64 x74_4 ∧ Qa (Yz.l3 A D kq a0_0 t374 x7_4 t374 x74_4 = some r) ∧ Qa (kq <= k3) ∧ Qa (Kd.R Kd.bool 4 w' w0.heap.size (fun _ => True) v7 x7_4) ∧ Qa (w'.heap[gb373]? = some (.cells #[.int .i64 a0_0, (.slice A0_1 l0_1.length c0_1)] 25 (0, 0))) ∧ Qa (w'.heap[qb]? = some (.cells #[.int .i64 (lastT x7_4)] 3 (0, 0))) ∧ Qa (Below w0.heap.size w0 w'))
                        case atStart => exact ⟨(x7_3), (0), (by first | rfl | (simp; done) | (simp [*]; done)), H', ⟨Nat.le_refl _⟩, ⟨by (with_reducible repeat apply Kd.Wo); exact HO_7.out⟩, ⟨by (with_reducible repeat apply Qd); exact BK373.out⟩, ⟨by exact ((by (with_reducible repeat apply Qd); exact BKQ.out))⟩, ⟨by repeat first | exact HB.out | with_reducible refine Qh ?_ ‹_› | apply Qc | apply Qb⟩⟩
                        case round =>
                          clear H'
                          try clear c1
                          try clear c2
                          try clear p2
                          try clear c5
                          try clear c5b0
                          try clear c5b1
                          try clear c6
                          try clear c6b0
                          try clear c6b1
                          try clear p6
                          try clear c12
                          try clear c12b0
                          try clear c14
                          try clear c18
                          try clear c18b0
                          try clear c20
                          try clear c24
                          try clear c24b0
                          try clear c26
                          try clear p2
                          try clear p6
                          obtain ⟨x7_4, x74_4, rfl, HA, HK4, HO_7, BK373, BKQ, HB⟩ := hrel
                          cases gk with
                          | zero => exact absurd HA.out (by simp [Yz.l3])
                          | succ k4 =>
                            have H := HA.out
                            clear HA
                            simp only [Yz.l3] at H
                            by_cases c30 : x74_4 < t374
                            · rw [if_pos c30] at H
                              have c30b0 : decide (x74_4 < t374) = true := decide_eq_true c30
                              clear c30
                              replace H := Option.bind_eq_some_iff.mp H
                              obtain ⟨t390, A310, H⟩ := H
                              replace H : (if x7_4.length < 140737488355328 then (Yz.l3 A D k4 a0_0 t374 (x7_4 ++ [t390]) t374 (wrap64 (x74_4 + 1))) else (none)) = some r := H
                              have A31 := Qa.mk A310
                              clear A310
                              by_cases c32 : x7_4.length < 140737488355328
                              · rw [if_pos c32] at H
                                have LMc32 := Qa.mk c32
                                clear c32
                                obtain ⟨y391, hy391⟩ : ∃ y_ : List Bool, y_ = (x7_4 ++ [t390]) := ⟨_, rfl⟩
                                replace H : (Yz.l3 A D k4 a0_0 t374 y391 t374 (wrap64 (x74_4 + 1))) = some r := by first | (rw [hy391]; with_reducible exact H) | (have H2_ := (Option.bind_some _ _).symm.trans H; rw [hy391]; with_reducible exact H2_) | (have H2_ := (Option.bind_some _ _).symm.trans H; with_reducible exact H2_) | with_reducible exact H | (rw [hy391]; exact H) | exact H
                                have Ny391 := Qa.mk hy391
                                clear hy391
                                have H' := Qa.mk H
                                clear H
                                obtain ⟨Ao33, co33, eo33⟩ := Kd.Zk HO_7.out
                                subst eo33
                                go_wp2_with (first | (go_at_call 76; (with_reducible refine (tell_calls (x7_4.length : Int) (wrap64 ((wrap64 ((wrap64 (t374 - 1)) - x74_4)) * a0_0)) 1 A D (lastT x7_4) t390 (lastT (x7_4 ++ [t390])) ?tb ?tx pb qb _ HNE.out ?tp ?tq).mono ?_); (case tb => exact tellB_eq A31.out); (case tx => exact lastT_snoc _ _); (case tp => exact ((by repeat first | exact HB.out | with_reducible refine Qh ?_ ‹_› | apply Qc | apply Qb : Below w0.heap.size w0 _).block pb HPL.out).trans HPW.out); (case tq => exact (by (with_reducible repeat apply Qd); exact BKQ.out)); rintro e w34 ⟨rfl, hq1, hk1, hq2⟩; have n0_ := Qa.mk (Kd.Wz (Kd.R_keep (Kd.Zq (by (with_reducible repeat apply Kd.Wo); exact HO_7.out) (by (with_reducible repeat apply Qd); exact BKQ.out) (by decide)) hk1 (fun _ h => h.2)) (fun _ _ => trivial)); have n1_ := Qa.mk (Qn.blk hk1 (by (with_reducible repeat apply Qd); exact BK373.out) GNE.out (by simp)); have n2_ := Qa.mk (Below.trans (by repeat first | exact HB.out | with_reducible refine Qh ?_ ‹_› | apply Qc | apply Qb) (below_low hq1 HQL.out)); have nq_ := Qa.mk hq2; clear BKQ; have BKQ := nq_; clear nq_; clear HO_7; clear BK373; clear HB; have HO_7 := n0_; have BK373 := n1_; have HB := n2_; clear n0_ n1_ n2_; clear hq1 hk1 hq2; (try clear hb); (try clear hb2); (try clear hk); (try clear hi)) | ((with_reducible refine Zz (b := .append) (xs := #[.tmp 77, .tmp 89]) rfl ?_); at_builtin; refine Kd.Xd Kd.bool (w0 := w0) w0.heap.size rfl (.tmp 77) (.tmp 89) 100 4 (.bool false) 1 rfl Try.underlying100 infoB_ rfl (by decide) (by omega) (.slice Ao33 x7_4.length co33) x7_4 t390 [.bool t390] (fun _ => True) (fun _ => False) rfl rfl ?aP (fun _ hk => hk.elim) ?aF ?aO ?aB ?aS ?aL ?_; (case aP => exact rfl); (case aB => exact (by repeat first | exact HB.out | with_reducible refine Qh ?_ ‹_› | apply Qc | apply Qb)); (case aF => exact (fun _ _ => trivial)); (case aO => exact (by (with_reducible repeat apply Kd.Wo); exact HO_7.out)); (case aS => exact (Qr (by repeat first | exact HB.out | with_reducible refine Qh ?_ ‹_› | apply Qc | apply Qb))); (case aL => have := LMc32.out; omega); intro v392 w35 ho hb hg hat; rw [<- Ny391.out] at ho; have n0_ := Qa.mk (Wu (g := gb373) (o := .cells #[.int .i64 a0_0, .slice A0_1 l0_1.length c0_1] 25 (0, 0)) (by (with_reducible repeat apply Qd); exact BK373.out) hg (Kd.R_ne HO_7.out BK373.out (by decide))); have nq_ := Qa.mk (Wu (by (with_reducible repeat apply Qd); exact BKQ.out) hg (Kd.R_ne HO_7.out BKQ.out (by decide))); clear BKQ; have BKQ := nq_; clear nq_; have n1_ := Qa.mk (hb); have n2_ := Qa.mk (ho); clear BK373; clear HB; clear HO_7; have BK373 := n0_; have HB := n1_; have HO393 := n2_; clear n0_ n1_ n2_; clear ho hb hg hat))
                                go_roundg k4
                                case measure => have := HK1.out; have := HK2.out; have := HK3.out; have := HK4.out; omega
                                case rel => exact ⟨(y391), (wrap64 (x74_4 + 1)), (by first | rfl | (simp; done) | (simp [*]; done)), H', ⟨by have := HK1.out; have := HK2.out; have := HK3.out; have := HK4.out; omega⟩, ⟨by (with_reducible repeat apply Kd.Wo); exact HO393.out⟩, ⟨by (with_reducible repeat apply Qd); exact BK373.out⟩, ⟨by rw [Ny391.out]; exact ((by (with_reducible repeat apply Qd); exact BKQ.out))⟩, ⟨by repeat first | exact HB.out | with_reducible refine Qh ?_ ‹_› | apply Qc | apply Qb⟩⟩
                              · rw [if_neg c32] at H
                                exact absurd H (by simp)
                            · rw [if_neg c30] at H
                              have c30b0 : decide (x74_4 < t374) = false := decide_eq_false c30
                              clear c30
                              obtain rfl := Option.some.inj H
                              go_wp2
                              go_ret
                              exact ⟨_, by first | rfl | (simp [Qt, Qs] <;> rfl) | (simp only [<- hji4]; first | rfl | (simp [Qt, Qs] <;> rfl)) | (simp [*, Qt, Qs] <;> rfl) | (exfalso; simp_all; done), by (with_reducible repeat apply Kd.Wo); exact HO_7.out, (by (with_reducible repeat apply Qd); exact BKQ.out), by repeat first | exact HB.out | with_reducible refine Qh ?_ ‹_› | apply Qc | apply Qb⟩
    · rw [if_neg c6] at H
      exact absurd H (by simp)
  · rw [if_neg c5] at H
    exact absurd H (by simp)
end Go.Proofs.Yteapnipnoadejaa.P
