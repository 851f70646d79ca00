/- PROVED: contracts of functions; No condition. -/
import Derived.Test.YteapnipnoadejaaPx0
import Derived.Test.YteapnipnoadejaaPx3
import Derived.Test.YteapnipnoadejaaPx13
import Derived.Test.YteapnipnoadejaaPx30
import Derived.Test.YteapnipnoadejaaPx37
import Derived.Test.YteapnipnoadejaaPx40
import Derived.Test.YteapnipnoadejaaPx41
import Derived.Test.YteapnipnoadejaaH1Dir
import Derived.Test.YteapnipnoadejaaT3Go
namespace Go.Proofs.Yteapnipnoadejaa.P
open Go.RowKit Go.Proofs.YteapnipnoadejaaW
set_option linter.unusedVariables false
set_option linter.unusedSimpArgs false
attribute [local go_sem high] eqA44
mutual
def Qg.j0 : Nat -> Int -> List (S34) -> Bool -> Int -> List (S42) -> Option (Bool)
 | 0, _, _, _, _, _ => none
 | k + 1, x4, x5, x40, x486000, x486001 => if x40 = true then ((Zw.f k x486000 x486001 x4).bind fun t494 => ((Zd.f k x5 t494).bind fun t497 => (some t497))) else (Qg.l0 k x5 1 x486000 x486001)
def Qg.l0 : Nat -> List (S34) -> Int -> Int -> List (S42) -> Option (Bool)
 | 0, _, _, _, _ => none
 | k + 1, x5, x6, x486000, x486001 => if x6 < (x5.length : Int) then (Qg.l1 k x5 x6 false 0 x486000 x486001) else (some true)
def Qg.l1 : Nat -> List (S34) -> Int -> Bool -> Int -> Int -> List (S42) -> Option (Bool)
 | 0, _, _, _, _, _, _ => none
 | k + 1, x5, x6, x7, x8, x486000, x486001 => if x8 < x6 then (if 0 <= x8 then (if x8 < (x5.length : Int) then (if 0 <= ((Qp x5 x8).f0) then (if ((Qp x5 x8).f0) < (x486001.length : Int) then (if ((Qx x486001 ((Qp x5 x8).f0)).f0) = 6 then (Qg.j3 k x5 x6 x7 x8 ((Qx x486001 ((Qp x5 x8).f0)).f0) ((Qp x5 x8).f2) true x486000 x486001) else (if ((Qx x486001 ((Qp x5 x8).f0)).f0) = 4 then (Qg.j3 k x5 x6 x7 x8 ((Qx x486001 ((Qp x5 x8).f0)).f0) ((Qp x5 x8).f2) true x486000 x486001) else (Qg.j3 k x5 x6 x7 x8 ((Qx x486001 ((Qp x5 x8).f0)).f0) ((Qp x5 x8).f2) (((Qx x486001 ((Qp x5 x8).f0)).f0) == 5) x486000 x486001))) else (none)) else (none)) else (none)) else (none)) else (if x7 = true then (Qg.l0 k x5 (wrap64 (x6 + 1)) x486000 x486001) else (some false))
def Qg.j7 : Nat -> List (S34) -> Int -> Bool -> Int -> Int -> List (S42) -> Option (Bool)
 | 0, _, _, _, _, _, _ => none
 | k + 1, x5, x6, x7, x8, x486000, x486001 => Qg.l1 k x5 x6 x7 (wrap64 (x8 + 1)) x486000 x486001
def Qg.j3 : Nat -> List (S34) -> Int -> Bool -> Int -> Int -> Int -> Bool -> Int -> List (S42) -> Option (Bool)
 | 0, _, _, _, _, _, _, _, _, _ => none
 | k + 1, x5, x6, x7, x8, x9, x10, x81, x486000, x486001 => if x81 = true then (Qg.j4 k x5 x6 x7 x8 x9 (wrap64 (Int.tdiv x10 2)) x486000 x486001) else (Qg.j4 k x5 x6 x7 x8 x9 x10 x486000 x486001)
def Qg.j4 : Nat -> List (S34) -> Int -> Bool -> Int -> Int -> Int -> Int -> List (S42) -> Option (Bool)
 | 0, _, _, _, _, _, _, _, _ => none
 | k + 1, x5, x6, x7, x8, x9, x10, x486000, x486001 => if 0 <= x8 then (if x8 < (x5.length : Int) then ((Yc.f x9 ((Qp x5 x8).f1)).bind fun t503 => ((Ww.f k x486000 x486001 ((Qp x5 x8).f0) t503).bind fun bt504 => ((Ww.f k x486000 x486001 ((Qp x5 x8).f0) ((Qp x5 x8).f1)).bind fun bt510 => (if 0 <= x6 then (if x6 < (x5.length : Int) then (if x9 = 4 then (Qg.j5 k x5 x6 x7 x8 x9 x10 bt504.2.2 bt510.2.2 true x486000 x486001 bt504.1 bt504.2.1 bt510.1 bt510.2.1 ((Qp x5 x6).f0) ((Qp x5 x6).f1)) else (Qg.j5 k x5 x6 x7 x8 x9 x10 bt504.2.2 bt510.2.2 (x9 == 5) x486000 x486001 bt504.1 bt504.2.1 bt510.1 bt510.2.1 ((Qp x5 x6).f0) ((Qp x5 x6).f1))) else (none)) else (none))))) else (none)) else (none)
def Qg.j5 : Nat -> List (S34) -> Int -> Bool -> Int -> Int -> Int -> Bool -> Bool -> Bool -> Int -> List (S42) -> Int -> Int -> Int -> Int -> Int -> Int -> Option (Bool)
 | 0, _, _, _, _, _, _, _, _, _, _, _, _, _, _, _, _, _ => none
 | k + 1, x5, x6, x7, x8, x9, x10, x12, x14, x16, x486000, x486001, x508000, x508001, x514000, x514001, x517000, x517001 => if x9 = 1 then (Qg.j6 k x5 x6 x7 x8 x10 x12 x14 x16 true x486000 x486001 x508000 x508001 x514000 x514001 x517000 x517001) else (Qg.j6 k x5 x6 x7 x8 x10 x12 x14 x16 (x9 == 7) x486000 x486001 x508000 x508001 x514000 x514001 x517000 x517001)
def Qg.j6 : Nat -> List (S34) -> Int -> Bool -> Int -> Int -> Bool -> Bool -> Bool -> Bool -> Int -> List (S42) -> Int -> Int -> Int -> Int -> Int -> Int -> Option (Bool)
 | 0, _, _, _, _, _, _, _, _, _, _, _, _, _, _, _, _, _ => none
 | k + 1, x5, x6, x7, x8, x10, x12, x14, x16, x17, x486000, x486001, x508000, x508001, x514000, x514001, x517000, x517001 => if x7 = true then (Qg.j7 k x5 x6 true x8 x486000 x486001) else (if x17 = true then (Qg.j7 k x5 x6 false x8 x486000 x486001) else (if 0 <= x6 then (if x6 < (x5.length : Int) then (if x10 = ((Qp x5 x6).f2) then (if x12 = true then (if (x508000 == x517000 && (x508001 == x517001)) = true then (Qg.j7 k x5 x6 true x8 x486000 x486001) else (if x16 = true then (if x14 = true then (Qg.j7 k x5 x6 (x514000 == x517000 && (x514001 == x517001)) x8 x486000 x486001) else (Qg.j7 k x5 x6 false x8 x486000 x486001)) else (Qg.j7 k x5 x6 false x8 x486000 x486001))) else (if x16 = true then (if x14 = true then (Qg.j7 k x5 x6 (x514000 == x517000 && (x514001 == x517001)) x8 x486000 x486001) else (Qg.j7 k x5 x6 false x8 x486000 x486001)) else (Qg.j7 k x5 x6 false x8 x486000 x486001))) else (Qg.j7 k x5 x6 false x8 x486000 x486001)) else (none)) else (none)))
end
def Qg.f (k : Nat) (l0 : List Int) : Option (Bool) := if (l0.length : Int) > 1048576 then (some true) else ((Ym.f k l0).bind fun bt480 => ((Yt.f k bt480.1 bt480.2.1 bt480.2.2).bind fun t486 => ((Zw.f k bt480.1 bt480.2.1 bt480.2.2).bind fun t489 => ((Zd.f k t486 t489).bind fun t492 => (if t492 = true then ((Yr.f k bt480.1 bt480.2.1 bt480.2.2).bind fun t493 => (Qg.j0 k bt480.2.2 t486 (!t493) bt480.1 bt480.2.1)) else (Qg.j0 k bt480.2.2 t486 true bt480.1 bt480.2.1))))))
def Qg.T14 : Bool × List (List Nat × List Nat) := (true, [([], []), ([0], [0]), ([], []), ([], []), ([2, 3], [2, 3]), ([4], [4]), ([5], [5]), ([1, 6], [1, 6]), ([7], [7]), ([8], [8]), ([9, 0, 1, 2, 3, 4, 5, 6, 7, 8, 9], [9])])
def Qg.B14 : List Nat := [0, 1, 0, 0, 12, 28, 60, 127, 255, 511, 1023]
theorem Qg.tab14 : rtab .any (opsOf Try.f6 14) = Qg.T14 := by kernel_rfl
theorem Qg.bits14 : waitsOk Qg.T14.2 Qg.B14 = true := by kernel_rfl
def Qg.T18 : Bool × List (List Nat × List Nat) := (true, [([], []), ([], []), ([], []), ([1, 2], [1, 2]), ([3], [3]), ([4], [4]), ([], []), ([], []), ([], []), ([7, 8], [7, 8]), ([9], [9]), ([10], [10]), ([6, 11], [6, 11]), ([0, 5, 12, 12], [0, 5, 12]), ([13], [13]), ([14], [14]), ([14], [14]), ([], []), ([17, 15, 13, 0, 1, 2, 3, 4, 5, 6, 7, 8, 9, 10, 11, 12, 13, 14, 15, 17], [15, 17]), ([16, 18, 0, 1, 2, 3, 4, 5, 6, 7, 8, 9, 10, 11, 12, 13, 14, 15, 16, 17, 18], [16])])
def Qg.B18 : List Nat := [0, 0, 0, 6, 14, 30, 0, 0, 0, 384, 896, 1920, 4032, 8191, 16383, 32767, 32767, 0, 196607, 524287]
theorem Qg.tab18 : rtab .any (opsOf Try.f6 18) = Qg.T18 := by kernel_rfl
theorem Qg.bits18 : waitsOk Qg.T18.2 Qg.B18 = true := by kernel_rfl
def Qg.T19 : Bool × List (List Nat × List Nat) := (true, [([], []), ([], []), ([], []), ([1, 2], [1, 2]), ([3], [3]), ([4], [4]), ([], []), ([], []), ([6, 7], [6, 7]), ([8], [8]), ([9], [9]), ([0, 5, 10], [0, 5, 10]), ([11], [11]), ([12], [12]), ([12], [12]), ([], []), ([15, 13, 11, 0, 1, 2, 3, 4, 5, 6, 7, 8, 9, 10, 11, 12, 13, 15], [13, 15]), ([14, 16, 0, 1, 2, 3, 4, 5, 6, 7, 8, 9, 10, 11, 12, 13, 14, 15, 16], [14])])
def Qg.B19 : List Nat := [0, 0, 0, 6, 14, 30, 0, 0, 192, 448, 960, 2047, 4095, 8191, 8191, 0, 49151, 131071]
theorem Qg.tab19 : rtab .any (opsOf Try.f6 19) = Qg.T19 := by kernel_rfl
theorem Qg.bits19 : waitsOk Qg.T19.2 Qg.B19 = true := by kernel_rfl
def Qg.T20 : Bool × List (List Nat × List Nat) := (true, [([], []), ([], []), ([0, 1], [0, 1]), ([2], [2]), ([3], [3]), ([], []), ([], []), ([5, 6], [5, 6]), ([7], [7]), ([8], [8]), ([4, 9], [4, 9]), ([], []), ([11, 10, 0, 1, 2, 3, 4, 5, 6, 7, 8, 9, 10, 11], [10, 11])])
def Qg.B20 : List Nat := [0, 0, 3, 7, 15, 0, 0, 96, 224, 480, 1023, 0, 4095]
theorem Qg.tab20 : rtab .any (opsOf Try.f6 20) = Qg.T20 := by kernel_rfl
theorem Qg.bits20 : waitsOk Qg.T20.2 Qg.B20 = true := by kernel_rfl
set_option maxHeartbeats 8000000 in
set_option maxRecDepth 100000 in
theorem Qg.calls (k : Nat) (A0 : Option Addr) (c0 : Nat) (l0 : List Int) (r : Bool) (w : World) (hr0 : Kd.C (Kd.int .u8) w A0 l0.length l0) (hc0 : l0.length <= c0) (h : Qg.f k l0 = some r) (hrt : r = true) :
  Calls Try.prog 6 #[.slice A0 l0.length c0] w fun e w' => e = .returned (.bool r) ∧ Below w.heap.size w w' := by
 have HRT := Qa.mk hrt
 clear hrt
 have hu25 := Try.underlying25
 have hu44 := Try.underlying44
 have HR0 := Qa.mk hr0
 have HC0 := Qa.mk hc0
 clear hr0 hc0
 have HB := Qa.mk (Below.refl w.heap.size w)
 have H : (if (l0.length : Int) > 1048576 then (some true) else ((Ym.f k l0).bind fun bt480 => ((Yt.f k bt480.1 bt480.2.1 bt480.2.2).bind fun t486 => ((Zw.f k bt480.1 bt480.2.1 bt480.2.2).bind fun t489 => ((Zd.f k t486 t489).bind fun t492 => (if t492 = true then ((Yr.f k bt480.1 bt480.2.1 bt480.2.2).bind fun t493 => (Qg.j0 k bt480.2.2 t486 (!t493) bt480.1 bt480.2.1)) else (Qg.j0 k bt480.2.2 t486 true bt480.1 bt480.2.1))))))) = some r := h
 clear h
 by_cases c2 : (l0.length : Int) > 1048576
 ·rw [if_pos c2] at H
  have c2b0 : decide (1048576 < (l0.length : Int)) = true := decide_eq_true c2
  have c2b1 : decide (1048576 < l0.length) = true := decide_eq_true (by omega)
  clear c2
  obtain rfl := Option.some.inj H
  go_enter Try.func6, Try.ntmps6
  go_wp2
  go_ret
  exact ⟨by first | rfl | (simp [Qt, Qs] <;> rfl) | (simp [*, Qt, Qs] <;> rfl) | (exfalso; simp_all; done), by repeat first | exact HB.out | apply Qc | apply Qb⟩
 ·rw [if_neg c2] at H
  have c2b0 : decide (1048576 < (l0.length : Int)) = false := decide_eq_false c2
  have c2b1 : decide (1048576 < l0.length) = false := decide_eq_false (by omega)
  clear c2
  replace H := Option.bind_eq_some_iff.mp H
  obtain ⟨⟨t480, t481, t484⟩, A30, H⟩ := H
  replace H : ((Yt.f k t480 t481 t484).bind fun t486 => ((Zw.f k t480 t481 t484).bind fun t489 => ((Zd.f k t486 t489).bind fun t492 => (if t492 = true then ((Yr.f k t480 t481 t484).bind fun t493 => (Qg.j0 k t484 t486 (!t493) t480 t481)) else (Qg.j0 k t484 t486 true t480 t481))))) = some r := H
  have A3 := Qa.mk A30
  clear A30
  replace H := Option.bind_eq_some_iff.mp H
  obtain ⟨t486, A40, H⟩ := H
  replace H : ((Zw.f k t480 t481 t484).bind fun t489 => ((Zd.f k t486 t489).bind fun t492 => (if t492 = true then ((Yr.f k t480 t481 t484).bind fun t493 => (Qg.j0 k t484 t486 (!t493) t480 t481)) else (Qg.j0 k t484 t486 true t480 t481)))) = some r := H
  have A4 := Qa.mk A40
  clear A40
  have HC5 := Qa.mk H
  clear H
  go_enter Try.func6, Try.ntmps6
  go_upto_region 5 with (first | ((with_reducible refine Wi (f := 10) rfl ?_); refine Zu (some 23) rfl rfl Try.func10 (by kernel_rfl) rfl #[.slice A0 l0.length c0] rfl (by first | rfl | (simp only [List.map_toArray, List.map_cons, List.map_nil, List.length_drop, List.length_take]; try rfl)) ?_; (with_reducible refine (Ym.calls k _ _ l0 t480 t481 t484 _ ?side1 ?side2 A3.out).mono ?_); (case side1 => repeat (first | exact HR0.out | (with_reducible refine Kd.Zm ?_ _) | (with_reducible refine Kd.Zl ?_ _) | (with_reducible refine Kd.Yb ?_))); (case side2 => exact HC0.out); rintro e w6 ⟨v482, rfl, ho0, hb⟩; refine ⟨_, rfl, ?_⟩; have n0_ := Qa.mk (Kd.Q_lower ho0 (Qr (by repeat first | exact HB.out | apply Qc | apply Qb))); have n1_ := Qa.mk (Ql (by repeat first | exact HB.out | apply Qc | apply Qb) hb); clear HB; have HO483 := n0_; have HB := n1_; clear n0_ n1_; (try clear hb); (try clear hb2); (try clear hk); (try clear hi); (try clear ho0)) | ((with_reducible refine We (N := 3) rfl ?_); refine Qy rfl (N := 3) rfl (cs := #[.int .i64 0, .slice none 0 0]) (t := 25) ?hr ?_; (case hr => first | (go_simp; done) | (go_simp; rfl)); intro gb485 hg w7 hbox hb; have n0_ := Qa.mk (Kd.Xo (by (with_reducible repeat apply Kd.Zj); exact HO483.out) hb); have n1_ := Qa.mk (Ql (by repeat first | exact HB.out | apply Qc | apply Qb) hb); have n2_ := Qa.mk (hbox); have n3_ := Qa.mk ((by rw [hg]; exact (Qr (by repeat first | exact HB.out | apply Qc | apply Qb)) : w.heap.size <= gb485)); have n4_ := n3_; clear HO483; clear HB; have HO483 := n0_; have HB := n1_; have BK485 := n2_; have GW485 := n3_; have GE485 := n4_; clear n0_ n1_ n2_ n3_ n4_; clear hb hbox hg; have hcz8_0 : w7.cell? ⟨gb485, 0, none⟩ = some (.int .i64 0) := (Qe BK485.out 0).trans rfl; have hcz8_1 : w7.cell? ⟨gb485, 1, none⟩ = some (.slice none 0 0) := (Qe BK485.out 1).trans rfl; have hfz8_0 := Qf BK485.out 0; have hfz8_1 := Qf BK485.out 1; obtain ⟨Ao9, co9, eo9, _⟩ := Kd.Q_slice HO483.out; subst eo9) | ((with_reducible refine Wi (f := 11) rfl ?_); refine Zu (some 28) rfl rfl Try.func11 (by kernel_rfl) rfl #[.agg #[.int .i64 t480, .slice Ao9 t481.length co9], .int .i64 t484] rfl (by first | rfl | (simp only [List.map_toArray, List.map_cons, List.map_nil, List.length_drop, List.length_take]; try rfl)) ?_; (with_reducible refine (Yt.calls k t480 _ _ t481 t484 t486 _ ?side1 ?side2 A4.out).mono ?_); (case side1 => refine (Kd.Q_reads' (e := 42) (base := w.heap.size) (ok := fun k_ => True) (n := t481.length) (c := co9) ?_).2.2; exact (by (with_reducible repeat apply Kd.Zj); exact (Kd.Q_mono (Kd.Q_far (p := ⟨gb485, 1, none⟩) (Kd.Q_far (p := ⟨gb485, 0, none⟩) (Kd.Q_types HO483.out BK485.out (by decide)) (fun _ hk => hk.2) (.int .i64 t480)) (fun _ hk => hk.2) (.slice Ao9 t481.length co9)) (fun _ h_ => h_.1)))); (case side2 => exact (Kd.Q_reads' HO483.out).2.1); rintro e w10 ⟨v487, rfl, ho0, hb⟩; refine ⟨_, rfl, ?_⟩; have n0_ := Qa.mk (Kd.Xo (by (with_reducible repeat apply Kd.Zj); exact (Kd.Q_mono (Kd.Q_far (p := ⟨gb485, 1, none⟩) (Kd.Q_far (p := ⟨gb485, 0, none⟩) (Kd.Q_types HO483.out BK485.out (by decide)) (fun _ hk => hk.2) (.int .i64 t480)) (fun _ hk => hk.2) (.slice Ao9 t481.length co9)) (fun _ h_ => h_.1))) hb); have n1_ := Qa.mk (Kd.Yy ho0 (Qr (by repeat first | exact HB.out | with_reducible refine Qh ?_ ‹_› | apply Qc | apply Qb))); have n2_ := Qa.mk (Qk (g := gb485) (o := .cells #[.int .i64 t480, .slice Ao9 t481.length co9] 25 (0, 0)) (by (with_reducible repeat apply Qd); refine Wm (cs := #[.int .i64 t480, .slice none 0 0]) ?_ 1 _ rfl; (with_reducible repeat apply Qd); refine Wm (cs := #[.int .i64 0, .slice none 0 0]) ?_ 0 _ rfl; (with_reducible repeat apply Qd); exact BK485.out) hb); have n3_ := Qa.mk (Ql (by repeat first | exact HB.out | with_reducible refine Qh ?_ ‹_› | apply Qc | apply Qb) hb); clear HO483; clear BK485; clear HB; have HO483 := n0_; have HO488 := n1_; have BK485 := n2_; have HB := n3_; clear n0_ n1_ n2_ n3_; (try clear hb); (try clear hb2); (try clear hk); (try clear hi); (try clear ho0)))
  (try simp only [Act.put, List.setIfInBounds_toArray, List.set_cons_zero, List.set_cons_succ])
  go_cut [40] (fun v40 wc => ∃ (kq : Nat) (x40_4 : Bool), v40 = .bool x40_4 ∧ Qa (Qg.j0 kq t484 t486 x40_4 t480 t481 = some r) ∧ Qa (kq <= k) ∧ Qa (Kd.R k34 34 wc w.heap.size (fun _ => True) v487 t486) ∧ Qa (Kd.Q k42 42 wc w.heap.size (fun _ => True) (.slice Ao9 t481.length co9) t481) ∧ Qa (wc.heap[gb485]? = some (.cells #[.int .i64 t480, (.slice Ao9 t481.length co9)] 25 (0, 0))) ∧ Qa (Below w.heap.size w wc))
  case first => as_aux_lemma =>
   have H := HC5.out
   clear HC5
   replace H := Option.bind_eq_some_iff.mp H
   obtain ⟨t489, A110, H⟩ := H
   replace H : ((Zd.f k t486 t489).bind fun t492 => (if t492 = true then ((Yr.f k t480 t481 t484).bind fun t493 => (Qg.j0 k t484 t486 (!t493) t480 t481)) else (Qg.j0 k t484 t486 true t480 t481))) = some r := H
   have A11 := Qa.mk A110
   clear A110
   replace H := Option.bind_eq_some_iff.mp H
   obtain ⟨t492, A120, H⟩ := H
   replace H : (if t492 = true then ((Yr.f k t480 t481 t484).bind fun t493 => (Qg.j0 k t484 t486 (!t493) t480 t481)) else (Qg.j0 k t484 t486 true t480 t481)) = some r := H
   have A12 := Qa.mk A120
   clear A120
   by_cases c13 : t492 = true
   ·subst c13
    have H1 : ((Yr.f k t480 t481 t484).bind fun t493 => (Qg.j0 k t484 t486 (!t493) t480 t481)) = some r := by rw [if_pos rfl] at H; exact H
    clear H
    have H := H1
    clear H1
    replace H := Option.bind_eq_some_iff.mp H
    obtain ⟨t493, A140, H⟩ := H
    replace H : (Qg.j0 k t484 t486 (!t493) t480 t481) = some r := H
    have A14 := Qa.mk A140
    clear A140
    have H' := Qa.mk H
    clear H
    have hcz15_0 : w10.cell? ⟨gb485, 0, none⟩ = some (.int .i64 t480) := (Qe BK485.out 0).trans rfl
    have hcz15_1 : w10.cell? ⟨gb485, 1, none⟩ = some (.slice Ao9 t481.length co9) := (Qe BK485.out 1).trans rfl
    have hfz15_0 := Qf BK485.out 0
    have hfz15_1 := Qf BK485.out 1
    go_wp2_with (first | ((with_reducible refine Wi (f := 13) rfl ?_); refine Zu (some 32) rfl rfl Try.func13 (by kernel_rfl) rfl #[.agg #[.int .i64 t480, .slice Ao9 t481.length co9], .int .i64 t484] rfl (by first | rfl | (simp only [List.map_toArray, List.map_cons, List.map_nil, List.length_drop, List.length_take]; try rfl)) ?_; (with_reducible refine (Zw.calls k t480 _ _ t481 t484 t489 _ ?side1 ?side2 A11.out).mono ?_); (case side1 => repeat (first | exact (Kd.Q_reads' HO483.out).2.2 | (with_reducible refine Kd.Zm ?_ _) | (with_reducible refine Kd.Zl ?_ _) | (with_reducible refine Kd.Yb ?_))); (case side2 => exact (Kd.Q_reads' HO483.out).2.1); rintro e w16 ⟨v490, rfl, ho0, hb⟩; refine ⟨_, rfl, ?_⟩; have n0_ := Qa.mk (Kd.Xo (by (with_reducible repeat apply Kd.Zj); exact HO483.out) hb); have n1_ := Qa.mk (Kd.R_elder' (kR HO488.out) (Kd.R_base ho0) hb); have n2_ := Qa.mk (Kd.Yy (Kd.R_new' ho0 (Kd.R_lt (kR HO488.out))) (Qr (by repeat first | exact HB.out | with_reducible refine Qh ?_ ‹_› | apply Qc | apply Qb))); have n3_ := Qa.mk (Qk (bK BK485.out) hb); have n4_ := Qa.mk (Ql (by repeat first | exact HB.out | with_reducible refine Qh ?_ ‹_› | apply Qc | apply Qb) hb); clear HO483; clear HO488; clear BK485; clear HB; have HO483 := n0_; have HO488 := n1_; have HO491 := n2_; have BK485 := n3_; have HB := n4_; clear n0_ n1_ n2_ n3_ n4_; (try clear hb); (try clear hb2); (try clear hk); (try clear hi); (try clear ho0); obtain ⟨Ao17, co17, eo17⟩ := Kd.Zk HO488.out; subst eo17; obtain ⟨Ao18, co18, eo18⟩ := Kd.Zk HO491.out; subst eo18) | ((with_reducible refine Wi (f := 12) rfl ?_); refine Zu (some 33) rfl rfl Try.func12 (by kernel_rfl) rfl #[.slice Ao17 t486.length co17, .slice Ao18 t489.length co18] rfl (by first | rfl | (simp only [List.map_toArray, List.map_cons, List.map_nil, List.length_drop, List.length_take]; try rfl)) ?_; (with_reducible refine (Zd.calls k _ _ t486 _ _ t489 true _ ?side1 ?side2 ?side3 ?side4 A12.out).mono ?_); (case side1 => repeat (first | exact (Kd.R_reads' HO488.out).2.2 | (with_reducible refine Kd.Zm ?_ _) | (with_reducible refine Kd.Zl ?_ _) | (with_reducible refine Kd.Yb ?_))); (case side2 => exact (Kd.R_reads' HO488.out).2.1); (case side3 => repeat (first | exact (Kd.R_reads' HO491.out).2.2 | (with_reducible refine Kd.Zm ?_ _) | (with_reducible refine Kd.Zl ?_ _) | (with_reducible refine Kd.Yb ?_))); (case side4 => exact (Kd.R_reads' HO491.out).2.1); rintro e w' ⟨rfl, ⟨nd, rfl⟩⟩; refine ⟨_, rfl, ?_⟩; have hcz19_0 : w16.cell? ⟨gb485, 0, none⟩ = some (.int .i64 t480) := (Qe BK485.out 0).trans rfl; have hcz19_1 : w16.cell? ⟨gb485, 1, none⟩ = some (.slice Ao9 t481.length co9) := (Qe BK485.out 1).trans rfl; have hfz19_0 := Qf BK485.out 0; have hfz19_1 := Qf BK485.out 1) | (go_at_call 14; (with_reducible refine (Yr.calls k t480 _ _ t481 t484 t493 _ ?side1 ?side2 A14.out).mono ?_); (case side1 => repeat (first | exact (Kd.Q_reads' HO483.out).2.2 | (with_reducible refine Kd.Zm ?_ _) | (with_reducible refine Kd.Zl ?_ _) | (with_reducible refine Kd.Yb ?_))); (case side2 => exact (Kd.Q_reads' HO483.out).2.1); rintro e w20 ⟨rfl, hb⟩; have n0_ := Qa.mk (Kd.Xo (by (with_reducible repeat apply Kd.Zj); exact HO483.out) hb); have n1_ := Qa.mk (Kd.Ze (kR HO488.out) hb); have n2_ := Qa.mk (Kd.Ze (kR HO491.out) hb); have n3_ := Qa.mk (Qk (bK BK485.out) hb); have n4_ := Qa.mk (Ql (by repeat first | exact HB.out | with_reducible refine Qh ?_ ‹_› | apply Qc | apply Qb) hb); clear HO483; clear HO488; clear HO491; clear BK485; clear HB; have HO483 := n0_; have HO488 := n1_; have HO491 := n2_; have BK485 := n3_; have HB := n4_; clear n0_ n1_ n2_ n3_ n4_; (try clear hb); (try clear hb2); (try clear hk); (try clear hi)))
    go_meet
    case rel => exact ⟨_, (!t493), (by first | rfl | (simp; done) | (simp [*]; done)), H', ⟨by first | omega | exact Nat.le_refl _⟩, ⟨by (with_reducible repeat apply Kd.Wo); exact Kd.Wz HO488.out (fun _ hk => trivial)⟩, ⟨by (with_reducible repeat apply Kd.Zj); exact HO483.out⟩, ⟨by (with_reducible repeat apply Qd); exact BK485.out⟩, ⟨by repeat first | exact HB.out | with_reducible refine Qh ?_ ‹_› | apply Qc | apply Qb⟩⟩
   ·replace c13 := Bool.eq_false_iff.mpr c13
    subst c13
    have H1 : (Qg.j0 k t484 t486 true t480 t481) = some r := by rw [if_neg (show ¬ (false = true) by decide)] at H; exact H
    clear H
    have H := H1
    clear H1
    have H' := Qa.mk H
    clear H
    have hcz21_0 : w10.cell? ⟨gb485, 0, none⟩ = some (.int .i64 t480) := (Qe BK485.out 0).trans rfl
    have hcz21_1 : w10.cell? ⟨gb485, 1, none⟩ = some (.slice Ao9 t481.length co9) := (Qe BK485.out 1).trans rfl
    have hfz21_0 := Qf BK485.out 0
    have hfz21_1 := Qf BK485.out 1
    go_wp2_with (first | ((with_reducible refine Wi (f := 13) rfl ?_); refine Zu (some 32) rfl rfl Try.func13 (by kernel_rfl) rfl #[.agg #[.int .i64 t480, .slice Ao9 t481.length co9], .int .i64 t484] rfl (by first | rfl | (simp only [List.map_toArray, List.map_cons, List.map_nil, List.length_drop, List.length_take]; try rfl)) ?_; (with_reducible refine (Zw.calls k t480 _ _ t481 t484 t489 _ ?side1 ?side2 A11.out).mono ?_); (case side1 => repeat (first | exact (Kd.Q_reads' HO483.out).2.2 | (with_reducible refine Kd.Zm ?_ _) | (with_reducible refine Kd.Zl ?_ _) | (with_reducible refine Kd.Yb ?_))); (case side2 => exact (Kd.Q_reads' HO483.out).2.1); rintro e w22 ⟨v490, rfl, ho0, hb⟩; refine ⟨_, rfl, ?_⟩; have n0_ := Qa.mk (Kd.Xo (by (with_reducible repeat apply Kd.Zj); exact HO483.out) hb); have n1_ := Qa.mk (Kd.R_elder' (kR HO488.out) (Kd.R_base ho0) hb); have n2_ := Qa.mk (Kd.Yy (Kd.R_new' ho0 (Kd.R_lt (kR HO488.out))) (Qr (by repeat first | exact HB.out | with_reducible refine Qh ?_ ‹_› | apply Qc | apply Qb))); have n3_ := Qa.mk (Qk (bK BK485.out) hb); have n4_ := Qa.mk (Ql (by repeat first | exact HB.out | with_reducible refine Qh ?_ ‹_› | apply Qc | apply Qb) hb); clear HO483; clear HO488; clear BK485; clear HB; have HO483 := n0_; have HO488 := n1_; have HO491 := n2_; have BK485 := n3_; have HB := n4_; clear n0_ n1_ n2_ n3_ n4_; (try clear hb); (try clear hb2); (try clear hk); (try clear hi); (try clear ho0); obtain ⟨Ao23, co23, eo23⟩ := Kd.Zk HO488.out; subst eo23; obtain ⟨Ao24, co24, eo24⟩ := Kd.Zk HO491.out; subst eo24) | ((with_reducible refine Wi (f := 12) rfl ?_); refine Zu (some 33) rfl rfl Try.func12 (by kernel_rfl) rfl #[.slice Ao23 t486.length co23, .slice Ao24 t489.length co24] rfl (by first | rfl | (simp only [List.map_toArray, List.map_cons, List.map_nil, List.length_drop, List.length_take]; try rfl)) ?_; (with_reducible refine (Zd.calls k _ _ t486 _ _ t489 false _ ?side1 ?side2 ?side3 ?side4 A12.out).mono ?_); (case side1 => repeat (first | exact (Kd.R_reads' HO488.out).2.2 | (with_reducible refine Kd.Zm ?_ _) | (with_reducible refine Kd.Zl ?_ _) | (with_reducible refine Kd.Yb ?_))); (case side2 => exact (Kd.R_reads' HO488.out).2.1); (case side3 => repeat (first | exact (Kd.R_reads' HO491.out).2.2 | (with_reducible refine Kd.Zm ?_ _) | (with_reducible refine Kd.Zl ?_ _) | (with_reducible refine Kd.Yb ?_))); (case side4 => exact (Kd.R_reads' HO491.out).2.1); rintro e w' ⟨rfl, ⟨nd, rfl⟩⟩; refine ⟨_, rfl, ?_⟩))
    go_meet
    case rel => exact ⟨_, (true), (by first | rfl | (simp; done) | (simp [*]; done)), H', ⟨by first | omega | exact Nat.le_refl _⟩, ⟨by (with_reducible repeat apply Kd.Wo); exact Kd.Wz HO488.out (fun _ hk => trivial)⟩, ⟨by (with_reducible repeat apply Kd.Zj); exact HO483.out⟩, ⟨by (with_reducible repeat apply Qd); exact BK485.out⟩, ⟨by repeat first | exact HB.out | with_reducible refine Qh ?_ ‹_› | apply Qc | apply Qb⟩⟩
  case rest => as_aux_lemma =>
   clear HC5
   try clear c1
   try clear c2
   try clear c2b0
   try clear c2b1
   try clear p2
   try clear c6
   try clear c10
   try clear c11
   try clear c12
   try clear c13
   try clear hcz15_0
   try clear hcz15_1
   try clear hcz19_0
   try clear hcz19_1
   try clear hcz21_0
   try clear hcz21_1
   try clear hcz8_0
   try clear hcz8_1
   try clear hfz15_0
   try clear hfz15_1
   try clear hfz19_0
   try clear hfz19_1
   try clear hfz21_0
   try clear hfz21_1
   try clear hfz8_0
   try clear hfz8_1
   obtain ⟨kq, x40_4, rfl, HA, HJ4, HO_5, HO_486001, BK485, HB⟩ := hcut
   cases kq with
   | zero => exact absurd HA.out (by simp [Qg.j0])
   | succ kj4 =>
    have H := HA.out
    clear HA
    simp only [Qg.j0] at H
    by_cases c25 : x40_4 = true
    ·subst c25
     have H1 : ((Zw.f kj4 t480 t481 t484).bind fun t494 => ((Zd.f kj4 t486 t494).bind fun t497 => (some t497))) = some r := by rw [if_pos rfl] at H; exact H
     clear H
     have H := H1
     clear H1
     replace H := Option.bind_eq_some_iff.mp H
     obtain ⟨t494, A260, H⟩ := H
     replace H : ((Zd.f kj4 t486 t494).bind fun t497 => (some t497)) = some r := H
     have A26 := Qa.mk A260
     clear A260
     replace H := Option.bind_eq_some_iff.mp H
     obtain ⟨t497, A270, H⟩ := H
     replace H : (some t497) = some r := H
     have A27 := Qa.mk A270
     clear A270
     obtain rfl := Option.some.inj H
     have hcz28_0 : wc.cell? ⟨gb485, 0, none⟩ = some (.int .i64 t480) := (Qe BK485.out 0).trans rfl
     have hcz28_1 : wc.cell? ⟨gb485, 1, none⟩ = some (.slice Ao9 t481.length co9) := (Qe BK485.out 1).trans rfl
     have hfz28_0 := Qf BK485.out 0
     have hfz28_1 := Qf BK485.out 1
     go_wp2_with (first | ((with_reducible refine Wi (f := 13) rfl ?_); refine Zu (some 44) rfl rfl Try.func13 (by kernel_rfl) rfl #[.agg #[.int .i64 t480, .slice Ao9 t481.length co9], .int .i64 t484] rfl (by first | rfl | (simp only [List.map_toArray, List.map_cons, List.map_nil, List.length_drop, List.length_take]; try rfl)) ?_; (with_reducible refine (Zw.calls kj4 t480 _ _ t481 t484 t494 _ ?side1 ?side2 A26.out).mono ?_); (case side1 => repeat (first | exact (Kd.Q_reads' HO_486001.out).2.2 | (with_reducible refine Kd.Zm ?_ _) | (with_reducible refine Kd.Zl ?_ _) | (with_reducible refine Kd.Yb ?_))); (case side2 => exact (Kd.Q_reads' HO_486001.out).2.1); rintro e w29 ⟨v495, rfl, ho0, hb⟩; refine ⟨_, rfl, ?_⟩; have n0_ := Qa.mk (Kd.R_elder' (kR HO_5.out) (Kd.R_base ho0) hb); have n1_ := Qa.mk (Kd.Xo (by (with_reducible repeat apply Kd.Zj); exact HO_486001.out) hb); have n2_ := Qa.mk (Kd.Yy (Kd.R_new' ho0 (Kd.R_lt (kR HO_5.out))) (Qr (by repeat first | exact HB.out | with_reducible refine Qh ?_ ‹_› | apply Qc | apply Qb))); have n3_ := Qa.mk (Qk (bK BK485.out) hb); have n4_ := Qa.mk (Ql (by repeat first | exact HB.out | with_reducible refine Qh ?_ ‹_› | apply Qc | apply Qb) hb); clear HO_5; clear HO_486001; clear BK485; clear HB; have HO_5 := n0_; have HO_486001 := n1_; have HO496 := n2_; have BK485 := n3_; have HB := n4_; clear n0_ n1_ n2_ n3_ n4_; (try clear hb); (try clear hb2); (try clear hk); (try clear hi); (try clear ho0); obtain ⟨Ao30, co30, eo30⟩ := Kd.Zk HO_5.out; subst eo30; obtain ⟨Ao31, co31, eo31⟩ := Kd.Zk HO496.out; subst eo31) | ((with_reducible refine Wi (f := 12) rfl ?_); refine Zu (some 45) rfl rfl Try.func12 (by kernel_rfl) rfl #[.slice Ao30 t486.length co30, .slice Ao31 t494.length co31] rfl (by first | rfl | (simp only [List.map_toArray, List.map_cons, List.map_nil, List.length_drop, List.length_take]; try rfl)) ?_; (with_reducible refine (Zd.calls kj4 _ _ t486 _ _ t494 t497 _ ?side1 ?side2 ?side3 ?side4 A27.out).mono ?_); (case side1 => repeat (first | exact (Kd.R_reads' HO_5.out).2.2 | (with_reducible refine Kd.Zm ?_ _) | (with_reducible refine Kd.Zl ?_ _) | (with_reducible refine Kd.Yb ?_))); (case side2 => exact (Kd.R_reads' HO_5.out).2.1); (case side3 => repeat (first | exact (Kd.R_reads' HO496.out).2.2 | (with_reducible refine Kd.Zm ?_ _) | (with_reducible refine Kd.Zl ?_ _) | (with_reducible refine Kd.Yb ?_))); (case side4 => exact (Kd.R_reads' HO496.out).2.1); rintro e w' ⟨rfl, ⟨nd, rfl⟩⟩; refine ⟨_, rfl, ?_⟩))
     go_ret
     exact ⟨by first | rfl | (simp [Qt, Qs] <;> rfl) | (simp [*, Qt, Qs] <;> rfl) | (exfalso; simp_all; done), by repeat first | exact HB.out | with_reducible refine Qh ?_ ‹_› | apply Qc | apply Qb⟩
    ·replace c25 := Bool.eq_false_iff.mpr c25
     subst c25
     have H1 : (Qg.l0 kj4 t486 1 t480 t481) = some r := by rw [if_neg (show ¬ (false = true) by decide)] at H; exact H
     clear H
     have H := H1
     clear H1
     have H' := Qa.mk H
     clear H
     go_wp2
     go_loopg [6] kj4 (fun kq v6 w' => ∃ (x6_2 : Int), v6 = .int .i64 x6_2 ∧ Qa (Qg.l0 kq t486 x6_2 t480 t481 = some r) ∧ Qa (kq <= kj4) ∧ Qa (Kd.R k34 34 w' w.heap.size (fun _ => True) v487 t486) ∧ Qa (Kd.Q k42 42 w' w.heap.size (fun _ => True) (.slice Ao9 t481.length co9) t481) ∧ Qa (w'.heap[gb485]? = some (.cells #[.int .i64 t480, (.slice Ao9 t481.length co9)] 25 (0, 0))) ∧ Qa (Below w.heap.size w w'))
     case atStart => exact ⟨(1), (by first | rfl | (simp; done) | (simp [*]; done)), H', ⟨Nat.le_refl _⟩, ⟨by (with_reducible repeat apply Kd.Wo); exact HO_5.out⟩, ⟨by (with_reducible repeat apply Kd.Zj); exact HO_486001.out⟩, ⟨by (with_reducible repeat apply Qd); exact BK485.out⟩, ⟨by repeat first | exact HB.out | with_reducible refine Qh ?_ ‹_› | apply Qc | apply Qb⟩⟩
     case round => as_aux_lemma =>
      clear H'
      try clear c1
      try clear c2
      try clear c2b0
      try clear c2b1
      try clear p2
      try clear c6
      try clear c10
      try clear c11
      try clear c12
      try clear c13
      try clear c25
      try clear hcz15_0
      try clear hcz15_1
      try clear hcz19_0
      try clear hcz19_1
      try clear hcz21_0
      try clear hcz21_1
      try clear hcz28_0
      try clear hcz28_1
      try clear hcz8_0
      try clear hcz8_1
      try clear hfz15_0
      try clear hfz15_1
      try clear hfz19_0
      try clear hfz19_1
      try clear hfz21_0
      try clear hfz21_1
      try clear hfz28_0
      try clear hfz28_1
      try clear hfz8_0
      try clear hfz8_1
      try clear p2
      obtain ⟨x6_2, rfl, HA, HK2, HO_5, HO_486001, BK485, HB⟩ := hrel
      cases gk with
      | zero => exact absurd HA.out (by simp [Qg.l0])
      | succ k2 =>
       have H := HA.out
       clear HA
       simp only [Qg.l0] at H
       by_cases c32 : x6_2 < (t486.length : Int)
       ·rw [if_pos c32] at H
        have c32b0 : decide (x6_2 < (t486.length : Int)) = true := decide_eq_true c32
        clear c32
        have H' := Qa.mk H
        clear H
        obtain ⟨Ao33, co33, eo33⟩ := Kd.Zk HO_5.out
        subst eo33
        go_wp2
        go_loopg [7, 8] k2 (fun kq v7 v8 w' => ∃ (x7_3 : Bool) (x8_3 : Int), v7 = .bool x7_3 ∧ v8 = .int .i64 x8_3 ∧ Qa (Qg.l1 kq t486 x6_2 x7_3 x8_3 t480 t481 = some r) ∧ Qa (kq <= k2) ∧ Qa (Kd.R k34 34 w' w.heap.size (fun _ => True) (.slice Ao33 t486.length co33) t486) ∧ Qa (Kd.Q k42 42 w' w.heap.size (fun _ => True) (.slice Ao9 t481.length co9) t481) ∧ Qa (w'.heap[gb485]? = some (.cells #[.int .i64 t480, (.slice Ao9 t481.length co9)] 25 (0, 0))) ∧ Qa (Below w.heap.size w w'))
        case atStart => exact ⟨(false), (0), (by first | rfl | (simp; done) | (simp [*]; done)), (by first | rfl | (simp; done) | (simp [*]; done)), H', ⟨Nat.le_refl _⟩, ⟨by (with_reducible repeat apply Kd.Wo); exact HO_5.out⟩, ⟨by (with_reducible repeat apply Kd.Zj); exact HO_486001.out⟩, ⟨by (with_reducible repeat apply Qd); exact BK485.out⟩, ⟨by repeat first | exact HB.out | with_reducible refine Qh ?_ ‹_› | apply Qc | apply Qb⟩⟩
        case round => as_aux_lemma =>
         clear H'
         try clear c1
         try clear c2
         try clear c2b0
         try clear c2b1
         try clear p2
         try clear c3
         try clear c6
         try clear c10
         try clear c11
         try clear c12
         try clear c13
         try clear c25
         try clear c32
         try clear c32b0
         try clear hcz15_0
         try clear hcz15_1
         try clear hcz19_0
         try clear hcz19_1
         try clear hcz21_0
         try clear hcz21_1
         try clear hcz28_0
         try clear hcz28_1
         try clear hcz8_0
         try clear hcz8_1
         try clear hfz15_0
         try clear hfz15_1
         try clear hfz19_0
         try clear hfz19_1
         try clear hfz21_0
         try clear hfz21_1
         try clear hfz28_0
         try clear hfz28_1
         try clear hfz8_0
         try clear hfz8_1
         try clear p2
         obtain ⟨x7_3, x8_3, rfl, rfl, HA, HK3, HO_5, HO_486001, BK485, HB⟩ := hrel
         cases gk with
         | zero => exact absurd HA.out (by simp [Qg.l1])
         | succ k3 =>
          have H := HA.out
          clear HA
          simp only [Qg.l1] at H
          by_cases c34 : x8_3 < x6_2
          ·rw [if_pos c34] at H
           have c34b0 : decide (x8_3 < x6_2) = true := decide_eq_true c34
           clear c34
           have HC35 := Qa.mk H
           clear H
           go_upto_block 3 with (fail)
           go_cut [7] (fun v7 wc => ∃ (kq : Nat) (x7_34 : Bool), v7 = .bool x7_34 ∧ Qa (Qg.j7 kq t486 x6_2 x7_34 x8_3 t480 t481 = some r) ∧ Qa (kq <= k3) ∧ Qa (Kd.R k34 34 wc w.heap.size (fun _ => True) (.slice Ao33 t486.length co33) t486) ∧ Qa (Kd.Q k42 42 wc w.heap.size (fun _ => True) (.slice Ao9 t481.length co9) t481) ∧ Qa (wc.heap[gb485]? = some (.cells #[.int .i64 t480, (.slice Ao9 t481.length co9)] 25 (0, 0))) ∧ Qa (Below w.heap.size w wc))
           case first => as_aux_lemma =>
            have H := HC35.out
            clear HC35
            by_cases c36 : 0 <= x8_3
            ·rw [if_pos c36] at H
             have c36b0 : decide (0 <= x8_3) = true := decide_eq_true c36
             clear c36
             (first | rw [c36b0] | (simp only [Wp, Ws]; rw [c36b0]) | skip)
             by_cases c37 : x8_3 < (t486.length : Int)
             ·rw [if_pos c37] at H
              have c37b0 : decide (x8_3 < (t486.length : Int)) = true := decide_eq_true c37
              clear c37
              by_cases c38 : 0 <= ((Qp t486 x8_3).f0)
              ·rw [if_pos c38] at H
               have c38b0 : decide (0 <= ((Qp t486 x8_3).f0)) = true := decide_eq_true c38
               clear c38
               by_cases c39 : ((Qp t486 x8_3).f0) < (t481.length : Int)
               ·rw [if_pos c39] at H
                have c39b0 : decide (((Qp t486 x8_3).f0) < (t481.length : Int)) = true := decide_eq_true c39
                clear c39
                have HC40 := Qa.mk H
                clear H
                try go_wp2
                have n0_ := Qa.mk (Kd.R_drew HO_5.out)
                have n1_ := Qa.mk (Kd.Q_drew HO_486001.out)
                have n2_ := Qa.mk (Ye BK485.out)
                have n3_ := Qa.mk (Qq HB.out)
                clear HO_5
                clear HO_486001
                clear BK485
                clear HB
                have HO_5 := n0_
                have HO_486001 := n1_
                have BK485 := n2_
                have HB := n3_
                clear n0_ n1_ n2_ n3_
                have p498 : 0 <= (x8_3 : Int) := of_decide_eq_true (by first | (with_reducible assumption) | assumption)
                have q498 : x8_3 < (t486.length : Int) := of_decide_eq_true (by first | (with_reducible assumption) | assumption)
                obtain ⟨ad498, e498, hx498_0, hx498_1, hx498_2⟩ := at_T34 (Kd.R_reads' HO_5.out).2.2 x8_3 p498 q498
                cases e498
                replace p498 := eq_true p498
                replace q498 := eq_true q498
                have p499 : 0 <= (((Qp t486 x8_3).f0) : Int) := of_decide_eq_true (by first | (with_reducible assumption) | assumption)
                have q499 : ((Qp t486 x8_3).f0) < (t481.length : Int) := of_decide_eq_true (by first | (with_reducible assumption) | assumption)
                obtain ⟨ad499, e499, hx499_0, hx499_1⟩ := at_T42 (Kd.Q_reads' HO_486001.out).2.2 ((Qp t486 x8_3).f0) p499 q499
                cases e499
                replace p499 := eq_true p499
                replace q499 := eq_true q499
                refine start_ (n := 11) (S := fun w' => w'.cell? ⟨gb485, 0, none⟩ = some (.int .i64 t480) ∧ w'.cell? ⟨gb485, 1, none⟩ = some (.slice (some ad499) t481.length co9) ∧ w'.cell? (ad498.add ((x8_3).toNat * 3)) = some (.int .i64 ((Qp t486 x8_3).f0)) ∧ w'.cell? ⟨(ad498.add ((x8_3).toNat * 3)).block, (ad498.add ((x8_3).toNat * 3)).off + 1, none⟩ = some (.int .i64 ((Qp t486 x8_3).f1)) ∧ w'.cell? ⟨(ad498.add ((x8_3).toNat * 3)).block, (ad498.add ((x8_3).toNat * 3)).off + 2, none⟩ = some (.int .i64 ((Qp t486 x8_3).f2)) ∧ w'.cell? (ad499.add ((((Qp t486 x8_3).f0)).toNat * 2)) = some (.int .i64 ((Qx t481 ((Qp t486 x8_3).f0)).f0)) ∧ w'.cell? ⟨(ad499.add ((((Qp t486 x8_3).f0)).toNat * 2)).block, (ad499.add ((((Qp t486 x8_3).f0)).toNat * 2)).off + 1, none⟩ = some (.int .i64 ((Qx t481 ((Qp t486 x8_3).f0)).f1))) (ds := []) #[false, false, false, false, false, false, false, false, false, false, false] (by kernel_rfl) rfl rfl ⟨(Qe BK485.out 0).trans rfl, (Qe BK485.out 1).trans rfl, hx498_0, hx498_1, hx498_2, hx499_0, hx499_1⟩ (fun hHeld => ?_); refine with_tabW Qg.tab14 Qg.bits14 (fun HT_ HW_ => ?_)
                generalize wr.drew = w41 at HO_5 HO_486001 BK485 HB hx498_0 hx498_1 hx498_2 hx499_0 hx499_1 hHeld ⊢
                refine Zt (i := 0) (N := some 57) (v := ?_) (a' := ?_) #[true, false, false, false, false, false, false, false, false, false, false] rfl rfl (Zh HT_.out (by kernel_rfl)) (fun _ _ _ h => h) (Or.inl ⟨by rfl, ?_⟩) ?_ ?_
                rotate_left
                ·intro w'
                 go_simp
                 with_reducible rfl
                rotate_left
                ·simp only [Act.put, sA_, sZ_, sS_, Wp, Ws]
                 rfl
                refine Zt (i := 2) (N := some 59) (v := ?_) (a' := ?_) #[true, false, true, false, false, false, false, false, false, false, false] rfl rfl (Zh HT_.out (by kernel_rfl)) (fun _ _ _ h => h) (Or.inl ⟨by rfl, ?_⟩) ?_ ?_
                rotate_left
                ·intro w'
                 go_simp
                 with_reducible rfl
                rotate_left
                ·simp only [Act.put, sA_, sZ_, sS_, Wp, Ws]
                 rfl
                refine Zt (i := 3) (N := some 60) (v := ?_) (a' := ?_) #[true, false, true, true, false, false, false, false, false, false, false] rfl rfl (Zh HT_.out (by kernel_rfl)) (fun _ _ _ h => h) (Or.inl ⟨by rfl, ?_⟩) ?_ ?_
                rotate_left
                ·intro w'
                 go_simp
                 with_reducible rfl
                rotate_left
                ·simp only [Act.put, sA_, sZ_, sS_, Wp, Ws]
                 rfl
                refine Zt (i := 4) (N := some 61) (v := ?_) (a' := ?_) #[true, false, true, true, true, false, false, false, false, false, false] rfl rfl (Zh HT_.out (by kernel_rfl)) (fun _ _ _ h => h) (Or.inl ⟨by rfl, ?_⟩) ?_ ?_
                rotate_left
                ·intro w'
                 go_simp
                 with_reducible rfl
                rotate_left
                ·simp only [Act.put, sA_, sZ_, sS_, Wp, Ws]
                 rfl
                refine Zt (i := 5) (N := some 62) (v := ?_) (a' := ?_) #[true, false, true, true, true, true, false, false, false, false, false] rfl rfl (Zh HT_.out (by kernel_rfl)) (fun _ _ _ h => h) (Or.inl ⟨by rfl, ?_⟩) ?_ ?_
                rotate_left
                ·intro w'
                 go_simp
                 with_reducible rfl
                rotate_left
                ·simp only [Act.put, sA_, sZ_, sS_, Wp, Ws]
                 rfl
                refine Xt (i := 1) (N := some 58) (v := ?_) (a' := ?_) #[true, true, true, true, true, true, false, false, false, false, false] rfl rfl (Yn HT_.out HW_.out (by kernel_rfl)) (fun _ _ _ h => h) (Or.inl ⟨by rfl, ?_⟩) hHeld ?_ ?_
                rotate_left
                ·rintro w' ⟨s0, s1, s2, s3, s4, s5, s6⟩
                 go_simp
                 with_reducible rfl
                rotate_left
                ·simp only [Act.put, sA_, sZ_, sS_, Wp, Ws]
                 rfl
                refine Xt (i := 6) (N := some 63) (v := ?_) (a' := ?_) #[true, true, true, true, true, true, true, false, false, false, false] rfl rfl (Yn HT_.out HW_.out (by kernel_rfl)) (fun _ _ _ h => h) (Or.inl ⟨by rfl, ?_⟩) hHeld ?_ ?_
                rotate_left
                ·rintro w' ⟨s0, s1, s2, s3, s4, s5, s6⟩
                 go_simp
                 with_reducible rfl
                rotate_left
                ·simp only [Act.put, sA_, sZ_, sS_, Wp, Ws]
                 rfl
                refine Zt (i := 7) (N := some 64) (v := ?_) (a' := ?_) #[true, true, true, true, true, true, true, true, false, false, false] rfl rfl (Zh HT_.out (by kernel_rfl)) (fun _ _ _ h => h) (Or.inl ⟨by rfl, ?_⟩) ?_ ?_
                rotate_left
                ·intro w'
                 go_simp
                 with_reducible rfl
                rotate_left
                ·simp only [Act.put, sA_, sZ_, sS_, Wp, Ws]
                 rfl
                refine Zt (i := 8) (N := some 65) (v := ?_) (a' := ?_) #[true, true, true, true, true, true, true, true, true, false, false] rfl rfl (Zh HT_.out (by kernel_rfl)) (fun _ _ _ h => h) (Or.inl ⟨by rfl, ?_⟩) ?_ ?_
                rotate_left
                ·intro w'
                 go_simp
                 with_reducible rfl
                rotate_left
                ·simp only [Act.put, sA_, sZ_, sS_, Wp, Ws]
                 rfl
                refine Xt (i := 9) (N := some 66) (v := ?_) (a' := ?_) #[true, true, true, true, true, true, true, true, true, true, false] rfl rfl (Yn HT_.out HW_.out (by kernel_rfl)) (fun _ _ _ h => h) (Or.inl ⟨by rfl, ?_⟩) hHeld ?_ ?_
                rotate_left
                ·rintro w' ⟨s0, s1, s2, s3, s4, s5, s6⟩
                 go_simp
                 with_reducible rfl
                rotate_left
                ·simp only [Act.put, sA_, sZ_, sS_, Wp, Ws]
                 rfl
                refine Zt (i := 10) (N := some 9) (v := ?_) (a' := ?_) #[true, true, true, true, true, true, true, true, true, true, true] rfl rfl (Zh HT_.out (by kernel_rfl)) (fun _ _ _ h => h) (Or.inl ⟨by rfl, ?_⟩) ?_ ?_
                rotate_left
                ·intro w'
                 go_simp
                 with_reducible rfl
                rotate_left
                ·simp only [Act.put, sA_, sZ_, sS_, Wp, Ws]
                 rfl
                refine done_ (done_of HT_.out (by kernel_rfl)) ?_
                have p500 : 0 <= (x8_3 : Int) := of_decide_eq_true (by first | (with_reducible assumption) | assumption)
                have q500 : x8_3 < (t486.length : Int) := of_decide_eq_true (by first | (with_reducible assumption) | assumption)
                obtain ⟨ad500, e500, hx500_0, hx500_1, hx500_2⟩ := at_T34 (Kd.R_reads' HO_5.out).2.2 x8_3 p500 q500
                obtain rfl : ad498 = ad500 := (by injection e500)
                replace p500 := eq_true p500
                replace q500 := eq_true q500
                go_upto_region 16 with (fail)
                go_cut [81] (fun v81 wc => ∃ (kq : Nat) (x81_39 : Bool), v81 = .bool x81_39 ∧ Qa (Qg.j3 kq t486 x6_2 x7_3 x8_3 ((Qx t481 ((Qp t486 x8_3).f0)).f0) ((Qp t486 x8_3).f2) x81_39 t480 t481 = some r) ∧ Qa (kq <= k3) ∧ Qa (Kd.R k34 34 wc w.heap.size (fun _ => True) (.slice (some ad498) t486.length co33) t486) ∧ Qa (Kd.Q k42 42 wc w.heap.size (fun _ => True) (.slice (some ad499) t481.length co9) t481) ∧ Qa (wc.heap[gb485]? = some (.cells #[.int .i64 t480, (.slice (some ad499) t481.length co9)] 25 (0, 0))) ∧ Qa (Below w.heap.size w wc))
                case first => as_aux_lemma =>
                 have H := HC40.out
                 clear HC40
                 by_cases c42 : ((Qx t481 ((Qp t486 x8_3).f0)).f0) = 6
                 ·rw [if_pos c42] at H
                  have c42b0 : (((Qx t481 ((Qp t486 x8_3).f0)).f0) == 6) = true := beq_iff_eq.mpr c42
                  have c42b1 : (((Qx t481 ((Qp t486 x8_3).f0)).f0) != 6) = false := bne_eq_false_iff_eq.mpr c42
                  clear c42
                  (first | rw [c42b0] | (simp only [Wp, Ws]; rw [c42b0]) | skip)
                  have H' := Qa.mk H
                  clear H
                  go_wp2
                  go_meet
                  case rel => exact ⟨_, (true), (by first | rfl | (simp; done) | (simp [*]; done)), H', ⟨by have := HJ4.out; have := HK2.out; have := HK3.out; first | omega | exact Nat.le_refl _⟩, ⟨by (with_reducible repeat apply Kd.Wo); exact HO_5.out⟩, ⟨by (with_reducible repeat apply Kd.Zj); exact HO_486001.out⟩, ⟨by (with_reducible repeat apply Qd); exact BK485.out⟩, ⟨by repeat first | exact HB.out | with_reducible refine Qh ?_ ‹_› | apply Qc | apply Qb⟩⟩
                 ·rw [if_neg c42] at H
                  have c42b0 : (((Qx t481 ((Qp t486 x8_3).f0)).f0) == 6) = false := beq_eq_false_iff_ne.mpr c42
                  have c42b1 : (((Qx t481 ((Qp t486 x8_3).f0)).f0) != 6) = true := bne_iff_ne.mpr c42
                  (first | rw [c42b0] | (simp only [Wp, Ws]; rw [c42b0]) | skip)
                  by_cases c43 : ((Qx t481 ((Qp t486 x8_3).f0)).f0) = 4
                  ·rw [if_pos c43] at H
                   have c43b0 : (((Qx t481 ((Qp t486 x8_3).f0)).f0) == 4) = true := beq_iff_eq.mpr c43
                   have c43b1 : (((Qx t481 ((Qp t486 x8_3).f0)).f0) != 4) = false := bne_eq_false_iff_eq.mpr c43
                   clear c43
                   have H' := Qa.mk H
                   clear H
                   go_wp2
                   go_meet
                   case rel => exact ⟨_, (true), (by first | rfl | (simp; done) | (simp [*]; done)), H', ⟨by have := HJ4.out; have := HK2.out; have := HK3.out; first | omega | exact Nat.le_refl _⟩, ⟨by (with_reducible repeat apply Kd.Wo); exact HO_5.out⟩, ⟨by (with_reducible repeat apply Kd.Zj); exact HO_486001.out⟩, ⟨by (with_reducible repeat apply Qd); exact BK485.out⟩, ⟨by repeat first | exact HB.out | with_reducible refine Qh ?_ ‹_› | apply Qc | apply Qb⟩⟩
                  ·rw [if_neg c43] at H
                   have c43b0 : (((Qx t481 ((Qp t486 x8_3).f0)).f0) == 4) = false := beq_eq_false_iff_ne.mpr c43
                   have c43b1 : (((Qx t481 ((Qp t486 x8_3).f0)).f0) != 4) = true := bne_iff_ne.mpr c43
                   have H' := Qa.mk H
                   clear H
                   go_wp2
                   go_meet
                   case rel => exact ⟨_, ((((Qx t481 ((Qp t486 x8_3).f0)).f0) == 5)), (by first | rfl | (simp; done) | (simp [*]; done)), H', ⟨by have := HJ4.out; have := HK2.out; have := HK3.out; first | omega | exact Nat.le_refl _⟩, ⟨by (with_reducible repeat apply Kd.Wo); exact HO_5.out⟩, ⟨by (with_reducible repeat apply Kd.Zj); exact HO_486001.out⟩, ⟨by (with_reducible repeat apply Qd); exact BK485.out⟩, ⟨by repeat first | exact HB.out | with_reducible refine Qh ?_ ‹_› | apply Qc | apply Qb⟩⟩
                case rest => as_aux_lemma =>
                 clear HC40
                 try clear c1
                 try clear c2
                 try clear c2b0
                 try clear c2b1
                 try clear p2
                 try clear c3
                 try clear c4
                 try clear p4
                 try clear q4
                 try clear hx4
                 try clear p5
                 try clear q5
                 try clear hx5
                 try clear c6
                 try clear c10
                 try clear c11
                 try clear c12
                 try clear c13
                 try clear c25
                 try clear c32
                 try clear c32b0
                 try clear c34
                 try clear c34b0
                 try clear c36
                 try clear c36b0
                 try clear c37
                 try clear c37b0
                 try clear c38
                 try clear c38b0
                 try clear c39
                 try clear c39b0
                 try clear c42
                 try clear c42b0
                 try clear c42b1
                 try clear c43
                 try clear c43b0
                 try clear c43b1
                 try clear hcz15_0
                 try clear hcz15_1
                 try clear hcz19_0
                 try clear hcz19_1
                 try clear hcz21_0
                 try clear hcz21_1
                 try clear hcz28_0
                 try clear hcz28_1
                 try clear hcz8_0
                 try clear hcz8_1
                 try clear hfz15_0
                 try clear hfz15_1
                 try clear hfz19_0
                 try clear hfz19_1
                 try clear hfz21_0
                 try clear hfz21_1
                 try clear hfz28_0
                 try clear hfz28_1
                 try clear hfz8_0
                 try clear hfz8_1
                 try clear hx498_0
                 try clear hx498_1
                 try clear hx498_2
                 try clear hx499_0
                 try clear hx499_1
                 try clear hx500_0
                 try clear hx500_1
                 try clear hx500_2
                 try clear p2
                 try clear p498
                 try clear p499
                 try clear p500
                 try clear q498
                 try clear q499
                 try clear q500
                 obtain ⟨kq, x81_39, rfl, HA, HJ39, HO_5, HO_486001, BK485, HB⟩ := hcut
                 cases kq with
                 | zero => exact absurd HA.out (by simp [Qg.j3])
                 | succ kj39 =>
                  have H := HA.out
                  clear HA
                  simp only [Qg.j3] at H
                  have HC44 := Qa.mk H
                  clear H
                  go_upto_if 81 with (fail)
                  go_cut [10] (fun v10 wc => ∃ (kq : Nat) (x10_43 : Int), v10 = .int .i64 x10_43 ∧ Qa (Qg.j4 kq t486 x6_2 x7_3 x8_3 ((Qx t481 ((Qp t486 x8_3).f0)).f0) x10_43 t480 t481 = some r) ∧ Qa (kq <= kj39) ∧ Qa (Kd.R k34 34 wc w.heap.size (fun _ => True) (.slice (some ad498) t486.length co33) t486) ∧ Qa (Kd.Q k42 42 wc w.heap.size (fun _ => True) (.slice (some ad499) t481.length co9) t481) ∧ Qa (wc.heap[gb485]? = some (.cells #[.int .i64 t480, (.slice (some ad499) t481.length co9)] 25 (0, 0))) ∧ Qa (Below w.heap.size w wc))
                  case first => as_aux_lemma =>
                   have H := HC44.out
                   clear HC44
                   by_cases c45 : x81_39 = true
                   ·subst c45
                    have H1 : (Qg.j4 kj39 t486 x6_2 x7_3 x8_3 ((Qx t481 ((Qp t486 x8_3).f0)).f0) (wrap64 (Int.tdiv ((Qp t486 x8_3).f2) 2)) t480 t481) = some r := by rw [if_pos rfl] at H; exact H
                    clear H
                    have H := H1
                    clear H1
                    have H' := Qa.mk H
                    clear H
                    go_wp2
                    go_meet
                    case rel => exact ⟨_, (wrap64 (Int.tdiv ((Qp t486 x8_3).f2) 2)), (by first | rfl | (simp; done) | (simp [*]; done)), H', ⟨by have := HJ4.out; have := HK2.out; have := HK3.out; have := HJ39.out; first | omega | exact Nat.le_refl _⟩, ⟨by (with_reducible repeat apply Kd.Wo); exact HO_5.out⟩, ⟨by (with_reducible repeat apply Kd.Zj); exact HO_486001.out⟩, ⟨by (with_reducible repeat apply Qd); exact BK485.out⟩, ⟨by repeat first | exact HB.out | with_reducible refine Qh ?_ ‹_› | apply Qc | apply Qb⟩⟩
                   ·replace c45 := Bool.eq_false_iff.mpr c45
                    subst c45
                    have H1 : (Qg.j4 kj39 t486 x6_2 x7_3 x8_3 ((Qx t481 ((Qp t486 x8_3).f0)).f0) ((Qp t486 x8_3).f2) t480 t481) = some r := by rw [if_neg (show ¬ (false = true) by decide)] at H; exact H
                    clear H
                    have H := H1
                    clear H1
                    have H' := Qa.mk H
                    clear H
                    go_wp2
                    go_meet
                    case rel => exact ⟨_, (((Qp t486 x8_3).f2)), (by first | rfl | (simp; done) | (simp [*]; done)), H', ⟨by have := HJ4.out; have := HK2.out; have := HK3.out; have := HJ39.out; first | omega | exact Nat.le_refl _⟩, ⟨by (with_reducible repeat apply Kd.Wo); exact HO_5.out⟩, ⟨by (with_reducible repeat apply Kd.Zj); exact HO_486001.out⟩, ⟨by (with_reducible repeat apply Qd); exact BK485.out⟩, ⟨by repeat first | exact HB.out | with_reducible refine Qh ?_ ‹_› | apply Qc | apply Qb⟩⟩
                  case rest => as_aux_lemma =>
                   clear HC44
                   try clear c1
                   try clear c2
                   try clear c2b0
                   try clear c2b1
                   try clear p2
                   try clear c3
                   try clear c4
                   try clear p4
                   try clear q4
                   try clear hx4
                   try clear p5
                   try clear q5
                   try clear hx5
                   try clear c6
                   try clear p6
                   try clear c10
                   try clear c11
                   try clear c12
                   try clear c13
                   try clear c25
                   try clear c32
                   try clear c32b0
                   try clear c34
                   try clear c34b0
                   try clear c36
                   try clear c36b0
                   try clear c37
                   try clear c37b0
                   try clear c38
                   try clear c38b0
                   try clear c39
                   try clear c39b0
                   try clear c42
                   try clear c42b0
                   try clear c42b1
                   try clear c43
                   try clear c43b0
                   try clear c43b1
                   try clear c45
                   try clear hcz15_0
                   try clear hcz15_1
                   try clear hcz19_0
                   try clear hcz19_1
                   try clear hcz21_0
                   try clear hcz21_1
                   try clear hcz28_0
                   try clear hcz28_1
                   try clear hcz8_0
                   try clear hcz8_1
                   try clear hfz15_0
                   try clear hfz15_1
                   try clear hfz19_0
                   try clear hfz19_1
                   try clear hfz21_0
                   try clear hfz21_1
                   try clear hfz28_0
                   try clear hfz28_1
                   try clear hfz8_0
                   try clear hfz8_1
                   try clear hx498_0
                   try clear hx498_1
                   try clear hx498_2
                   try clear hx499_0
                   try clear hx499_1
                   try clear hx500_0
                   try clear hx500_1
                   try clear hx500_2
                   try clear p2
                   try clear p4
                   try clear p498
                   try clear p499
                   try clear p5
                   try clear p500
                   try clear q4
                   try clear q498
                   try clear q499
                   try clear q5
                   try clear q500
                   obtain ⟨kq, x10_43, rfl, HA, HJ43, HO_5, HO_486001, BK485, HB⟩ := hcut
                   cases kq with
                   | zero => exact absurd HA.out (by simp [Qg.j4])
                   | succ kj43 =>
                    have H := HA.out
                    clear HA
                    simp only [Qg.j4] at H
                    by_cases c46 : 0 <= x8_3
                    ·rw [if_pos c46] at H
                     have c46b0 : decide (0 <= x8_3) = true := decide_eq_true c46
                     clear c46
                     by_cases c47 : x8_3 < (t486.length : Int)
                     ·rw [if_pos c47] at H
                      have c47b0 : decide (x8_3 < (t486.length : Int)) = true := decide_eq_true c47
                      clear c47
                      replace H := Option.bind_eq_some_iff.mp H
                      obtain ⟨t503, A480, H⟩ := H
                      replace H : ((Ww.f kj43 t480 t481 ((Qp t486 x8_3).f0) t503).bind fun bt504 => ((Ww.f kj43 t480 t481 ((Qp t486 x8_3).f0) ((Qp t486 x8_3).f1)).bind fun bt510 => (if 0 <= x6_2 then (if x6_2 < (t486.length : Int) then (if ((Qx t481 ((Qp t486 x8_3).f0)).f0) = 4 then (Qg.j5 kj43 t486 x6_2 x7_3 x8_3 ((Qx t481 ((Qp t486 x8_3).f0)).f0) x10_43 bt504.2.2 bt510.2.2 true t480 t481 bt504.1 bt504.2.1 bt510.1 bt510.2.1 ((Qp t486 x6_2).f0) ((Qp t486 x6_2).f1)) else (Qg.j5 kj43 t486 x6_2 x7_3 x8_3 ((Qx t481 ((Qp t486 x8_3).f0)).f0) x10_43 bt504.2.2 bt510.2.2 (((Qx t481 ((Qp t486 x8_3).f0)).f0) == 5) t480 t481 bt504.1 bt504.2.1 bt510.1 bt510.2.1 ((Qp t486 x6_2).f0) ((Qp t486 x6_2).f1))) else (none)) else (none)))) = some r := H
                      have A48 := Qa.mk A480
                      clear A480
                      replace H := Option.bind_eq_some_iff.mp H
                      obtain ⟨⟨t504, t505, t506⟩, A490, H⟩ := H
                      replace H : ((Ww.f kj43 t480 t481 ((Qp t486 x8_3).f0) ((Qp t486 x8_3).f1)).bind fun bt510 => (if 0 <= x6_2 then (if x6_2 < (t486.length : Int) then (if ((Qx t481 ((Qp t486 x8_3).f0)).f0) = 4 then (Qg.j5 kj43 t486 x6_2 x7_3 x8_3 ((Qx t481 ((Qp t486 x8_3).f0)).f0) x10_43 t506 bt510.2.2 true t480 t481 t504 t505 bt510.1 bt510.2.1 ((Qp t486 x6_2).f0) ((Qp t486 x6_2).f1)) else (Qg.j5 kj43 t486 x6_2 x7_3 x8_3 ((Qx t481 ((Qp t486 x8_3).f0)).f0) x10_43 t506 bt510.2.2 (((Qx t481 ((Qp t486 x8_3).f0)).f0) == 5) t480 t481 t504 t505 bt510.1 bt510.2.1 ((Qp t486 x6_2).f0) ((Qp t486 x6_2).f1))) else (none)) else (none))) = some r := H
                      have A49 := Qa.mk A490
                      clear A490
                      replace H := Option.bind_eq_some_iff.mp H
                      obtain ⟨⟨t510, t511, t512⟩, A500, H⟩ := H
                      replace H : (if 0 <= x6_2 then (if x6_2 < (t486.length : Int) then (if ((Qx t481 ((Qp t486 x8_3).f0)).f0) = 4 then (Qg.j5 kj43 t486 x6_2 x7_3 x8_3 ((Qx t481 ((Qp t486 x8_3).f0)).f0) x10_43 t506 t512 true t480 t481 t504 t505 t510 t511 ((Qp t486 x6_2).f0) ((Qp t486 x6_2).f1)) else (Qg.j5 kj43 t486 x6_2 x7_3 x8_3 ((Qx t481 ((Qp t486 x8_3).f0)).f0) x10_43 t506 t512 (((Qx t481 ((Qp t486 x8_3).f0)).f0) == 5) t480 t481 t504 t505 t510 t511 ((Qp t486 x6_2).f0) ((Qp t486 x6_2).f1))) else (none)) else (none)) = some r := H
                      have A50 := Qa.mk A500
                      clear A500
                      by_cases c51 : 0 <= x6_2
                      ·rw [if_pos c51] at H
                       have c51b0 : decide (0 <= x6_2) = true := decide_eq_true c51
                       clear c51
                       by_cases c52 : x6_2 < (t486.length : Int)
                       ·rw [if_pos c52] at H
                        have c52b0 : decide (x6_2 < (t486.length : Int)) = true := decide_eq_true c52
                        clear c52
                        have HC53 := Qa.mk H
                        clear H
                        try go_wp2
                        have n0_ := Qa.mk (Kd.R_drew HO_5.out)
                        have n1_ := Qa.mk (Kd.Q_drew HO_486001.out)
                        have n2_ := Qa.mk (Ye BK485.out)
                        have n3_ := Qa.mk (Qq HB.out)
                        clear HO_5
                        clear HO_486001
                        clear BK485
                        clear HB
                        have HO_5 := n0_
                        have HO_486001 := n1_
                        have BK485 := n2_
                        have HB := n3_
                        clear n0_ n1_ n2_ n3_
                        have p501 : 0 <= (x8_3 : Int) := of_decide_eq_true (by first | (with_reducible assumption) | assumption)
                        have q501 : x8_3 < (t486.length : Int) := of_decide_eq_true (by first | (with_reducible assumption) | assumption)
                        obtain ⟨ad501, e501, hx501_0, hx501_1, hx501_2⟩ := at_T34 (Kd.R_reads' HO_5.out).2.2 x8_3 p501 q501
                        obtain rfl : ad498 = ad501 := (by injection e501)
                        replace p501 := eq_true p501
                        replace q501 := eq_true q501
                        have p502 : 0 <= (x8_3 : Int) := of_decide_eq_true (by first | (with_reducible assumption) | assumption)
                        have q502 : x8_3 < (t486.length : Int) := of_decide_eq_true (by first | (with_reducible assumption) | assumption)
                        obtain ⟨ad502, e502, hx502_0, hx502_1, hx502_2⟩ := at_T34 (Kd.R_reads' HO_5.out).2.2 x8_3 p502 q502
                        obtain rfl : ad498 = ad502 := (by injection e502)
                        replace p502 := eq_true p502
                        replace q502 := eq_true q502
                        refine start_ (n := 20) (S := fun w' => w'.cell? ⟨gb485, 0, none⟩ = some (.int .i64 t480) ∧ w'.cell? ⟨gb485, 1, none⟩ = some (.slice (some ad499) t481.length co9) ∧ w'.cell? (ad498.add ((x8_3).toNat * 3)) = some (.int .i64 ((Qp t486 x8_3).f0)) ∧ w'.cell? ⟨(ad498.add ((x8_3).toNat * 3)).block, (ad498.add ((x8_3).toNat * 3)).off + 1, none⟩ = some (.int .i64 ((Qp t486 x8_3).f1)) ∧ w'.cell? ⟨(ad498.add ((x8_3).toNat * 3)).block, (ad498.add ((x8_3).toNat * 3)).off + 2, none⟩ = some (.int .i64 ((Qp t486 x8_3).f2)) ∧ w'.cell? (ad498.add ((x8_3).toNat * 3)) = some (.int .i64 ((Qp t486 x8_3).f0)) ∧ w'.cell? ⟨(ad498.add ((x8_3).toNat * 3)).block, (ad498.add ((x8_3).toNat * 3)).off + 1, none⟩ = some (.int .i64 ((Qp t486 x8_3).f1)) ∧ w'.cell? ⟨(ad498.add ((x8_3).toNat * 3)).block, (ad498.add ((x8_3).toNat * 3)).off + 2, none⟩ = some (.int .i64 ((Qp t486 x8_3).f2))) (ds := []) #[false, false, false, false, false, false, false, false, false, false, false, false, false, false, false, false, false, false, false, false] (by kernel_rfl) rfl rfl ⟨(Qe BK485.out 0).trans rfl, (Qe BK485.out 1).trans rfl, hx501_0, hx501_1, hx501_2, hx502_0, hx502_1, hx502_2⟩ (fun hHeld => ?_); refine with_tabW Qg.tab18 Qg.bits18 (fun HT_ HW_ => ?_)
                        generalize wc.drew = w54 at HO_5 HO_486001 BK485 HB hx501_0 hx501_1 hx501_2 hx502_0 hx502_1 hx502_2 hHeld ⊢
                        refine Zt (i := 1) (N := some 86) (v := ?_) (a' := ?_) #[false, true, false, false, false, false, false, false, false, false, false, false, false, false, false, false, false, false, false, false] rfl rfl (Zh HT_.out (by kernel_rfl)) (fun _ _ _ h => h) (Or.inl ⟨by rfl, ?_⟩) ?_ ?_
                        rotate_left
                        ·intro w'
                         go_simp
                         with_reducible rfl
                        rotate_left
                        ·simp only [Act.put, sA_, sZ_, sS_, Wp, Ws]
                         rfl
                        refine Zt (i := 2) (N := some 87) (v := ?_) (a' := ?_) #[false, true, true, false, false, false, false, false, false, false, false, false, false, false, false, false, false, false, false, false] rfl rfl (Zh HT_.out (by kernel_rfl)) (fun _ _ _ h => h) (Or.inl ⟨by rfl, ?_⟩) ?_ ?_
                        rotate_left
                        ·intro w'
                         go_simp
                         with_reducible rfl
                        rotate_left
                        ·simp only [Act.put, sA_, sZ_, sS_, Wp, Ws]
                         rfl
                        refine Zt (i := 3) (N := some 88) (v := ?_) (a' := ?_) #[false, true, true, true, false, false, false, false, false, false, false, false, false, false, false, false, false, false, false, false] rfl rfl (Zh HT_.out (by kernel_rfl)) (fun _ _ _ h => h) (Or.inl ⟨by rfl, ?_⟩) ?_ ?_
                        rotate_left
                        ·intro w'
                         go_simp
                         with_reducible rfl
                        rotate_left
                        ·simp only [Act.put, sA_, sZ_, sS_, Wp, Ws]
                         rfl
                        refine Zt (i := 4) (N := some 89) (v := ?_) (a' := ?_) #[false, true, true, true, true, false, false, false, false, false, false, false, false, false, false, false, false, false, false, false] rfl rfl (Zh HT_.out (by kernel_rfl)) (fun _ _ _ h => h) (Or.inl ⟨by rfl, ?_⟩) ?_ ?_
                        rotate_left
                        ·intro w'
                         go_simp
                         with_reducible rfl
                        rotate_left
                        ·simp only [Act.put, sA_, sZ_, sS_, Wp, Ws]
                         rfl
                        refine Zt (i := 6) (N := some 91) (v := ?_) (a' := ?_) #[false, true, true, true, true, false, true, false, false, false, false, false, false, false, false, false, false, false, false, false] rfl rfl (Zh HT_.out (by kernel_rfl)) (fun _ _ _ h => h) (Or.inl ⟨by rfl, ?_⟩) ?_ ?_
                        rotate_left
                        ·intro w'
                         go_simp
                         with_reducible rfl
                        rotate_left
                        ·simp only [Act.put, sA_, sZ_, sS_, Wp, Ws]
                         rfl
                        refine Zt (i := 7) (N := some 92) (v := ?_) (a' := ?_) #[false, true, true, true, true, false, true, true, false, false, false, false, false, false, false, false, false, false, false, false] rfl rfl (Zh HT_.out (by kernel_rfl)) (fun _ _ _ h => h) (Or.inl ⟨by rfl, ?_⟩) ?_ ?_
                        rotate_left
                        ·intro w'
                         go_simp
                         with_reducible rfl
                        rotate_left
                        ·simp only [Act.put, sA_, sZ_, sS_, Wp, Ws]
                         rfl
                        refine Zt (i := 8) (N := some 93) (v := ?_) (a' := ?_) #[false, true, true, true, true, false, true, true, true, false, false, false, false, false, false, false, false, false, false, false] rfl rfl (Zh HT_.out (by kernel_rfl)) (fun _ _ _ h => h) (Or.inl ⟨by rfl, ?_⟩) ?_ ?_
                        rotate_left
                        ·intro w'
                         go_simp
                         with_reducible rfl
                        rotate_left
                        ·simp only [Act.put, sA_, sZ_, sS_, Wp, Ws]
                         rfl
                        refine Zt (i := 9) (N := some 94) (v := ?_) (a' := ?_) #[false, true, true, true, true, false, true, true, true, true, false, false, false, false, false, false, false, false, false, false] rfl rfl (Zh HT_.out (by kernel_rfl)) (fun _ _ _ h => h) (Or.inl ⟨by rfl, ?_⟩) ?_ ?_
                        rotate_left
                        ·intro w'
                         go_simp
                         with_reducible rfl
                        rotate_left
                        ·simp only [Act.put, sA_, sZ_, sS_, Wp, Ws]
                         rfl
                        refine Zt (i := 10) (N := some 95) (v := ?_) (a' := ?_) #[false, true, true, true, true, false, true, true, true, true, true, false, false, false, false, false, false, false, false, false] rfl rfl (Zh HT_.out (by kernel_rfl)) (fun _ _ _ h => h) (Or.inl ⟨by rfl, ?_⟩) ?_ ?_
                        rotate_left
                        ·intro w'
                         go_simp
                         with_reducible rfl
                        rotate_left
                        ·simp only [Act.put, sA_, sZ_, sS_, Wp, Ws]
                         rfl
                        refine Xt (i := 0) (N := some 85) (v := ?_) (a' := ?_) #[true, true, true, true, true, false, true, true, true, true, true, false, false, false, false, false, false, false, false, false] rfl rfl (Yn HT_.out HW_.out (by kernel_rfl)) (fun _ _ _ h => h) (Or.inl ⟨by rfl, ?_⟩) hHeld ?_ ?_
                        rotate_left
                        ·rintro w' ⟨s0, s1, s2, s3, s4, s5, s6, s7⟩
                         go_simp
                         with_reducible rfl
                        rotate_left
                        ·simp only [Act.put, sA_, sZ_, sS_, Wp, Ws]
                         rfl
                        refine Xt (i := 5) (N := some 90) (v := ?_) (a' := ?_) #[true, true, true, true, true, true, true, true, true, true, true, false, false, false, false, false, false, false, false, false] rfl rfl (Yn HT_.out HW_.out (by kernel_rfl)) (fun _ _ _ h => h) (Or.inl ⟨by rfl, ?_⟩) hHeld ?_ ?_
                        rotate_left
                        ·rintro w' ⟨s0, s1, s2, s3, s4, s5, s6, s7⟩
                         go_simp
                         with_reducible rfl
                        rotate_left
                        ·simp only [Act.put, sA_, sZ_, sS_, Wp, Ws]
                         rfl
                        refine Xt (i := 11) (N := some 96) (v := ?_) (a' := ?_) #[true, true, true, true, true, true, true, true, true, true, true, true, false, false, false, false, false, false, false, false] rfl rfl (Yn HT_.out HW_.out (by kernel_rfl)) (fun _ _ _ h => h) (Or.inl ⟨by rfl, ?_⟩) hHeld ?_ ?_
                        rotate_left
                        ·rintro w' ⟨s0, s1, s2, s3, s4, s5, s6, s7⟩
                         go_simp
                         with_reducible rfl
                        rotate_left
                        ·simp only [Act.put, sA_, sZ_, sS_, Wp, Ws]
                         rfl
                        refine join_ (σ := Nat) 2 #[true, true, true, true, true, true, true, true, true, true, true, true, true, true, true, true, true, true, false, false] (fun s_ => [(97, .int .i64 t503), (98, .tuple #[.agg #[.int .i64 t504, .int .i64 t505], .bool t506]), (11, .pointer (some ⟨s_, 0, none⟩)), (84, .tuple #[.agg #[.int .i64 t504, .int .i64 t505], .bool t506]), (99, .agg #[.int .i64 t504, .int .i64 t505]), (100, .bool t506)]) (fun s_ w' => (w'.cell? ⟨gb485, 0, none⟩ = some (.int .i64 t480) ∧ w'.cell? ⟨gb485, 1, none⟩ = some (.slice (some ad499) t481.length co9) ∧ w'.cell? (ad498.add ((x8_3).toNat * 3)) = some (.int .i64 ((Qp t486 x8_3).f0)) ∧ w'.cell? ⟨(ad498.add ((x8_3).toNat * 3)).block, (ad498.add ((x8_3).toNat * 3)).off + 1, none⟩ = some (.int .i64 ((Qp t486 x8_3).f1)) ∧ w'.cell? ⟨(ad498.add ((x8_3).toNat * 3)).block, (ad498.add ((x8_3).toNat * 3)).off + 2, none⟩ = some (.int .i64 ((Qp t486 x8_3).f2)) ∧ w'.cell? (ad498.add ((x8_3).toNat * 3)) = some (.int .i64 ((Qp t486 x8_3).f0)) ∧ w'.cell? ⟨(ad498.add ((x8_3).toNat * 3)).block, (ad498.add ((x8_3).toNat * 3)).off + 1, none⟩ = some (.int .i64 ((Qp t486 x8_3).f1)) ∧ w'.cell? ⟨(ad498.add ((x8_3).toNat * 3)).block, (ad498.add ((x8_3).toNat * 3)).off + 2, none⟩ = some (.int .i64 ((Qp t486 x8_3).f2))) ∧ (Kd.Q k42 42 w' w.heap.size (fun _ => True) (.slice (some ad499) t481.length co9) t481) ∧ (Kd.R k34 34 w' w.heap.size (fun _ => True) (.slice (some ad498) t486.length co33) t486) ∧ (w'.heap[gb485]? = some (.cells #[.int .i64 t480, .slice (some ad499) t481.length co9] 25 (0, 0))) ∧ (w'.heap[s_]? = some (.cells #[.int .i64 0, .int .i64 0] 44 (0, 0))) ∧ (w.heap.size <= s_) ∧ (w.heap.size <= s_) ∧ (gb485 ≠ s_) ∧ (s_ ≠ gb485) ∧ (Below w.heap.size w w')) ?_ ?_
                        rotate_left
                        ·intro hCont
                         refine two_ (i := 12) (j := 17) (Ni := some 97) (Nj := some 11) #[true, true, true, true, true, true, true, true, true, true, true, true, true, false, false, false, false, false, false, false] #[true, true, true, true, true, true, true, true, true, true, true, true, false, false, false, false, false, true, false, false] rfl rfl rfl rfl (two_of HT_.out (by kernel_rfl)) (by decide) (by decide) (fun K hK => ?_) (fun K hK => ?_)
                         ·skip
                          refine goes_ Try.func22 (by kernel_rfl) rfl #[.int .i64 ((Qx t481 ((Qp t486 x8_3).f0)).f0), .int .i64 ((Qp t486 x8_3).f1)] (by rfl) rfl rfl (by first | rfl | (simp only [List.map_toArray, List.map_cons, List.map_nil, List.length_drop, List.length_take]; try rfl)) ?_
                          with_reducible refine (Yc.calls ((Qx t481 ((Qp t486 x8_3).f0)).f0) ((Qp t486 x8_3).f1) t503 _ A48.out).mono ?_
                          rintro e w' ⟨rfl, ⟨nd, rfl⟩⟩
                          refine ⟨_, rfl, ?_⟩
                          refine hK.out _ _ ⟨(Qe BK485.out 0).trans rfl, (Qe BK485.out 1).trans rfl, hHeld.2.2.1, hHeld.2.2.2.1, hHeld.2.2.2.2.1, hHeld.2.2.2.2.2.1, hHeld.2.2.2.2.2.2.1, hHeld.2.2.2.2.2.2.2⟩ (fun hHeld => ?_)
                          clear hK K
                          refine Xp (a' := ?_) ?_ ?_
                          rotate_left
                          ·show Act.put _ (some 97) _ = _
                           simp only [Act.put, sA_, sZ_, sS_, Wp, Ws]
                           rfl
                          refine two_ (i := 13) (j := 17) (Ni := some 98) (Nj := some 11) #[true, true, true, true, true, true, true, true, true, true, true, true, true, true, false, false, false, false, false, false] #[true, true, true, true, true, true, true, true, true, true, true, true, true, false, false, false, false, true, false, false] rfl rfl rfl rfl (two_of HT_.out (by kernel_rfl)) (by decide) (by decide) (fun K hK => ?_) (fun K hK => ?_)
                          ·skip
                           refine goes_ Try.func21 (by kernel_rfl) rfl #[.agg #[.int .i64 t480, .slice (some ad499) t481.length co9], .int .i64 ((Qp t486 x8_3).f0), .int .i64 t503] (by rfl) rfl rfl (by first | rfl | (simp only [List.map_toArray, List.map_cons, List.map_nil, List.length_drop, List.length_take]; try rfl)) ?_
                           with_reducible refine (Ww.calls kj43 t480 _ _ t481 ((Qp t486 x8_3).f0) t503 t504 t505 t506 _ ?side1 ?side2 A49.out).mono ?_
                           (case side1 => repeat (first | exact (Kd.Q_reads' HO_486001.out).2.2 | (with_reducible refine Kd.Zm ?_ _) | (with_reducible refine Kd.Zl ?_ _) | (with_reducible refine Kd.Yb ?_)))
                           (case side2 => exact (Kd.Q_reads' HO_486001.out).2.1)
                           rintro e w55 ⟨rfl, hb⟩
                           have HS2_ := (hb.cell (World.block_lt_of_cell? _ _ (hHeld.2.2.1))).trans (hHeld.2.2.1)
                           have HS3_ := (hb.cell (World.block_lt_of_cell? _ _ (hHeld.2.2.2.1))).trans (hHeld.2.2.2.1)
                           have HS4_ := (hb.cell (World.block_lt_of_cell? _ _ (hHeld.2.2.2.2.1))).trans (hHeld.2.2.2.2.1)
                           have HS5_ := (hb.cell (World.block_lt_of_cell? _ _ (hHeld.2.2.2.2.2.1))).trans (hHeld.2.2.2.2.2.1)
                           have HS6_ := (hb.cell (World.block_lt_of_cell? _ _ (hHeld.2.2.2.2.2.2.1))).trans (hHeld.2.2.2.2.2.2.1)
                           have HS7_ := (hb.cell (World.block_lt_of_cell? _ _ (hHeld.2.2.2.2.2.2.2))).trans (hHeld.2.2.2.2.2.2.2)
                           refine ⟨_, rfl, ?_⟩
                           have n0_ := Qa.mk (Kd.Ze (kR HO_5.out) hb)
                           have n1_ := Qa.mk (Kd.Xo (by (with_reducible repeat apply Kd.Zj); exact HO_486001.out) hb)
                           have n2_ := Qa.mk (Qk (bK BK485.out) hb)
                           have n3_ := Qa.mk (Ql (by repeat first | exact HB.out | with_reducible refine Qh ?_ ‹_› | apply Qc | apply Qb) hb)
                           clear HO_5
                           clear HO_486001
                           clear BK485
                           clear HB
                           have HO_5 := n0_
                           have HO_486001 := n1_
                           have BK485 := n2_
                           have HB := n3_
                           clear n0_ n1_ n2_ n3_
                           (try clear hb)
                           (try clear hb2)
                           (try clear hk)
                           (try clear hi)
                           refine hK.out _ _ ⟨(Qe BK485.out 0).trans rfl, (Qe BK485.out 1).trans rfl, HS2_, HS3_, HS4_, HS5_, HS6_, HS7_⟩ (fun hHeld => ?_)
                           clear hK K
                           refine Xp (a' := ?_) ?_ ?_
                           rotate_left
                           ·show Act.put _ (some 98) _ = _
                            simp only [Act.put, sA_, sZ_, sS_, Wp, Ws]
                            rfl
                           refine Zt (i := 14) (N := some 84) (v := ?_) (a' := ?_) #[true, true, true, true, true, true, true, true, true, true, true, true, true, true, true, false, false, false, false, false] rfl rfl (Zh HT_.out (by kernel_rfl)) (fun _ _ _ h => h) (Or.inl ⟨by rfl, ?_⟩) ?_ ?_
                           rotate_left
                           ·intro w'
                            go_simp
                            with_reducible rfl
                           rotate_left
                           ·simp only [Act.put, sA_, sZ_, sS_, Wp, Ws]
                            rfl
                           refine Zt (i := 15) (N := some 99) (v := ?_) (a' := ?_) #[true, true, true, true, true, true, true, true, true, true, true, true, true, true, true, true, false, false, false, false] rfl rfl (Zh HT_.out (by kernel_rfl)) (fun _ _ _ h => h) (Or.inl ⟨by rfl, ?_⟩) ?_ ?_
                           rotate_left
                           ·intro w'
                            go_simp
                            with_reducible rfl
                           rotate_left
                           ·simp only [Act.put, sA_, sZ_, sS_, Wp, Ws]
                            rfl
                           refine Zt (i := 16) (N := some 100) (v := ?_) (a' := ?_) #[true, true, true, true, true, true, true, true, true, true, true, true, true, true, true, true, true, false, false, false] rfl rfl (Zh HT_.out (by kernel_rfl)) (fun _ _ _ h => h) (Or.inl ⟨by rfl, ?_⟩) ?_ ?_
                           rotate_left
                           ·intro w'
                            go_simp
                            with_reducible rfl
                           rotate_left
                           ·simp only [Act.put, sA_, sZ_, sS_, Wp, Ws]
                            rfl
                           refine one_ (i := 17) (N := some 11) #[true, true, true, true, true, true, true, true, true, true, true, true, true, true, true, true, true, true, false, false] rfl rfl (Xq HT_.out (by kernel_rfl)) (by decide) (fun K hK => ?_)
                           refine box_step ?hg (N := 11) ?hd (cs := #[.int .i64 0, .int .i64 0]) (t := 44) ?hr ?_; (case hd => rfl); (case hg => rfl); (case hr => first | (go_simp; done) | (go_simp; rfl))
                           intro gb507 hg w56 hbox hb
                           have HS2_ := (hb.cell (World.block_lt_of_cell? _ _ (hHeld.2.2.1))).trans (hHeld.2.2.1)
                           have HS3_ := (hb.cell (World.block_lt_of_cell? _ _ (hHeld.2.2.2.1))).trans (hHeld.2.2.2.1)
                           have HS4_ := (hb.cell (World.block_lt_of_cell? _ _ (hHeld.2.2.2.2.1))).trans (hHeld.2.2.2.2.1)
                           have HS5_ := (hb.cell (World.block_lt_of_cell? _ _ (hHeld.2.2.2.2.2.1))).trans (hHeld.2.2.2.2.2.1)
                           have HS6_ := (hb.cell (World.block_lt_of_cell? _ _ (hHeld.2.2.2.2.2.2.1))).trans (hHeld.2.2.2.2.2.2.1)
                           have HS7_ := (hb.cell (World.block_lt_of_cell? _ _ (hHeld.2.2.2.2.2.2.2))).trans (hHeld.2.2.2.2.2.2.2)
                           have n0_ := Qa.mk (Kd.Ze (kR HO_5.out) hb)
                           have n1_ := Qa.mk (Kd.Xo (by (with_reducible repeat apply Kd.Zj); exact HO_486001.out) hb)
                           have n2_ := Qa.mk (Qk (bK BK485.out) hb)
                           have n3_ := Qa.mk (Ql (by repeat first | exact HB.out | with_reducible refine Qh ?_ ‹_› | apply Qc | apply Qb) hb)
                           have n4_ := Qa.mk (hbox)
                           have n5_ := Qa.mk ((by rw [hg]; exact (Qr (by repeat first | exact HB.out | with_reducible refine Qh ?_ ‹_› | apply Qc | apply Qb)) : w.heap.size <= gb507))
                           have n6_ := Qa.mk ((by rw [hg]; exact (Qr (by repeat first | exact HB.out | with_reducible refine Qh ?_ ‹_› | apply Qc | apply Qb)) : w.heap.size <= gb507))
                           have n7_ := Qa.mk ((by rw [hg]; exact Nat.ne_of_lt (Wl (bK BK485.out)) : gb485 ≠ gb507))
                           have n8_ := Qa.mk ((by rw [hg]; exact Nat.ne_of_gt (Wl (bK BK485.out)) : gb507 ≠ gb485))
                           clear HO_5
                           clear HO_486001
                           clear BK485
                           clear HB
                           have HO_5 := n0_
                           have HO_486001 := n1_
                           have BK485 := n2_
                           have HB := n3_
                           have BK507 := n4_
                           have GW507 := n5_
                           have GE507 := n6_
                           have NB485_507 := n7_
                           have NB507_485 := n8_
                           clear n0_ n1_ n2_ n3_ n4_ n5_ n6_ n7_ n8_
                           clear hb hbox hg
                           refine hK.out _ _ ⟨(Qe BK485.out 0).trans rfl, (Qe BK485.out 1).trans rfl, HS2_, HS3_, HS4_, HS5_, HS6_, HS7_⟩ (fun hHeld => ?_)
                           clear hK K
                           refine Xp (a' := ?_) ?_ ?_
                           rotate_left
                           ·show Act.put _ (some 11) _ = _
                            simp only [Act.put, sA_, sZ_, sS_, Wp, Ws]
                            rfl
                           exact Xp (by simp only [putAll, Act.put, List.setIfInBounds_toArray, List.set_cons_zero, List.set_cons_succ]) (hCont (gb507) _ ⟨hHeld, (by (with_reducible repeat apply Kd.Zj); exact HO_486001.out), (kR HO_5.out), (bK BK485.out), (bK BK507.out), GW507.out, GE507.out, NB485_507.out, NB507_485.out, (by repeat first | exact HB.out | with_reducible refine Qh ?_ ‹_› | apply Qc | apply Qb)⟩)
                          ·skip
                           refine box_step ?hg (N := 11) ?hd (cs := #[.int .i64 0, .int .i64 0]) (t := 44) ?hr ?_; (case hd => rfl); (case hg => rfl); (case hr => first | (go_simp; done) | (go_simp; rfl))
                           intro gb507 hg w55 hbox hb
                           have HS2_ := (hb.cell (World.block_lt_of_cell? _ _ (hHeld.2.2.1))).trans (hHeld.2.2.1)
                           have HS3_ := (hb.cell (World.block_lt_of_cell? _ _ (hHeld.2.2.2.1))).trans (hHeld.2.2.2.1)
                           have HS4_ := (hb.cell (World.block_lt_of_cell? _ _ (hHeld.2.2.2.2.1))).trans (hHeld.2.2.2.2.1)
                           have HS5_ := (hb.cell (World.block_lt_of_cell? _ _ (hHeld.2.2.2.2.2.1))).trans (hHeld.2.2.2.2.2.1)
                           have HS6_ := (hb.cell (World.block_lt_of_cell? _ _ (hHeld.2.2.2.2.2.2.1))).trans (hHeld.2.2.2.2.2.2.1)
                           have HS7_ := (hb.cell (World.block_lt_of_cell? _ _ (hHeld.2.2.2.2.2.2.2))).trans (hHeld.2.2.2.2.2.2.2)
                           have n0_ := Qa.mk (Kd.Ze (kR HO_5.out) hb)
                           have n1_ := Qa.mk (Kd.Xo (by (with_reducible repeat apply Kd.Zj); exact HO_486001.out) hb)
                           have n2_ := Qa.mk (Qk (bK BK485.out) hb)
                           have n3_ := Qa.mk (Ql (by repeat first | exact HB.out | with_reducible refine Qh ?_ ‹_› | apply Qc | apply Qb) hb)
                           have n4_ := Qa.mk (hbox)
                           have n5_ := Qa.mk ((by rw [hg]; exact (Qr (by repeat first | exact HB.out | with_reducible refine Qh ?_ ‹_› | apply Qc | apply Qb)) : w.heap.size <= gb507))
                           have n6_ := Qa.mk ((by rw [hg]; exact (Qr (by repeat first | exact HB.out | with_reducible refine Qh ?_ ‹_› | apply Qc | apply Qb)) : w.heap.size <= gb507))
                           have n7_ := Qa.mk ((by rw [hg]; exact Nat.ne_of_lt (Wl (bK BK485.out)) : gb485 ≠ gb507))
                           have n8_ := Qa.mk ((by rw [hg]; exact Nat.ne_of_gt (Wl (bK BK485.out)) : gb507 ≠ gb485))
                           clear HO_5
                           clear HO_486001
                           clear BK485
                           clear HB
                           have HO_5 := n0_
                           have HO_486001 := n1_
                           have BK485 := n2_
                           have HB := n3_
                           have BK507 := n4_
                           have GW507 := n5_
                           have GE507 := n6_
                           have NB485_507 := n7_
                           have NB507_485 := n8_
                           clear n0_ n1_ n2_ n3_ n4_ n5_ n6_ n7_ n8_
                           clear hb hbox hg
                           refine hK.out _ _ ⟨(Qe BK485.out 0).trans rfl, (Qe BK485.out 1).trans rfl, HS2_, HS3_, HS4_, HS5_, HS6_, HS7_⟩ (fun hHeld => ?_)
                           clear hK K
                           refine Xp (a' := ?_) ?_ ?_
                           rotate_left
                           ·show Act.put _ (some 11) _ = _
                            simp only [Act.put, sA_, sZ_, sS_, Wp, Ws]
                            rfl
                           refine one_ (i := 13) (N := some 98) #[true, true, true, true, true, true, true, true, true, true, true, true, true, true, false, false, false, true, false, false] rfl rfl (Xq HT_.out (by kernel_rfl)) (by decide) (fun K hK => ?_)
                           refine goes_ Try.func21 (by kernel_rfl) rfl #[.agg #[.int .i64 t480, .slice (some ad499) t481.length co9], .int .i64 ((Qp t486 x8_3).f0), .int .i64 t503] (by rfl) rfl rfl (by first | rfl | (simp only [List.map_toArray, List.map_cons, List.map_nil, List.length_drop, List.length_take]; try rfl)) ?_
                           with_reducible refine (Ww.calls kj43 t480 _ _ t481 ((Qp t486 x8_3).f0) t503 t504 t505 t506 _ ?side1 ?side2 A49.out).mono ?_
                           (case side1 => repeat (first | exact (Kd.Q_reads' HO_486001.out).2.2 | (with_reducible refine Kd.Zm ?_ _) | (with_reducible refine Kd.Zl ?_ _) | (with_reducible refine Kd.Yb ?_)))
                           (case side2 => exact (Kd.Q_reads' HO_486001.out).2.1)
                           rintro e w56 ⟨rfl, hb⟩
                           have HS2_ := (hb.cell (World.block_lt_of_cell? _ _ (hHeld.2.2.1))).trans (hHeld.2.2.1)
                           have HS3_ := (hb.cell (World.block_lt_of_cell? _ _ (hHeld.2.2.2.1))).trans (hHeld.2.2.2.1)
                           have HS4_ := (hb.cell (World.block_lt_of_cell? _ _ (hHeld.2.2.2.2.1))).trans (hHeld.2.2.2.2.1)
                           have HS5_ := (hb.cell (World.block_lt_of_cell? _ _ (hHeld.2.2.2.2.2.1))).trans (hHeld.2.2.2.2.2.1)
                           have HS6_ := (hb.cell (World.block_lt_of_cell? _ _ (hHeld.2.2.2.2.2.2.1))).trans (hHeld.2.2.2.2.2.2.1)
                           have HS7_ := (hb.cell (World.block_lt_of_cell? _ _ (hHeld.2.2.2.2.2.2.2))).trans (hHeld.2.2.2.2.2.2.2)
                           refine ⟨_, rfl, ?_⟩
                           have n0_ := Qa.mk (Kd.Ze (kR HO_5.out) hb)
                           have n1_ := Qa.mk (Kd.Xo (by (with_reducible repeat apply Kd.Zj); exact HO_486001.out) hb)
                           have n2_ := Qa.mk (Qk (bK BK485.out) hb)
                           have n3_ := Qa.mk (Qk (bK BK507.out) hb)
                           have n4_ := Qa.mk (Ql (by repeat first | exact HB.out | with_reducible refine Qh ?_ ‹_› | apply Qc | apply Qb) hb)
                           clear HO_5
                           clear HO_486001
                           clear BK485
                           clear BK507
                           clear HB
                           have HO_5 := n0_
                           have HO_486001 := n1_
                           have BK485 := n2_
                           have BK507 := n3_
                           have HB := n4_
                           clear n0_ n1_ n2_ n3_ n4_
                           (try clear hb)
                           (try clear hb2)
                           (try clear hk)
                           (try clear hi)
                           refine hK.out _ _ ⟨(Qe BK485.out 0).trans rfl, (Qe BK485.out 1).trans rfl, HS2_, HS3_, HS4_, HS5_, HS6_, HS7_⟩ (fun hHeld => ?_)
                           clear hK K
                           refine Xp (a' := ?_) ?_ ?_
                           rotate_left
                           ·show Act.put _ (some 98) _ = _
                            simp only [Act.put, sA_, sZ_, sS_, Wp, Ws]
                            rfl
                           refine Zt (i := 14) (N := some 84) (v := ?_) (a' := ?_) #[true, true, true, true, true, true, true, true, true, true, true, true, true, true, true, false, false, true, false, false] rfl rfl (Zh HT_.out (by kernel_rfl)) (fun _ _ _ h => h) (Or.inl ⟨by rfl, ?_⟩) ?_ ?_
                           rotate_left
                           ·intro w'
                            go_simp
                            with_reducible rfl
                           rotate_left
                           ·simp only [Act.put, sA_, sZ_, sS_, Wp, Ws]
                            rfl
                           refine Zt (i := 15) (N := some 99) (v := ?_) (a' := ?_) #[true, true, true, true, true, true, true, true, true, true, true, true, true, true, true, true, false, true, false, false] rfl rfl (Zh HT_.out (by kernel_rfl)) (fun _ _ _ h => h) (Or.inl ⟨by rfl, ?_⟩) ?_ ?_
                           rotate_left
                           ·intro w'
                            go_simp
                            with_reducible rfl
                           rotate_left
                           ·simp only [Act.put, sA_, sZ_, sS_, Wp, Ws]
                            rfl
                           refine Zt (i := 16) (N := some 100) (v := ?_) (a' := ?_) #[true, true, true, true, true, true, true, true, true, true, true, true, true, true, true, true, true, true, false, false] rfl rfl (Zh HT_.out (by kernel_rfl)) (fun _ _ _ h => h) (Or.inl ⟨by rfl, ?_⟩) ?_ ?_
                           rotate_left
                           ·intro w'
                            go_simp
                            with_reducible rfl
                           rotate_left
                           ·simp only [Act.put, sA_, sZ_, sS_, Wp, Ws]
                            rfl
                           exact Xp (by simp only [putAll, Act.put, List.setIfInBounds_toArray, List.set_cons_zero, List.set_cons_succ]) (hCont (gb507) _ ⟨hHeld, (by (with_reducible repeat apply Kd.Zj); exact HO_486001.out), (kR HO_5.out), (bK BK485.out), (bK BK507.out), GW507.out, GE507.out, NB485_507.out, NB507_485.out, (by repeat first | exact HB.out | with_reducible refine Qh ?_ ‹_› | apply Qc | apply Qb)⟩)
                         ·skip
                          refine box_step ?hg (N := 11) ?hd (cs := #[.int .i64 0, .int .i64 0]) (t := 44) ?hr ?_; (case hd => rfl); (case hg => rfl); (case hr => first | (go_simp; done) | (go_simp; rfl))
                          intro gb507 hg w55 hbox hb
                          have HS2_ := (hb.cell (World.block_lt_of_cell? _ _ (hHeld.2.2.1))).trans (hHeld.2.2.1)
                          have HS3_ := (hb.cell (World.block_lt_of_cell? _ _ (hHeld.2.2.2.1))).trans (hHeld.2.2.2.1)
                          have HS4_ := (hb.cell (World.block_lt_of_cell? _ _ (hHeld.2.2.2.2.1))).trans (hHeld.2.2.2.2.1)
                          have HS5_ := (hb.cell (World.block_lt_of_cell? _ _ (hHeld.2.2.2.2.2.1))).trans (hHeld.2.2.2.2.2.1)
                          have HS6_ := (hb.cell (World.block_lt_of_cell? _ _ (hHeld.2.2.2.2.2.2.1))).trans (hHeld.2.2.2.2.2.2.1)
                          have HS7_ := (hb.cell (World.block_lt_of_cell? _ _ (hHeld.2.2.2.2.2.2.2))).trans (hHeld.2.2.2.2.2.2.2)
                          have n0_ := Qa.mk (Kd.Ze (kR HO_5.out) hb)
                          have n1_ := Qa.mk (Kd.Xo (by (with_reducible repeat apply Kd.Zj); exact HO_486001.out) hb)
                          have n2_ := Qa.mk (Qk (bK BK485.out) hb)
                          have n3_ := Qa.mk (Ql (by repeat first | exact HB.out | with_reducible refine Qh ?_ ‹_› | apply Qc | apply Qb) hb)
                          have n4_ := Qa.mk (hbox)
                          have n5_ := Qa.mk ((by rw [hg]; exact (Qr (by repeat first | exact HB.out | with_reducible refine Qh ?_ ‹_› | apply Qc | apply Qb)) : w.heap.size <= gb507))
                          have n6_ := Qa.mk ((by rw [hg]; exact (Qr (by repeat first | exact HB.out | with_reducible refine Qh ?_ ‹_› | apply Qc | apply Qb)) : w.heap.size <= gb507))
                          have n7_ := Qa.mk ((by rw [hg]; exact Nat.ne_of_lt (Wl (bK BK485.out)) : gb485 ≠ gb507))
                          have n8_ := Qa.mk ((by rw [hg]; exact Nat.ne_of_gt (Wl (bK BK485.out)) : gb507 ≠ gb485))
                          clear HO_5
                          clear HO_486001
                          clear BK485
                          clear HB
                          have HO_5 := n0_
                          have HO_486001 := n1_
                          have BK485 := n2_
                          have HB := n3_
                          have BK507 := n4_
                          have GW507 := n5_
                          have GE507 := n6_
                          have NB485_507 := n7_
                          have NB507_485 := n8_
                          clear n0_ n1_ n2_ n3_ n4_ n5_ n6_ n7_ n8_
                          clear hb hbox hg
                          refine hK.out _ _ ⟨(Qe BK485.out 0).trans rfl, (Qe BK485.out 1).trans rfl, HS2_, HS3_, HS4_, HS5_, HS6_, HS7_⟩ (fun hHeld => ?_)
                          clear hK K
                          refine Xp (a' := ?_) ?_ ?_
                          rotate_left
                          ·show Act.put _ (some 11) _ = _
                           simp only [Act.put, sA_, sZ_, sS_, Wp, Ws]
                           rfl
                          refine one_ (i := 12) (N := some 97) #[true, true, true, true, true, true, true, true, true, true, true, true, true, false, false, false, false, true, false, false] rfl rfl (Xq HT_.out (by kernel_rfl)) (by decide) (fun K hK => ?_)
                          refine goes_ Try.func22 (by kernel_rfl) rfl #[.int .i64 ((Qx t481 ((Qp t486 x8_3).f0)).f0), .int .i64 ((Qp t486 x8_3).f1)] (by rfl) rfl rfl (by first | rfl | (simp only [List.map_toArray, List.map_cons, List.map_nil, List.length_drop, List.length_take]; try rfl)) ?_
                          with_reducible refine (Yc.calls ((Qx t481 ((Qp t486 x8_3).f0)).f0) ((Qp t486 x8_3).f1) t503 _ A48.out).mono ?_
                          rintro e w' ⟨rfl, ⟨nd, rfl⟩⟩
                          refine ⟨_, rfl, ?_⟩
                          refine hK.out _ _ ⟨(Qe BK485.out 0).trans rfl, (Qe BK485.out 1).trans rfl, hHeld.2.2.1, hHeld.2.2.2.1, hHeld.2.2.2.2.1, hHeld.2.2.2.2.2.1, hHeld.2.2.2.2.2.2.1, hHeld.2.2.2.2.2.2.2⟩ (fun hHeld => ?_)
                          clear hK K
                          refine Xp (a' := ?_) ?_ ?_
                          rotate_left
                          ·show Act.put _ (some 97) _ = _
                           simp only [Act.put, sA_, sZ_, sS_, Wp, Ws]
                           rfl
                          refine one_ (i := 13) (N := some 98) #[true, true, true, true, true, true, true, true, true, true, true, true, true, true, false, false, false, true, false, false] rfl rfl (Xq HT_.out (by kernel_rfl)) (by decide) (fun K hK => ?_)
                          refine goes_ Try.func21 (by kernel_rfl) rfl #[.agg #[.int .i64 t480, .slice (some ad499) t481.length co9], .int .i64 ((Qp t486 x8_3).f0), .int .i64 t503] (by rfl) rfl rfl (by first | rfl | (simp only [List.map_toArray, List.map_cons, List.map_nil, List.length_drop, List.length_take]; try rfl)) ?_
                          with_reducible refine (Ww.calls kj43 t480 _ _ t481 ((Qp t486 x8_3).f0) t503 t504 t505 t506 _ ?side1 ?side2 A49.out).mono ?_
                          (case side1 => repeat (first | exact (Kd.Q_reads' HO_486001.out).2.2 | (with_reducible refine Kd.Zm ?_ _) | (with_reducible refine Kd.Zl ?_ _) | (with_reducible refine Kd.Yb ?_)))
                          (case side2 => exact (Kd.Q_reads' HO_486001.out).2.1)
                          rintro e w56 ⟨rfl, hb⟩
                          have HS2_ := (hb.cell (World.block_lt_of_cell? _ _ (hHeld.2.2.1))).trans (hHeld.2.2.1)
                          have HS3_ := (hb.cell (World.block_lt_of_cell? _ _ (hHeld.2.2.2.1))).trans (hHeld.2.2.2.1)
                          have HS4_ := (hb.cell (World.block_lt_of_cell? _ _ (hHeld.2.2.2.2.1))).trans (hHeld.2.2.2.2.1)
                          have HS5_ := (hb.cell (World.block_lt_of_cell? _ _ (hHeld.2.2.2.2.2.1))).trans (hHeld.2.2.2.2.2.1)
                          have HS6_ := (hb.cell (World.block_lt_of_cell? _ _ (hHeld.2.2.2.2.2.2.1))).trans (hHeld.2.2.2.2.2.2.1)
                          have HS7_ := (hb.cell (World.block_lt_of_cell? _ _ (hHeld.2.2.2.2.2.2.2))).trans (hHeld.2.2.2.2.2.2.2)
                          refine ⟨_, rfl, ?_⟩
                          have n0_ := Qa.mk (Kd.Ze (kR HO_5.out) hb)
                          have n1_ := Qa.mk (Kd.Xo (by (with_reducible repeat apply Kd.Zj); exact HO_486001.out) hb)
                          have n2_ := Qa.mk (Qk (bK BK485.out) hb)
                          have n3_ := Qa.mk (Qk (bK BK507.out) hb)
                          have n4_ := Qa.mk (Ql (by repeat first | exact HB.out | with_reducible refine Qh ?_ ‹_› | apply Qc | apply Qb) hb)
                          clear HO_5
                          clear HO_486001
                          clear BK485
                          clear BK507
                          clear HB
                          have HO_5 := n0_
                          have HO_486001 := n1_
                          have BK485 := n2_
                          have BK507 := n3_
                          have HB := n4_
                          clear n0_ n1_ n2_ n3_ n4_
                          (try clear hb)
                          (try clear hb2)
                          (try clear hk)
                          (try clear hi)
                          refine hK.out _ _ ⟨(Qe BK485.out 0).trans rfl, (Qe BK485.out 1).trans rfl, HS2_, HS3_, HS4_, HS5_, HS6_, HS7_⟩ (fun hHeld => ?_)
                          clear hK K
                          refine Xp (a' := ?_) ?_ ?_
                          rotate_left
                          ·show Act.put _ (some 98) _ = _
                           simp only [Act.put, sA_, sZ_, sS_, Wp, Ws]
                           rfl
                          refine Zt (i := 14) (N := some 84) (v := ?_) (a' := ?_) #[true, true, true, true, true, true, true, true, true, true, true, true, true, true, true, false, false, true, false, false] rfl rfl (Zh HT_.out (by kernel_rfl)) (fun _ _ _ h => h) (Or.inl ⟨by rfl, ?_⟩) ?_ ?_
                          rotate_left
                          ·intro w'
                           go_simp
                           with_reducible rfl
                          rotate_left
                          ·simp only [Act.put, sA_, sZ_, sS_, Wp, Ws]
                           rfl
                          refine Zt (i := 15) (N := some 99) (v := ?_) (a' := ?_) #[true, true, true, true, true, true, true, true, true, true, true, true, true, true, true, true, false, true, false, false] rfl rfl (Zh HT_.out (by kernel_rfl)) (fun _ _ _ h => h) (Or.inl ⟨by rfl, ?_⟩) ?_ ?_
                          rotate_left
                          ·intro w'
                           go_simp
                           with_reducible rfl
                          rotate_left
                          ·simp only [Act.put, sA_, sZ_, sS_, Wp, Ws]
                           rfl
                          refine Zt (i := 16) (N := some 100) (v := ?_) (a' := ?_) #[true, true, true, true, true, true, true, true, true, true, true, true, true, true, true, true, true, true, false, false] rfl rfl (Zh HT_.out (by kernel_rfl)) (fun _ _ _ h => h) (Or.inl ⟨by rfl, ?_⟩) ?_ ?_
                          rotate_left
                          ·intro w'
                           go_simp
                           with_reducible rfl
                          rotate_left
                          ·simp only [Act.put, sA_, sZ_, sS_, Wp, Ws]
                           rfl
                          exact Xp (by simp only [putAll, Act.put, List.setIfInBounds_toArray, List.set_cons_zero, List.set_cons_succ]) (hCont (gb507) _ ⟨hHeld, (by (with_reducible repeat apply Kd.Zj); exact HO_486001.out), (kR HO_5.out), (bK BK485.out), (bK BK507.out), GW507.out, GE507.out, NB485_507.out, NB507_485.out, (by repeat first | exact HB.out | with_reducible refine Qh ?_ ‹_› | apply Qc | apply Qb)⟩)
                        rintro gb507 w57 ⟨hS_, h0_, h1_, h2_, h3_, h4_, h5_, h6_, h7_, h8_⟩
                        have n0_ : Qa (Kd.Q k42 42 w57 w.heap.size (fun _ => True) (.slice (some ad499) t481.length co9) t481) := ⟨h0_⟩
                        have n1_ : Qa (Kd.R k34 34 w57 w.heap.size (fun _ => True) (.slice (some ad498) t486.length co33) t486) := ⟨h1_⟩
                        have n2_ : Qa (w57.heap[gb485]? = some (.cells #[.int .i64 t480, .slice (some ad499) t481.length co9] 25 (0, 0))) := ⟨h2_⟩
                        have n3_ : Qa (w57.heap[gb507]? = some (.cells #[.int .i64 0, .int .i64 0] 44 (0, 0))) := ⟨h3_⟩
                        have n4_ : Qa (w.heap.size <= gb507) := ⟨h4_⟩
                        have n5_ : Qa (w.heap.size <= gb507) := ⟨h5_⟩
                        have n6_ : Qa (gb485 ≠ gb507) := ⟨h6_⟩
                        have n7_ : Qa (gb507 ≠ gb485) := ⟨h7_⟩
                        have n8_ : Qa (Below w.heap.size w w57) := ⟨h8_⟩
                        clear HO_5
                        clear HO_486001
                        clear BK485
                        clear HB
                        clear h0_ h1_ h2_ h3_ h4_ h5_ h6_ h7_ h8_
                        have HO_486001 := n0_
                        have HO_5 := n1_
                        have BK485 := n2_
                        have BK507 := n3_
                        have GW507 := n4_
                        have GE507 := n5_
                        have NB485_507 := n6_
                        have NB507_485 := n7_
                        have HB := n8_
                        clear n0_ n1_ n2_ n3_ n4_ n5_ n6_ n7_ n8_
                        have hHeld : w57.cell? ⟨gb485, 0, none⟩ = some (.int .i64 t480) ∧ w57.cell? ⟨gb485, 1, none⟩ = some (.slice (some ad499) t481.length co9) ∧ w57.cell? (ad498.add ((x8_3).toNat * 3)) = some (.int .i64 ((Qp t486 x8_3).f0)) ∧ w57.cell? ⟨(ad498.add ((x8_3).toNat * 3)).block, (ad498.add ((x8_3).toNat * 3)).off + 1, none⟩ = some (.int .i64 ((Qp t486 x8_3).f1)) ∧ w57.cell? ⟨(ad498.add ((x8_3).toNat * 3)).block, (ad498.add ((x8_3).toNat * 3)).off + 2, none⟩ = some (.int .i64 ((Qp t486 x8_3).f2)) ∧ w57.cell? (ad498.add ((x8_3).toNat * 3)) = some (.int .i64 ((Qp t486 x8_3).f0)) ∧ w57.cell? ⟨(ad498.add ((x8_3).toNat * 3)).block, (ad498.add ((x8_3).toNat * 3)).off + 1, none⟩ = some (.int .i64 ((Qp t486 x8_3).f1)) ∧ w57.cell? ⟨(ad498.add ((x8_3).toNat * 3)).block, (ad498.add ((x8_3).toNat * 3)).off + 2, none⟩ = some (.int .i64 ((Qp t486 x8_3).f2)) := hS_
                        refine Xp (a' := ?_) ?_ ?_
                        rotate_left
                        ·simp only [putAll, Act.put, List.setIfInBounds_toArray, List.set_cons_zero, List.set_cons_succ]
                         rfl
                        refine one_ (i := 18) (N := none) #[true, true, true, true, true, true, true, true, true, true, true, true, true, true, true, true, true, true, true, false] rfl rfl (Xq HT_.out (by kernel_rfl)) (by decide) (fun K hK => ?_)
                        have hs58 : w57.cell? ⟨gb507, 0, none⟩ = some (.int .i64 0) := (Qe BK507.out 0).trans rfl
                        have hfs58 := Qf BK507.out 0
                        have hns58_0 := NB485_507.out
                        have hms58_0 := NB507_485.out
                        have hs59 : w57.cell? ⟨gb507, 1, none⟩ = some (.int .i64 0) := (Qe BK507.out 1).trans rfl
                        have hfs59 := Qf BK507.out 1
                        have hns59_0 := NB485_507.out
                        have hms59_0 := NB507_485.out
                        refine skip_ (w1 := ?_) (by rfl) rfl ?_ ?_
                        rotate_left
                        ·go_simp
                         rfl
                        refine hK.out _ _ ⟨((cell_far (p := ⟨gb507, _, none⟩) NB485_507.out _).trans (((cell_far (p := ⟨gb507, _, none⟩) NB485_507.out _).trans (hHeld.1)))), ((cell_far (p := ⟨gb507, _, none⟩) NB485_507.out _).trans (((cell_far (p := ⟨gb507, _, none⟩) NB485_507.out _).trans (hHeld.2.1)))), ((cell_far (p := ⟨gb507, _, none⟩) (by first | exact Kd.Wh (Kd.R_ne HO_5.out BK507.out (by decide)) | (rw [add_block]; exact Kd.Wh (Kd.R_ne HO_5.out BK507.out (by decide))) | (show (Addr.add _ _).block ≠ _; rw [add_block]; exact Kd.Wh (Kd.R_ne HO_5.out BK507.out (by decide))) | (dsimp only; exact Kd.Wh (Kd.R_ne HO_5.out BK507.out (by decide)))) _).trans (((cell_far (p := ⟨gb507, _, none⟩) (by first | exact Kd.Wh (Kd.R_ne HO_5.out BK507.out (by decide)) | (rw [add_block]; exact Kd.Wh (Kd.R_ne HO_5.out BK507.out (by decide))) | (show (Addr.add _ _).block ≠ _; rw [add_block]; exact Kd.Wh (Kd.R_ne HO_5.out BK507.out (by decide))) | (dsimp only; exact Kd.Wh (Kd.R_ne HO_5.out BK507.out (by decide)))) _).trans (hHeld.2.2.1)))), ((cell_far (p := ⟨gb507, _, none⟩) (by first | exact Kd.Wh (Kd.R_ne HO_5.out BK507.out (by decide)) | (rw [add_block]; exact Kd.Wh (Kd.R_ne HO_5.out BK507.out (by decide))) | (show (Addr.add _ _).block ≠ _; rw [add_block]; exact Kd.Wh (Kd.R_ne HO_5.out BK507.out (by decide))) | (dsimp only; exact Kd.Wh (Kd.R_ne HO_5.out BK507.out (by decide)))) _).trans (((cell_far (p := ⟨gb507, _, none⟩) (by first | exact Kd.Wh (Kd.R_ne HO_5.out BK507.out (by decide)) | (rw [add_block]; exact Kd.Wh (Kd.R_ne HO_5.out BK507.out (by decide))) | (show (Addr.add _ _).block ≠ _; rw [add_block]; exact Kd.Wh (Kd.R_ne HO_5.out BK507.out (by decide))) | (dsimp only; exact Kd.Wh (Kd.R_ne HO_5.out BK507.out (by decide)))) _).trans (hHeld.2.2.2.1)))), ((cell_far (p := ⟨gb507, _, none⟩) (by first | exact Kd.Wh (Kd.R_ne HO_5.out BK507.out (by decide)) | (rw [add_block]; exact Kd.Wh (Kd.R_ne HO_5.out BK507.out (by decide))) | (show (Addr.add _ _).block ≠ _; rw [add_block]; exact Kd.Wh (Kd.R_ne HO_5.out BK507.out (by decide))) | (dsimp only; exact Kd.Wh (Kd.R_ne HO_5.out BK507.out (by decide)))) _).trans (((cell_far (p := ⟨gb507, _, none⟩) (by first | exact Kd.Wh (Kd.R_ne HO_5.out BK507.out (by decide)) | (rw [add_block]; exact Kd.Wh (Kd.R_ne HO_5.out BK507.out (by decide))) | (show (Addr.add _ _).block ≠ _; rw [add_block]; exact Kd.Wh (Kd.R_ne HO_5.out BK507.out (by decide))) | (dsimp only; exact Kd.Wh (Kd.R_ne HO_5.out BK507.out (by decide)))) _).trans (hHeld.2.2.2.2.1)))), ((cell_far (p := ⟨gb507, _, none⟩) (by first | exact Kd.Wh (Kd.R_ne HO_5.out BK507.out (by decide)) | (rw [add_block]; exact Kd.Wh (Kd.R_ne HO_5.out BK507.out (by decide))) | (show (Addr.add _ _).block ≠ _; rw [add_block]; exact Kd.Wh (Kd.R_ne HO_5.out BK507.out (by decide))) | (dsimp only; exact Kd.Wh (Kd.R_ne HO_5.out BK507.out (by decide)))) _).trans (((cell_far (p := ⟨gb507, _, none⟩) (by first | exact Kd.Wh (Kd.R_ne HO_5.out BK507.out (by decide)) | (rw [add_block]; exact Kd.Wh (Kd.R_ne HO_5.out BK507.out (by decide))) | (show (Addr.add _ _).block ≠ _; rw [add_block]; exact Kd.Wh (Kd.R_ne HO_5.out BK507.out (by decide))) | (dsimp only; exact Kd.Wh (Kd.R_ne HO_5.out BK507.out (by decide)))) _).trans (hHeld.2.2.2.2.2.1)))), ((cell_far (p := ⟨gb507, _, none⟩) (by first | exact Kd.Wh (Kd.R_ne HO_5.out BK507.out (by decide)) | (rw [add_block]; exact Kd.Wh (Kd.R_ne HO_5.out BK507.out (by decide))) | (show (Addr.add _ _).block ≠ _; rw [add_block]; exact Kd.Wh (Kd.R_ne HO_5.out BK507.out (by decide))) | (dsimp only; exact Kd.Wh (Kd.R_ne HO_5.out BK507.out (by decide)))) _).trans (((cell_far (p := ⟨gb507, _, none⟩) (by first | exact Kd.Wh (Kd.R_ne HO_5.out BK507.out (by decide)) | (rw [add_block]; exact Kd.Wh (Kd.R_ne HO_5.out BK507.out (by decide))) | (show (Addr.add _ _).block ≠ _; rw [add_block]; exact Kd.Wh (Kd.R_ne HO_5.out BK507.out (by decide))) | (dsimp only; exact Kd.Wh (Kd.R_ne HO_5.out BK507.out (by decide)))) _).trans (hHeld.2.2.2.2.2.2.1)))), ((cell_far (p := ⟨gb507, _, none⟩) (by first | exact Kd.Wh (Kd.R_ne HO_5.out BK507.out (by decide)) | (rw [add_block]; exact Kd.Wh (Kd.R_ne HO_5.out BK507.out (by decide))) | (show (Addr.add _ _).block ≠ _; rw [add_block]; exact Kd.Wh (Kd.R_ne HO_5.out BK507.out (by decide))) | (dsimp only; exact Kd.Wh (Kd.R_ne HO_5.out BK507.out (by decide)))) _).trans (((cell_far (p := ⟨gb507, _, none⟩) (by first | exact Kd.Wh (Kd.R_ne HO_5.out BK507.out (by decide)) | (rw [add_block]; exact Kd.Wh (Kd.R_ne HO_5.out BK507.out (by decide))) | (show (Addr.add _ _).block ≠ _; rw [add_block]; exact Kd.Wh (Kd.R_ne HO_5.out BK507.out (by decide))) | (dsimp only; exact Kd.Wh (Kd.R_ne HO_5.out BK507.out (by decide)))) _).trans (hHeld.2.2.2.2.2.2.2))))⟩ (fun hHeld => ?_)
                        clear hK K
                        refine Zt (i := 19) (N := some 12) (v := ?_) (a' := ?_) #[true, true, true, true, true, true, true, true, true, true, true, true, true, true, true, true, true, true, true, true] rfl rfl (Zh HT_.out (by kernel_rfl)) (fun _ _ _ h => h) (Or.inl ⟨by rfl, ?_⟩) ?_ ?_
                        rotate_left
                        ·intro w'
                         go_simp
                         with_reducible rfl
                        rotate_left
                        ·simp only [Act.put, sA_, sZ_, sS_, Wp, Ws]
                         rfl
                        refine done_ (done_of HT_.out (by kernel_rfl)) ?_
                        try go_wp2
                        have n0_ : Qa (Kd.R k34 34 ((w57.setCell ⟨gb507, 0, none⟩ (.int .i64 t504)).setCell ⟨gb507, 1, none⟩ (.int .i64 t505)) w.heap.size (fun _ => True) (.slice (some ad498) t486.length co33) t486) := ⟨by (with_reducible repeat apply Kd.Wo); exact Kd.Wz (Kd.Zc (p := ⟨gb507, 1, none⟩) (Kd.Zc (p := ⟨gb507, 0, none⟩) (Kd.Zq HO_5.out BK507.out (by decide)) (fun _ hk => hk.2) (.int .i64 t504)) (fun _ hk => hk.2) (.int .i64 t505)) (fun _ hk => trivial)⟩
                        have n1_ : Qa (Kd.Q k42 42 ((w57.setCell ⟨gb507, 0, none⟩ (.int .i64 t504)).setCell ⟨gb507, 1, none⟩ (.int .i64 t505)) w.heap.size (fun _ => True) (.slice (some ad499) t481.length co9) t481) := ⟨by (with_reducible repeat apply Kd.Zj); exact Kd.Q_mono (Kd.Q_far (p := ⟨gb507, 1, none⟩) (Kd.Q_far (p := ⟨gb507, 0, none⟩) (Kd.Q_types HO_486001.out BK507.out (by decide)) (fun _ hk => hk.2) (.int .i64 t504)) (fun _ hk => hk.2) (.int .i64 t505)) (fun _ hk => trivial)⟩
                        have n2_ : Qa (((w57.setCell ⟨gb507, 0, none⟩ (.int .i64 t504)).setCell ⟨gb507, 1, none⟩ (.int .i64 t505)).heap[gb485]? = some (.cells #[.int .i64 t480, .slice (some ad499) t481.length co9] 25 (0, 0))) := ⟨by (with_reducible repeat apply Qd); refine Qo ?_ NB485_507.out _; (with_reducible repeat apply Qd); refine Qo ?_ NB485_507.out _; (with_reducible repeat apply Qd); exact BK485.out⟩
                        have n3_ : Qa (((w57.setCell ⟨gb507, 0, none⟩ (.int .i64 t504)).setCell ⟨gb507, 1, none⟩ (.int .i64 t505)).heap[gb507]? = some (.cells #[.int .i64 t504, .int .i64 t505] 44 (0, 0))) := ⟨by (with_reducible repeat apply Qd); refine Wm (cs := #[.int .i64 t504, .int .i64 0]) ?_ 1 _ rfl; (with_reducible repeat apply Qd); refine Wm (cs := #[.int .i64 0, .int .i64 0]) ?_ 0 _ rfl; (with_reducible repeat apply Qd); exact BK507.out⟩
                        have n4_ : Qa (Below w.heap.size w ((w57.setCell ⟨gb507, 0, none⟩ (.int .i64 t504)).setCell ⟨gb507, 1, none⟩ (.int .i64 t505))) := ⟨by repeat first | exact HB.out | with_reducible refine Qh ?_ ‹_› | apply Qc | apply Qb⟩
                        (try clear HO_5)
                        (try clear HO_486001)
                        (try clear BK485)
                        (try clear BK507)
                        (try clear HB)
                        generalize ((w57.setCell ⟨gb507, 0, none⟩ (.int .i64 t504)).setCell ⟨gb507, 1, none⟩ (.int .i64 t505)) = w60 at n0_ n1_ n2_ n3_ n4_ ⊢
                        have HO_5 := n0_
                        have HO_486001 := n1_
                        have BK485 := n2_
                        have BK507 := n3_
                        have HB := n4_
                        clear n0_ n1_ n2_ n3_ n4_
                        have n0_ := Qa.mk (Kd.R_drew HO_5.out)
                        have n1_ := Qa.mk (Kd.Q_drew HO_486001.out)
                        have n2_ := Qa.mk (Ye BK485.out)
                        have n3_ := Qa.mk (Ye BK507.out)
                        have n4_ := Qa.mk (Qq HB.out)
                        clear HO_5
                        clear HO_486001
                        clear BK485
                        clear BK507
                        clear HB
                        have HO_5 := n0_
                        have HO_486001 := n1_
                        have BK485 := n2_
                        have BK507 := n3_
                        have HB := n4_
                        clear n0_ n1_ n2_ n3_ n4_
                        have p508 : 0 <= (x8_3 : Int) := of_decide_eq_true (by first | (with_reducible assumption) | assumption)
                        have q508 : x8_3 < (t486.length : Int) := of_decide_eq_true (by first | (with_reducible assumption) | assumption)
                        obtain ⟨ad508, e508, hx508_0, hx508_1, hx508_2⟩ := at_T34 (Kd.R_reads' HO_5.out).2.2 x8_3 p508 q508
                        obtain rfl : ad498 = ad508 := (by injection e508)
                        replace p508 := eq_true p508
                        replace q508 := eq_true q508
                        have p509 : 0 <= (x8_3 : Int) := of_decide_eq_true (by first | (with_reducible assumption) | assumption)
                        have q509 : x8_3 < (t486.length : Int) := of_decide_eq_true (by first | (with_reducible assumption) | assumption)
                        obtain ⟨ad509, e509, hx509_0, hx509_1, hx509_2⟩ := at_T34 (Kd.R_reads' HO_5.out).2.2 x8_3 p509 q509
                        obtain rfl : ad498 = ad509 := (by injection e509)
                        replace p509 := eq_true p509
                        replace q509 := eq_true q509
                        refine start_ (n := 18) (S := fun w' => w'.cell? ⟨gb485, 0, none⟩ = some (.int .i64 t480) ∧ w'.cell? ⟨gb485, 1, none⟩ = some (.slice (some ad499) t481.length co9) ∧ w'.cell? (ad498.add ((x8_3).toNat * 3)) = some (.int .i64 ((Qp t486 x8_3).f0)) ∧ w'.cell? ⟨(ad498.add ((x8_3).toNat * 3)).block, (ad498.add ((x8_3).toNat * 3)).off + 1, none⟩ = some (.int .i64 ((Qp t486 x8_3).f1)) ∧ w'.cell? ⟨(ad498.add ((x8_3).toNat * 3)).block, (ad498.add ((x8_3).toNat * 3)).off + 2, none⟩ = some (.int .i64 ((Qp t486 x8_3).f2)) ∧ w'.cell? (ad498.add ((x8_3).toNat * 3)) = some (.int .i64 ((Qp t486 x8_3).f0)) ∧ w'.cell? ⟨(ad498.add ((x8_3).toNat * 3)).block, (ad498.add ((x8_3).toNat * 3)).off + 1, none⟩ = some (.int .i64 ((Qp t486 x8_3).f1)) ∧ w'.cell? ⟨(ad498.add ((x8_3).toNat * 3)).block, (ad498.add ((x8_3).toNat * 3)).off + 2, none⟩ = some (.int .i64 ((Qp t486 x8_3).f2))) (ds := []) #[false, false, false, false, false, false, false, false, false, false, false, false, false, false, false, false, false, false] (by kernel_rfl) rfl rfl ⟨(Qe BK485.out 0).trans rfl, (Qe BK485.out 1).trans rfl, hx508_0, hx508_1, hx508_2, hx509_0, hx509_1, hx509_2⟩ (fun hHeld => ?_); refine with_tabW Qg.tab19 Qg.bits19 (fun HT_ HW_ => ?_)
                        generalize w60.drew = w61 at HO_5 HO_486001 BK485 BK507 HB hx508_0 hx508_1 hx508_2 hx509_0 hx509_1 hx509_2 hHeld ⊢
                        refine Zt (i := 1) (N := some 103) (v := ?_) (a' := ?_) #[false, true, false, false, false, false, false, false, false, false, false, false, false, false, false, false, false, false] rfl rfl (Zh HT_.out (by kernel_rfl)) (fun _ _ _ h => h) (Or.inl ⟨by rfl, ?_⟩) ?_ ?_
                        rotate_left
                        ·intro w'
                         go_simp
                         with_reducible rfl
                        rotate_left
                        ·simp only [Act.put, sA_, sZ_, sS_, Wp, Ws]
                         rfl
                        refine Zt (i := 2) (N := some 104) (v := ?_) (a' := ?_) #[false, true, true, false, false, false, false, false, false, false, false, false, false, false, false, false, false, false] rfl rfl (Zh HT_.out (by kernel_rfl)) (fun _ _ _ h => h) (Or.inl ⟨by rfl, ?_⟩) ?_ ?_
                        rotate_left
                        ·intro w'
                         go_simp
                         with_reducible rfl
                        rotate_left
                        ·simp only [Act.put, sA_, sZ_, sS_, Wp, Ws]
                         rfl
                        refine Zt (i := 3) (N := some 105) (v := ?_) (a' := ?_) #[false, true, true, true, false, false, false, false, false, false, false, false, false, false, false, false, false, false] rfl rfl (Zh HT_.out (by kernel_rfl)) (fun _ _ _ h => h) (Or.inl ⟨by rfl, ?_⟩) ?_ ?_
                        rotate_left
                        ·intro w'
                         go_simp
                         with_reducible rfl
                        rotate_left
                        ·simp only [Act.put, sA_, sZ_, sS_, Wp, Ws]
                         rfl
                        refine Zt (i := 4) (N := some 106) (v := ?_) (a' := ?_) #[false, true, true, true, true, false, false, false, false, false, false, false, false, false, false, false, false, false] rfl rfl (Zh HT_.out (by kernel_rfl)) (fun _ _ _ h => h) (Or.inl ⟨by rfl, ?_⟩) ?_ ?_
                        rotate_left
                        ·intro w'
                         go_simp
                         with_reducible rfl
                        rotate_left
                        ·simp only [Act.put, sA_, sZ_, sS_, Wp, Ws]
                         rfl
                        refine Zt (i := 6) (N := some 108) (v := ?_) (a' := ?_) #[false, true, true, true, true, false, true, false, false, false, false, false, false, false, false, false, false, false] rfl rfl (Zh HT_.out (by kernel_rfl)) (fun _ _ _ h => h) (Or.inl ⟨by rfl, ?_⟩) ?_ ?_
                        rotate_left
                        ·intro w'
                         go_simp
                         with_reducible rfl
                        rotate_left
                        ·simp only [Act.put, sA_, sZ_, sS_, Wp, Ws]
                         rfl
                        refine Zt (i := 7) (N := some 109) (v := ?_) (a' := ?_) #[false, true, true, true, true, false, true, true, false, false, false, false, false, false, false, false, false, false] rfl rfl (Zh HT_.out (by kernel_rfl)) (fun _ _ _ h => h) (Or.inl ⟨by rfl, ?_⟩) ?_ ?_
                        rotate_left
                        ·intro w'
                         go_simp
                         with_reducible rfl
                        rotate_left
                        ·simp only [Act.put, sA_, sZ_, sS_, Wp, Ws]
                         rfl
                        refine Zt (i := 8) (N := some 110) (v := ?_) (a' := ?_) #[false, true, true, true, true, false, true, true, true, false, false, false, false, false, false, false, false, false] rfl rfl (Zh HT_.out (by kernel_rfl)) (fun _ _ _ h => h) (Or.inl ⟨by rfl, ?_⟩) ?_ ?_
                        rotate_left
                        ·intro w'
                         go_simp
                         with_reducible rfl
                        rotate_left
                        ·simp only [Act.put, sA_, sZ_, sS_, Wp, Ws]
                         rfl
                        refine Zt (i := 9) (N := some 111) (v := ?_) (a' := ?_) #[false, true, true, true, true, false, true, true, true, true, false, false, false, false, false, false, false, false] rfl rfl (Zh HT_.out (by kernel_rfl)) (fun _ _ _ h => h) (Or.inl ⟨by rfl, ?_⟩) ?_ ?_
                        rotate_left
                        ·intro w'
                         go_simp
                         with_reducible rfl
                        rotate_left
                        ·simp only [Act.put, sA_, sZ_, sS_, Wp, Ws]
                         rfl
                        refine Xt (i := 0) (N := some 102) (v := ?_) (a' := ?_) #[true, true, true, true, true, false, true, true, true, true, false, false, false, false, false, false, false, false] rfl rfl (Yn HT_.out HW_.out (by kernel_rfl)) (fun _ _ _ h => h) (Or.inl ⟨by rfl, ?_⟩) hHeld ?_ ?_
                        rotate_left
                        ·rintro w' ⟨s0, s1, s2, s3, s4, s5, s6, s7⟩
                         go_simp
                         with_reducible rfl
                        rotate_left
                        ·simp only [Act.put, sA_, sZ_, sS_, Wp, Ws]
                         rfl
                        refine Xt (i := 5) (N := some 107) (v := ?_) (a' := ?_) #[true, true, true, true, true, true, true, true, true, true, false, false, false, false, false, false, false, false] rfl rfl (Yn HT_.out HW_.out (by kernel_rfl)) (fun _ _ _ h => h) (Or.inl ⟨by rfl, ?_⟩) hHeld ?_ ?_
                        rotate_left
                        ·rintro w' ⟨s0, s1, s2, s3, s4, s5, s6, s7⟩
                         go_simp
                         with_reducible rfl
                        rotate_left
                        ·simp only [Act.put, sA_, sZ_, sS_, Wp, Ws]
                         rfl
                        refine Xt (i := 10) (N := some 112) (v := ?_) (a' := ?_) #[true, true, true, true, true, true, true, true, true, true, true, false, false, false, false, false, false, false] rfl rfl (Yn HT_.out HW_.out (by kernel_rfl)) (fun _ _ _ h => h) (Or.inl ⟨by rfl, ?_⟩) hHeld ?_ ?_
                        rotate_left
                        ·rintro w' ⟨s0, s1, s2, s3, s4, s5, s6, s7⟩
                         go_simp
                         with_reducible rfl
                        rotate_left
                        ·simp only [Act.put, sA_, sZ_, sS_, Wp, Ws]
                         rfl
                        refine join_ (σ := Nat) 2 #[true, true, true, true, true, true, true, true, true, true, true, true, true, true, true, true, false, false] (fun s_ => [(113, .tuple #[.agg #[.int .i64 t510, .int .i64 t511], .bool t512]), (13, .pointer (some ⟨s_, 0, none⟩)), (101, .tuple #[.agg #[.int .i64 t510, .int .i64 t511], .bool t512]), (114, .agg #[.int .i64 t510, .int .i64 t511]), (115, .bool t512)]) (fun s_ w' => (w'.cell? ⟨gb485, 0, none⟩ = some (.int .i64 t480) ∧ w'.cell? ⟨gb485, 1, none⟩ = some (.slice (some ad499) t481.length co9) ∧ w'.cell? (ad498.add ((x8_3).toNat * 3)) = some (.int .i64 ((Qp t486 x8_3).f0)) ∧ w'.cell? ⟨(ad498.add ((x8_3).toNat * 3)).block, (ad498.add ((x8_3).toNat * 3)).off + 1, none⟩ = some (.int .i64 ((Qp t486 x8_3).f1)) ∧ w'.cell? ⟨(ad498.add ((x8_3).toNat * 3)).block, (ad498.add ((x8_3).toNat * 3)).off + 2, none⟩ = some (.int .i64 ((Qp t486 x8_3).f2)) ∧ w'.cell? (ad498.add ((x8_3).toNat * 3)) = some (.int .i64 ((Qp t486 x8_3).f0)) ∧ w'.cell? ⟨(ad498.add ((x8_3).toNat * 3)).block, (ad498.add ((x8_3).toNat * 3)).off + 1, none⟩ = some (.int .i64 ((Qp t486 x8_3).f1)) ∧ w'.cell? ⟨(ad498.add ((x8_3).toNat * 3)).block, (ad498.add ((x8_3).toNat * 3)).off + 2, none⟩ = some (.int .i64 ((Qp t486 x8_3).f2))) ∧ (Kd.Q k42 42 w' w.heap.size (fun _ => True) (.slice (some ad499) t481.length co9) t481) ∧ (Kd.R k34 34 w' w.heap.size (fun _ => True) (.slice (some ad498) t486.length co33) t486) ∧ (w'.heap[gb485]? = some (.cells #[.int .i64 t480, .slice (some ad499) t481.length co9] 25 (0, 0))) ∧ (w'.heap[gb507]? = some (.cells #[.int .i64 t504, .int .i64 t505] 44 (0, 0))) ∧ (w'.heap[s_]? = some (.cells #[.int .i64 0, .int .i64 0] 44 (0, 0))) ∧ (w.heap.size <= s_) ∧ (w.heap.size <= s_) ∧ (gb485 ≠ s_) ∧ (s_ ≠ gb485) ∧ (gb507 ≠ s_) ∧ (s_ ≠ gb507) ∧ (Below w.heap.size w w')) ?_ ?_
                        rotate_left
                        ·intro hCont
                         refine two_ (i := 11) (j := 15) (Ni := some 113) (Nj := some 13) #[true, true, true, true, true, true, true, true, true, true, true, true, false, false, false, false, false, false] #[true, true, true, true, true, true, true, true, true, true, true, false, false, false, false, true, false, false] rfl rfl rfl rfl (two_of HT_.out (by kernel_rfl)) (by decide) (by decide) (fun K hK => ?_) (fun K hK => ?_)
                         ·skip
                          refine goes_ Try.func21 (by kernel_rfl) rfl #[.agg #[.int .i64 t480, .slice (some ad499) t481.length co9], .int .i64 ((Qp t486 x8_3).f0), .int .i64 ((Qp t486 x8_3).f1)] (by rfl) rfl rfl (by first | rfl | (simp only [List.map_toArray, List.map_cons, List.map_nil, List.length_drop, List.length_take]; try rfl)) ?_
                          with_reducible refine (Ww.calls kj43 t480 _ _ t481 ((Qp t486 x8_3).f0) ((Qp t486 x8_3).f1) t510 t511 t512 _ ?side1 ?side2 A50.out).mono ?_
                          (case side1 => repeat (first | exact (Kd.Q_reads' HO_486001.out).2.2 | (with_reducible refine Kd.Zm ?_ _) | (with_reducible refine Kd.Zl ?_ _) | (with_reducible refine Kd.Yb ?_)))
                          (case side2 => exact (Kd.Q_reads' HO_486001.out).2.1)
                          rintro e w62 ⟨rfl, hb⟩
                          have HS2_ := (hb.cell (World.block_lt_of_cell? _ _ (hHeld.2.2.1))).trans (hHeld.2.2.1)
                          have HS3_ := (hb.cell (World.block_lt_of_cell? _ _ (hHeld.2.2.2.1))).trans (hHeld.2.2.2.1)
                          have HS4_ := (hb.cell (World.block_lt_of_cell? _ _ (hHeld.2.2.2.2.1))).trans (hHeld.2.2.2.2.1)
                          have HS5_ := (hb.cell (World.block_lt_of_cell? _ _ (hHeld.2.2.2.2.2.1))).trans (hHeld.2.2.2.2.2.1)
                          have HS6_ := (hb.cell (World.block_lt_of_cell? _ _ (hHeld.2.2.2.2.2.2.1))).trans (hHeld.2.2.2.2.2.2.1)
                          have HS7_ := (hb.cell (World.block_lt_of_cell? _ _ (hHeld.2.2.2.2.2.2.2))).trans (hHeld.2.2.2.2.2.2.2)
                          refine ⟨_, rfl, ?_⟩
                          have n0_ := Qa.mk (Kd.Ze (kR HO_5.out) hb)
                          have n1_ := Qa.mk (Kd.Xo (by (with_reducible repeat apply Kd.Zj); exact HO_486001.out) hb)
                          have n2_ := Qa.mk (Qk (bK BK485.out) hb)
                          have n3_ := Qa.mk (Qk (bK BK507.out) hb)
                          have n4_ := Qa.mk (Ql (by repeat first | exact HB.out | with_reducible refine Qh ?_ ‹_› | apply Qc | apply Qb) hb)
                          clear HO_5
                          clear HO_486001
                          clear BK485
                          clear BK507
                          clear HB
                          have HO_5 := n0_
                          have HO_486001 := n1_
                          have BK485 := n2_
                          have BK507 := n3_
                          have HB := n4_
                          clear n0_ n1_ n2_ n3_ n4_
                          (try clear hb)
                          (try clear hb2)
                          (try clear hk)
                          (try clear hi)
                          refine hK.out _ _ ⟨(Qe BK485.out 0).trans rfl, (Qe BK485.out 1).trans rfl, HS2_, HS3_, HS4_, HS5_, HS6_, HS7_⟩ (fun hHeld => ?_)
                          clear hK K
                          refine Xp (a' := ?_) ?_ ?_
                          rotate_left
                          ·show Act.put _ (some 113) _ = _
                           simp only [Act.put, sA_, sZ_, sS_, Wp, Ws]
                           rfl
                          refine Zt (i := 12) (N := some 101) (v := ?_) (a' := ?_) #[true, true, true, true, true, true, true, true, true, true, true, true, true, false, false, false, false, false] rfl rfl (Zh HT_.out (by kernel_rfl)) (fun _ _ _ h => h) (Or.inl ⟨by rfl, ?_⟩) ?_ ?_
                          rotate_left
                          ·intro w'
                           go_simp
                           with_reducible rfl
                          rotate_left
                          ·simp only [Act.put, sA_, sZ_, sS_, Wp, Ws]
                           rfl
                          refine Zt (i := 13) (N := some 114) (v := ?_) (a' := ?_) #[true, true, true, true, true, true, true, true, true, true, true, true, true, true, false, false, false, false] rfl rfl (Zh HT_.out (by kernel_rfl)) (fun _ _ _ h => h) (Or.inl ⟨by rfl, ?_⟩) ?_ ?_
                          rotate_left
                          ·intro w'
                           go_simp
                           with_reducible rfl
                          rotate_left
                          ·simp only [Act.put, sA_, sZ_, sS_, Wp, Ws]
                           rfl
                          refine Zt (i := 14) (N := some 115) (v := ?_) (a' := ?_) #[true, true, true, true, true, true, true, true, true, true, true, true, true, true, true, false, false, false] rfl rfl (Zh HT_.out (by kernel_rfl)) (fun _ _ _ h => h) (Or.inl ⟨by rfl, ?_⟩) ?_ ?_
                          rotate_left
                          ·intro w'
                           go_simp
                           with_reducible rfl
                          rotate_left
                          ·simp only [Act.put, sA_, sZ_, sS_, Wp, Ws]
                           rfl
                          refine one_ (i := 15) (N := some 13) #[true, true, true, true, true, true, true, true, true, true, true, true, true, true, true, true, false, false] rfl rfl (Xq HT_.out (by kernel_rfl)) (by decide) (fun K hK => ?_)
                          refine box_step ?hg (N := 13) ?hd (cs := #[.int .i64 0, .int .i64 0]) (t := 44) ?hr ?_; (case hd => rfl); (case hg => rfl); (case hr => first | (go_simp; done) | (go_simp; rfl))
                          intro gb513 hg w63 hbox hb
                          have HS2_ := (hb.cell (World.block_lt_of_cell? _ _ (hHeld.2.2.1))).trans (hHeld.2.2.1)
                          have HS3_ := (hb.cell (World.block_lt_of_cell? _ _ (hHeld.2.2.2.1))).trans (hHeld.2.2.2.1)
                          have HS4_ := (hb.cell (World.block_lt_of_cell? _ _ (hHeld.2.2.2.2.1))).trans (hHeld.2.2.2.2.1)
                          have HS5_ := (hb.cell (World.block_lt_of_cell? _ _ (hHeld.2.2.2.2.2.1))).trans (hHeld.2.2.2.2.2.1)
                          have HS6_ := (hb.cell (World.block_lt_of_cell? _ _ (hHeld.2.2.2.2.2.2.1))).trans (hHeld.2.2.2.2.2.2.1)
                          have HS7_ := (hb.cell (World.block_lt_of_cell? _ _ (hHeld.2.2.2.2.2.2.2))).trans (hHeld.2.2.2.2.2.2.2)
                          have n0_ := Qa.mk (Kd.Ze (kR HO_5.out) hb)
                          have n1_ := Qa.mk (Kd.Xo (by (with_reducible repeat apply Kd.Zj); exact HO_486001.out) hb)
                          have n2_ := Qa.mk (Qk (bK BK485.out) hb)
                          have n3_ := Qa.mk (Qk (bK BK507.out) hb)
                          have n4_ := Qa.mk (Ql (by repeat first | exact HB.out | with_reducible refine Qh ?_ ‹_› | apply Qc | apply Qb) hb)
                          have n5_ := Qa.mk (hbox)
                          have n6_ := Qa.mk ((by rw [hg]; exact (Qr (by repeat first | exact HB.out | with_reducible refine Qh ?_ ‹_› | apply Qc | apply Qb)) : w.heap.size <= gb513))
                          have n7_ := Qa.mk ((by rw [hg]; exact (Qr (by repeat first | exact HB.out | with_reducible refine Qh ?_ ‹_› | apply Qc | apply Qb)) : w.heap.size <= gb513))
                          have n8_ := Qa.mk ((by rw [hg]; exact Nat.ne_of_lt (Wl (bK BK485.out)) : gb485 ≠ gb513))
                          have n9_ := Qa.mk ((by rw [hg]; exact Nat.ne_of_gt (Wl (bK BK485.out)) : gb513 ≠ gb485))
                          have n10_ := Qa.mk ((by rw [hg]; exact Nat.ne_of_lt (Wl (bK BK507.out)) : gb507 ≠ gb513))
                          have n11_ := Qa.mk ((by rw [hg]; exact Nat.ne_of_gt (Wl (bK BK507.out)) : gb513 ≠ gb507))
                          clear HO_5
                          clear HO_486001
                          clear BK485
                          clear BK507
                          clear HB
                          have HO_5 := n0_
                          have HO_486001 := n1_
                          have BK485 := n2_
                          have BK507 := n3_
                          have HB := n4_
                          have BK513 := n5_
                          have GW513 := n6_
                          have GE513 := n7_
                          have NB485_513 := n8_
                          have NB513_485 := n9_
                          have NB507_513 := n10_
                          have NB513_507 := n11_
                          clear n0_ n1_ n2_ n3_ n4_ n5_ n6_ n7_ n8_ n9_ n10_ n11_
                          clear hb hbox hg
                          refine hK.out _ _ ⟨(Qe BK485.out 0).trans rfl, (Qe BK485.out 1).trans rfl, HS2_, HS3_, HS4_, HS5_, HS6_, HS7_⟩ (fun hHeld => ?_)
                          clear hK K
                          refine Xp (a' := ?_) ?_ ?_
                          rotate_left
                          ·show Act.put _ (some 13) _ = _
                           simp only [Act.put, sA_, sZ_, sS_, Wp, Ws]
                           rfl
                          exact Xp (by simp only [putAll, Act.put, List.setIfInBounds_toArray, List.set_cons_zero, List.set_cons_succ]) (hCont (gb513) _ ⟨hHeld, (by (with_reducible repeat apply Kd.Zj); exact HO_486001.out), (kR HO_5.out), (bK BK485.out), (bK BK507.out), (bK BK513.out), GW513.out, GE513.out, NB485_513.out, NB513_485.out, NB507_513.out, NB513_507.out, (by repeat first | exact HB.out | with_reducible refine Qh ?_ ‹_› | apply Qc | apply Qb)⟩)
                         ·skip
                          refine box_step ?hg (N := 13) ?hd (cs := #[.int .i64 0, .int .i64 0]) (t := 44) ?hr ?_; (case hd => rfl); (case hg => rfl); (case hr => first | (go_simp; done) | (go_simp; rfl))
                          intro gb513 hg w62 hbox hb
                          have HS2_ := (hb.cell (World.block_lt_of_cell? _ _ (hHeld.2.2.1))).trans (hHeld.2.2.1)
                          have HS3_ := (hb.cell (World.block_lt_of_cell? _ _ (hHeld.2.2.2.1))).trans (hHeld.2.2.2.1)
                          have HS4_ := (hb.cell (World.block_lt_of_cell? _ _ (hHeld.2.2.2.2.1))).trans (hHeld.2.2.2.2.1)
                          have HS5_ := (hb.cell (World.block_lt_of_cell? _ _ (hHeld.2.2.2.2.2.1))).trans (hHeld.2.2.2.2.2.1)
                          have HS6_ := (hb.cell (World.block_lt_of_cell? _ _ (hHeld.2.2.2.2.2.2.1))).trans (hHeld.2.2.2.2.2.2.1)
                          have HS7_ := (hb.cell (World.block_lt_of_cell? _ _ (hHeld.2.2.2.2.2.2.2))).trans (hHeld.2.2.2.2.2.2.2)
                          have n0_ := Qa.mk (Kd.Ze (kR HO_5.out) hb)
                          have n1_ := Qa.mk (Kd.Xo (by (with_reducible repeat apply Kd.Zj); exact HO_486001.out) hb)
                          have n2_ := Qa.mk (Qk (bK BK485.out) hb)
                          have n3_ := Qa.mk (Qk (bK BK507.out) hb)
                          have n4_ := Qa.mk (Ql (by repeat first | exact HB.out | with_reducible refine Qh ?_ ‹_› | apply Qc | apply Qb) hb)
                          have n5_ := Qa.mk (hbox)
                          have n6_ := Qa.mk ((by rw [hg]; exact (Qr (by repeat first | exact HB.out | with_reducible refine Qh ?_ ‹_› | apply Qc | apply Qb)) : w.heap.size <= gb513))
                          have n7_ := Qa.mk ((by rw [hg]; exact (Qr (by repeat first | exact HB.out | with_reducible refine Qh ?_ ‹_› | apply Qc | apply Qb)) : w.heap.size <= gb513))
                          have n8_ := Qa.mk ((by rw [hg]; exact Nat.ne_of_lt (Wl (bK BK485.out)) : gb485 ≠ gb513))
                          have n9_ := Qa.mk ((by rw [hg]; exact Nat.ne_of_gt (Wl (bK BK485.out)) : gb513 ≠ gb485))
                          have n10_ := Qa.mk ((by rw [hg]; exact Nat.ne_of_lt (Wl (bK BK507.out)) : gb507 ≠ gb513))
                          have n11_ := Qa.mk ((by rw [hg]; exact Nat.ne_of_gt (Wl (bK BK507.out)) : gb513 ≠ gb507))
                          clear HO_5
                          clear HO_486001
                          clear BK485
                          clear BK507
                          clear HB
                          have HO_5 := n0_
                          have HO_486001 := n1_
                          have BK485 := n2_
                          have BK507 := n3_
                          have HB := n4_
                          have BK513 := n5_
                          have GW513 := n6_
                          have GE513 := n7_
                          have NB485_513 := n8_
                          have NB513_485 := n9_
                          have NB507_513 := n10_
                          have NB513_507 := n11_
                          clear n0_ n1_ n2_ n3_ n4_ n5_ n6_ n7_ n8_ n9_ n10_ n11_
                          clear hb hbox hg
                          refine hK.out _ _ ⟨(Qe BK485.out 0).trans rfl, (Qe BK485.out 1).trans rfl, HS2_, HS3_, HS4_, HS5_, HS6_, HS7_⟩ (fun hHeld => ?_)
                          clear hK K
                          refine Xp (a' := ?_) ?_ ?_
                          rotate_left
                          ·show Act.put _ (some 13) _ = _
                           simp only [Act.put, sA_, sZ_, sS_, Wp, Ws]
                           rfl
                          refine one_ (i := 11) (N := some 113) #[true, true, true, true, true, true, true, true, true, true, true, true, false, false, false, true, false, false] rfl rfl (Xq HT_.out (by kernel_rfl)) (by decide) (fun K hK => ?_)
                          refine goes_ Try.func21 (by kernel_rfl) rfl #[.agg #[.int .i64 t480, .slice (some ad499) t481.length co9], .int .i64 ((Qp t486 x8_3).f0), .int .i64 ((Qp t486 x8_3).f1)] (by rfl) rfl rfl (by first | rfl | (simp only [List.map_toArray, List.map_cons, List.map_nil, List.length_drop, List.length_take]; try rfl)) ?_
                          with_reducible refine (Ww.calls kj43 t480 _ _ t481 ((Qp t486 x8_3).f0) ((Qp t486 x8_3).f1) t510 t511 t512 _ ?side1 ?side2 A50.out).mono ?_
                          (case side1 => repeat (first | exact (Kd.Q_reads' HO_486001.out).2.2 | (with_reducible refine Kd.Zm ?_ _) | (with_reducible refine Kd.Zl ?_ _) | (with_reducible refine Kd.Yb ?_)))
                          (case side2 => exact (Kd.Q_reads' HO_486001.out).2.1)
                          rintro e w63 ⟨rfl, hb⟩
                          have HS2_ := (hb.cell (World.block_lt_of_cell? _ _ (hHeld.2.2.1))).trans (hHeld.2.2.1)
                          have HS3_ := (hb.cell (World.block_lt_of_cell? _ _ (hHeld.2.2.2.1))).trans (hHeld.2.2.2.1)
                          have HS4_ := (hb.cell (World.block_lt_of_cell? _ _ (hHeld.2.2.2.2.1))).trans (hHeld.2.2.2.2.1)
                          have HS5_ := (hb.cell (World.block_lt_of_cell? _ _ (hHeld.2.2.2.2.2.1))).trans (hHeld.2.2.2.2.2.1)
                          have HS6_ := (hb.cell (World.block_lt_of_cell? _ _ (hHeld.2.2.2.2.2.2.1))).trans (hHeld.2.2.2.2.2.2.1)
                          have HS7_ := (hb.cell (World.block_lt_of_cell? _ _ (hHeld.2.2.2.2.2.2.2))).trans (hHeld.2.2.2.2.2.2.2)
                          refine ⟨_, rfl, ?_⟩
                          have n0_ := Qa.mk (Kd.Ze (kR HO_5.out) hb)
                          have n1_ := Qa.mk (Kd.Xo (by (with_reducible repeat apply Kd.Zj); exact HO_486001.out) hb)
                          have n2_ := Qa.mk (Qk (bK BK485.out) hb)
                          have n3_ := Qa.mk (Qk (bK BK507.out) hb)
                          have n4_ := Qa.mk (Qk (bK BK513.out) hb)
                          have n5_ := Qa.mk (Ql (by repeat first | exact HB.out | with_reducible refine Qh ?_ ‹_› | apply Qc | apply Qb) hb)
                          clear HO_5
                          clear HO_486001
                          clear BK485
                          clear BK507
                          clear BK513
                          clear HB
                          have HO_5 := n0_
                          have HO_486001 := n1_
                          have BK485 := n2_
                          have BK507 := n3_
                          have BK513 := n4_
                          have HB := n5_
                          clear n0_ n1_ n2_ n3_ n4_ n5_
                          (try clear hb)
                          (try clear hb2)
                          (try clear hk)
                          (try clear hi)
                          refine hK.out _ _ ⟨(Qe BK485.out 0).trans rfl, (Qe BK485.out 1).trans rfl, HS2_, HS3_, HS4_, HS5_, HS6_, HS7_⟩ (fun hHeld => ?_)
                          clear hK K
                          refine Xp (a' := ?_) ?_ ?_
                          rotate_left
                          ·show Act.put _ (some 113) _ = _
                           simp only [Act.put, sA_, sZ_, sS_, Wp, Ws]
                           rfl
                          refine Zt (i := 12) (N := some 101) (v := ?_) (a' := ?_) #[true, true, true, true, true, true, true, true, true, true, true, true, true, false, false, true, false, false] rfl rfl (Zh HT_.out (by kernel_rfl)) (fun _ _ _ h => h) (Or.inl ⟨by rfl, ?_⟩) ?_ ?_
                          rotate_left
                          ·intro w'
                           go_simp
                           with_reducible rfl
                          rotate_left
                          ·simp only [Act.put, sA_, sZ_, sS_, Wp, Ws]
                           rfl
                          refine Zt (i := 13) (N := some 114) (v := ?_) (a' := ?_) #[true, true, true, true, true, true, true, true, true, true, true, true, true, true, false, true, false, false] rfl rfl (Zh HT_.out (by kernel_rfl)) (fun _ _ _ h => h) (Or.inl ⟨by rfl, ?_⟩) ?_ ?_
                          rotate_left
                          ·intro w'
                           go_simp
                           with_reducible rfl
                          rotate_left
                          ·simp only [Act.put, sA_, sZ_, sS_, Wp, Ws]
                           rfl
                          refine Zt (i := 14) (N := some 115) (v := ?_) (a' := ?_) #[true, true, true, true, true, true, true, true, true, true, true, true, true, true, true, true, false, false] rfl rfl (Zh HT_.out (by kernel_rfl)) (fun _ _ _ h => h) (Or.inl ⟨by rfl, ?_⟩) ?_ ?_
                          rotate_left
                          ·intro w'
                           go_simp
                           with_reducible rfl
                          rotate_left
                          ·simp only [Act.put, sA_, sZ_, sS_, Wp, Ws]
                           rfl
                          exact Xp (by simp only [putAll, Act.put, List.setIfInBounds_toArray, List.set_cons_zero, List.set_cons_succ]) (hCont (gb513) _ ⟨hHeld, (by (with_reducible repeat apply Kd.Zj); exact HO_486001.out), (kR HO_5.out), (bK BK485.out), (bK BK507.out), (bK BK513.out), GW513.out, GE513.out, NB485_513.out, NB513_485.out, NB507_513.out, NB513_507.out, (by repeat first | exact HB.out | with_reducible refine Qh ?_ ‹_› | apply Qc | apply Qb)⟩)
                        rintro gb513 w64 ⟨hS_, h0_, h1_, h2_, h3_, h4_, h5_, h6_, h7_, h8_, h9_, h10_, h11_⟩
                        have n0_ : Qa (Kd.Q k42 42 w64 w.heap.size (fun _ => True) (.slice (some ad499) t481.length co9) t481) := ⟨h0_⟩
                        have n1_ : Qa (Kd.R k34 34 w64 w.heap.size (fun _ => True) (.slice (some ad498) t486.length co33) t486) := ⟨h1_⟩
                        have n2_ : Qa (w64.heap[gb485]? = some (.cells #[.int .i64 t480, .slice (some ad499) t481.length co9] 25 (0, 0))) := ⟨h2_⟩
                        have n3_ : Qa (w64.heap[gb507]? = some (.cells #[.int .i64 t504, .int .i64 t505] 44 (0, 0))) := ⟨h3_⟩
                        have n4_ : Qa (w64.heap[gb513]? = some (.cells #[.int .i64 0, .int .i64 0] 44 (0, 0))) := ⟨h4_⟩
                        have n5_ : Qa (w.heap.size <= gb513) := ⟨h5_⟩
                        have n6_ : Qa (w.heap.size <= gb513) := ⟨h6_⟩
                        have n7_ : Qa (gb485 ≠ gb513) := ⟨h7_⟩
                        have n8_ : Qa (gb513 ≠ gb485) := ⟨h8_⟩
                        have n9_ : Qa (gb507 ≠ gb513) := ⟨h9_⟩
                        have n10_ : Qa (gb513 ≠ gb507) := ⟨h10_⟩
                        have n11_ : Qa (Below w.heap.size w w64) := ⟨h11_⟩
                        clear HO_5
                        clear HO_486001
                        clear BK485
                        clear BK507
                        clear HB
                        clear h0_ h1_ h2_ h3_ h4_ h5_ h6_ h7_ h8_ h9_ h10_ h11_
                        have HO_486001 := n0_
                        have HO_5 := n1_
                        have BK485 := n2_
                        have BK507 := n3_
                        have BK513 := n4_
                        have GW513 := n5_
                        have GE513 := n6_
                        have NB485_513 := n7_
                        have NB513_485 := n8_
                        have NB507_513 := n9_
                        have NB513_507 := n10_
                        have HB := n11_
                        clear n0_ n1_ n2_ n3_ n4_ n5_ n6_ n7_ n8_ n9_ n10_ n11_
                        have hHeld : w64.cell? ⟨gb485, 0, none⟩ = some (.int .i64 t480) ∧ w64.cell? ⟨gb485, 1, none⟩ = some (.slice (some ad499) t481.length co9) ∧ w64.cell? (ad498.add ((x8_3).toNat * 3)) = some (.int .i64 ((Qp t486 x8_3).f0)) ∧ w64.cell? ⟨(ad498.add ((x8_3).toNat * 3)).block, (ad498.add ((x8_3).toNat * 3)).off + 1, none⟩ = some (.int .i64 ((Qp t486 x8_3).f1)) ∧ w64.cell? ⟨(ad498.add ((x8_3).toNat * 3)).block, (ad498.add ((x8_3).toNat * 3)).off + 2, none⟩ = some (.int .i64 ((Qp t486 x8_3).f2)) ∧ w64.cell? (ad498.add ((x8_3).toNat * 3)) = some (.int .i64 ((Qp t486 x8_3).f0)) ∧ w64.cell? ⟨(ad498.add ((x8_3).toNat * 3)).block, (ad498.add ((x8_3).toNat * 3)).off + 1, none⟩ = some (.int .i64 ((Qp t486 x8_3).f1)) ∧ w64.cell? ⟨(ad498.add ((x8_3).toNat * 3)).block, (ad498.add ((x8_3).toNat * 3)).off + 2, none⟩ = some (.int .i64 ((Qp t486 x8_3).f2)) := hS_
                        refine Xp (a' := ?_) ?_ ?_
                        rotate_left
                        ·simp only [putAll, Act.put, List.setIfInBounds_toArray, List.set_cons_zero, List.set_cons_succ]
                         rfl
                        refine one_ (i := 16) (N := none) #[true, true, true, true, true, true, true, true, true, true, true, true, true, true, true, true, true, false] rfl rfl (Xq HT_.out (by kernel_rfl)) (by decide) (fun K hK => ?_)
                        have hs65 : w64.cell? ⟨gb513, 0, none⟩ = some (.int .i64 0) := (Qe BK513.out 0).trans rfl
                        have hfs65 := Qf BK513.out 0
                        have hns65_0 := NB485_513.out
                        have hns65_1 := NB507_513.out
                        have hms65_0 := NB513_485.out
                        have hms65_1 := NB513_507.out
                        have hs66 : w64.cell? ⟨gb513, 1, none⟩ = some (.int .i64 0) := (Qe BK513.out 1).trans rfl
                        have hfs66 := Qf BK513.out 1
                        have hns66_0 := NB485_513.out
                        have hns66_1 := NB507_513.out
                        have hms66_0 := NB513_485.out
                        have hms66_1 := NB513_507.out
                        refine skip_ (w1 := ?_) (by rfl) rfl ?_ ?_
                        rotate_left
                        ·go_simp
                         rfl
                        refine hK.out _ _ ⟨((cell_far (p := ⟨gb513, _, none⟩) NB485_513.out _).trans (((cell_far (p := ⟨gb513, _, none⟩) NB485_513.out _).trans (hHeld.1)))), ((cell_far (p := ⟨gb513, _, none⟩) NB485_513.out _).trans (((cell_far (p := ⟨gb513, _, none⟩) NB485_513.out _).trans (hHeld.2.1)))), ((cell_far (p := ⟨gb513, _, none⟩) (by first | exact Kd.Wh (Kd.R_ne HO_5.out BK513.out (by decide)) | (rw [add_block]; exact Kd.Wh (Kd.R_ne HO_5.out BK513.out (by decide))) | (show (Addr.add _ _).block ≠ _; rw [add_block]; exact Kd.Wh (Kd.R_ne HO_5.out BK513.out (by decide))) | (dsimp only; exact Kd.Wh (Kd.R_ne HO_5.out BK513.out (by decide)))) _).trans (((cell_far (p := ⟨gb513, _, none⟩) (by first | exact Kd.Wh (Kd.R_ne HO_5.out BK513.out (by decide)) | (rw [add_block]; exact Kd.Wh (Kd.R_ne HO_5.out BK513.out (by decide))) | (show (Addr.add _ _).block ≠ _; rw [add_block]; exact Kd.Wh (Kd.R_ne HO_5.out BK513.out (by decide))) | (dsimp only; exact Kd.Wh (Kd.R_ne HO_5.out BK513.out (by decide)))) _).trans (hHeld.2.2.1)))), ((cell_far (p := ⟨gb513, _, none⟩) (by first | exact Kd.Wh (Kd.R_ne HO_5.out BK513.out (by decide)) | (rw [add_block]; exact Kd.Wh (Kd.R_ne HO_5.out BK513.out (by decide))) | (show (Addr.add _ _).block ≠ _; rw [add_block]; exact Kd.Wh (Kd.R_ne HO_5.out BK513.out (by decide))) | (dsimp only; exact Kd.Wh (Kd.R_ne HO_5.out BK513.out (by decide)))) _).trans (((cell_far (p := ⟨gb513, _, none⟩) (by first | exact Kd.Wh (Kd.R_ne HO_5.out BK513.out (by decide)) | (rw [add_block]; exact Kd.Wh (Kd.R_ne HO_5.out BK513.out (by decide))) | (show (Addr.add _ _).block ≠ _; rw [add_block]; exact Kd.Wh (Kd.R_ne HO_5.out BK513.out (by decide))) | (dsimp only; exact Kd.Wh (Kd.R_ne HO_5.out BK513.out (by decide)))) _).trans (hHeld.2.2.2.1)))), ((cell_far (p := ⟨gb513, _, none⟩) (by first | exact Kd.Wh (Kd.R_ne HO_5.out BK513.out (by decide)) | (rw [add_block]; exact Kd.Wh (Kd.R_ne HO_5.out BK513.out (by decide))) | (show (Addr.add _ _).block ≠ _; rw [add_block]; exact Kd.Wh (Kd.R_ne HO_5.out BK513.out (by decide))) | (dsimp only; exact Kd.Wh (Kd.R_ne HO_5.out BK513.out (by decide)))) _).trans (((cell_far (p := ⟨gb513, _, none⟩) (by first | exact Kd.Wh (Kd.R_ne HO_5.out BK513.out (by decide)) | (rw [add_block]; exact Kd.Wh (Kd.R_ne HO_5.out BK513.out (by decide))) | (show (Addr.add _ _).block ≠ _; rw [add_block]; exact Kd.Wh (Kd.R_ne HO_5.out BK513.out (by decide))) | (dsimp only; exact Kd.Wh (Kd.R_ne HO_5.out BK513.out (by decide)))) _).trans (hHeld.2.2.2.2.1)))), ((cell_far (p := ⟨gb513, _, none⟩) (by first | exact Kd.Wh (Kd.R_ne HO_5.out BK513.out (by decide)) | (rw [add_block]; exact Kd.Wh (Kd.R_ne HO_5.out BK513.out (by decide))) | (show (Addr.add _ _).block ≠ _; rw [add_block]; exact Kd.Wh (Kd.R_ne HO_5.out BK513.out (by decide))) | (dsimp only; exact Kd.Wh (Kd.R_ne HO_5.out BK513.out (by decide)))) _).trans (((cell_far (p := ⟨gb513, _, none⟩) (by first | exact Kd.Wh (Kd.R_ne HO_5.out BK513.out (by decide)) | (rw [add_block]; exact Kd.Wh (Kd.R_ne HO_5.out BK513.out (by decide))) | (show (Addr.add _ _).block ≠ _; rw [add_block]; exact Kd.Wh (Kd.R_ne HO_5.out BK513.out (by decide))) | (dsimp only; exact Kd.Wh (Kd.R_ne HO_5.out BK513.out (by decide)))) _).trans (hHeld.2.2.2.2.2.1)))), ((cell_far (p := ⟨gb513, _, none⟩) (by first | exact Kd.Wh (Kd.R_ne HO_5.out BK513.out (by decide)) | (rw [add_block]; exact Kd.Wh (Kd.R_ne HO_5.out BK513.out (by decide))) | (show (Addr.add _ _).block ≠ _; rw [add_block]; exact Kd.Wh (Kd.R_ne HO_5.out BK513.out (by decide))) | (dsimp only; exact Kd.Wh (Kd.R_ne HO_5.out BK513.out (by decide)))) _).trans (((cell_far (p := ⟨gb513, _, none⟩) (by first | exact Kd.Wh (Kd.R_ne HO_5.out BK513.out (by decide)) | (rw [add_block]; exact Kd.Wh (Kd.R_ne HO_5.out BK513.out (by decide))) | (show (Addr.add _ _).block ≠ _; rw [add_block]; exact Kd.Wh (Kd.R_ne HO_5.out BK513.out (by decide))) | (dsimp only; exact Kd.Wh (Kd.R_ne HO_5.out BK513.out (by decide)))) _).trans (hHeld.2.2.2.2.2.2.1)))), ((cell_far (p := ⟨gb513, _, none⟩) (by first | exact Kd.Wh (Kd.R_ne HO_5.out BK513.out (by decide)) | (rw [add_block]; exact Kd.Wh (Kd.R_ne HO_5.out BK513.out (by decide))) | (show (Addr.add _ _).block ≠ _; rw [add_block]; exact Kd.Wh (Kd.R_ne HO_5.out BK513.out (by decide))) | (dsimp only; exact Kd.Wh (Kd.R_ne HO_5.out BK513.out (by decide)))) _).trans (((cell_far (p := ⟨gb513, _, none⟩) (by first | exact Kd.Wh (Kd.R_ne HO_5.out BK513.out (by decide)) | (rw [add_block]; exact Kd.Wh (Kd.R_ne HO_5.out BK513.out (by decide))) | (show (Addr.add _ _).block ≠ _; rw [add_block]; exact Kd.Wh (Kd.R_ne HO_5.out BK513.out (by decide))) | (dsimp only; exact Kd.Wh (Kd.R_ne HO_5.out BK513.out (by decide)))) _).trans (hHeld.2.2.2.2.2.2.2))))⟩ (fun hHeld => ?_)
                        clear hK K
                        refine Zt (i := 17) (N := some 14) (v := ?_) (a' := ?_) #[true, true, true, true, true, true, true, true, true, true, true, true, true, true, true, true, true, true] rfl rfl (Zh HT_.out (by kernel_rfl)) (fun _ _ _ h => h) (Or.inl ⟨by rfl, ?_⟩) ?_ ?_
                        rotate_left
                        ·intro w'
                         go_simp
                         with_reducible rfl
                        rotate_left
                        ·simp only [Act.put, sA_, sZ_, sS_, Wp, Ws]
                         rfl
                        refine done_ (done_of HT_.out (by kernel_rfl)) ?_
                        try go_wp2
                        have n0_ : Qa (Kd.R k34 34 ((w64.setCell ⟨gb513, 0, none⟩ (.int .i64 t510)).setCell ⟨gb513, 1, none⟩ (.int .i64 t511)) w.heap.size (fun _ => True) (.slice (some ad498) t486.length co33) t486) := ⟨by (with_reducible repeat apply Kd.Wo); exact Kd.Wz (Kd.Zc (p := ⟨gb513, 1, none⟩) (Kd.Zc (p := ⟨gb513, 0, none⟩) (Kd.Zq HO_5.out BK513.out (by decide)) (fun _ hk => hk.2) (.int .i64 t510)) (fun _ hk => hk.2) (.int .i64 t511)) (fun _ hk => trivial)⟩
                        have n1_ : Qa (Kd.Q k42 42 ((w64.setCell ⟨gb513, 0, none⟩ (.int .i64 t510)).setCell ⟨gb513, 1, none⟩ (.int .i64 t511)) w.heap.size (fun _ => True) (.slice (some ad499) t481.length co9) t481) := ⟨by (with_reducible repeat apply Kd.Zj); exact Kd.Q_mono (Kd.Q_far (p := ⟨gb513, 1, none⟩) (Kd.Q_far (p := ⟨gb513, 0, none⟩) (Kd.Q_types HO_486001.out BK513.out (by decide)) (fun _ hk => hk.2) (.int .i64 t510)) (fun _ hk => hk.2) (.int .i64 t511)) (fun _ hk => trivial)⟩
                        have n2_ : Qa (((w64.setCell ⟨gb513, 0, none⟩ (.int .i64 t510)).setCell ⟨gb513, 1, none⟩ (.int .i64 t511)).heap[gb485]? = some (.cells #[.int .i64 t480, .slice (some ad499) t481.length co9] 25 (0, 0))) := ⟨by (with_reducible repeat apply Qd); refine Qo ?_ NB485_513.out _; (with_reducible repeat apply Qd); refine Qo ?_ NB485_513.out _; (with_reducible repeat apply Qd); exact BK485.out⟩
                        have n3_ : Qa (((w64.setCell ⟨gb513, 0, none⟩ (.int .i64 t510)).setCell ⟨gb513, 1, none⟩ (.int .i64 t511)).heap[gb507]? = some (.cells #[.int .i64 t504, .int .i64 t505] 44 (0, 0))) := ⟨by (with_reducible repeat apply Qd); refine Qo ?_ NB507_513.out _; (with_reducible repeat apply Qd); refine Qo ?_ NB507_513.out _; (with_reducible repeat apply Qd); exact BK507.out⟩
                        have n4_ : Qa (((w64.setCell ⟨gb513, 0, none⟩ (.int .i64 t510)).setCell ⟨gb513, 1, none⟩ (.int .i64 t511)).heap[gb513]? = some (.cells #[.int .i64 t510, .int .i64 t511] 44 (0, 0))) := ⟨by (with_reducible repeat apply Qd); refine Wm (cs := #[.int .i64 t510, .int .i64 0]) ?_ 1 _ rfl; (with_reducible repeat apply Qd); refine Wm (cs := #[.int .i64 0, .int .i64 0]) ?_ 0 _ rfl; (with_reducible repeat apply Qd); exact BK513.out⟩
                        have n5_ : Qa (Below w.heap.size w ((w64.setCell ⟨gb513, 0, none⟩ (.int .i64 t510)).setCell ⟨gb513, 1, none⟩ (.int .i64 t511))) := ⟨by repeat first | exact HB.out | with_reducible refine Qh ?_ ‹_› | apply Qc | apply Qb⟩
                        (try clear HO_5)
                        (try clear HO_486001)
                        (try clear BK485)
                        (try clear BK507)
                        (try clear BK513)
                        (try clear HB)
                        generalize ((w64.setCell ⟨gb513, 0, none⟩ (.int .i64 t510)).setCell ⟨gb513, 1, none⟩ (.int .i64 t511)) = w67 at n0_ n1_ n2_ n3_ n4_ n5_ ⊢
                        have HO_5 := n0_
                        have HO_486001 := n1_
                        have BK485 := n2_
                        have BK507 := n3_
                        have BK513 := n4_
                        have HB := n5_
                        clear n0_ n1_ n2_ n3_ n4_ n5_
                        have n0_ := Qa.mk (Kd.R_drew HO_5.out)
                        have n1_ := Qa.mk (Kd.Q_drew HO_486001.out)
                        have n2_ := Qa.mk (Ye BK485.out)
                        have n3_ := Qa.mk (Ye BK507.out)
                        have n4_ := Qa.mk (Ye BK513.out)
                        have n5_ := Qa.mk (Qq HB.out)
                        clear HO_5
                        clear HO_486001
                        clear BK485
                        clear BK507
                        clear BK513
                        clear HB
                        have HO_5 := n0_
                        have HO_486001 := n1_
                        have BK485 := n2_
                        have BK507 := n3_
                        have BK513 := n4_
                        have HB := n5_
                        clear n0_ n1_ n2_ n3_ n4_ n5_
                        have p514 : 0 <= (x6_2 : Int) := of_decide_eq_true (by first | (with_reducible assumption) | assumption)
                        have q514 : x6_2 < (t486.length : Int) := of_decide_eq_true (by first | (with_reducible assumption) | assumption)
                        obtain ⟨ad514, e514, hx514_0, hx514_1, hx514_2⟩ := at_T34 (Kd.R_reads' HO_5.out).2.2 x6_2 p514 q514
                        obtain rfl : ad498 = ad514 := (by injection e514)
                        replace p514 := eq_true p514
                        replace q514 := eq_true q514
                        have p515 : 0 <= (x6_2 : Int) := of_decide_eq_true (by first | (with_reducible assumption) | assumption)
                        have q515 : x6_2 < (t486.length : Int) := of_decide_eq_true (by first | (with_reducible assumption) | assumption)
                        obtain ⟨ad515, e515, hx515_0, hx515_1, hx515_2⟩ := at_T34 (Kd.R_reads' HO_5.out).2.2 x6_2 p515 q515
                        obtain rfl : ad498 = ad515 := (by injection e515)
                        replace p515 := eq_true p515
                        replace q515 := eq_true q515
                        refine start_ (n := 13) (S := fun w' => w'.cell? (ad498.add ((x6_2).toNat * 3)) = some (.int .i64 ((Qp t486 x6_2).f0)) ∧ w'.cell? ⟨(ad498.add ((x6_2).toNat * 3)).block, (ad498.add ((x6_2).toNat * 3)).off + 1, none⟩ = some (.int .i64 ((Qp t486 x6_2).f1)) ∧ w'.cell? ⟨(ad498.add ((x6_2).toNat * 3)).block, (ad498.add ((x6_2).toNat * 3)).off + 2, none⟩ = some (.int .i64 ((Qp t486 x6_2).f2)) ∧ w'.cell? (ad498.add ((x6_2).toNat * 3)) = some (.int .i64 ((Qp t486 x6_2).f0)) ∧ w'.cell? ⟨(ad498.add ((x6_2).toNat * 3)).block, (ad498.add ((x6_2).toNat * 3)).off + 1, none⟩ = some (.int .i64 ((Qp t486 x6_2).f1)) ∧ w'.cell? ⟨(ad498.add ((x6_2).toNat * 3)).block, (ad498.add ((x6_2).toNat * 3)).off + 2, none⟩ = some (.int .i64 ((Qp t486 x6_2).f2))) (ds := []) #[false, false, false, false, false, false, false, false, false, false, false, false, false] (by kernel_rfl) rfl rfl ⟨hx514_0, hx514_1, hx514_2, hx515_0, hx515_1, hx515_2⟩ (fun hHeld => ?_); refine with_tabW Qg.tab20 Qg.bits20 (fun HT_ HW_ => ?_)
                        generalize w67.drew = w68 at HO_5 HO_486001 BK485 BK507 BK513 HB hx514_0 hx514_1 hx514_2 hx515_0 hx515_1 hx515_2 hHeld ⊢
                        refine Zt (i := 0) (N := some 116) (v := ?_) (a' := ?_) #[true, false, false, false, false, false, false, false, false, false, false, false, false] rfl rfl (Zh HT_.out (by kernel_rfl)) (fun _ _ _ h => h) (Or.inl ⟨by rfl, ?_⟩) ?_ ?_
                        rotate_left
                        ·intro w'
                         go_simp
                         with_reducible rfl
                        rotate_left
                        ·simp only [Act.put, sA_, sZ_, sS_, Wp, Ws]
                         rfl
                        refine Zt (i := 1) (N := some 117) (v := ?_) (a' := ?_) #[true, true, false, false, false, false, false, false, false, false, false, false, false] rfl rfl (Zh HT_.out (by kernel_rfl)) (fun _ _ _ h => h) (Or.inl ⟨by rfl, ?_⟩) ?_ ?_
                        rotate_left
                        ·intro w'
                         go_simp
                         with_reducible rfl
                        rotate_left
                        ·simp only [Act.put, sA_, sZ_, sS_, Wp, Ws]
                         rfl
                        refine Zt (i := 2) (N := some 118) (v := ?_) (a' := ?_) #[true, true, true, false, false, false, false, false, false, false, false, false, false] rfl rfl (Zh HT_.out (by kernel_rfl)) (fun _ _ _ h => h) (Or.inl ⟨by rfl, ?_⟩) ?_ ?_
                        rotate_left
                        ·intro w'
                         go_simp
                         with_reducible rfl
                        rotate_left
                        ·simp only [Act.put, sA_, sZ_, sS_, Wp, Ws]
                         rfl
                        refine Zt (i := 3) (N := some 119) (v := ?_) (a' := ?_) #[true, true, true, true, false, false, false, false, false, false, false, false, false] rfl rfl (Zh HT_.out (by kernel_rfl)) (fun _ _ _ h => h) (Or.inl ⟨by rfl, ?_⟩) ?_ ?_
                        rotate_left
                        ·intro w'
                         go_simp
                         with_reducible rfl
                        rotate_left
                        ·simp only [Act.put, sA_, sZ_, sS_, Wp, Ws]
                         rfl
                        refine Zt (i := 5) (N := some 121) (v := ?_) (a' := ?_) #[true, true, true, true, false, true, false, false, false, false, false, false, false] rfl rfl (Zh HT_.out (by kernel_rfl)) (fun _ _ _ h => h) (Or.inl ⟨by rfl, ?_⟩) ?_ ?_
                        rotate_left
                        ·intro w'
                         go_simp
                         with_reducible rfl
                        rotate_left
                        ·simp only [Act.put, sA_, sZ_, sS_, Wp, Ws]
                         rfl
                        refine Zt (i := 6) (N := some 122) (v := ?_) (a' := ?_) #[true, true, true, true, false, true, true, false, false, false, false, false, false] rfl rfl (Zh HT_.out (by kernel_rfl)) (fun _ _ _ h => h) (Or.inl ⟨by rfl, ?_⟩) ?_ ?_
                        rotate_left
                        ·intro w'
                         go_simp
                         with_reducible rfl
                        rotate_left
                        ·simp only [Act.put, sA_, sZ_, sS_, Wp, Ws]
                         rfl
                        refine Zt (i := 7) (N := some 123) (v := ?_) (a' := ?_) #[true, true, true, true, false, true, true, true, false, false, false, false, false] rfl rfl (Zh HT_.out (by kernel_rfl)) (fun _ _ _ h => h) (Or.inl ⟨by rfl, ?_⟩) ?_ ?_
                        rotate_left
                        ·intro w'
                         go_simp
                         with_reducible rfl
                        rotate_left
                        ·simp only [Act.put, sA_, sZ_, sS_, Wp, Ws]
                         rfl
                        refine Zt (i := 8) (N := some 124) (v := ?_) (a' := ?_) #[true, true, true, true, false, true, true, true, true, false, false, false, false] rfl rfl (Zh HT_.out (by kernel_rfl)) (fun _ _ _ h => h) (Or.inl ⟨by rfl, ?_⟩) ?_ ?_
                        rotate_left
                        ·intro w'
                         go_simp
                         with_reducible rfl
                        rotate_left
                        ·simp only [Act.put, sA_, sZ_, sS_, Wp, Ws]
                         rfl
                        refine Xt (i := 4) (N := some 120) (v := ?_) (a' := ?_) #[true, true, true, true, true, true, true, true, true, false, false, false, false] rfl rfl (Yn HT_.out HW_.out (by kernel_rfl)) (fun _ _ _ h => h) (Or.inl ⟨by rfl, ?_⟩) hHeld ?_ ?_
                        rotate_left
                        ·rintro w' ⟨s0, s1, s2, s3, s4, s5⟩
                         go_simp
                         with_reducible rfl
                        rotate_left
                        ·simp only [Act.put, sA_, sZ_, sS_, Wp, Ws]
                         rfl
                        refine Xt (i := 9) (N := some 125) (v := ?_) (a' := ?_) #[true, true, true, true, true, true, true, true, true, true, false, false, false] rfl rfl (Yn HT_.out HW_.out (by kernel_rfl)) (fun _ _ _ h => h) (Or.inl ⟨by rfl, ?_⟩) hHeld ?_ ?_
                        rotate_left
                        ·rintro w' ⟨s0, s1, s2, s3, s4, s5⟩
                         go_simp
                         with_reducible rfl
                        rotate_left
                        ·simp only [Act.put, sA_, sZ_, sS_, Wp, Ws]
                         rfl
                        refine Zt (i := 10) (N := some 126) (v := ?_) (a' := ?_) #[true, true, true, true, true, true, true, true, true, true, true, false, false] rfl rfl (Zh HT_.out (by kernel_rfl)) (fun _ _ _ h => h) (Or.inl ⟨by rfl, ?_⟩) ?_ ?_
                        rotate_left
                        ·intro w'
                         go_simp
                         with_reducible rfl
                        rotate_left
                        ·simp only [Act.put, sA_, sZ_, sS_, Wp, Ws]
                         rfl
                        refine one_ (i := 11) (N := some 15) #[true, true, true, true, true, true, true, true, true, true, true, true, false] rfl rfl (Xq HT_.out (by kernel_rfl)) (by decide) (fun K hK => ?_)
                        refine box_step ?hg (N := 15) ?hd (cs := #[.int .i64 0, .int .i64 0]) (t := 44) ?hr ?_; (case hd => rfl); (case hg => rfl); (case hr => first | (go_simp; done) | (go_simp; rfl))
                        intro gb516 hg w69 hbox hb
                        have HS0_ := (hb.cell (World.block_lt_of_cell? _ _ (hHeld.1))).trans (hHeld.1)
                        have HS1_ := (hb.cell (World.block_lt_of_cell? _ _ (hHeld.2.1))).trans (hHeld.2.1)
                        have HS2_ := (hb.cell (World.block_lt_of_cell? _ _ (hHeld.2.2.1))).trans (hHeld.2.2.1)
                        have HS3_ := (hb.cell (World.block_lt_of_cell? _ _ (hHeld.2.2.2.1))).trans (hHeld.2.2.2.1)
                        have HS4_ := (hb.cell (World.block_lt_of_cell? _ _ (hHeld.2.2.2.2.1))).trans (hHeld.2.2.2.2.1)
                        have HS5_ := (hb.cell (World.block_lt_of_cell? _ _ (hHeld.2.2.2.2.2))).trans (hHeld.2.2.2.2.2)
                        have n0_ := Qa.mk (Kd.Ze (kR HO_5.out) hb)
                        have n1_ := Qa.mk (Kd.Xo (by (with_reducible repeat apply Kd.Zj); exact HO_486001.out) hb)
                        have n2_ := Qa.mk (Qk (bK BK485.out) hb)
                        have n3_ := Qa.mk (Qk (bK BK507.out) hb)
                        have n4_ := Qa.mk (Qk (bK BK513.out) hb)
                        have n5_ := Qa.mk (Ql (by repeat first | exact HB.out | with_reducible refine Qh ?_ ‹_› | apply Qc | apply Qb) hb)
                        have n6_ := Qa.mk (hbox)
                        have n7_ := Qa.mk ((by rw [hg]; exact (Qr (by repeat first | exact HB.out | with_reducible refine Qh ?_ ‹_› | apply Qc | apply Qb)) : w.heap.size <= gb516))
                        have n8_ := Qa.mk ((by rw [hg]; exact (Qr (by repeat first | exact HB.out | with_reducible refine Qh ?_ ‹_› | apply Qc | apply Qb)) : w.heap.size <= gb516))
                        have n9_ := Qa.mk ((by rw [hg]; exact Nat.ne_of_lt (Wl (bK BK485.out)) : gb485 ≠ gb516))
                        have n10_ := Qa.mk ((by rw [hg]; exact Nat.ne_of_gt (Wl (bK BK485.out)) : gb516 ≠ gb485))
                        have n11_ := Qa.mk ((by rw [hg]; exact Nat.ne_of_lt (Wl (bK BK507.out)) : gb507 ≠ gb516))
                        have n12_ := Qa.mk ((by rw [hg]; exact Nat.ne_of_gt (Wl (bK BK507.out)) : gb516 ≠ gb507))
                        have n13_ := Qa.mk ((by rw [hg]; exact Nat.ne_of_lt (Wl (bK BK513.out)) : gb513 ≠ gb516))
                        have n14_ := Qa.mk ((by rw [hg]; exact Nat.ne_of_gt (Wl (bK BK513.out)) : gb516 ≠ gb513))
                        clear HO_5
                        clear HO_486001
                        clear BK485
                        clear BK507
                        clear BK513
                        clear HB
                        have HO_5 := n0_
                        have HO_486001 := n1_
                        have BK485 := n2_
                        have BK507 := n3_
                        have BK513 := n4_
                        have HB := n5_
                        have BK516 := n6_
                        have GW516 := n7_
                        have GE516 := n8_
                        have NB485_516 := n9_
                        have NB516_485 := n10_
                        have NB507_516 := n11_
                        have NB516_507 := n12_
                        have NB513_516 := n13_
                        have NB516_513 := n14_
                        clear n0_ n1_ n2_ n3_ n4_ n5_ n6_ n7_ n8_ n9_ n10_ n11_ n12_ n13_ n14_
                        clear hb hbox hg
                        refine hK.out _ _ ⟨HS0_, HS1_, HS2_, HS3_, HS4_, HS5_⟩ (fun hHeld => ?_)
                        clear hK K
                        refine Xp (a' := ?_) ?_ ?_
                        rotate_left
                        ·show Act.put _ (some 15) _ = _
                         simp only [Act.put, sA_, sZ_, sS_, Wp, Ws]
                         rfl
                        refine one_ (i := 12) (N := none) #[true, true, true, true, true, true, true, true, true, true, true, true, true] rfl rfl (Xq HT_.out (by kernel_rfl)) (by decide) (fun K hK => ?_)
                        have hs70 : w69.cell? ⟨gb516, 0, none⟩ = some (.int .i64 0) := (Qe BK516.out 0).trans rfl
                        have hfs70 := Qf BK516.out 0
                        have hns70_0 := NB485_516.out
                        have hns70_1 := NB507_516.out
                        have hns70_2 := NB513_516.out
                        have hms70_0 := NB516_485.out
                        have hms70_1 := NB516_507.out
                        have hms70_2 := NB516_513.out
                        have hs71 : w69.cell? ⟨gb516, 1, none⟩ = some (.int .i64 0) := (Qe BK516.out 1).trans rfl
                        have hfs71 := Qf BK516.out 1
                        have hns71_0 := NB485_516.out
                        have hns71_1 := NB507_516.out
                        have hns71_2 := NB513_516.out
                        have hms71_0 := NB516_485.out
                        have hms71_1 := NB516_507.out
                        have hms71_2 := NB516_513.out
                        refine skip_ (w1 := ?_) (by rfl) rfl ?_ ?_
                        rotate_left
                        ·go_simp
                         rfl
                        refine hK.out _ _ ⟨((cell_far (p := ⟨gb516, _, none⟩) (by first | exact Kd.Wh (Kd.R_ne HO_5.out BK516.out (by decide)) | (rw [add_block]; exact Kd.Wh (Kd.R_ne HO_5.out BK516.out (by decide))) | (show (Addr.add _ _).block ≠ _; rw [add_block]; exact Kd.Wh (Kd.R_ne HO_5.out BK516.out (by decide))) | (dsimp only; exact Kd.Wh (Kd.R_ne HO_5.out BK516.out (by decide)))) _).trans (((cell_far (p := ⟨gb516, _, none⟩) (by first | exact Kd.Wh (Kd.R_ne HO_5.out BK516.out (by decide)) | (rw [add_block]; exact Kd.Wh (Kd.R_ne HO_5.out BK516.out (by decide))) | (show (Addr.add _ _).block ≠ _; rw [add_block]; exact Kd.Wh (Kd.R_ne HO_5.out BK516.out (by decide))) | (dsimp only; exact Kd.Wh (Kd.R_ne HO_5.out BK516.out (by decide)))) _).trans (hHeld.1)))), ((cell_far (p := ⟨gb516, _, none⟩) (by first | exact Kd.Wh (Kd.R_ne HO_5.out BK516.out (by decide)) | (rw [add_block]; exact Kd.Wh (Kd.R_ne HO_5.out BK516.out (by decide))) | (show (Addr.add _ _).block ≠ _; rw [add_block]; exact Kd.Wh (Kd.R_ne HO_5.out BK516.out (by decide))) | (dsimp only; exact Kd.Wh (Kd.R_ne HO_5.out BK516.out (by decide)))) _).trans (((cell_far (p := ⟨gb516, _, none⟩) (by first | exact Kd.Wh (Kd.R_ne HO_5.out BK516.out (by decide)) | (rw [add_block]; exact Kd.Wh (Kd.R_ne HO_5.out BK516.out (by decide))) | (show (Addr.add _ _).block ≠ _; rw [add_block]; exact Kd.Wh (Kd.R_ne HO_5.out BK516.out (by decide))) | (dsimp only; exact Kd.Wh (Kd.R_ne HO_5.out BK516.out (by decide)))) _).trans (hHeld.2.1)))), ((cell_far (p := ⟨gb516, _, none⟩) (by first | exact Kd.Wh (Kd.R_ne HO_5.out BK516.out (by decide)) | (rw [add_block]; exact Kd.Wh (Kd.R_ne HO_5.out BK516.out (by decide))) | (show (Addr.add _ _).block ≠ _; rw [add_block]; exact Kd.Wh (Kd.R_ne HO_5.out BK516.out (by decide))) | (dsimp only; exact Kd.Wh (Kd.R_ne HO_5.out BK516.out (by decide)))) _).trans (((cell_far (p := ⟨gb516, _, none⟩) (by first | exact Kd.Wh (Kd.R_ne HO_5.out BK516.out (by decide)) | (rw [add_block]; exact Kd.Wh (Kd.R_ne HO_5.out BK516.out (by decide))) | (show (Addr.add _ _).block ≠ _; rw [add_block]; exact Kd.Wh (Kd.R_ne HO_5.out BK516.out (by decide))) | (dsimp only; exact Kd.Wh (Kd.R_ne HO_5.out BK516.out (by decide)))) _).trans (hHeld.2.2.1)))), ((cell_far (p := ⟨gb516, _, none⟩) (by first | exact Kd.Wh (Kd.R_ne HO_5.out BK516.out (by decide)) | (rw [add_block]; exact Kd.Wh (Kd.R_ne HO_5.out BK516.out (by decide))) | (show (Addr.add _ _).block ≠ _; rw [add_block]; exact Kd.Wh (Kd.R_ne HO_5.out BK516.out (by decide))) | (dsimp only; exact Kd.Wh (Kd.R_ne HO_5.out BK516.out (by decide)))) _).trans (((cell_far (p := ⟨gb516, _, none⟩) (by first | exact Kd.Wh (Kd.R_ne HO_5.out BK516.out (by decide)) | (rw [add_block]; exact Kd.Wh (Kd.R_ne HO_5.out BK516.out (by decide))) | (show (Addr.add _ _).block ≠ _; rw [add_block]; exact Kd.Wh (Kd.R_ne HO_5.out BK516.out (by decide))) | (dsimp only; exact Kd.Wh (Kd.R_ne HO_5.out BK516.out (by decide)))) _).trans (hHeld.2.2.2.1)))), ((cell_far (p := ⟨gb516, _, none⟩) (by first | exact Kd.Wh (Kd.R_ne HO_5.out BK516.out (by decide)) | (rw [add_block]; exact Kd.Wh (Kd.R_ne HO_5.out BK516.out (by decide))) | (show (Addr.add _ _).block ≠ _; rw [add_block]; exact Kd.Wh (Kd.R_ne HO_5.out BK516.out (by decide))) | (dsimp only; exact Kd.Wh (Kd.R_ne HO_5.out BK516.out (by decide)))) _).trans (((cell_far (p := ⟨gb516, _, none⟩) (by first | exact Kd.Wh (Kd.R_ne HO_5.out BK516.out (by decide)) | (rw [add_block]; exact Kd.Wh (Kd.R_ne HO_5.out BK516.out (by decide))) | (show (Addr.add _ _).block ≠ _; rw [add_block]; exact Kd.Wh (Kd.R_ne HO_5.out BK516.out (by decide))) | (dsimp only; exact Kd.Wh (Kd.R_ne HO_5.out BK516.out (by decide)))) _).trans (hHeld.2.2.2.2.1)))), ((cell_far (p := ⟨gb516, _, none⟩) (by first | exact Kd.Wh (Kd.R_ne HO_5.out BK516.out (by decide)) | (rw [add_block]; exact Kd.Wh (Kd.R_ne HO_5.out BK516.out (by decide))) | (show (Addr.add _ _).block ≠ _; rw [add_block]; exact Kd.Wh (Kd.R_ne HO_5.out BK516.out (by decide))) | (dsimp only; exact Kd.Wh (Kd.R_ne HO_5.out BK516.out (by decide)))) _).trans (((cell_far (p := ⟨gb516, _, none⟩) (by first | exact Kd.Wh (Kd.R_ne HO_5.out BK516.out (by decide)) | (rw [add_block]; exact Kd.Wh (Kd.R_ne HO_5.out BK516.out (by decide))) | (show (Addr.add _ _).block ≠ _; rw [add_block]; exact Kd.Wh (Kd.R_ne HO_5.out BK516.out (by decide))) | (dsimp only; exact Kd.Wh (Kd.R_ne HO_5.out BK516.out (by decide)))) _).trans (hHeld.2.2.2.2.2))))⟩ (fun hHeld => ?_)
                        clear hK K
                        refine done_ (done_of HT_.out (by kernel_rfl)) ?_
                        go_upto_region 21 with (fail)
                        go_cut [16] (fun v16 wc => ∃ (kq : Nat) (x16_52 : Bool), v16 = .bool x16_52 ∧ Qa (Qg.j5 kq t486 x6_2 x7_3 x8_3 ((Qx t481 ((Qp t486 x8_3).f0)).f0) x10_43 t506 t512 x16_52 t480 t481 t504 t505 t510 t511 ((Qp t486 x6_2).f0) ((Qp t486 x6_2).f1) = some r) ∧ Qa (kq <= kj43) ∧ Qa (Kd.R k34 34 wc w.heap.size (fun _ => True) (.slice (some ad498) t486.length co33) t486) ∧ Qa (Kd.Q k42 42 wc w.heap.size (fun _ => True) (.slice (some ad499) t481.length co9) t481) ∧ Qa (wc.heap[gb485]? = some (.cells #[.int .i64 t480, (.slice (some ad499) t481.length co9)] 25 (0, 0))) ∧ Qa (wc.heap[gb507]? = some (.cells #[.int .i64 t504, .int .i64 t505] 44 (0, 0))) ∧ Qa (wc.heap[gb513]? = some (.cells #[.int .i64 t510, .int .i64 t511] 44 (0, 0))) ∧ Qa (wc.heap[gb516]? = some (.cells #[.int .i64 ((Qp t486 x6_2).f0), .int .i64 ((Qp t486 x6_2).f1)] 44 (0, 0))) ∧ Qa (Below w.heap.size w wc))
                        case first => as_aux_lemma =>
                         have H := HC53.out
                         clear HC53
                         by_cases c72 : ((Qx t481 ((Qp t486 x8_3).f0)).f0) = 4
                         ·rw [if_pos c72] at H
                          have c72b0 : (((Qx t481 ((Qp t486 x8_3).f0)).f0) == 4) = true := beq_iff_eq.mpr c72
                          have c72b1 : (((Qx t481 ((Qp t486 x8_3).f0)).f0) != 4) = false := bne_eq_false_iff_eq.mpr c72
                          clear c72
                          (first | rw [c72b0] | (simp only [Wp, Ws]; rw [c72b0]) | skip)
                          have H' := Qa.mk H
                          clear H
                          go_wp2
                          go_meet
                          case rel => exact ⟨_, (true), (by first | rfl | (simp; done) | (simp [*]; done)), H', ⟨by have := HJ4.out; have := HK2.out; have := HK3.out; have := HJ39.out; have := HJ43.out; first | omega | exact Nat.le_refl _⟩, ⟨by (with_reducible repeat apply Kd.Wo); exact Kd.Wz (Kd.Zc (p := ⟨gb516, 1, none⟩) (Kd.Zc (p := ⟨gb516, 0, none⟩) (Kd.Zq HO_5.out BK516.out (by decide)) (fun _ hk => hk.2) (.int .i64 ((Qp t486 x6_2).f0))) (fun _ hk => hk.2) (.int .i64 ((Qp t486 x6_2).f1))) (fun _ hk => trivial)⟩, ⟨by (with_reducible repeat apply Kd.Zj); exact Kd.Q_mono (Kd.Q_far (p := ⟨gb516, 1, none⟩) (Kd.Q_far (p := ⟨gb516, 0, none⟩) (Kd.Q_types HO_486001.out BK516.out (by decide)) (fun _ hk => hk.2) (.int .i64 ((Qp t486 x6_2).f0))) (fun _ hk => hk.2) (.int .i64 ((Qp t486 x6_2).f1))) (fun _ hk => trivial)⟩, ⟨by (with_reducible repeat apply Qd); refine Qo ?_ NB485_516.out _; (with_reducible repeat apply Qd); refine Qo ?_ NB485_516.out _; (with_reducible repeat apply Qd); exact BK485.out⟩, ⟨by (with_reducible repeat apply Qd); refine Qo ?_ NB507_516.out _; (with_reducible repeat apply Qd); refine Qo ?_ NB507_516.out _; (with_reducible repeat apply Qd); exact BK507.out⟩, ⟨by (with_reducible repeat apply Qd); refine Qo ?_ NB513_516.out _; (with_reducible repeat apply Qd); refine Qo ?_ NB513_516.out _; (with_reducible repeat apply Qd); exact BK513.out⟩, ⟨by (with_reducible repeat apply Qd); refine Wm (cs := #[.int .i64 ((Qp t486 x6_2).f0), .int .i64 0]) ?_ 1 _ rfl; (with_reducible repeat apply Qd); refine Wm (cs := #[.int .i64 0, .int .i64 0]) ?_ 0 _ rfl; (with_reducible repeat apply Qd); exact BK516.out⟩, ⟨by repeat first | exact HB.out | with_reducible refine Qh ?_ ‹_› | apply Qc | apply Qb⟩⟩
                         ·rw [if_neg c72] at H
                          have c72b0 : (((Qx t481 ((Qp t486 x8_3).f0)).f0) == 4) = false := beq_eq_false_iff_ne.mpr c72
                          have c72b1 : (((Qx t481 ((Qp t486 x8_3).f0)).f0) != 4) = true := bne_iff_ne.mpr c72
                          (first | rw [c72b0] | (simp only [Wp, Ws]; rw [c72b0]) | skip)
                          have H' := Qa.mk H
                          clear H
                          go_wp2
                          go_meet
                          case rel => exact ⟨_, ((((Qx t481 ((Qp t486 x8_3).f0)).f0) == 5)), (by first | rfl | (simp; done) | (simp [*]; done)), H', ⟨by have := HJ4.out; have := HK2.out; have := HK3.out; have := HJ39.out; have := HJ43.out; first | omega | exact Nat.le_refl _⟩, ⟨by (with_reducible repeat apply Kd.Wo); exact Kd.Wz (Kd.Zc (p := ⟨gb516, 1, none⟩) (Kd.Zc (p := ⟨gb516, 0, none⟩) (Kd.Zq HO_5.out BK516.out (by decide)) (fun _ hk => hk.2) (.int .i64 ((Qp t486 x6_2).f0))) (fun _ hk => hk.2) (.int .i64 ((Qp t486 x6_2).f1))) (fun _ hk => trivial)⟩, ⟨by (with_reducible repeat apply Kd.Zj); exact Kd.Q_mono (Kd.Q_far (p := ⟨gb516, 1, none⟩) (Kd.Q_far (p := ⟨gb516, 0, none⟩) (Kd.Q_types HO_486001.out BK516.out (by decide)) (fun _ hk => hk.2) (.int .i64 ((Qp t486 x6_2).f0))) (fun _ hk => hk.2) (.int .i64 ((Qp t486 x6_2).f1))) (fun _ hk => trivial)⟩, ⟨by (with_reducible repeat apply Qd); refine Qo ?_ NB485_516.out _; (with_reducible repeat apply Qd); refine Qo ?_ NB485_516.out _; (with_reducible repeat apply Qd); exact BK485.out⟩, ⟨by (with_reducible repeat apply Qd); refine Qo ?_ NB507_516.out _; (with_reducible repeat apply Qd); refine Qo ?_ NB507_516.out _; (with_reducible repeat apply Qd); exact BK507.out⟩, ⟨by (with_reducible repeat apply Qd); refine Qo ?_ NB513_516.out _; (with_reducible repeat apply Qd); refine Qo ?_ NB513_516.out _; (with_reducible repeat apply Qd); exact BK513.out⟩, ⟨by (with_reducible repeat apply Qd); refine Wm (cs := #[.int .i64 ((Qp t486 x6_2).f0), .int .i64 0]) ?_ 1 _ rfl; (with_reducible repeat apply Qd); refine Wm (cs := #[.int .i64 0, .int .i64 0]) ?_ 0 _ rfl; (with_reducible repeat apply Qd); exact BK516.out⟩, ⟨by repeat first | exact HB.out | with_reducible refine Qh ?_ ‹_› | apply Qc | apply Qb⟩⟩
                        case rest => as_aux_lemma =>
                         clear HC53
                         try clear c2
                         try clear p2
                         try clear p5
                         try clear q5
                         try clear hx5
                         try clear c7
                         try clear c21
                         try clear p51
                         try clear q51
                         try clear hx51
                         try clear c72
                         try clear c72b0
                         try clear c72b1
                         try clear hx514_0
                         try clear hx514_1
                         try clear hx514_2
                         try clear hx515_0
                         try clear hx515_1
                         try clear hx515_2
                         try clear p514
                         try clear p515
                         try clear q514
                         try clear q515
                         obtain ⟨kq, x16_52, rfl, HA, HJ52, HO_5, HO_486001, BK485, BK507, BK513, BK516, HB⟩ := hcut
                         cases kq with
                         | zero => exact absurd HA.out (by simp [Qg.j5])
                         | succ kj52 =>
                          have H := HA.out
                          clear HA
                          simp only [Qg.j5] at H
                          have HC73 := Qa.mk H
                          clear H
                          go_upto_region 22 with (fail)
                          go_cut [17] (fun v17 wc => ∃ (kq : Nat) (x17_72 : Bool), v17 = .bool x17_72 ∧ Qa (Qg.j6 kq t486 x6_2 x7_3 x8_3 x10_43 t506 t512 x16_52 x17_72 t480 t481 t504 t505 t510 t511 ((Qp t486 x6_2).f0) ((Qp t486 x6_2).f1) = some r) ∧ Qa (kq <= kj52) ∧ Qa (Kd.R k34 34 wc w.heap.size (fun _ => True) (.slice (some ad498) t486.length co33) t486) ∧ Qa (Kd.Q k42 42 wc w.heap.size (fun _ => True) (.slice (some ad499) t481.length co9) t481) ∧ Qa (wc.heap[gb485]? = some (.cells #[.int .i64 t480, (.slice (some ad499) t481.length co9)] 25 (0, 0))) ∧ Qa (wc.heap[gb507]? = some (.cells #[.int .i64 t504, .int .i64 t505] 44 (0, 0))) ∧ Qa (wc.heap[gb513]? = some (.cells #[.int .i64 t510, .int .i64 t511] 44 (0, 0))) ∧ Qa (wc.heap[gb516]? = some (.cells #[.int .i64 ((Qp t486 x6_2).f0), .int .i64 ((Qp t486 x6_2).f1)] 44 (0, 0))) ∧ Qa (Below w.heap.size w wc))
                          case first => as_aux_lemma =>
                           have H := HC73.out
                           clear HC73
                           by_cases c74 : ((Qx t481 ((Qp t486 x8_3).f0)).f0) = 1
                           ·rw [if_pos c74] at H
                            have c74b0 : (((Qx t481 ((Qp t486 x8_3).f0)).f0) == 1) = true := beq_iff_eq.mpr c74
                            have c74b1 : (((Qx t481 ((Qp t486 x8_3).f0)).f0) != 1) = false := bne_eq_false_iff_eq.mpr c74
                            clear c74
                            (first | rw [c74b0] | (simp only [Wp, Ws]; rw [c74b0]) | skip)
                            have H' := Qa.mk H
                            clear H
                            go_wp2
                            go_meet
                            case rel => exact ⟨_, (true), (by first | rfl | (simp; done) | (simp [*]; done)), H', ⟨by have := HJ4.out; have := HK2.out; have := HK3.out; have := HJ39.out; have := HJ43.out; have := HJ52.out; first | omega | exact Nat.le_refl _⟩, ⟨by (with_reducible repeat apply Kd.Wo); exact HO_5.out⟩, ⟨by (with_reducible repeat apply Kd.Zj); exact HO_486001.out⟩, ⟨by (with_reducible repeat apply Qd); exact BK485.out⟩, ⟨by (with_reducible repeat apply Qd); exact BK507.out⟩, ⟨by (with_reducible repeat apply Qd); exact BK513.out⟩, ⟨by (with_reducible repeat apply Qd); exact BK516.out⟩, ⟨by repeat first | exact HB.out | with_reducible refine Qh ?_ ‹_› | apply Qc | apply Qb⟩⟩
                           ·rw [if_neg c74] at H
                            have c74b0 : (((Qx t481 ((Qp t486 x8_3).f0)).f0) == 1) = false := beq_eq_false_iff_ne.mpr c74
                            have c74b1 : (((Qx t481 ((Qp t486 x8_3).f0)).f0) != 1) = true := bne_iff_ne.mpr c74
                            (first | rw [c74b0] | (simp only [Wp, Ws]; rw [c74b0]) | skip)
                            have H' := Qa.mk H
                            clear H
                            go_wp2
                            go_meet
                            case rel => exact ⟨_, ((((Qx t481 ((Qp t486 x8_3).f0)).f0) == 7)), (by first | rfl | (simp; done) | (simp [*]; done)), H', ⟨by have := HJ4.out; have := HK2.out; have := HK3.out; have := HJ39.out; have := HJ43.out; have := HJ52.out; first | omega | exact Nat.le_refl _⟩, ⟨by (with_reducible repeat apply Kd.Wo); exact HO_5.out⟩, ⟨by (with_reducible repeat apply Kd.Zj); exact HO_486001.out⟩, ⟨by (with_reducible repeat apply Qd); exact BK485.out⟩, ⟨by (with_reducible repeat apply Qd); exact BK507.out⟩, ⟨by (with_reducible repeat apply Qd); exact BK513.out⟩, ⟨by (with_reducible repeat apply Qd); exact BK516.out⟩, ⟨by repeat first | exact HB.out | with_reducible refine Qh ?_ ‹_› | apply Qc | apply Qb⟩⟩
                          case rest => as_aux_lemma =>
                           clear HC73
                           try clear c2
                           try clear p2
                           try clear p5
                           try clear q5
                           try clear hx5
                           try clear c7
                           try clear c21
                           try clear p51
                           try clear q51
                           try clear hx51
                           try clear c72
                           try clear c72b0
                           try clear c72b1
                           try clear c74
                           try clear c74b0
                           try clear c74b1
                           try clear hx514_0
                           try clear hx514_1
                           try clear hx514_2
                           try clear hx515_0
                           try clear hx515_1
                           try clear hx515_2
                           try clear p2
                           try clear p5
                           try clear p51
                           try clear p514
                           try clear p515
                           try clear q5
                           try clear q51
                           try clear q514
                           try clear q515
                           obtain ⟨kq, x17_72, rfl, HA, HJ72, HO_5, HO_486001, BK485, BK507, BK513, BK516, HB⟩ := hcut
                           cases kq with
                           | zero => exact absurd HA.out (by simp [Qg.j6])
                           | succ kj72 =>
                            have H := HA.out
                            clear HA
                            simp only [Qg.j6] at H
                            by_cases c75 : x7_3 = true
                            ·subst c75
                             have H1 : (Qg.j7 kj72 t486 x6_2 true x8_3 t480 t481) = some r := by rw [if_pos rfl] at H; exact H
                             clear H
                             have H := H1
                             clear H1
                             have H' := Qa.mk H
                             clear H
                             go_wp2
                             go_meet
                             case rel => exact ⟨_, (true), (by first | rfl | (simp; done) | (simp [*]; done)), H', ⟨by have := HJ4.out; have := HK2.out; have := HK3.out; have := HJ39.out; have := HJ43.out; have := HJ52.out; have := HJ72.out; first | omega | exact Nat.le_refl _⟩, ⟨by (with_reducible repeat apply Kd.Wo); exact HO_5.out⟩, ⟨by (with_reducible repeat apply Kd.Zj); exact HO_486001.out⟩, ⟨by (with_reducible repeat apply Qd); exact BK485.out⟩, ⟨by repeat first | exact HB.out | with_reducible refine Qh ?_ ‹_› | apply Qc | apply Qb⟩⟩
                            ·replace c75 := Bool.eq_false_iff.mpr c75
                             subst c75
                             have H1 : (if x17_72 = true then (Qg.j7 kj72 t486 x6_2 false x8_3 t480 t481) else (if 0 <= x6_2 then (if x6_2 < (t486.length : Int) then (if x10_43 = ((Qp t486 x6_2).f2) then (if t506 = true then (if (t504 == ((Qp t486 x6_2).f0) && (t505 == ((Qp t486 x6_2).f1))) = true then (Qg.j7 kj72 t486 x6_2 true x8_3 t480 t481) else (if x16_52 = true then (if t512 = true then (Qg.j7 kj72 t486 x6_2 (t510 == ((Qp t486 x6_2).f0) && (t511 == ((Qp t486 x6_2).f1))) x8_3 t480 t481) else (Qg.j7 kj72 t486 x6_2 false x8_3 t480 t481)) else (Qg.j7 kj72 t486 x6_2 false x8_3 t480 t481))) else (if x16_52 = true then (if t512 = true then (Qg.j7 kj72 t486 x6_2 (t510 == ((Qp t486 x6_2).f0) && (t511 == ((Qp t486 x6_2).f1))) x8_3 t480 t481) else (Qg.j7 kj72 t486 x6_2 false x8_3 t480 t481)) else (Qg.j7 kj72 t486 x6_2 false x8_3 t480 t481))) else (Qg.j7 kj72 t486 x6_2 false x8_3 t480 t481)) else (none)) else (none))) = some r := by rw [if_neg (show ¬ (false = true) by decide)] at H; exact H
                             clear H
                             have H := H1
                             clear H1
                             by_cases c76 : x17_72 = true
                             ·subst c76
                              have H1 : (Qg.j7 kj72 t486 x6_2 false x8_3 t480 t481) = some r := by rw [if_pos rfl] at H; exact H
                              clear H
                              have H := H1
                              clear H1
                              have H' := Qa.mk H
                              clear H
                              go_wp2
                              go_meet
                              case rel => exact ⟨_, (false), (by first | rfl | (simp; done) | (simp [*]; done)), H', ⟨by have := HJ4.out; have := HK2.out; have := HK3.out; have := HJ39.out; have := HJ43.out; have := HJ52.out; have := HJ72.out; first | omega | exact Nat.le_refl _⟩, ⟨by (with_reducible repeat apply Kd.Wo); exact HO_5.out⟩, ⟨by (with_reducible repeat apply Kd.Zj); exact HO_486001.out⟩, ⟨by (with_reducible repeat apply Qd); exact BK485.out⟩, ⟨by repeat first | exact HB.out | with_reducible refine Qh ?_ ‹_› | apply Qc | apply Qb⟩⟩
                             ·replace c76 := Bool.eq_false_iff.mpr c76
                              subst c76
                              have H1 : (if 0 <= x6_2 then (if x6_2 < (t486.length : Int) then (if x10_43 = ((Qp t486 x6_2).f2) then (if t506 = true then (if (t504 == ((Qp t486 x6_2).f0) && (t505 == ((Qp t486 x6_2).f1))) = true then (Qg.j7 kj72 t486 x6_2 true x8_3 t480 t481) else (if x16_52 = true then (if t512 = true then (Qg.j7 kj72 t486 x6_2 (t510 == ((Qp t486 x6_2).f0) && (t511 == ((Qp t486 x6_2).f1))) x8_3 t480 t481) else (Qg.j7 kj72 t486 x6_2 false x8_3 t480 t481)) else (Qg.j7 kj72 t486 x6_2 false x8_3 t480 t481))) else (if x16_52 = true then (if t512 = true then (Qg.j7 kj72 t486 x6_2 (t510 == ((Qp t486 x6_2).f0) && (t511 == ((Qp t486 x6_2).f1))) x8_3 t480 t481) else (Qg.j7 kj72 t486 x6_2 false x8_3 t480 t481)) else (Qg.j7 kj72 t486 x6_2 false x8_3 t480 t481))) else (Qg.j7 kj72 t486 x6_2 false x8_3 t480 t481)) else (none)) else (none)) = some r := by rw [if_neg (show ¬ (false = true) by decide)] at H; exact H
                              clear H
                              have H := H1
                              clear H1
                              by_cases c77 : 0 <= x6_2
                              ·rw [if_pos c77] at H
                               have c77b0 : decide (0 <= x6_2) = true := decide_eq_true c77
                               clear c77
                               by_cases c78 : x6_2 < (t486.length : Int)
                               ·rw [if_pos c78] at H
                                have c78b0 : decide (x6_2 < (t486.length : Int)) = true := decide_eq_true c78
                                clear c78
                                by_cases c79 : x10_43 = ((Qp t486 x6_2).f2)
                                ·rw [if_pos c79] at H
                                 have c79b0 : (x10_43 == ((Qp t486 x6_2).f2)) = true := beq_iff_eq.mpr c79
                                 have c79b1 : (x10_43 != ((Qp t486 x6_2).f2)) = false := bne_eq_false_iff_eq.mpr c79
                                 clear c79
                                 by_cases c80 : t506 = true
                                 ·subst c80
                                  have H1 : (if (t504 == ((Qp t486 x6_2).f0) && (t505 == ((Qp t486 x6_2).f1))) = true then (Qg.j7 kj72 t486 x6_2 true x8_3 t480 t481) else (if x16_52 = true then (if t512 = true then (Qg.j7 kj72 t486 x6_2 (t510 == ((Qp t486 x6_2).f0) && (t511 == ((Qp t486 x6_2).f1))) x8_3 t480 t481) else (Qg.j7 kj72 t486 x6_2 false x8_3 t480 t481)) else (Qg.j7 kj72 t486 x6_2 false x8_3 t480 t481))) = some r := by rw [if_pos rfl] at H; exact H
                                  clear H
                                  have H := H1
                                  clear H1
                                  by_cases c81 : (t504 == ((Qp t486 x6_2).f0) && (t505 == ((Qp t486 x6_2).f1))) = true
                                  ·rw [if_pos c81] at H
                                   have c81b0 : (t504 == ((Qp t486 x6_2).f0) && (t505 == ((Qp t486 x6_2).f1))) = true := c81
                                   (try (have c81b1 : decide (t504 = ((Qp t486 x6_2).f0) && (t505 == ((Qp t486 x6_2).f1))) = true := by simpa using c81))
                                   (try (have c81b2 : (t504 == ((Qp t486 x6_2).f0) && (t505 == ((Qp t486 x6_2).f1))) = true := by simpa using c81))
                                   clear c81
                                   have H' := Qa.mk H
                                   clear H
                                   have p517 : 0 <= (x6_2 : Int) := of_decide_eq_true (by first | (with_reducible assumption) | assumption)
                                   have q517 : x6_2 < (t486.length : Int) := of_decide_eq_true (by first | (with_reducible assumption) | assumption)
                                   obtain ⟨ad517, e517, hx517_0, hx517_1, hx517_2⟩ := at_T34 (Kd.R_reads' HO_5.out).2.2 x6_2 p517 q517
                                   obtain rfl : ad498 = ad517 := (by injection e517)
                                   replace p517 := eq_true p517
                                   replace q517 := eq_true q517
                                   have hnb82 := NB507_485.out
                                   have hnc82 := NB485_507.out
                                   have hnb83 := NB507_513.out
                                   have hnc83 := NB513_507.out
                                   have hnb84 := NB507_516.out
                                   have hnc84 := NB516_507.out
                                   have hcz85_0 : wc.cell? ⟨gb507, 0, none⟩ = some (.int .i64 t504) := (Qe BK507.out 0).trans rfl
                                   have hcz85_1 : wc.cell? ⟨gb507, 1, none⟩ = some (.int .i64 t505) := (Qe BK507.out 1).trans rfl
                                   have hfz85_0 := Qf BK507.out 0
                                   have hfz85_1 := Qf BK507.out 1
                                   have hnb86 := NB516_485.out
                                   have hnc86 := NB485_516.out
                                   have hnb87 := NB516_513.out
                                   have hnc87 := NB513_516.out
                                   have hcz88_0 : wc.cell? ⟨gb516, 0, none⟩ = some (.int .i64 ((Qp t486 x6_2).f0)) := (Qe BK516.out 0).trans rfl
                                   have hcz88_1 : wc.cell? ⟨gb516, 1, none⟩ = some (.int .i64 ((Qp t486 x6_2).f1)) := (Qe BK516.out 1).trans rfl
                                   have hfz88_0 := Qf BK516.out 0
                                   have hfz88_1 := Qf BK516.out 1
                                   go_wp2
                                   go_meet
                                   case rel => exact ⟨_, (true), (by first | rfl | (simp; done) | (simp [*]; done)), H', ⟨by have := HJ4.out; have := HK2.out; have := HK3.out; have := HJ39.out; have := HJ43.out; have := HJ52.out; have := HJ72.out; first | omega | exact Nat.le_refl _⟩, ⟨by (with_reducible repeat apply Kd.Wo); exact HO_5.out⟩, ⟨by (with_reducible repeat apply Kd.Zj); exact HO_486001.out⟩, ⟨by (with_reducible repeat apply Qd); exact BK485.out⟩, ⟨by repeat first | exact HB.out | with_reducible refine Qh ?_ ‹_› | apply Qc | apply Qb⟩⟩
                                  ·rw [if_neg c81] at H
                                   have c81b0 : (t504 == ((Qp t486 x6_2).f0) && (t505 == ((Qp t486 x6_2).f1))) = false := by simpa using c81
                                   (try (have c81b1 : decide (t504 = ((Qp t486 x6_2).f0) && (t505 == ((Qp t486 x6_2).f1))) = false := by simpa using c81))
                                   (try (have c81b2 : (t504 == ((Qp t486 x6_2).f0) && (t505 == ((Qp t486 x6_2).f1))) = false := by simpa using c81))
                                   (try (have c81b3 : ¬ (t504 = ((Qp t486 x6_2).f0) && (t505 == ((Qp t486 x6_2).f1))) := by simpa using c81))
                                   clear c81
                                   by_cases c89 : x16_52 = true
                                   ·subst c89
                                    have H1 : (if t512 = true then (Qg.j7 kj72 t486 x6_2 (t510 == ((Qp t486 x6_2).f0) && (t511 == ((Qp t486 x6_2).f1))) x8_3 t480 t481) else (Qg.j7 kj72 t486 x6_2 false x8_3 t480 t481)) = some r := by rw [if_pos rfl] at H; exact H
                                    clear H
                                    have H := H1
                                    clear H1
                                    by_cases c90 : t512 = true
                                    ·subst c90
                                     have H1 : (Qg.j7 kj72 t486 x6_2 (t510 == ((Qp t486 x6_2).f0) && (t511 == ((Qp t486 x6_2).f1))) x8_3 t480 t481) = some r := by rw [if_pos rfl] at H; exact H
                                     clear H
                                     have H := H1
                                     clear H1
                                     have H' := Qa.mk H
                                     clear H
                                     have p517 : 0 <= (x6_2 : Int) := of_decide_eq_true (by first | (with_reducible assumption) | assumption)
                                     have q517 : x6_2 < (t486.length : Int) := of_decide_eq_true (by first | (with_reducible assumption) | assumption)
                                     obtain ⟨ad517, e517, hx517_0, hx517_1, hx517_2⟩ := at_T34 (Kd.R_reads' HO_5.out).2.2 x6_2 p517 q517
                                     obtain rfl : ad498 = ad517 := (by injection e517)
                                     replace p517 := eq_true p517
                                     replace q517 := eq_true q517
                                     have hnb91 := NB507_485.out
                                     have hnc91 := NB485_507.out
                                     have hnb92 := NB507_513.out
                                     have hnc92 := NB513_507.out
                                     have hnb93 := NB507_516.out
                                     have hnc93 := NB516_507.out
                                     have hcz94_0 : wc.cell? ⟨gb507, 0, none⟩ = some (.int .i64 t504) := (Qe BK507.out 0).trans rfl
                                     have hcz94_1 : wc.cell? ⟨gb507, 1, none⟩ = some (.int .i64 t505) := (Qe BK507.out 1).trans rfl
                                     have hfz94_0 := Qf BK507.out 0
                                     have hfz94_1 := Qf BK507.out 1
                                     have hnb95 := NB516_485.out
                                     have hnc95 := NB485_516.out
                                     have hnb96 := NB516_513.out
                                     have hnc96 := NB513_516.out
                                     have hcz97_0 : wc.cell? ⟨gb516, 0, none⟩ = some (.int .i64 ((Qp t486 x6_2).f0)) := (Qe BK516.out 0).trans rfl
                                     have hcz97_1 : wc.cell? ⟨gb516, 1, none⟩ = some (.int .i64 ((Qp t486 x6_2).f1)) := (Qe BK516.out 1).trans rfl
                                     have hfz97_0 := Qf BK516.out 0
                                     have hfz97_1 := Qf BK516.out 1
                                     have hnb98 := NB513_485.out
                                     have hnc98 := NB485_513.out
                                     have hcz99_0 : wc.cell? ⟨gb513, 0, none⟩ = some (.int .i64 t510) := (Qe BK513.out 0).trans rfl
                                     have hcz99_1 : wc.cell? ⟨gb513, 1, none⟩ = some (.int .i64 t511) := (Qe BK513.out 1).trans rfl
                                     have hfz99_0 := Qf BK513.out 0
                                     have hfz99_1 := Qf BK513.out 1
                                     go_wp2
                                     go_meet
                                     case rel => exact ⟨_, ((t510 == ((Qp t486 x6_2).f0) && (t511 == ((Qp t486 x6_2).f1)))), (by first | rfl | (simp; done) | (simp [*]; done)), H', ⟨by have := HJ4.out; have := HK2.out; have := HK3.out; have := HJ39.out; have := HJ43.out; have := HJ52.out; have := HJ72.out; first | omega | exact Nat.le_refl _⟩, ⟨by (with_reducible repeat apply Kd.Wo); exact HO_5.out⟩, ⟨by (with_reducible repeat apply Kd.Zj); exact HO_486001.out⟩, ⟨by (with_reducible repeat apply Qd); exact BK485.out⟩, ⟨by repeat first | exact HB.out | with_reducible refine Qh ?_ ‹_› | apply Qc | apply Qb⟩⟩
                                    ·replace c90 := Bool.eq_false_iff.mpr c90
                                     subst c90
                                     have H1 : (Qg.j7 kj72 t486 x6_2 false x8_3 t480 t481) = some r := by rw [if_neg (show ¬ (false = true) by decide)] at H; exact H
                                     clear H
                                     have H := H1
                                     clear H1
                                     have H' := Qa.mk H
                                     clear H
                                     have p517 : 0 <= (x6_2 : Int) := of_decide_eq_true (by first | (with_reducible assumption) | assumption)
                                     have q517 : x6_2 < (t486.length : Int) := of_decide_eq_true (by first | (with_reducible assumption) | assumption)
                                     obtain ⟨ad517, e517, hx517_0, hx517_1, hx517_2⟩ := at_T34 (Kd.R_reads' HO_5.out).2.2 x6_2 p517 q517
                                     obtain rfl : ad498 = ad517 := (by injection e517)
                                     replace p517 := eq_true p517
                                     replace q517 := eq_true q517
                                     have hnb100 := NB507_485.out
                                     have hnc100 := NB485_507.out
                                     have hnb101 := NB507_513.out
                                     have hnc101 := NB513_507.out
                                     have hnb102 := NB507_516.out
                                     have hnc102 := NB516_507.out
                                     have hcz103_0 : wc.cell? ⟨gb507, 0, none⟩ = some (.int .i64 t504) := (Qe BK507.out 0).trans rfl
                                     have hcz103_1 : wc.cell? ⟨gb507, 1, none⟩ = some (.int .i64 t505) := (Qe BK507.out 1).trans rfl
                                     have hfz103_0 := Qf BK507.out 0
                                     have hfz103_1 := Qf BK507.out 1
                                     have hnb104 := NB516_485.out
                                     have hnc104 := NB485_516.out
                                     have hnb105 := NB516_513.out
                                     have hnc105 := NB513_516.out
                                     have hcz106_0 : wc.cell? ⟨gb516, 0, none⟩ = some (.int .i64 ((Qp t486 x6_2).f0)) := (Qe BK516.out 0).trans rfl
                                     have hcz106_1 : wc.cell? ⟨gb516, 1, none⟩ = some (.int .i64 ((Qp t486 x6_2).f1)) := (Qe BK516.out 1).trans rfl
                                     have hfz106_0 := Qf BK516.out 0
                                     have hfz106_1 := Qf BK516.out 1
                                     go_wp2
                                     go_meet
                                     case rel => exact ⟨_, (false), (by first | rfl | (simp; done) | (simp [*]; done)), H', ⟨by have := HJ4.out; have := HK2.out; have := HK3.out; have := HJ39.out; have := HJ43.out; have := HJ52.out; have := HJ72.out; first | omega | exact Nat.le_refl _⟩, ⟨by (with_reducible repeat apply Kd.Wo); exact HO_5.out⟩, ⟨by (with_reducible repeat apply Kd.Zj); exact HO_486001.out⟩, ⟨by (with_reducible repeat apply Qd); exact BK485.out⟩, ⟨by repeat first | exact HB.out | with_reducible refine Qh ?_ ‹_› | apply Qc | apply Qb⟩⟩
                                   ·replace c89 := Bool.eq_false_iff.mpr c89
                                    subst c89
                                    have H1 : (Qg.j7 kj72 t486 x6_2 false x8_3 t480 t481) = some r := by rw [if_neg (show ¬ (false = true) by decide)] at H; exact H
                                    clear H
                                    have H := H1
                                    clear H1
                                    have H' := Qa.mk H
                                    clear H
                                    have p517 : 0 <= (x6_2 : Int) := of_decide_eq_true (by first | (with_reducible assumption) | assumption)
                                    have q517 : x6_2 < (t486.length : Int) := of_decide_eq_true (by first | (with_reducible assumption) | assumption)
                                    obtain ⟨ad517, e517, hx517_0, hx517_1, hx517_2⟩ := at_T34 (Kd.R_reads' HO_5.out).2.2 x6_2 p517 q517
                                    obtain rfl : ad498 = ad517 := (by injection e517)
                                    replace p517 := eq_true p517
                                    replace q517 := eq_true q517
                                    have hnb107 := NB507_485.out
                                    have hnc107 := NB485_507.out
                                    have hnb108 := NB507_513.out
                                    have hnc108 := NB513_507.out
                                    have hnb109 := NB507_516.out
                                    have hnc109 := NB516_507.out
                                    have hcz110_0 : wc.cell? ⟨gb507, 0, none⟩ = some (.int .i64 t504) := (Qe BK507.out 0).trans rfl
                                    have hcz110_1 : wc.cell? ⟨gb507, 1, none⟩ = some (.int .i64 t505) := (Qe BK507.out 1).trans rfl
                                    have hfz110_0 := Qf BK507.out 0
                                    have hfz110_1 := Qf BK507.out 1
                                    have hnb111 := NB516_485.out
                                    have hnc111 := NB485_516.out
                                    have hnb112 := NB516_513.out
                                    have hnc112 := NB513_516.out
                                    have hcz113_0 : wc.cell? ⟨gb516, 0, none⟩ = some (.int .i64 ((Qp t486 x6_2).f0)) := (Qe BK516.out 0).trans rfl
                                    have hcz113_1 : wc.cell? ⟨gb516, 1, none⟩ = some (.int .i64 ((Qp t486 x6_2).f1)) := (Qe BK516.out 1).trans rfl
                                    have hfz113_0 := Qf BK516.out 0
                                    have hfz113_1 := Qf BK516.out 1
                                    go_wp2
                                    go_meet
                                    case rel => exact ⟨_, (false), (by first | rfl | (simp; done) | (simp [*]; done)), H', ⟨by have := HJ4.out; have := HK2.out; have := HK3.out; have := HJ39.out; have := HJ43.out; have := HJ52.out; have := HJ72.out; first | omega | exact Nat.le_refl _⟩, ⟨by (with_reducible repeat apply Kd.Wo); exact HO_5.out⟩, ⟨by (with_reducible repeat apply Kd.Zj); exact HO_486001.out⟩, ⟨by (with_reducible repeat apply Qd); exact BK485.out⟩, ⟨by repeat first | exact HB.out | with_reducible refine Qh ?_ ‹_› | apply Qc | apply Qb⟩⟩
                                 ·replace c80 := Bool.eq_false_iff.mpr c80
                                  subst c80
                                  have H1 : (if x16_52 = true then (if t512 = true then (Qg.j7 kj72 t486 x6_2 (t510 == ((Qp t486 x6_2).f0) && (t511 == ((Qp t486 x6_2).f1))) x8_3 t480 t481) else (Qg.j7 kj72 t486 x6_2 false x8_3 t480 t481)) else (Qg.j7 kj72 t486 x6_2 false x8_3 t480 t481)) = some r := by rw [if_neg (show ¬ (false = true) by decide)] at H; exact H
                                  clear H
                                  have H := H1
                                  clear H1
                                  by_cases c114 : x16_52 = true
                                  ·subst c114
                                   have H1 : (if t512 = true then (Qg.j7 kj72 t486 x6_2 (t510 == ((Qp t486 x6_2).f0) && (t511 == ((Qp t486 x6_2).f1))) x8_3 t480 t481) else (Qg.j7 kj72 t486 x6_2 false x8_3 t480 t481)) = some r := by rw [if_pos rfl] at H; exact H
                                   clear H
                                   have H := H1
                                   clear H1
                                   by_cases c115 : t512 = true
                                   ·subst c115
                                    have H1 : (Qg.j7 kj72 t486 x6_2 (t510 == ((Qp t486 x6_2).f0) && (t511 == ((Qp t486 x6_2).f1))) x8_3 t480 t481) = some r := by rw [if_pos rfl] at H; exact H
                                    clear H
                                    have H := H1
                                    clear H1
                                    have H' := Qa.mk H
                                    clear H
                                    have p517 : 0 <= (x6_2 : Int) := of_decide_eq_true (by first | (with_reducible assumption) | assumption)
                                    have q517 : x6_2 < (t486.length : Int) := of_decide_eq_true (by first | (with_reducible assumption) | assumption)
                                    obtain ⟨ad517, e517, hx517_0, hx517_1, hx517_2⟩ := at_T34 (Kd.R_reads' HO_5.out).2.2 x6_2 p517 q517
                                    obtain rfl : ad498 = ad517 := (by injection e517)
                                    replace p517 := eq_true p517
                                    replace q517 := eq_true q517
                                    have hnb116 := NB513_485.out
                                    have hnc116 := NB485_513.out
                                    have hnb117 := NB513_507.out
                                    have hnc117 := NB507_513.out
                                    have hnb118 := NB513_516.out
                                    have hnc118 := NB516_513.out
                                    have hcz119_0 : wc.cell? ⟨gb513, 0, none⟩ = some (.int .i64 t510) := (Qe BK513.out 0).trans rfl
                                    have hcz119_1 : wc.cell? ⟨gb513, 1, none⟩ = some (.int .i64 t511) := (Qe BK513.out 1).trans rfl
                                    have hfz119_0 := Qf BK513.out 0
                                    have hfz119_1 := Qf BK513.out 1
                                    have hnb120 := NB516_485.out
                                    have hnc120 := NB485_516.out
                                    have hnb121 := NB516_507.out
                                    have hnc121 := NB507_516.out
                                    have hcz122_0 : wc.cell? ⟨gb516, 0, none⟩ = some (.int .i64 ((Qp t486 x6_2).f0)) := (Qe BK516.out 0).trans rfl
                                    have hcz122_1 : wc.cell? ⟨gb516, 1, none⟩ = some (.int .i64 ((Qp t486 x6_2).f1)) := (Qe BK516.out 1).trans rfl
                                    have hfz122_0 := Qf BK516.out 0
                                    have hfz122_1 := Qf BK516.out 1
                                    go_wp2
                                    go_meet
                                    case rel => exact ⟨_, ((t510 == ((Qp t486 x6_2).f0) && (t511 == ((Qp t486 x6_2).f1)))), (by first | rfl | (simp; done) | (simp [*]; done)), H', ⟨by have := HJ4.out; have := HK2.out; have := HK3.out; have := HJ39.out; have := HJ43.out; have := HJ52.out; have := HJ72.out; first | omega | exact Nat.le_refl _⟩, ⟨by (with_reducible repeat apply Kd.Wo); exact HO_5.out⟩, ⟨by (with_reducible repeat apply Kd.Zj); exact HO_486001.out⟩, ⟨by (with_reducible repeat apply Qd); exact BK485.out⟩, ⟨by repeat first | exact HB.out | with_reducible refine Qh ?_ ‹_› | apply Qc | apply Qb⟩⟩
                                   ·replace c115 := Bool.eq_false_iff.mpr c115
                                    subst c115
                                    have H1 : (Qg.j7 kj72 t486 x6_2 false x8_3 t480 t481) = some r := by rw [if_neg (show ¬ (false = true) by decide)] at H; exact H
                                    clear H
                                    have H := H1
                                    clear H1
                                    have H' := Qa.mk H
                                    clear H
                                    have p517 : 0 <= (x6_2 : Int) := of_decide_eq_true (by first | (with_reducible assumption) | assumption)
                                    have q517 : x6_2 < (t486.length : Int) := of_decide_eq_true (by first | (with_reducible assumption) | assumption)
                                    obtain ⟨ad517, e517, hx517_0, hx517_1, hx517_2⟩ := at_T34 (Kd.R_reads' HO_5.out).2.2 x6_2 p517 q517
                                    obtain rfl : ad498 = ad517 := (by injection e517)
                                    replace p517 := eq_true p517
                                    replace q517 := eq_true q517
                                    go_wp2
                                    go_meet
                                    case rel => exact ⟨_, (false), (by first | rfl | (simp; done) | (simp [*]; done)), H', ⟨by have := HJ4.out; have := HK2.out; have := HK3.out; have := HJ39.out; have := HJ43.out; have := HJ52.out; have := HJ72.out; first | omega | exact Nat.le_refl _⟩, ⟨by (with_reducible repeat apply Kd.Wo); exact HO_5.out⟩, ⟨by (with_reducible repeat apply Kd.Zj); exact HO_486001.out⟩, ⟨by (with_reducible repeat apply Qd); exact BK485.out⟩, ⟨by repeat first | exact HB.out | with_reducible refine Qh ?_ ‹_› | apply Qc | apply Qb⟩⟩
                                  ·replace c114 := Bool.eq_false_iff.mpr c114
                                   subst c114
                                   have H1 : (Qg.j7 kj72 t486 x6_2 false x8_3 t480 t481) = some r := by rw [if_neg (show ¬ (false = true) by decide)] at H; exact H
                                   clear H
                                   have H := H1
                                   clear H1
                                   have H' := Qa.mk H
                                   clear H
                                   have p517 : 0 <= (x6_2 : Int) := of_decide_eq_true (by first | (with_reducible assumption) | assumption)
                                   have q517 : x6_2 < (t486.length : Int) := of_decide_eq_true (by first | (with_reducible assumption) | assumption)
                                   obtain ⟨ad517, e517, hx517_0, hx517_1, hx517_2⟩ := at_T34 (Kd.R_reads' HO_5.out).2.2 x6_2 p517 q517
                                   obtain rfl : ad498 = ad517 := (by injection e517)
                                   replace p517 := eq_true p517
                                   replace q517 := eq_true q517
                                   go_wp2
                                   go_meet
                                   case rel => exact ⟨_, (false), (by first | rfl | (simp; done) | (simp [*]; done)), H', ⟨by have := HJ4.out; have := HK2.out; have := HK3.out; have := HJ39.out; have := HJ43.out; have := HJ52.out; have := HJ72.out; first | omega | exact Nat.le_refl _⟩, ⟨by (with_reducible repeat apply Kd.Wo); exact HO_5.out⟩, ⟨by (with_reducible repeat apply Kd.Zj); exact HO_486001.out⟩, ⟨by (with_reducible repeat apply Qd); exact BK485.out⟩, ⟨by repeat first | exact HB.out | with_reducible refine Qh ?_ ‹_› | apply Qc | apply Qb⟩⟩
                                ·rw [if_neg c79] at H
                                 have c79b0 : (x10_43 == ((Qp t486 x6_2).f2)) = false := beq_eq_false_iff_ne.mpr c79
                                 have c79b1 : (x10_43 != ((Qp t486 x6_2).f2)) = true := bne_iff_ne.mpr c79
                                 have H' := Qa.mk H
                                 clear H
                                 have p517 : 0 <= (x6_2 : Int) := of_decide_eq_true (by first | (with_reducible assumption) | assumption)
                                 have q517 : x6_2 < (t486.length : Int) := of_decide_eq_true (by first | (with_reducible assumption) | assumption)
                                 obtain ⟨ad517, e517, hx517_0, hx517_1, hx517_2⟩ := at_T34 (Kd.R_reads' HO_5.out).2.2 x6_2 p517 q517
                                 obtain rfl : ad498 = ad517 := (by injection e517)
                                 replace p517 := eq_true p517
                                 replace q517 := eq_true q517
                                 go_wp2
                                 go_meet
                                 case rel => exact ⟨_, (false), (by first | rfl | (simp; done) | (simp [*]; done)), H', ⟨by have := HJ4.out; have := HK2.out; have := HK3.out; have := HJ39.out; have := HJ43.out; have := HJ52.out; have := HJ72.out; first | omega | exact Nat.le_refl _⟩, ⟨by (with_reducible repeat apply Kd.Wo); exact HO_5.out⟩, ⟨by (with_reducible repeat apply Kd.Zj); exact HO_486001.out⟩, ⟨by (with_reducible repeat apply Qd); exact BK485.out⟩, ⟨by repeat first | exact HB.out | with_reducible refine Qh ?_ ‹_› | apply Qc | apply Qb⟩⟩
                               ·rw [if_neg c78] at H
                                exact absurd H (by simp)
                              ·rw [if_neg c77] at H
                               exact absurd H (by simp)
                       ·rw [if_neg c52] at H
                        exact absurd H (by simp)
                      ·rw [if_neg c51] at H
                       exact absurd H (by simp)
                     ·rw [if_neg c47] at H
                      exact absurd H (by simp)
                    ·rw [if_neg c46] at H
                     exact absurd H (by simp)
               ·rw [if_neg c39] at H
                exact absurd H (by simp)
              ·rw [if_neg c38] at H
               exact absurd H (by simp)
             ·rw [if_neg c37] at H
              exact absurd H (by simp)
            ·rw [if_neg c36] at H
             exact absurd H (by simp)
           case rest => as_aux_lemma =>
            clear HC35
            try clear c1
            try clear c2
            try clear p2
            try clear c3
            try clear c4
            try clear c5
            try clear p5
            try clear q5
            try clear hx5
            try clear c7
            try clear c8
            try clear c9
            try clear c10
            try clear c11
            try clear c12
            try clear c21
            try clear c36
            try clear c37
            try clear c38
            try clear c39
            try clear c46
            try clear c47
            try clear c51
            try clear p51
            try clear q51
            try clear hx51
            try clear c52
            try clear c72
            try clear c72b0
            try clear c72b1
            try clear c74
            try clear c74b0
            try clear c74b1
            try clear c75
            try clear c76
            try clear c77
            try clear c77b0
            try clear c78
            try clear c78b0
            try clear c79
            try clear c79b0
            try clear c79b1
            try clear c80
            try clear c81
            try clear c81b0
            try clear c81b1
            try clear c81b2
            try clear c82
            try clear c83
            try clear c84
            try clear c86
            try clear c87
            try clear c89
            try clear c90
            try clear c91
            try clear c92
            try clear c93
            try clear c95
            try clear c96
            try clear c98
            try clear c100
            try clear c101
            try clear c102
            try clear c104
            try clear c105
            try clear c107
            try clear c108
            try clear c109
            try clear c111
            try clear c112
            try clear c114
            try clear c115
            try clear c116
            try clear c117
            try clear c118
            try clear c120
            try clear c121
            try clear hcz103_0
            try clear hcz103_1
            try clear hcz106_0
            try clear hcz106_1
            try clear hcz110_0
            try clear hcz110_1
            try clear hcz113_0
            try clear hcz113_1
            try clear hcz119_0
            try clear hcz119_1
            try clear hcz122_0
            try clear hcz122_1
            try clear hcz85_0
            try clear hcz85_1
            try clear hcz88_0
            try clear hcz88_1
            try clear hcz94_0
            try clear hcz94_1
            try clear hcz97_0
            try clear hcz97_1
            try clear hcz99_0
            try clear hcz99_1
            try clear hfz103_0
            try clear hfz103_1
            try clear hfz106_0
            try clear hfz106_1
            try clear hfz110_0
            try clear hfz110_1
            try clear hfz113_0
            try clear hfz113_1
            try clear hfz119_0
            try clear hfz119_1
            try clear hfz122_0
            try clear hfz122_1
            try clear hfz85_0
            try clear hfz85_1
            try clear hfz88_0
            try clear hfz88_1
            try clear hfz94_0
            try clear hfz94_1
            try clear hfz97_0
            try clear hfz97_1
            try clear hfz99_0
            try clear hfz99_1
            try clear hx514_0
            try clear hx514_1
            try clear hx514_2
            try clear hx515_0
            try clear hx515_1
            try clear hx515_2
            try clear hx517_0
            try clear hx517_1
            try clear hx517_2
            try clear p2
            try clear p5
            try clear p51
            try clear p514
            try clear p515
            try clear p517
            try clear q5
            try clear q51
            try clear q514
            try clear q515
            try clear q517
            obtain ⟨kq, x7_34, rfl, HA, HJ34, HO_5, HO_486001, BK485, HB⟩ := hcut
            cases kq with
            | zero => exact absurd HA.out (by simp [Qg.j7])
            | succ kj34 =>
             have H := HA.out
             clear HA
             simp only [Qg.j7] at H
             have H' := Qa.mk H
             clear H
             go_wp2
             go_roundg kj34
             case measure => have := HJ4.out; have := HK2.out; have := HK3.out; have := HJ34.out; omega
             case rel => exact ⟨(x7_34), (wrap64 (x8_3 + 1)), (by first | rfl | (simp; done) | (simp [*]; done)), (by first | rfl | (simp; done) | (simp [*]; done)), H', ⟨by have := HJ4.out; have := HK2.out; have := HK3.out; have := HJ34.out; omega⟩, ⟨by (with_reducible repeat apply Kd.Wo); exact HO_5.out⟩, ⟨by (with_reducible repeat apply Kd.Zj); exact HO_486001.out⟩, ⟨by (with_reducible repeat apply Qd); exact BK485.out⟩, ⟨by repeat first | exact HB.out | with_reducible refine Qh ?_ ‹_› | apply Qc | apply Qb⟩⟩
          ·rw [if_neg c34] at H
           have c34b0 : decide (x8_3 < x6_2) = false := decide_eq_false c34
           clear c34
           by_cases c123 : x7_3 = true
           ·subst c123
            have H1 : (Qg.l0 k3 t486 (wrap64 (x6_2 + 1)) t480 t481) = some r := by rw [if_pos rfl] at H; exact H
            clear H
            have H := H1
            clear H1
            have H' := Qa.mk H
            clear H
            go_wp2
            go_roundg k3
            case measure => have := HJ4.out; have := HK2.out; have := HK3.out; omega
            case rel => exact ⟨(wrap64 (x6_2 + 1)), (by first | rfl | (simp; done) | (simp [*]; done)), H', ⟨by have := HJ4.out; have := HK2.out; have := HK3.out; omega⟩, ⟨by (with_reducible repeat apply Kd.Wo); exact HO_5.out⟩, ⟨by (with_reducible repeat apply Kd.Zj); exact HO_486001.out⟩, ⟨by (with_reducible repeat apply Qd); exact BK485.out⟩, ⟨by repeat first | exact HB.out | with_reducible refine Qh ?_ ‹_› | apply Qc | apply Qb⟩⟩
           ·replace c123 := Bool.eq_false_iff.mpr c123
            subst c123
            have H1 : (some false) = some r := by rw [if_neg (show ¬ (false = true) by decide)] at H; exact H
            clear H
            have H := H1
            clear H1
            obtain rfl := Option.some.inj H
            exact absurd HRT.out (by decide)
       ·rw [if_neg c32] at H
        have c32b0 : decide (x6_2 < (t486.length : Int)) = false := decide_eq_false c32
        clear c32
        obtain rfl := Option.some.inj H
        obtain ⟨Ao124, co124, eo124⟩ := Kd.Zk HO_5.out
        subst eo124
        go_wp2
        go_ret
        exact ⟨by first | rfl | (simp [Qt, Qs] <;> rfl) | (simp [*, Qt, Qs] <;> rfl) | (exfalso; simp_all; done), by repeat first | exact HB.out | with_reducible refine Qh ?_ ‹_› | apply Qc | apply Qb⟩
/-- THE ONE PURE STATEMENT of Qg: yours. -/
def Qg.Pure : Prop := ∀ (l0 : List Int), l0.length <= maxLen -> l0.length * 1 <= 140737488351232 -> (∀ x ∈ l0, (Lit.int .u8 x).wf = true) -> ∃ k, Qg.f k l0 = some true
theorem Qg.walk (P : Qg.Pure) (a0 : Option Addr) (len0 cap0 : Nat) (z0 : List Int) (w : World) (w0 : (a0 = none ∧ len0 = 0 ∧ cap0 = 0 ∧ z0 = []) ∨ ∃ x, a0 = some x ∧ len0 <= cap0 ∧ cap0 <= maxLen ∧ z0.length = cap0 ∧ (∀ i, i < z0.length -> w.cell? (x.add i) = some (.int .u8 (z0.getD i 0))) ∧ ∀ n ∈ z0, (Lit.int .u8 n).wf = true) (y0 : len0 * 1 <= 140737488351232) :
  Calls Try.prog 6 #[.slice a0 len0 cap0] w fun e w' => e = .returned (.bool true) ∧ Below w.heap.size w w' := by
 obtain ⟨l0, rfl, hr0, hm0, hw0, hc0⟩ := Yx.ofRowC w0
 obtain ⟨k, h⟩ := P l0 hm0 y0 hw0
 refine (Qg.calls k _ _ l0 true w (Kd.C_of_reads (d := (0 : Int)) (h1 := fun _ => rfl) hr0) hc0 h rfl).mono ?_
 rintro e w' ⟨rfl, hd⟩
 exact ⟨rfl, hd⟩
end Go.Proofs.Yteapnipnoadejaa.P
