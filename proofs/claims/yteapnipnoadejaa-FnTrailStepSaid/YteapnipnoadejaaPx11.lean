/- PROVED: contracts of functions; No condition. -/
import Derived.Test.YteapnipnoadejaaPx0
import Derived.Test.YteapnipnoadejaaPx4
import Derived.Test.YteapnipnoadejaaPx6
import Derived.Test.YteapnipnoadejaaPx9
import Derived.Test.YteapnipnoadejaaPx10
namespace Go.Proofs.Yteapnipnoadejaa.P
open Go.RowKit Go.Proofs.YteapnipnoadejaaW
set_option linter.unusedVariables false
set_option linter.unusedSimpArgs false
mutual
def Wd.j1 : Nat -> List Int -> Int -> Int -> List (S42) -> Option (Int × (List (S42)) × Int)
 | 0, _, _, _, _ => none
 | k + 1, x1000, x1001, x164000, x164001 => some (x164000, x164001, x1001)
def Wd.l0 : Nat -> List Int -> Int -> Int -> List (S42) -> Option (Int × (List (S42)) × Int)
 | 0, _, _, _, _ => none
 | k + 1, x1000, x1001, x164000, x164001 => if (x164001.length : Int) <= (wrap64 (x164000 * 5)) then (if x164001.length < 8796093022208 then (Wd.l0 k x1000 x1001 x164000 (x164001 ++ [(⟨0, 0⟩ : S42)])) else (none)) else (Wd.j1 k x1000 x1001 x164000 x164001)
end
def Wd.f (k : Nat) (s0_0 : List Int) (s0_1 : Int) : Option (Int × (List (S42)) × Int) := (Za.f k s0_0 s0_1).bind fun bt158 => ((Qu.f k s0_0 bt158.2.2 24).bind fun bt164 => (if bt164.1 > 0 then (some (bt158.1, bt158.2.1, bt164.2)) else ((Qu.f k s0_0 bt164.2 5).bind fun bt166 => (if bt166.1 = 0 then ((some (([0, (-1), 6] : List Int) : List Int)).bind fun y168 => ((Qu.f k s0_0 bt166.2 3).bind fun bt171 => (if 0 <= bt171.1 then (if bt171.1 < (y168.length : Int) then (Wd.j1 k s0_0 bt171.2 (rd y168 bt171.1) bt158.2.1) else (none)) else (none)))) else (if bt166.1 = 1 then (if 1 <= (bt158.2.1.length : Int) then (Wd.j1 k s0_0 bt166.2 bt158.1 (bt158.2.1.drop (1 : Int).toNat)) else (none)) else (if bt166.1 = 2 then ((Qu.f k s0_0 bt166.2 (bt158.2.1.length : Int)).bind fun bt177 => ((Xc.f k s0_0 bt177.2).bind fun bt179 => (if 0 <= bt177.1 then (if bt177.1 < (bt158.2.1.length : Int) then (Wd.j1 k s0_0 bt179.2.2 bt158.1 (bt158.2.1.set (bt177.1 : Int).toNat (⟨bt179.1, bt179.2.1⟩ : S42))) else (none)) else (none)))) else (if bt166.1 = 3 then (Wd.l0 k s0_0 bt166.2 bt158.1 bt158.2.1) else (Wd.j1 k s0_0 bt166.2 bt158.1 ([] : List (S42))))))))))
def Wd.T11 : Bool × List (List Nat × List Nat) := (true, [([], []), ([0], [0]), ([], []), ([], []), ([3], [3]), ([4], [4]), ([2, 5], [2, 5]), ([], []), ([7, 6], [7]), ([1, 6, 0, 1, 2, 3, 4, 5, 6, 7, 8], [1, 6]), ([9, 8, 8, 0, 1, 2, 3, 4, 5, 6, 7, 8], [8, 9])])
def Wd.B11 : List Nat := [0, 1, 0, 0, 8, 24, 60, 0, 252, 511, 1023]
theorem Wd.tab11 : rtab .any (opsOf Try.f43 11) = Wd.T11 := by kernel_rfl
theorem Wd.bits11 : waitsOk Wd.T11.2 Wd.B11 = true := by kernel_rfl
set_option maxHeartbeats 8000000 in
set_option maxRecDepth 100000 in
theorem Wd.calls (k : Nat) (g : Nat) (s0_0 : List Int) (s0_1 : Int) (r1 : Int) (r2 : List (S42)) (r3 : Int) (w0 w : World) (hI : Qi w0 w g s0_0 s0_1) (hB : Below w0.heap.size w0 w) (h : Wd.f k s0_0 s0_1 = some (r1, r2, r3)) :
  Calls Try.prog 43 #[.pointer (some ⟨g, 0, none⟩)] w fun e w' => ∃ v1_ : Value, e = .returned (.agg #[.int .i64 r1, v1_]) ∧ Kd.Q k42 42 w' w.heap.size (fun _ => True) v1_ r2 ∧ Qi w0 w' g s0_0 r3 ∧ Below w0.heap.size w0 w' ∧ Qn w w' g none := by
 have hu25 := Try.underlying25
 have hu42 := Try.underlying42
 have HI0 := Qa.mk hI
 have HK := Qa.mk (Qn.refl w g none)
 have HL := Qa.mk hB.size
 clear hI
 have HW0 := Qa.mk hB.size
 have HB := Qa.mk hB
 clear hB
 have H : ((Za.f k s0_0 s0_1).bind fun bt158 => ((Qu.f k s0_0 bt158.2.2 24).bind fun bt164 => (if bt164.1 > 0 then (some (bt158.1, bt158.2.1, bt164.2)) else ((Qu.f k s0_0 bt164.2 5).bind fun bt166 => (if bt166.1 = 0 then ((some (([0, (-1), 6] : List Int) : List Int)).bind fun y168 => ((Qu.f k s0_0 bt166.2 3).bind fun bt171 => (if 0 <= bt171.1 then (if bt171.1 < (y168.length : Int) then (Wd.j1 k s0_0 bt171.2 (rd y168 bt171.1) bt158.2.1) else (none)) else (none)))) else (if bt166.1 = 1 then (if 1 <= (bt158.2.1.length : Int) then (Wd.j1 k s0_0 bt166.2 bt158.1 (bt158.2.1.drop (1 : Int).toNat)) else (none)) else (if bt166.1 = 2 then ((Qu.f k s0_0 bt166.2 (bt158.2.1.length : Int)).bind fun bt177 => ((Xc.f k s0_0 bt177.2).bind fun bt179 => (if 0 <= bt177.1 then (if bt177.1 < (bt158.2.1.length : Int) then (Wd.j1 k s0_0 bt179.2.2 bt158.1 (bt158.2.1.set (bt177.1 : Int).toNat (⟨bt179.1, bt179.2.1⟩ : S42))) else (none)) else (none)))) else (if bt166.1 = 3 then (Wd.l0 k s0_0 bt166.2 bt158.1 bt158.2.1) else (Wd.j1 k s0_0 bt166.2 bt158.1 ([] : List (S42))))))))))) = some (r1, r2, r3) := h
 clear h
 replace H := Option.bind_eq_some_iff.mp H
 obtain ⟨⟨t158, t159, t162⟩, A20, H⟩ := H
 replace H : ((Qu.f k s0_0 t162 24).bind fun bt164 => (if bt164.1 > 0 then (some (t158, t159, bt164.2)) else ((Qu.f k s0_0 bt164.2 5).bind fun bt166 => (if bt166.1 = 0 then ((some (([0, (-1), 6] : List Int) : List Int)).bind fun y168 => ((Qu.f k s0_0 bt166.2 3).bind fun bt171 => (if 0 <= bt171.1 then (if bt171.1 < (y168.length : Int) then (Wd.j1 k s0_0 bt171.2 (rd y168 bt171.1) t159) else (none)) else (none)))) else (if bt166.1 = 1 then (if 1 <= (t159.length : Int) then (Wd.j1 k s0_0 bt166.2 t158 (t159.drop (1 : Int).toNat)) else (none)) else (if bt166.1 = 2 then ((Qu.f k s0_0 bt166.2 (t159.length : Int)).bind fun bt177 => ((Xc.f k s0_0 bt177.2).bind fun bt179 => (if 0 <= bt177.1 then (if bt177.1 < (t159.length : Int) then (Wd.j1 k s0_0 bt179.2.2 t158 (t159.set (bt177.1 : Int).toNat (⟨bt179.1, bt179.2.1⟩ : S42))) else (none)) else (none)))) else (if bt166.1 = 3 then (Wd.l0 k s0_0 bt166.2 t158 t159) else (Wd.j1 k s0_0 bt166.2 t158 ([] : List (S42)))))))))) = some (r1, r2, r3) := H
 have A2 := Qa.mk A20
 clear A20
 replace H := Option.bind_eq_some_iff.mp H
 obtain ⟨⟨t164, t165⟩, A30, H⟩ := H
 replace H : (if t164 > 0 then (some (t158, t159, t165)) else ((Qu.f k s0_0 t165 5).bind fun bt166 => (if bt166.1 = 0 then ((some (([0, (-1), 6] : List Int) : List Int)).bind fun y168 => ((Qu.f k s0_0 bt166.2 3).bind fun bt171 => (if 0 <= bt171.1 then (if bt171.1 < (y168.length : Int) then (Wd.j1 k s0_0 bt171.2 (rd y168 bt171.1) t159) else (none)) else (none)))) else (if bt166.1 = 1 then (if 1 <= (t159.length : Int) then (Wd.j1 k s0_0 bt166.2 t158 (t159.drop (1 : Int).toNat)) else (none)) else (if bt166.1 = 2 then ((Qu.f k s0_0 bt166.2 (t159.length : Int)).bind fun bt177 => ((Xc.f k s0_0 bt177.2).bind fun bt179 => (if 0 <= bt177.1 then (if bt177.1 < (t159.length : Int) then (Wd.j1 k s0_0 bt179.2.2 t158 (t159.set (bt177.1 : Int).toNat (⟨bt179.1, bt179.2.1⟩ : S42))) else (none)) else (none)))) else (if bt166.1 = 3 then (Wd.l0 k s0_0 bt166.2 t158 t159) else (Wd.j1 k s0_0 bt166.2 t158 ([] : List (S42))))))))) = some (r1, r2, r3) := H
 have A3 := Qa.mk A30
 clear A30
 by_cases c4 : t164 > 0
 ·rw [if_pos c4] at H
  have c4b0 : decide (0 < t164) = true := decide_eq_true c4
  clear c4
  simp only [Option.some.injEq, Prod.mk.injEq] at H
  obtain ⟨rfl, rfl, rfl⟩ := H
  go_enter Try.func43, Try.ntmps43
  go_wp2_with (first | ((with_reducible refine We (N := 2) rfl ?_); refine Qy rfl (N := 2) rfl (cs := #[.int .i64 0, .slice none 0 0]) (t := 25) ?hr ?_; (case hr => first | (go_simp; done) | (go_simp; rfl)); intro gb157 hg w5 hbox hb; have n0_ := Qa.mk (Qi.below (by repeat (first | (with_reducible first | exact HI0.out | apply Qi.alloc | apply Qi.drewN | apply Qi.drew | apply Qi.Zr) | exact HI0.out)) hb); have n1_ := Qa.mk (Qn.trans (by repeat (first | (with_reducible first | exact HK.out | apply Qn.set_ | apply Qv | apply Qz | apply Qw) | exact HK.out)) (Qn.of_below hb g none) (.inl rfl)); have n2_ := Qa.mk (Ql (by repeat (first | (with_reducible first | exact HB.out | apply Qc | apply Qb | apply Qq | refine Qm ?_ (Qi.ge HI0.out)) | exact HB.out)) hb); have n3_ := Qa.mk (hbox); have n4_ := Qa.mk ((by rw [hg]; exact (Yd (w := w) (g := g) (row := none) (by repeat (first | (with_reducible first | exact HK.out | apply Qn.set_ | apply Qv | apply Qz | apply Qw) | exact HK.out))) : w.heap.size <= gb157)); have n5_ := Qa.mk ((Nat.le_trans HW0.out (by rw [hg]; exact (Yd (w := w) (g := g) (row := none) (by repeat (first | (with_reducible first | exact HK.out | apply Qn.set_ | apply Qv | apply Qz | apply Qw) | exact HK.out))) : w.heap.size <= gb157) : w0.heap.size <= gb157)); have n6_ := Qa.mk ((by rw [hg]; exact Nat.ne_of_lt (Qi.lt (show Qi w0 _ g s0_0 s0_1 from by repeat (first | (with_reducible first | exact HI0.out | apply Qi.alloc | apply Qi.drewN | apply Qi.drew | apply Qi.Zr) | exact HI0.out))) : g ≠ gb157)); have n7_ := Qa.mk ((by rw [hg]; exact Nat.ne_of_gt (Qi.lt (show Qi w0 _ g s0_0 s0_1 from by repeat (first | (with_reducible first | exact HI0.out | apply Qi.alloc | apply Qi.drewN | apply Qi.drew | apply Qi.Zr) | exact HI0.out))) : gb157 ≠ g)); clear HI0; clear HK; clear HB; have HI0 := n0_; have HK := n1_; have HB := n2_; have BK157 := n3_; have GW157 := n4_; have GE157 := n5_; have NB0_157 := n6_; have NB157_0 := n7_; clear n0_ n1_ n2_ n3_ n4_ n5_ n6_ n7_; clear hb hbox hg) | ((with_reducible refine Wi (f := 58) rfl ?_); refine Zu (some 5) rfl rfl Try.func58 (by kernel_rfl) rfl #[.pointer (some ⟨g, 0, none⟩)] rfl (by first | rfl | (simp only [List.map_toArray, List.map_cons, List.map_nil, List.length_drop, List.length_take]; try rfl)) ?_; (with_reducible refine (Za.calls k g s0_0 s0_1 t158 t159 t162 w0 _ ?side1 ?side2 A2.out).mono ?_); (case side1 => repeat (first | (with_reducible first | exact HI0.out | apply Qi.alloc | apply Qi.drewN | apply Qi.drew | apply Qi.Zr | refine Qi.far ?_ NB0_157.out _) | exact HI0.out)); (case side2 => repeat (first | (with_reducible first | exact HB.out | apply Qc | apply Qb | apply Qq | refine Qm ?_ (Qi.ge HI0.out) | refine Qm ?_ GE157.out) | exact HB.out)); rintro e w6 ⟨v160, rfl, ho0, hi, hb, hk⟩; refine ⟨_, rfl, ?_⟩; have n0_ := Qa.mk (Qn.blk hk (g' := gb157) (o := .cells #[.int .i64 0, .slice none 0 0] 25 (0, 0)) (bK BK157.out) NB157_0.out (by simp)); have n1_ := Qa.mk (Kd.Yy ho0 (Yd (w := w) (g := g) (row := none) (by repeat (first | (with_reducible first | exact HK.out | apply Qn.set_ | apply Qv | apply Qz | apply Qw | refine Wn ?_ GW157.out _) | exact HK.out)))); have n2_ := Qa.mk (Qn.trans (by repeat (first | (with_reducible first | exact HK.out | apply Qn.set_ | apply Qv | apply Qz | apply Qw | refine Wn ?_ GW157.out _) | exact HK.out)) hk (.inl rfl)); have n3_ := Qa.mk (hb); have n4_ := Qa.mk (hi); clear BK157; clear HK; clear HB; clear HI0; have BK157 := n0_; have HO161 := n1_; have HK := n2_; have HB := n3_; have HI0 := n4_; clear n0_ n1_ n2_ n3_ n4_; (try clear hb); (try clear hb2); (try clear hk); (try clear hi); (try clear ho0)) | ((with_reducible refine We (N := 3) rfl ?_); refine Qy rfl (N := 3) rfl (cs := #[.int .i64 0, .slice none 0 0]) (t := 25) ?hr ?_; (case hr => first | (go_simp; done) | (go_simp; rfl)); intro gb163 hg w7 hbox hb; have n0_ := Qa.mk (Kd.Ze (kR HO161.out) hb); have n1_ := Qa.mk (Qi.below (by repeat (first | (with_reducible first | exact HI0.out | apply Qi.alloc | apply Qi.drewN | apply Qi.drew | apply Qi.Zr | refine Qi.far ?_ NB0_157.out _) | exact HI0.out)) hb); have n2_ := Qa.mk (Qk (bK BK157.out) hb); have n3_ := Qa.mk (Qn.trans (by repeat (first | (with_reducible first | exact HK.out | apply Qn.set_ | apply Qv | apply Qz | apply Qw | refine Wn ?_ GW157.out _) | exact HK.out)) (Qn.of_below hb g none) (.inl rfl)); have n4_ := Qa.mk (Ql (by repeat (first | (with_reducible first | exact HB.out | apply Qc | apply Qb | apply Qq | refine Qm ?_ (Qi.ge HI0.out) | refine Qm ?_ GE157.out) | exact HB.out)) hb); have n5_ := Qa.mk (hbox); have n6_ := Qa.mk ((by rw [hg]; exact (Yd (w := w) (g := g) (row := none) (by repeat (first | (with_reducible first | exact HK.out | apply Qn.set_ | apply Qv | apply Qz | apply Qw | refine Wn ?_ GW157.out _) | exact HK.out))) : w.heap.size <= gb163)); have n7_ := Qa.mk ((Nat.le_trans HW0.out (by rw [hg]; exact (Yd (w := w) (g := g) (row := none) (by repeat (first | (with_reducible first | exact HK.out | apply Qn.set_ | apply Qv | apply Qz | apply Qw | refine Wn ?_ GW157.out _) | exact HK.out))) : w.heap.size <= gb163) : w0.heap.size <= gb163)); have n8_ := Qa.mk ((by rw [hg]; exact Nat.ne_of_lt (Wl (bK BK157.out)) : gb157 ≠ gb163)); have n9_ := Qa.mk ((by rw [hg]; exact Nat.ne_of_gt (Wl (bK BK157.out)) : gb163 ≠ gb157)); have n10_ := Qa.mk ((by rw [hg]; exact Nat.ne_of_lt (Qi.lt (show Qi w0 _ g s0_0 t162 from by repeat (first | (with_reducible first | exact HI0.out | apply Qi.alloc | apply Qi.drewN | apply Qi.drew | apply Qi.Zr | refine Qi.far ?_ NB0_157.out _) | exact HI0.out))) : g ≠ gb163)); have n11_ := Qa.mk ((by rw [hg]; exact Nat.ne_of_gt (Qi.lt (show Qi w0 _ g s0_0 t162 from by repeat (first | (with_reducible first | exact HI0.out | apply Qi.alloc | apply Qi.drewN | apply Qi.drew | apply Qi.Zr | refine Qi.far ?_ NB0_157.out _) | exact HI0.out))) : gb163 ≠ g)); clear HO161; clear HI0; clear BK157; clear HK; clear HB; have HO161 := n0_; have HI0 := n1_; have BK157 := n2_; have HK := n3_; have HB := n4_; have BK163 := n5_; have GW163 := n6_; have GE163 := n7_; have NB157_163 := n8_; have NB163_157 := n9_; have NB0_163 := n10_; have NB163_0 := n11_; clear n0_ n1_ n2_ n3_ n4_ n5_ n6_ n7_ n8_ n9_ n10_ n11_; clear hb hbox hg; have hnb8 := NB163_157.out; have hnc8 := NB157_163.out; have hnb9 := NB163_0.out; have hnc9 := NB0_163.out; have hcz10_0 : w7.cell? ⟨gb163, 0, none⟩ = some (.int .i64 0) := (Qe BK163.out 0).trans rfl; have hcz10_1 : w7.cell? ⟨gb163, 1, none⟩ = some (.slice none 0 0) := (Qe BK163.out 1).trans rfl; have hfz10_0 := Qf BK163.out 0; have hfz10_1 := Qf BK163.out 1; obtain ⟨Ao11, co11, eo11⟩ := Kd.Zk HO161.out; subst eo11) | ((with_reducible refine Wi (f := 42) rfl ?_); refine Zu (some 7) rfl rfl Try.func42 (by kernel_rfl) rfl #[.pointer (some ⟨g, 0, none⟩), .int .i64 24] rfl (by first | rfl | (simp only [List.map_toArray, List.map_cons, List.map_nil, List.length_drop, List.length_take]; try rfl)) ?_; (with_reducible refine (Qu.calls k g s0_0 t162 24 t164 t165 w0 _ ?side1 ?side2 A3.out).mono ?_); (case side1 => repeat (first | (with_reducible first | exact HI0.out | apply Qi.alloc | apply Qi.drewN | apply Qi.drew | apply Qi.Zr | refine Qi.far ?_ NB0_157.out _ | refine Qi.far ?_ NB0_163.out _) | exact HI0.out)); (case side2 => repeat (first | (with_reducible first | exact HB.out | apply Qc | apply Qb | apply Qq | refine Qm ?_ (Qi.ge HI0.out) | refine Qm ?_ GE157.out | refine Qm ?_ GE163.out) | exact HB.out)); rintro e w12 ⟨rfl, hi, hb, hk⟩; refine ⟨_, rfl, ?_⟩; have n0_ := Qa.mk (Qn.blk hk (g' := gb157) (o := .cells #[.int .i64 0, .slice none 0 0] 25 (0, 0)) (by (with_reducible repeat apply Qd); refine Qo ?_ NB157_163.out _; (with_reducible repeat apply Qd); refine Qo ?_ NB157_163.out _; (with_reducible repeat apply Qd); exact BK157.out) NB157_0.out (by simp)); have n1_ := Qa.mk (Kd.Wz (Kd.R_keep (Qi.apart (show Qi w0 _ g s0_0 t162 from by repeat (first | (with_reducible first | exact HI0.out | apply Qi.alloc | apply Qi.drewN | apply Qi.drew | apply Qi.Zr | refine Qi.far ?_ NB0_157.out _ | refine Qi.far ?_ NB0_163.out _) | exact HI0.out)) (by (with_reducible repeat apply Kd.Wo); exact (Kd.Wz (Kd.Zc (p := ⟨gb163, 1, none⟩) (Kd.Zc (p := ⟨gb163, 0, none⟩) (Kd.Zq HO161.out BK163.out (by decide)) (fun _ hk => hk.2) (.int .i64 t158)) (fun _ hk => hk.2) (.slice Ao11 t159.length co11)) (fun _ h_ => h_.1))) (by decide)) hk (fun _ h => h.2)) (fun _ h => h.1)); have n2_ := Qa.mk (Qn.blk hk (g' := gb163) (o := .cells #[.int .i64 t158, .slice Ao11 t159.length co11] 25 (0, 0)) (by (with_reducible repeat apply Qd); refine Wm (cs := #[.int .i64 t158, .slice none 0 0]) ?_ 1 _ rfl; (with_reducible repeat apply Qd); refine Wm (cs := #[.int .i64 0, .slice none 0 0]) ?_ 0 _ rfl; (with_reducible repeat apply Qd); exact BK163.out) NB163_0.out (by simp)); have n3_ := Qa.mk (Qn.trans (by repeat (first | (with_reducible first | exact HK.out | apply Qn.set_ | apply Qv | apply Qz | apply Qw | refine Wn ?_ GW157.out _ | refine Wn ?_ GW163.out _) | exact HK.out)) hk (.inl rfl)); have n4_ := Qa.mk (hb); have n5_ := Qa.mk (hi); clear BK157; clear HO161; clear BK163; clear HK; clear HB; clear HI0; have BK157 := n0_; have HO161 := n1_; have BK163 := n2_; have HK := n3_; have HB := n4_; have HI0 := n5_; clear n0_ n1_ n2_ n3_ n4_ n5_; (try clear hb); (try clear hb2); (try clear hk); (try clear hi); have hcz13_0 : w12.cell? ⟨gb163, 0, none⟩ = some (.int .i64 t158) := (Qe BK163.out 0).trans rfl; have hcz13_1 : w12.cell? ⟨gb163, 1, none⟩ = some (.slice Ao11 t159.length co11) := (Qe BK163.out 1).trans rfl; have hfz13_0 := Qf BK163.out 0; have hfz13_1 := Qf BK163.out 1; have hnb14 := NB157_0.out; have hnc14 := NB0_157.out; have hcz15_0 : w12.cell? ⟨gb157, 0, none⟩ = some (.int .i64 0) := (Qe BK157.out 0).trans rfl; have hcz15_1 : w12.cell? ⟨gb157, 1, none⟩ = some (.slice none 0 0) := (Qe BK157.out 1).trans rfl; have hfz15_0 := Qf BK157.out 0; have hfz15_1 := Qf BK157.out 1))
  refine bodyPost_ret (results_cell_row rfl _ _ gb157 25 #[.int .i64 t158, .slice Ao11 t159.length co11] (0, 0) _ rfl (by (with_reducible repeat apply Qd); refine Wm (cs := #[.int .i64 t158, .slice none 0 0]) ?_ 1 _ rfl; (with_reducible repeat apply Qd); refine Wm (cs := #[.int .i64 0, .slice none 0 0]) ?_ 0 _ rfl; (with_reducible repeat apply Qd); exact BK157.out) Try.underlying25 rfl (by kernel_rfl)) rfl ?_
  exact ⟨_, by first | rfl | (simp [Qt, Qs] <;> rfl) | (simp [*, Qt, Qs] <;> rfl) | (exfalso; simp_all; done), Kd.Q_of_R (by (with_reducible repeat apply Kd.Wo); exact Kd.Wz (Kd.Zc (p := ⟨gb157, 1, none⟩) (Kd.Zc (p := ⟨gb157, 0, none⟩) (Kd.Zq HO161.out BK157.out (by decide)) (fun _ hk => hk.2) (.int .i64 t158)) (fun _ hk => hk.2) (.slice Ao11 t159.length co11)) (fun _ hk => trivial)), by repeat (first | (with_reducible first | exact HI0.out | apply Qi.alloc | apply Qi.drewN | apply Qi.drew | apply Qi.Zr | refine Qi.far ?_ NB0_157.out _ | refine Qi.far ?_ NB0_163.out _) | exact HI0.out), by repeat (first | (with_reducible first | exact HB.out | apply Qc | apply Qb | apply Qq | refine Qm ?_ (Qi.ge HI0.out) | refine Qm ?_ GE157.out | refine Qm ?_ GE163.out) | exact HB.out), by repeat (first | (with_reducible first | exact HK.out | apply Qn.set_ | apply Qv | apply Qz | apply Qw | refine Wn ?_ GW157.out _ | refine Wn ?_ GW163.out _) | exact HK.out)⟩
 ·rw [if_neg c4] at H
  have c4b0 : decide (0 < t164) = false := decide_eq_false c4
  clear c4
  replace H := Option.bind_eq_some_iff.mp H
  obtain ⟨⟨t166, t167⟩, A160, H⟩ := H
  replace H : (if t166 = 0 then ((some (([0, (-1), 6] : List Int) : List Int)).bind fun y168 => ((Qu.f k s0_0 t167 3).bind fun bt171 => (if 0 <= bt171.1 then (if bt171.1 < (y168.length : Int) then (Wd.j1 k s0_0 bt171.2 (rd y168 bt171.1) t159) else (none)) else (none)))) else (if t166 = 1 then (if 1 <= (t159.length : Int) then (Wd.j1 k s0_0 t167 t158 (t159.drop (1 : Int).toNat)) else (none)) else (if t166 = 2 then ((Qu.f k s0_0 t167 (t159.length : Int)).bind fun bt177 => ((Xc.f k s0_0 bt177.2).bind fun bt179 => (if 0 <= bt177.1 then (if bt177.1 < (t159.length : Int) then (Wd.j1 k s0_0 bt179.2.2 t158 (t159.set (bt177.1 : Int).toNat (⟨bt179.1, bt179.2.1⟩ : S42))) else (none)) else (none)))) else (if t166 = 3 then (Wd.l0 k s0_0 t167 t158 t159) else (Wd.j1 k s0_0 t167 t158 ([] : List (S42))))))) = some (r1, r2, r3) := H
  have A16 := Qa.mk A160
  clear A160
  have HC17 := Qa.mk H
  clear H
  go_enter Try.func43, Try.ntmps43
  go_upto_block 0 with (first | ((with_reducible refine We (N := 2) rfl ?_); refine Qy rfl (N := 2) rfl (cs := #[.int .i64 0, .slice none 0 0]) (t := 25) ?hr ?_; (case hr => first | (go_simp; done) | (go_simp; rfl)); intro gb157 hg w18 hbox hb; have n0_ := Qa.mk (Qi.below (by repeat (first | (with_reducible first | exact HI0.out | apply Qi.alloc | apply Qi.drewN | apply Qi.drew | apply Qi.Zr) | exact HI0.out)) hb); have n1_ := Qa.mk (Qn.trans (by repeat (first | (with_reducible first | exact HK.out | apply Qn.set_ | apply Qv | apply Qz | apply Qw) | exact HK.out)) (Qn.of_below hb g none) (.inl rfl)); have n2_ := Qa.mk (Ql (by repeat (first | (with_reducible first | exact HB.out | apply Qc | apply Qb | apply Qq | refine Qm ?_ (Qi.ge HI0.out)) | exact HB.out)) hb); have n3_ := Qa.mk (hbox); have n4_ := Qa.mk ((by rw [hg]; exact (Yd (w := w) (g := g) (row := none) (by repeat (first | (with_reducible first | exact HK.out | apply Qn.set_ | apply Qv | apply Qz | apply Qw) | exact HK.out))) : w.heap.size <= gb157)); have n5_ := Qa.mk ((Nat.le_trans HW0.out (by rw [hg]; exact (Yd (w := w) (g := g) (row := none) (by repeat (first | (with_reducible first | exact HK.out | apply Qn.set_ | apply Qv | apply Qz | apply Qw) | exact HK.out))) : w.heap.size <= gb157) : w0.heap.size <= gb157)); have n6_ := Qa.mk ((by rw [hg]; exact Nat.ne_of_lt (Qi.lt (show Qi w0 _ g s0_0 s0_1 from by repeat (first | (with_reducible first | exact HI0.out | apply Qi.alloc | apply Qi.drewN | apply Qi.drew | apply Qi.Zr) | exact HI0.out))) : g ≠ gb157)); have n7_ := Qa.mk ((by rw [hg]; exact Nat.ne_of_gt (Qi.lt (show Qi w0 _ g s0_0 s0_1 from by repeat (first | (with_reducible first | exact HI0.out | apply Qi.alloc | apply Qi.drewN | apply Qi.drew | apply Qi.Zr) | exact HI0.out))) : gb157 ≠ g)); clear HI0; clear HK; clear HB; have HI0 := n0_; have HK := n1_; have HB := n2_; have BK157 := n3_; have GW157 := n4_; have GE157 := n5_; have NB0_157 := n6_; have NB157_0 := n7_; clear n0_ n1_ n2_ n3_ n4_ n5_ n6_ n7_; clear hb hbox hg) | ((with_reducible refine Wi (f := 58) rfl ?_); refine Zu (some 5) rfl rfl Try.func58 (by kernel_rfl) rfl #[.pointer (some ⟨g, 0, none⟩)] rfl (by first | rfl | (simp only [List.map_toArray, List.map_cons, List.map_nil, List.length_drop, List.length_take]; try rfl)) ?_; (with_reducible refine (Za.calls k g s0_0 s0_1 t158 t159 t162 w0 _ ?side1 ?side2 A2.out).mono ?_); (case side1 => repeat (first | (with_reducible first | exact HI0.out | apply Qi.alloc | apply Qi.drewN | apply Qi.drew | apply Qi.Zr | refine Qi.far ?_ NB0_157.out _) | exact HI0.out)); (case side2 => repeat (first | (with_reducible first | exact HB.out | apply Qc | apply Qb | apply Qq | refine Qm ?_ (Qi.ge HI0.out) | refine Qm ?_ GE157.out) | exact HB.out)); rintro e w19 ⟨v160, rfl, ho0, hi, hb, hk⟩; refine ⟨_, rfl, ?_⟩; have n0_ := Qa.mk (Qn.blk hk (g' := gb157) (o := .cells #[.int .i64 0, .slice none 0 0] 25 (0, 0)) (bK BK157.out) NB157_0.out (by simp)); have n1_ := Qa.mk (Kd.Yy ho0 (Yd (w := w) (g := g) (row := none) (by repeat (first | (with_reducible first | exact HK.out | apply Qn.set_ | apply Qv | apply Qz | apply Qw | refine Wn ?_ GW157.out _) | exact HK.out)))); have n2_ := Qa.mk (Qn.trans (by repeat (first | (with_reducible first | exact HK.out | apply Qn.set_ | apply Qv | apply Qz | apply Qw | refine Wn ?_ GW157.out _) | exact HK.out)) hk (.inl rfl)); have n3_ := Qa.mk (hb); have n4_ := Qa.mk (hi); clear BK157; clear HK; clear HB; clear HI0; have BK157 := n0_; have HO161 := n1_; have HK := n2_; have HB := n3_; have HI0 := n4_; clear n0_ n1_ n2_ n3_ n4_; (try clear hb); (try clear hb2); (try clear hk); (try clear hi); (try clear ho0)) | ((with_reducible refine We (N := 3) rfl ?_); refine Qy rfl (N := 3) rfl (cs := #[.int .i64 0, .slice none 0 0]) (t := 25) ?hr ?_; (case hr => first | (go_simp; done) | (go_simp; rfl)); intro gb163 hg w20 hbox hb; have n0_ := Qa.mk (Kd.Ze (kR HO161.out) hb); have n1_ := Qa.mk (Qi.below (by repeat (first | (with_reducible first | exact HI0.out | apply Qi.alloc | apply Qi.drewN | apply Qi.drew | apply Qi.Zr | refine Qi.far ?_ NB0_157.out _) | exact HI0.out)) hb); have n2_ := Qa.mk (Qk (bK BK157.out) hb); have n3_ := Qa.mk (Qn.trans (by repeat (first | (with_reducible first | exact HK.out | apply Qn.set_ | apply Qv | apply Qz | apply Qw | refine Wn ?_ GW157.out _) | exact HK.out)) (Qn.of_below hb g none) (.inl rfl)); have n4_ := Qa.mk (Ql (by repeat (first | (with_reducible first | exact HB.out | apply Qc | apply Qb | apply Qq | refine Qm ?_ (Qi.ge HI0.out) | refine Qm ?_ GE157.out) | exact HB.out)) hb); have n5_ := Qa.mk (hbox); have n6_ := Qa.mk ((by rw [hg]; exact (Yd (w := w) (g := g) (row := none) (by repeat (first | (with_reducible first | exact HK.out | apply Qn.set_ | apply Qv | apply Qz | apply Qw | refine Wn ?_ GW157.out _) | exact HK.out))) : w.heap.size <= gb163)); have n7_ := Qa.mk ((Nat.le_trans HW0.out (by rw [hg]; exact (Yd (w := w) (g := g) (row := none) (by repeat (first | (with_reducible first | exact HK.out | apply Qn.set_ | apply Qv | apply Qz | apply Qw | refine Wn ?_ GW157.out _) | exact HK.out))) : w.heap.size <= gb163) : w0.heap.size <= gb163)); have n8_ := Qa.mk ((by rw [hg]; exact Nat.ne_of_lt (Wl (bK BK157.out)) : gb157 ≠ gb163)); have n9_ := Qa.mk ((by rw [hg]; exact Nat.ne_of_gt (Wl (bK BK157.out)) : gb163 ≠ gb157)); have n10_ := Qa.mk ((by rw [hg]; exact Nat.ne_of_lt (Qi.lt (show Qi w0 _ g s0_0 t162 from by repeat (first | (with_reducible first | exact HI0.out | apply Qi.alloc | apply Qi.drewN | apply Qi.drew | apply Qi.Zr | refine Qi.far ?_ NB0_157.out _) | exact HI0.out))) : g ≠ gb163)); have n11_ := Qa.mk ((by rw [hg]; exact Nat.ne_of_gt (Qi.lt (show Qi w0 _ g s0_0 t162 from by repeat (first | (with_reducible first | exact HI0.out | apply Qi.alloc | apply Qi.drewN | apply Qi.drew | apply Qi.Zr | refine Qi.far ?_ NB0_157.out _) | exact HI0.out))) : gb163 ≠ g)); clear HO161; clear HI0; clear BK157; clear HK; clear HB; have HO161 := n0_; have HI0 := n1_; have BK157 := n2_; have HK := n3_; have HB := n4_; have BK163 := n5_; have GW163 := n6_; have GE163 := n7_; have NB157_163 := n8_; have NB163_157 := n9_; have NB0_163 := n10_; have NB163_0 := n11_; clear n0_ n1_ n2_ n3_ n4_ n5_ n6_ n7_ n8_ n9_ n10_ n11_; clear hb hbox hg; have hnb21 := NB163_157.out; have hnc21 := NB157_163.out; have hnb22 := NB163_0.out; have hnc22 := NB0_163.out; have hcz23_0 : w20.cell? ⟨gb163, 0, none⟩ = some (.int .i64 0) := (Qe BK163.out 0).trans rfl; have hcz23_1 : w20.cell? ⟨gb163, 1, none⟩ = some (.slice none 0 0) := (Qe BK163.out 1).trans rfl; have hfz23_0 := Qf BK163.out 0; have hfz23_1 := Qf BK163.out 1; obtain ⟨Ao24, co24, eo24⟩ := Kd.Zk HO161.out; subst eo24) | ((with_reducible refine Wi (f := 42) rfl ?_); refine Zu (some 7) rfl rfl Try.func42 (by kernel_rfl) rfl #[.pointer (some ⟨g, 0, none⟩), .int .i64 24] rfl (by first | rfl | (simp only [List.map_toArray, List.map_cons, List.map_nil, List.length_drop, List.length_take]; try rfl)) ?_; (with_reducible refine (Qu.calls k g s0_0 t162 24 t164 t165 w0 _ ?side1 ?side2 A3.out).mono ?_); (case side1 => repeat (first | (with_reducible first | exact HI0.out | apply Qi.alloc | apply Qi.drewN | apply Qi.drew | apply Qi.Zr | refine Qi.far ?_ NB0_157.out _ | refine Qi.far ?_ NB0_163.out _) | exact HI0.out)); (case side2 => repeat (first | (with_reducible first | exact HB.out | apply Qc | apply Qb | apply Qq | refine Qm ?_ (Qi.ge HI0.out) | refine Qm ?_ GE157.out | refine Qm ?_ GE163.out) | exact HB.out)); rintro e w25 ⟨rfl, hi, hb, hk⟩; refine ⟨_, rfl, ?_⟩; have n0_ := Qa.mk (Qn.blk hk (g' := gb157) (o := .cells #[.int .i64 0, .slice none 0 0] 25 (0, 0)) (by (with_reducible repeat apply Qd); refine Qo ?_ NB157_163.out _; (with_reducible repeat apply Qd); refine Qo ?_ NB157_163.out _; (with_reducible repeat apply Qd); exact BK157.out) NB157_0.out (by simp)); have n1_ := Qa.mk (Kd.Wz (Kd.R_keep (Qi.apart (show Qi w0 _ g s0_0 t162 from by repeat (first | (with_reducible first | exact HI0.out | apply Qi.alloc | apply Qi.drewN | apply Qi.drew | apply Qi.Zr | refine Qi.far ?_ NB0_157.out _ | refine Qi.far ?_ NB0_163.out _) | exact HI0.out)) (by (with_reducible repeat apply Kd.Wo); exact (Kd.Wz (Kd.Zc (p := ⟨gb163, 1, none⟩) (Kd.Zc (p := ⟨gb163, 0, none⟩) (Kd.Zq HO161.out BK163.out (by decide)) (fun _ hk => hk.2) (.int .i64 t158)) (fun _ hk => hk.2) (.slice Ao24 t159.length co24)) (fun _ h_ => h_.1))) (by decide)) hk (fun _ h => h.2)) (fun _ h => h.1)); have n2_ := Qa.mk (Qn.blk hk (g' := gb163) (o := .cells #[.int .i64 t158, .slice Ao24 t159.length co24] 25 (0, 0)) (by (with_reducible repeat apply Qd); refine Wm (cs := #[.int .i64 t158, .slice none 0 0]) ?_ 1 _ rfl; (with_reducible repeat apply Qd); refine Wm (cs := #[.int .i64 0, .slice none 0 0]) ?_ 0 _ rfl; (with_reducible repeat apply Qd); exact BK163.out) NB163_0.out (by simp)); have n3_ := Qa.mk (Qn.trans (by repeat (first | (with_reducible first | exact HK.out | apply Qn.set_ | apply Qv | apply Qz | apply Qw | refine Wn ?_ GW157.out _ | refine Wn ?_ GW163.out _) | exact HK.out)) hk (.inl rfl)); have n4_ := Qa.mk (hb); have n5_ := Qa.mk (hi); clear BK157; clear HO161; clear BK163; clear HK; clear HB; clear HI0; have BK157 := n0_; have HO161 := n1_; have BK163 := n2_; have HK := n3_; have HB := n4_; have HI0 := n5_; clear n0_ n1_ n2_ n3_ n4_ n5_; (try clear hb); (try clear hb2); (try clear hk); (try clear hi)) | ((with_reducible refine Wi (f := 42) rfl ?_); refine Zu (some 11) rfl rfl Try.func42 (by kernel_rfl) rfl #[.pointer (some ⟨g, 0, none⟩), .int .i64 5] rfl (by first | rfl | (simp only [List.map_toArray, List.map_cons, List.map_nil, List.length_drop, List.length_take]; try rfl)) ?_; (with_reducible refine (Qu.calls k g s0_0 t165 5 t166 t167 w0 _ ?side1 ?side2 A16.out).mono ?_); (case side1 => repeat (first | (with_reducible first | exact HI0.out | apply Qi.alloc | apply Qi.drewN | apply Qi.drew | apply Qi.Zr | refine Qi.far ?_ NB0_157.out _ | refine Qi.far ?_ NB0_163.out _) | exact HI0.out)); (case side2 => repeat (first | (with_reducible first | exact HB.out | apply Qc | apply Qb | apply Qq | refine Qm ?_ (Qi.ge HI0.out) | refine Qm ?_ GE157.out | refine Qm ?_ GE163.out) | exact HB.out)); rintro e w26 ⟨rfl, hi, hb, hk⟩; refine ⟨_, rfl, ?_⟩; have n0_ := Qa.mk (Qn.blk hk (g' := gb157) (o := .cells #[.int .i64 0, .slice none 0 0] 25 (0, 0)) (bK BK157.out) NB157_0.out (by simp)); have n1_ := Qa.mk (Kd.Wz (Kd.R_keep (Qi.apart (show Qi w0 _ g s0_0 t165 from by repeat (first | (with_reducible first | exact HI0.out | apply Qi.alloc | apply Qi.drewN | apply Qi.drew | apply Qi.Zr | refine Qi.far ?_ NB0_157.out _ | refine Qi.far ?_ NB0_163.out _) | exact HI0.out)) (kR HO161.out) (by decide)) hk (fun _ h => h.2)) (fun _ h => h.1)); have n2_ := Qa.mk (Qn.blk hk (g' := gb163) (o := .cells #[.int .i64 t158, .slice Ao24 t159.length co24] 25 (0, 0)) (bK BK163.out) NB163_0.out (by simp)); have n3_ := Qa.mk (Qn.trans (by repeat (first | (with_reducible first | exact HK.out | apply Qn.set_ | apply Qv | apply Qz | apply Qw | refine Wn ?_ GW157.out _ | refine Wn ?_ GW163.out _) | exact HK.out)) hk (.inl rfl)); have n4_ := Qa.mk (hb); have n5_ := Qa.mk (hi); clear BK157; clear HO161; clear BK163; clear HK; clear HB; clear HI0; have BK157 := n0_; have HO161 := n1_; have BK163 := n2_; have HK := n3_; have HB := n4_; have HI0 := n5_; clear n0_ n1_ n2_ n3_ n4_ n5_; (try clear hb); (try clear hb2); (try clear hk); (try clear hi)))
  (try simp only [Act.put, List.setIfInBounds_toArray, List.set_cons_zero, List.set_cons_succ])
  go_cut [] (fun wc => ∃ (kq : Nat) (x1001_16 : Int) (x164000_16 : Int) (x164001_16 : List (S42)) (u164001 : Value), Qa (Wd.j1 kq s0_0 x1001_16 x164000_16 x164001_16 = some (r1, r2, r3)) ∧ Qa (kq <= k) ∧ Qa (Kd.Q k42 42 wc w.heap.size (fun _ => True) u164001 x164001_16) ∧ Qa (wc.heap[gb157]? = some (.cells #[.int .i64 0, (.slice none 0 0)] 25 (0, 0))) ∧ Qa (wc.heap[gb163]? = some (.cells #[.int .i64 x164000_16, u164001] 25 (0, 0))) ∧ Qa (Qi w0 wc g s0_0 x1001_16) ∧ Qa (Qn w wc g none) ∧ Qa (Below w0.heap.size w0 wc))
  case first =>
   have H := HC17.out
   clear HC17
   by_cases c27 : t166 = 0
   ·rw [if_pos c27] at H
    have c27b0 : (t166 == 0) = true := beq_iff_eq.mpr c27
    have c27b1 : (t166 != 0) = false := bne_eq_false_iff_eq.mpr c27
    clear c27
    (first | rw [c27b0] | (simp only [Wp, Ws]; rw [c27b0]) | skip)
    obtain ⟨y168, hy168⟩ : ∃ y_ : List Int, y_ = (([0, (-1), 6] : List Int)) := ⟨_, rfl⟩
    replace H : ((Qu.f k s0_0 t167 3).bind fun bt171 => (if 0 <= bt171.1 then (if bt171.1 < (y168.length : Int) then (Wd.j1 k s0_0 bt171.2 (rd y168 bt171.1) t159) else (none)) else (none))) = some (r1, r2, r3) := by first | (rw [hy168]; with_reducible exact H) | (have H2_ := (Option.bind_some _ _).symm.trans H; rw [hy168]; with_reducible exact H2_) | (have H2_ := (Option.bind_some _ _).symm.trans H; with_reducible exact H2_) | with_reducible exact H | (rw [hy168]; exact H) | exact H
    have Ny168 := Qa.mk hy168
    clear hy168
    replace H := Option.bind_eq_some_iff.mp H
    obtain ⟨⟨t171, t172⟩, A280, H⟩ := H
    replace H : (if 0 <= t171 then (if t171 < (y168.length : Int) then (Wd.j1 k s0_0 t172 (rd y168 t171) t159) else (none)) else (none)) = some (r1, r2, r3) := H
    have A28 := Qa.mk A280
    clear A280
    by_cases c29 : 0 <= t171
    ·rw [if_pos c29] at H
     have c29b0 : decide (0 <= t171) = true := decide_eq_true c29
     clear c29
     by_cases c30 : t171 < (y168.length : Int)
     ·rw [if_pos c30] at H
      have c30b0 : decide (t171 < (y168.length : Int)) = true := decide_eq_true c30
      clear c30
      have H' := Qa.mk H
      clear H
      go_wp2_with (first | ((with_reducible refine We (N := 15) rfl ?_); refine Kd.R_lit (Kd.int .i64) _ 3 ?hg (N := 15) ?hd (xs := ([0, (-1), 6] : List Int)) (inner := [.int .i64 0, .int .i64 (-1), .int .i64 6]) (ok := fun _ => True) (okp := fun _ => True) ?hr ?hp (fun _ hk => hk) trivial (Below.refl _ _) (Nat.le_refl _) (by simp) ?_; (case hd => rfl); (case hg => rfl); (case hr => first | (go_simp; done) | (go_simp; rfl)); (case hp => exact (Reps.one (show Kd.M (Kd.int .i64) _ _ _ 0 [.int .i64 0] from rfl) (Reps.one (show Kd.M (Kd.int .i64) _ _ _ (-1) [.int .i64 (-1)] from rfl) (Reps.one (show Kd.M (Kd.int .i64) _ _ _ 6 [.int .i64 6] from rfl) (Reps.none _ _))))); intro v169 w31 ho32 hb hg_ hnew_; clear hg_ hnew_; (first | rw [<- Ny168.out] at ho32 | (simp only [Int.reduceToNat] at ho32; rw [<- Ny168.out] at ho32)); have n0_ := Qa.mk (Kd.Ze (kR HO161.out) hb); have n1_ := Qa.mk (Kd.Yy ho32 (Yd (w := w) (g := g) (row := none) (by repeat (first | (with_reducible first | exact HK.out | apply Qn.set_ | apply Qv | apply Qz | apply Qw | refine Wn ?_ GW157.out _ | refine Wn ?_ GW163.out _) | exact HK.out)))); have n2_ := Qa.mk (Qi.below (by repeat (first | (with_reducible first | exact HI0.out | apply Qi.alloc | apply Qi.drewN | apply Qi.drew | apply Qi.Zr | refine Qi.far ?_ NB0_157.out _ | refine Qi.far ?_ NB0_163.out _) | exact HI0.out)) hb); have n3_ := Qa.mk (Qk (bK BK157.out) hb); have n4_ := Qa.mk (Qk (bK BK163.out) hb); have n5_ := Qa.mk (Qn.trans (by repeat (first | (with_reducible first | exact HK.out | apply Qn.set_ | apply Qv | apply Qz | apply Qw | refine Wn ?_ GW157.out _ | refine Wn ?_ GW163.out _) | exact HK.out)) (Qn.of_below hb g none) (.inl rfl)); have n6_ := Qa.mk (Ql (by repeat (first | (with_reducible first | exact HB.out | apply Qc | apply Qb | apply Qq | refine Qm ?_ (Qi.ge HI0.out) | refine Qm ?_ GE157.out | refine Qm ?_ GE163.out) | exact HB.out)) hb); clear HO161; clear HI0; clear BK157; clear BK163; clear HK; clear HB; have HO161 := n0_; have HO170 := n1_; have HI0 := n2_; have BK157 := n3_; have BK163 := n4_; have HK := n5_; have HB := n6_; clear n0_ n1_ n2_ n3_ n4_ n5_ n6_; clear hb ho32) | ((with_reducible refine Wi (f := 42) rfl ?_); refine Zu (some 17) rfl rfl Try.func42 (by kernel_rfl) rfl #[.pointer (some ⟨g, 0, none⟩), .int .i64 3] rfl (by first | rfl | (simp only [List.map_toArray, List.map_cons, List.map_nil, List.length_drop, List.length_take]; try rfl)) ?_; (with_reducible refine (Qu.calls k g s0_0 t167 3 t171 t172 w0 _ ?side1 ?side2 A28.out).mono ?_); (case side1 => repeat (first | (with_reducible first | exact HI0.out | apply Qi.alloc | apply Qi.drewN | apply Qi.drew | apply Qi.Zr | refine Qi.far ?_ NB0_157.out _ | refine Qi.far ?_ NB0_163.out _) | exact HI0.out)); (case side2 => repeat (first | (with_reducible first | exact HB.out | apply Qc | apply Qb | apply Qq | refine Qm ?_ (Qi.ge HI0.out) | refine Qm ?_ GE157.out | refine Qm ?_ GE163.out) | exact HB.out)); rintro e w33 ⟨rfl, hi, hb, hk⟩; refine ⟨_, rfl, ?_⟩; have n0_ := Qa.mk (Qn.blk hk (g' := gb157) (o := .cells #[.int .i64 0, .slice none 0 0] 25 (0, 0)) (bK BK157.out) NB157_0.out (by simp)); have n1_ := Qa.mk (Kd.Wz (Kd.R_keep (Qi.apart (show Qi w0 _ g s0_0 t167 from by repeat (first | (with_reducible first | exact HI0.out | apply Qi.alloc | apply Qi.drewN | apply Qi.drew | apply Qi.Zr | refine Qi.far ?_ NB0_157.out _ | refine Qi.far ?_ NB0_163.out _) | exact HI0.out)) (kR HO161.out) (by decide)) hk (fun _ h => h.2)) (fun _ h => h.1)); have n2_ := Qa.mk (Qn.blk hk (g' := gb163) (o := .cells #[.int .i64 t158, .slice Ao24 t159.length co24] 25 (0, 0)) (bK BK163.out) NB163_0.out (by simp)); have n3_ := Qa.mk (Kd.Wz (Kd.R_keep (Qi.apart (show Qi w0 _ g s0_0 t167 from by repeat (first | (with_reducible first | exact HI0.out | apply Qi.alloc | apply Qi.drewN | apply Qi.drew | apply Qi.Zr | refine Qi.far ?_ NB0_157.out _ | refine Qi.far ?_ NB0_163.out _) | exact HI0.out)) (kR HO170.out) (by decide)) hk (fun _ h => h.2)) (fun _ h => h.1)); have n4_ := Qa.mk (Qn.trans (by repeat (first | (with_reducible first | exact HK.out | apply Qn.set_ | apply Qv | apply Qz | apply Qw | refine Wn ?_ GW157.out _ | refine Wn ?_ GW163.out _) | exact HK.out)) hk (.inl rfl)); have n5_ := Qa.mk (hb); have n6_ := Qa.mk (hi); clear BK157; clear HO161; clear BK163; clear HO170; clear HK; clear HB; clear HI0; have BK157 := n0_; have HO161 := n1_; have BK163 := n2_; have HO170 := n3_; have HK := n4_; have HB := n5_; have HI0 := n6_; clear n0_ n1_ n2_ n3_ n4_ n5_ n6_; (try clear hb); (try clear hb2); (try clear hk); (try clear hi); obtain ⟨Ao34, co34, eo34⟩ := Kd.Zk HO170.out; subst eo34; have p173 : 0 <= (t171 : Int) := of_decide_eq_true (by first | (with_reducible assumption) | assumption); have q173 : t171 < (y168.length : Int) := of_decide_eq_true (by first | (with_reducible assumption) | assumption); obtain ⟨ad173, e173, hx173_0⟩ := Kd.at_int (Kd.R_reads' HO170.out).2.2 t171 p173 q173; cases e173; replace p173 := eq_true p173; replace q173 := eq_true q173; have hnb35 := NB163_157.out; have hnc35 := NB157_163.out; have hnb36 := NB163_0.out; have hnc36 := NB0_163.out; have hcz37_0 : w33.cell? ⟨gb163, 0, none⟩ = some (.int .i64 t158) := (Qe BK163.out 0).trans rfl; have hcz37_1 : w33.cell? ⟨gb163, 1, none⟩ = some (.slice Ao24 t159.length co24) := (Qe BK163.out 1).trans rfl; have hfz37_0 := Qf BK163.out 0; have hfz37_1 := Qf BK163.out 1))
      go_meet
      case rel => exact ⟨_, (t172), (rd y168 t171), (t159), (.slice Ao24 t159.length co24), H', ⟨by first | omega | exact Nat.le_refl _⟩, ⟨Kd.Q_of_R (by (with_reducible repeat apply Kd.Wo); exact Kd.Wz (Kd.Zc (p := ⟨gb163, 0, none⟩) (Kd.Zq HO161.out BK163.out (by decide)) (fun _ hk => hk.2) (.int .i64 (rd y168 t171))) (fun _ hk => trivial))⟩, ⟨by (with_reducible repeat apply Qd); refine Qo ?_ NB157_163.out _; (with_reducible repeat apply Qd); exact BK157.out⟩, ⟨by (with_reducible repeat apply Qd); refine Wm (cs := #[.int .i64 t158, .slice Ao24 t159.length co24]) ?_ 0 _ rfl; (with_reducible repeat apply Qd); exact BK163.out⟩, ⟨by repeat (first | (with_reducible first | exact HI0.out | apply Qi.alloc | apply Qi.drewN | apply Qi.drew | apply Qi.Zr | refine Qi.far ?_ NB0_157.out _ | refine Qi.far ?_ NB0_163.out _) | exact HI0.out)⟩, ⟨by repeat (first | (with_reducible first | exact HK.out | apply Qn.set_ | apply Qv | apply Qz | apply Qw | refine Wn ?_ GW157.out _ | refine Wn ?_ GW163.out _) | exact HK.out)⟩, ⟨by repeat (first | (with_reducible first | exact HB.out | apply Qc | apply Qb | apply Qq | refine Qm ?_ (Qi.ge HI0.out) | refine Qm ?_ GE157.out | refine Qm ?_ GE163.out) | exact HB.out)⟩⟩
     ·rw [if_neg c30] at H
      exact absurd H (by simp)
    ·rw [if_neg c29] at H
     exact absurd H (by simp)
   ·rw [if_neg c27] at H
    have c27b0 : (t166 == 0) = false := beq_eq_false_iff_ne.mpr c27
    have c27b1 : (t166 != 0) = true := bne_iff_ne.mpr c27
    (first | rw [c27b0] | (simp only [Wp, Ws]; rw [c27b0]) | skip)
    by_cases c38 : t166 = 1
    ·rw [if_pos c38] at H
     have c38b0 : (t166 == 1) = true := beq_iff_eq.mpr c38
     have c38b1 : (t166 != 1) = false := bne_eq_false_iff_eq.mpr c38
     clear c38
     by_cases c39 : 1 <= (t159.length : Int)
     ·rw [if_pos c39] at H
      have c39b0 := eq_true c39
      have c39b1 : decide (1 <= (t159.length : Int)) = true := decide_eq_true c39
      clear c39
      obtain ⟨y174, hy174⟩ : ∃ y_ : List (S42), y_ = (t159.drop (1 : Int).toNat) := ⟨_, rfl⟩
      replace H : (Wd.j1 k s0_0 t167 t158 y174) = some (r1, r2, r3) := by first | (rw [hy174]; with_reducible exact H) | (have H2_ := (Option.bind_some _ _).symm.trans H; rw [hy174]; with_reducible exact H2_) | (have H2_ := (Option.bind_some _ _).symm.trans H; with_reducible exact H2_) | with_reducible exact H | (rw [hy174]; exact H) | exact H
      have Ny174 := Qa.mk hy174
      clear hy174
      have H' := Qa.mk H
      clear H
      have hnb40 := NB163_157.out
      have hnc40 := NB157_163.out
      have hnb41 := NB163_0.out
      have hnc41 := NB0_163.out
      have hcz42_0 : w26.cell? ⟨gb163, 0, none⟩ = some (.int .i64 t158) := (Qe BK163.out 0).trans rfl
      have hcz42_1 : w26.cell? ⟨gb163, 1, none⟩ = some (.slice Ao24 t159.length co24) := (Qe BK163.out 1).trans rfl
      have hfz42_0 := Qf BK163.out 0
      have hfz42_1 := Qf BK163.out 1
      have q43 : (1 : Int) <= ((t159.length : Int) : Int) := of_decide_eq_true (by first | (with_reducible assumption) | assumption)
      obtain ⟨i043, hi043, _, hsz43, _⟩ := info_parts info42
      have hcut43 := cut_from (P := Try.prog) 23 42 .i64 Try.underlying23 hi043 2 hsz43 Ao24 t159.length co24 1 (by omega) q43
      have hr43 := Kd.Q_drop (k := (1 : Int).toNat) (Kd.Q_of_R HO161.out) (by omega)
      obtain ⟨A43, hA43⟩ : ∃ A1, A1 = (if co24 = (1 : Int).toNat then Ao24 else (Ao24 : Option Addr).map (·.add ((1 : Int).toNat * 2))) := ⟨_, rfl⟩
      obtain ⟨c43, hc43⟩ : ∃ c1, c1 = co24 - (1 : Int).toNat := ⟨_, rfl⟩
      have hy43 : y174.length = t159.length - (1 : Int).toNat := (by rw [Ny174.out, List.length_drop])
      rw [<- Ny174.out] at hr43
      rw [<- hy43, <- hA43, <- hc43] at hcut43
      replace hr43 : Kd.Q k42 42 w26 w.heap.size (fun _ => True) (.slice A43 y174.length c43) y174 := (by rw [hA43, hc43, hy43]; exact hr43)
      have HE43 : Qa ((Value.slice A43 y174.length c43).ownBlock = (.slice Ao24 t159.length co24 : Value).ownBlock) := ⟨by rw [hA43]; split <;> (cases (Ao24 : Option Addr) <;> rfl)⟩
      clear hy43 hi043 hsz43 HO161 hA43 hc43
      have HO176 := Qa.mk hr43
      clear hr43
      replace q43 := eq_true q43
      go_wp2
      go_meet
      case rel => exact ⟨_, (t167), (t158), (y174), (.slice A43 y174.length c43), H', ⟨by first | omega | exact Nat.le_refl _⟩, ⟨by (with_reducible repeat apply Kd.Zj); exact Kd.Q_mono (Kd.Q_far (p := ⟨gb163, 1, none⟩) (Kd.Q_types HO176.out BK163.out (by decide)) (fun _ hk => hk.2) (.slice A43 y174.length c43)) (fun _ hk => trivial)⟩, ⟨by (with_reducible repeat apply Qd); refine Qo ?_ NB157_163.out _; (with_reducible repeat apply Qd); exact BK157.out⟩, ⟨by (with_reducible repeat apply Qd); refine Wm (cs := #[.int .i64 t158, .slice Ao24 t159.length co24]) ?_ 1 _ rfl; (with_reducible repeat apply Qd); exact BK163.out⟩, ⟨by repeat (first | (with_reducible first | exact HI0.out | apply Qi.alloc | apply Qi.drewN | apply Qi.drew | apply Qi.Zr | refine Qi.far ?_ NB0_157.out _ | refine Qi.far ?_ NB0_163.out _) | exact HI0.out)⟩, ⟨by repeat (first | (with_reducible first | exact HK.out | apply Qn.set_ | apply Qv | apply Qz | apply Qw | refine Wn ?_ GW157.out _ | refine Wn ?_ GW163.out _) | exact HK.out)⟩, ⟨by repeat (first | (with_reducible first | exact HB.out | apply Qc | apply Qb | apply Qq | refine Qm ?_ (Qi.ge HI0.out) | refine Qm ?_ GE157.out | refine Qm ?_ GE163.out) | exact HB.out)⟩⟩
     ·rw [if_neg c39] at H
      exact absurd H (by simp)
    ·rw [if_neg c38] at H
     have c38b0 : (t166 == 1) = false := beq_eq_false_iff_ne.mpr c38
     have c38b1 : (t166 != 1) = true := bne_iff_ne.mpr c38
     by_cases c44 : t166 = 2
     ·rw [if_pos c44] at H
      have c44b0 : (t166 == 2) = true := beq_iff_eq.mpr c44
      have c44b1 : (t166 != 2) = false := bne_eq_false_iff_eq.mpr c44
      clear c44
      replace H := Option.bind_eq_some_iff.mp H
      obtain ⟨⟨t177, t178⟩, A450, H⟩ := H
      replace H : ((Xc.f k s0_0 t178).bind fun bt179 => (if 0 <= t177 then (if t177 < (t159.length : Int) then (Wd.j1 k s0_0 bt179.2.2 t158 (t159.set (t177 : Int).toNat (⟨bt179.1, bt179.2.1⟩ : S42))) else (none)) else (none))) = some (r1, r2, r3) := H
      have A45 := Qa.mk A450
      clear A450
      replace H := Option.bind_eq_some_iff.mp H
      obtain ⟨⟨t179, t180, t181⟩, A460, H⟩ := H
      replace H : (if 0 <= t177 then (if t177 < (t159.length : Int) then (Wd.j1 k s0_0 t181 t158 (t159.set (t177 : Int).toNat (⟨t179, t180⟩ : S42))) else (none)) else (none)) = some (r1, r2, r3) := H
      have A46 := Qa.mk A460
      clear A460
      by_cases c47 : 0 <= t177
      ·rw [if_pos c47] at H
       have c47b0 : decide (0 <= t177) = true := decide_eq_true c47
       clear c47
       by_cases c48 : t177 < (t159.length : Int)
       ·rw [if_pos c48] at H
        have c48b0 : decide (t177 < (t159.length : Int)) = true := decide_eq_true c48
        clear c48
        obtain ⟨y182, hy182⟩ : ∃ y_ : List (S42), y_ = (t159.set (t177 : Int).toNat (⟨t179, t180⟩ : S42)) := ⟨_, rfl⟩
        replace H : (Wd.j1 k s0_0 t181 t158 y182) = some (r1, r2, r3) := by first | (rw [hy182]; with_reducible exact H) | (have H2_ := (Option.bind_some _ _).symm.trans H; rw [hy182]; with_reducible exact H2_) | (have H2_ := (Option.bind_some _ _).symm.trans H; with_reducible exact H2_) | with_reducible exact H | (rw [hy182]; exact H) | exact H
        have Ny182 := Qa.mk hy182
        clear hy182
        have H' := Qa.mk H
        clear H
        try go_wp2
        have n0_ := Qa.mk (Kd.R_drew HO161.out)
        have n1_ := Qa.mk (Ye BK157.out)
        have n2_ := Qa.mk (Ye BK163.out)
        have n3_ := Qa.mk (Qi.drew HI0.out)
        have n4_ := Qa.mk (Qz HK.out)
        have n5_ := Qa.mk (Qq HB.out)
        clear HO161
        clear BK157
        clear BK163
        clear HI0
        clear HK
        clear HB
        have HO161 := n0_
        have BK157 := n1_
        have BK163 := n2_
        have HI0 := n3_
        have HK := n4_
        have HB := n5_
        clear n0_ n1_ n2_ n3_ n4_ n5_
        refine start_ (n := 11) (S := fun w' => w'.cell? ⟨gb163, 0, none⟩ = some (.int .i64 t158) ∧ w'.cell? ⟨gb163, 1, none⟩ = some (.slice Ao24 t159.length co24)) (ds := [10]) #[false, false, false, false, false, false, false, false, false, false, false] (by kernel_rfl) rfl rfl ⟨(Qe BK163.out 0).trans rfl, (Qe BK163.out 1).trans rfl⟩ (fun hHeld => ?_); refine with_tabW Wd.tab11 Wd.bits11 (fun HT_ HW_ => ?_)
        generalize w26.drew = w50 at HO161 BK157 BK163 HI0 HK HB hHeld ⊢
        refine Zt (i := 0) (N := some 29) (v := ?_) (a' := ?_) #[true, false, false, false, false, false, false, false, false, false, false] rfl rfl (Zh HT_.out (by kernel_rfl)) (fun _ _ _ h => h) (Or.inl ⟨by rfl, ?_⟩) ?_ ?_
        rotate_left
        ·intro w'
         go_simp
         with_reducible rfl
        rotate_left
        ·simp only [Act.put, sA_, sZ_, sS_, Wp, Ws]
         rfl
        refine Zt (i := 2) (N := some 31) (v := ?_) (a' := ?_) #[true, false, true, false, false, false, false, false, false, false, false] rfl rfl (Zh HT_.out (by kernel_rfl)) (fun _ _ _ h => h) (Or.inl ⟨by rfl, ?_⟩) ?_ ?_
        rotate_left
        ·intro w'
         go_simp
         with_reducible rfl
        rotate_left
        ·simp only [Act.put, sA_, sZ_, sS_, Wp, Ws]
         rfl
        refine Zt (i := 3) (N := some 32) (v := ?_) (a' := ?_) #[true, false, true, true, false, false, false, false, false, false, false] rfl rfl (Zh HT_.out (by kernel_rfl)) (fun _ _ _ h => h) (Or.inl ⟨by rfl, ?_⟩) ?_ ?_
        rotate_left
        ·intro w'
         go_simp
         with_reducible rfl
        rotate_left
        ·simp only [Act.put, sA_, sZ_, sS_, Wp, Ws]
         rfl
        refine Zt (i := 7) (N := some 36) (v := ?_) (a' := ?_) #[true, false, true, true, false, false, false, true, false, false, false] rfl rfl (Zh HT_.out (by kernel_rfl)) (fun _ _ _ h => h) (Or.inl ⟨by rfl, ?_⟩) ?_ ?_
        rotate_left
        ·intro w'
         go_simp
         with_reducible rfl
        rotate_left
        ·simp only [Act.put, sA_, sZ_, sS_, Wp, Ws]
         rfl
        refine Xt (i := 1) (N := some 30) (v := ?_) (a' := ?_) #[true, true, true, true, false, false, false, true, false, false, false] rfl rfl (Yn HT_.out HW_.out (by kernel_rfl)) (fun _ _ _ h => h) (Or.inl ⟨by rfl, ?_⟩) hHeld ?_ ?_
        rotate_left
        ·rintro w' ⟨s0, s1⟩
         go_simp
         with_reducible rfl
        rotate_left
        ·simp only [Act.put, sA_, sZ_, sS_, Wp, Ws]
         rfl
        refine Xt (i := 4) (N := some 33) (v := ?_) (a' := ?_) #[true, true, true, true, true, false, false, true, false, false, false] rfl rfl (Yn HT_.out HW_.out (by kernel_rfl)) (fun _ _ _ h => h) (Or.inl ⟨by rfl, ?_⟩) hHeld ?_ ?_
        rotate_left
        ·rintro w' ⟨s0, s1⟩
         go_simp
         with_reducible rfl
        rotate_left
        ·simp only [Act.put, sA_, sZ_, sS_, Wp, Ws]
         rfl
        refine Zt (i := 5) (N := some 34) (v := ?_) (a' := ?_) #[true, true, true, true, true, true, false, true, false, false, false] rfl rfl (Zh HT_.out (by kernel_rfl)) (fun _ _ _ h => h) (Or.inl ⟨by rfl, ?_⟩) ?_ ?_
        rotate_left
        ·intro w'
         go_simp
         with_reducible rfl
        rotate_left
        ·simp only [Act.put, sA_, sZ_, sS_, Wp, Ws]
         rfl
        refine one_ (i := 6) (N := some 35) #[true, true, true, true, true, true, true, true, false, false, false] rfl rfl (Xq HT_.out (by kernel_rfl)) (by decide) (fun K hK => ?_)
        refine goes_ Try.func42 (by kernel_rfl) rfl #[.pointer (some ⟨g, 0, none⟩), .int .i64 (t159.length : Int)] (by rfl) rfl rfl (by first | rfl | (simp only [List.map_toArray, List.map_cons, List.map_nil, List.length_drop, List.length_take]; try rfl)) ?_
        with_reducible refine (Qu.calls k g s0_0 t167 (t159.length : Int) t177 t178 w0 _ ?side1 ?side2 A45.out).mono ?_
        (case side1 => repeat (first | (with_reducible first | exact HI0.out | apply Qi.alloc | apply Qi.drewN | apply Qi.drew | apply Qi.Zr | refine Qi.far ?_ NB0_157.out _ | refine Qi.far ?_ NB0_163.out _) | exact HI0.out))
        (case side2 => repeat (first | (with_reducible first | exact HB.out | apply Qc | apply Qb | apply Qq | refine Qm ?_ (Qi.ge HI0.out) | refine Qm ?_ GE157.out | refine Qm ?_ GE163.out) | exact HB.out))
        rintro e w51 ⟨rfl, hi, hb, hk⟩
        refine ⟨_, rfl, ?_⟩
        have n0_ := Qa.mk (Qn.blk hk (g' := gb157) (o := .cells #[.int .i64 0, .slice none 0 0] 25 (0, 0)) (bK BK157.out) NB157_0.out (by simp))
        have n1_ := Qa.mk (Kd.Wz (Kd.R_keep (Qi.apart (show Qi w0 _ g s0_0 t167 from by repeat (first | (with_reducible first | exact HI0.out | apply Qi.alloc | apply Qi.drewN | apply Qi.drew | apply Qi.Zr | refine Qi.far ?_ NB0_157.out _ | refine Qi.far ?_ NB0_163.out _) | exact HI0.out)) (kR HO161.out) (by decide)) hk (fun _ h => h.2)) (fun _ h => h.1))
        have n2_ := Qa.mk (Qn.blk hk (g' := gb163) (o := .cells #[.int .i64 t158, .slice Ao24 t159.length co24] 25 (0, 0)) (bK BK163.out) NB163_0.out (by simp))
        have n3_ := Qa.mk (Qn.trans (by repeat (first | (with_reducible first | exact HK.out | apply Qn.set_ | apply Qv | apply Qz | apply Qw | refine Wn ?_ GW157.out _ | refine Wn ?_ GW163.out _) | exact HK.out)) hk (.inl rfl))
        have n4_ := Qa.mk (hb)
        have n5_ := Qa.mk (hi)
        clear BK157
        clear HO161
        clear BK163
        clear HK
        clear HB
        clear HI0
        have BK157 := n0_
        have HO161 := n1_
        have BK163 := n2_
        have HK := n3_
        have HB := n4_
        have HI0 := n5_
        clear n0_ n1_ n2_ n3_ n4_ n5_
        (try clear hb)
        (try clear hb2)
        (try clear hk)
        (try clear hi)
        refine hK.out _ _ ⟨(Qe BK163.out 0).trans rfl, (Qe BK163.out 1).trans rfl⟩ (fun hHeld => ?_)
        clear hK K
        refine Xp (a' := ?_) ?_ ?_
        rotate_left
        ·show Act.put _ (some 35) _ = _
         simp only [Act.put, sA_, sZ_, sS_, Wp, Ws]
         rfl
        refine one_ (i := 8) (N := some 37) #[true, true, true, true, true, true, true, true, true, false, false] rfl rfl (Xq HT_.out (by kernel_rfl)) (by decide) (fun K hK => ?_)
        refine goes_ Try.func59 (by kernel_rfl) rfl #[.pointer (some ⟨g, 0, none⟩)] (by rfl) rfl rfl (by first | rfl | (simp only [List.map_toArray, List.map_cons, List.map_nil, List.length_drop, List.length_take]; try rfl)) ?_
        with_reducible refine (Xc.calls k g s0_0 t178 t179 t180 t181 w0 _ ?side1 ?side2 A46.out).mono ?_
        (case side1 => repeat (first | (with_reducible first | exact HI0.out | apply Qi.alloc | apply Qi.drewN | apply Qi.drew | apply Qi.Zr | refine Qi.far ?_ NB0_157.out _ | refine Qi.far ?_ NB0_163.out _) | exact HI0.out))
        (case side2 => repeat (first | (with_reducible first | exact HB.out | apply Qc | apply Qb | apply Qq | refine Qm ?_ (Qi.ge HI0.out) | refine Qm ?_ GE157.out | refine Qm ?_ GE163.out) | exact HB.out))
        rintro e w52 ⟨rfl, hi, hb, hk⟩
        refine ⟨_, rfl, ?_⟩
        have n0_ := Qa.mk (Qn.blk hk (g' := gb157) (o := .cells #[.int .i64 0, .slice none 0 0] 25 (0, 0)) (bK BK157.out) NB157_0.out (by simp))
        have n1_ := Qa.mk (Kd.Wz (Kd.R_keep (Qi.apart (show Qi w0 _ g s0_0 t178 from by repeat (first | (with_reducible first | exact HI0.out | apply Qi.alloc | apply Qi.drewN | apply Qi.drew | apply Qi.Zr | refine Qi.far ?_ NB0_157.out _ | refine Qi.far ?_ NB0_163.out _) | exact HI0.out)) (kR HO161.out) (by decide)) hk (fun _ h => h.2)) (fun _ h => h.1))
        have n2_ := Qa.mk (Qn.blk hk (g' := gb163) (o := .cells #[.int .i64 t158, .slice Ao24 t159.length co24] 25 (0, 0)) (bK BK163.out) NB163_0.out (by simp))
        have n3_ := Qa.mk (Qn.trans (by repeat (first | (with_reducible first | exact HK.out | apply Qn.set_ | apply Qv | apply Qz | apply Qw | refine Wn ?_ GW157.out _ | refine Wn ?_ GW163.out _) | exact HK.out)) hk (.inl rfl))
        have n4_ := Qa.mk (hb)
        have n5_ := Qa.mk (hi)
        clear BK157
        clear HO161
        clear BK163
        clear HK
        clear HB
        clear HI0
        have BK157 := n0_
        have HO161 := n1_
        have BK163 := n2_
        have HK := n3_
        have HB := n4_
        have HI0 := n5_
        clear n0_ n1_ n2_ n3_ n4_ n5_
        (try clear hb)
        (try clear hb2)
        (try clear hk)
        (try clear hi)
        have p49 : 0 <= (t177 : Int) := of_decide_eq_true (by first | (with_reducible assumption) | assumption)
        have q49 : (t177 : Int) < ((t159.length : Int) : Int) := of_decide_eq_true (by first | (with_reducible assumption) | assumption)
        obtain ⟨go49, co49, eo49, gb49, gl49, cl49, HG49⟩ := Kd.R_form HO161.out (by omega)
        (first | cases eo49 | (injection eo49 with ea_ en_ ec_; (first | subst ea_ | (injection ea_ with ea_; subst ea_)); subst ec_; clear en_))
        have GB49 := Qa.mk gb49
        have GG49 := Qa.mk HG49
        clear gb49 gl49 HG49
        obtain ⟨ce49, hcl49, hM49, hcc49, hfr49⟩ := Kd.R_elem HO161.out z42 (t177 : Int) p49 q49
        obtain rfl := k42_openM hM49
        have hx49_0 : World.cell? _ ⟨go49, (t177 : Int).toNat * 2, none⟩ = some (.int .i64 ((Qx t159 t177).f0)) := hcc49 0 _ rfl
        have hx49_1 : World.cell? _ ⟨go49, (t177 : Int).toNat * 2 + 1, none⟩ = some (.int .i64 ((Qx t159 t177).f1)) := hcc49 1 _ rfl
        have hf49_0 : World.frozen? _ ⟨go49, (t177 : Int).toNat * 2, none⟩ = false := hfr49 0
        have hf49_1 : World.frozen? _ ⟨go49, (t177 : Int).toNat * 2 + 1, none⟩ = false := hfr49 1
        clear hcl49 hcc49 hfr49 hM49
        replace p49 := eq_true p49
        replace q49 := eq_true q49
        have HN0_go49 := Qa.mk (show g ≠ go49 from by have h_ := Qi.own_ne HI0.out HO161.out (by decide); intro e_; exact h_ (by rw [e_]; rfl))
        obtain ⟨ce53, hcl53, hM53, hcc53, hfr53⟩ := Kd.R_elem HO161.out z42 (t177 : Int) (of_decide_eq_true (by first | (with_reducible assumption) | assumption)) (by have h_ : (t177 : Int) < ((t159.length : Int) : Int) := of_decide_eq_true (by first | (with_reducible assumption) | assumption); first | exact h_ | (have e_ := (Kd.R_reads' HO161.out).1; omega) | simpa using h_)
        obtain rfl := k42_openM hM53
        have HP53 := (Kd.R_seg HO161.out (t177 : Int) (of_decide_eq_true (by first | (with_reducible assumption) | assumption)) (by have h_ : (t177 : Int) < ((t159.length : Int) : Int) := of_decide_eq_true (by first | (with_reducible assumption) | assumption); first | exact h_ | (have e_ := (Kd.R_reads' HO161.out).1; omega) | simpa using h_) (seg := [.int .i64 t179, .int .i64 t180]) (j := 0) hcl53 hcc53 (show 2 <= 2 from by decide) (x' := (⟨t179, t180⟩ : S42)) (k42_mkM _ _ _ (⟨t179, t180⟩ : S42) ) (fun _ hk => hk)).1
        rw [<- Ny182.out] at HP53
        have HQ53 := Qa.mk HP53
        clear hcl53 hcc53 hfr53 hM53 HP53
        refine hK.out _ _ ⟨(Qe BK163.out 0).trans rfl, (Qe BK163.out 1).trans rfl⟩ (fun hHeld => ?_)
        clear hK K
        refine Xp (a' := ?_) ?_ ?_
        rotate_left
        ·show Act.put _ (some 37) _ = _
         simp only [Act.put, sA_, sZ_, sS_, Wp, Ws]
         rfl
        refine Zt (i := 9) (N := some 38) (v := ?_) (a' := ?_) #[true, true, true, true, true, true, true, true, true, true, false] rfl rfl (Zh HT_.out (by kernel_rfl)) (fun _ _ _ h => h) (Or.inl ⟨by rfl, ?_⟩) ?_ ?_
        rotate_left
        ·intro w'
         go_simp
         with_reducible rfl
        rotate_left
        ·simp only [Act.put, sA_, sZ_, sS_, Wp, Ws]
         rfl
        refine last_ (i := 10) (N := none) #[true, true, true, true, true, true, true, true, true, true, true] rfl rfl (Xq HT_.out (by kernel_rfl)) (by decide) (fun K hK => ?_)
        refine skip_ (w1 := ?_) (by rfl) rfl ?_ ?_
        rotate_left
        ·go_simp
         rfl
        refine hK.out _ _ ?_
        clear hK K
        refine done_ (done_of HT_.out (by kernel_rfl)) ?_
        try go_wp2
        go_meet
        case rel => exact ⟨_, (t181), (t158), (y182), (.slice (some ⟨go49, 0, none⟩) t159.length co24), H', ⟨by first | omega | exact Nat.le_refl _⟩, ⟨Kd.Q_of_R (by (with_reducible repeat apply Kd.Wo); exact HQ53.out)⟩, ⟨by (with_reducible repeat apply Qd); refine Qo ?_ (by have h_ := Kd.R_ne HO161.out BK157.out (by decide); intro e_; exact h_ (by rw [e_]; rfl)) _; (with_reducible repeat apply Qd); refine Qo ?_ (by have h_ := Kd.R_ne HO161.out BK157.out (by decide); intro e_; exact h_ (by rw [e_]; rfl)) _; (with_reducible repeat apply Qd); exact BK157.out⟩, ⟨by (with_reducible repeat apply Qd); refine Qo ?_ (by have h_ := Kd.R_ne HO161.out BK163.out (by decide); intro e_; exact h_ (by rw [e_]; rfl)) _; (with_reducible repeat apply Qd); refine Qo ?_ (by have h_ := Kd.R_ne HO161.out BK163.out (by decide); intro e_; exact h_ (by rw [e_]; rfl)) _; (with_reducible repeat apply Qd); exact BK163.out⟩, ⟨by repeat (first | (with_reducible first | exact HI0.out | apply Qi.alloc | apply Qi.drewN | apply Qi.drew | apply Qi.Zr | refine Qi.far ?_ HN0_go49.out _ | refine Qi.far ?_ HN0_go49.out _ | refine Qi.far ?_ NB0_157.out _ | refine Qi.far ?_ NB0_163.out _) | exact HI0.out)⟩, ⟨by repeat (first | (with_reducible first | exact HK.out | apply Qn.set_ | apply Qv | apply Qz | apply Qw | refine Wn ?_ GB49.out _ | refine Wn ?_ GB49.out _ | refine Wn ?_ GW157.out _ | refine Wn ?_ GW163.out _) | exact HK.out)⟩, ⟨by repeat (first | (with_reducible first | exact HB.out | apply Qc | apply Qb | apply Qq | refine Qm ?_ (Nat.le_trans HL.out GB49.out) | refine Qm ?_ (Nat.le_trans HL.out GB49.out) | refine Qm ?_ (Qi.ge HI0.out) | refine Qm ?_ GE157.out | refine Qm ?_ GE163.out) | exact HB.out)⟩⟩
       ·rw [if_neg c48] at H
        exact absurd H (by simp)
      ·rw [if_neg c47] at H
       exact absurd H (by simp)
     ·rw [if_neg c44] at H
      have c44b0 : (t166 == 2) = false := beq_eq_false_iff_ne.mpr c44
      have c44b1 : (t166 != 2) = true := bne_iff_ne.mpr c44
      by_cases c54 : t166 = 3
      ·rw [if_pos c54] at H
       have c54b0 : (t166 == 3) = true := beq_iff_eq.mpr c54
       have c54b1 : (t166 != 3) = false := bne_eq_false_iff_eq.mpr c54
       clear c54
       have H' := Qa.mk H
       clear H
       go_wp2
       go_loopg [] k (fun kq w' => ∃ (x164001_1 : List (S42)) (u164001 : Value), Qa (Wd.l0 kq s0_0 t167 t158 x164001_1 = some (r1, r2, r3)) ∧ Qa (kq <= k) ∧ Qa (Kd.Q k42 42 w' w.heap.size (fun _ => True) u164001 x164001_1) ∧ Qa (w'.heap[gb157]? = some (.cells #[.int .i64 0, (.slice none 0 0)] 25 (0, 0))) ∧ Qa (w'.heap[gb163]? = some (.cells #[.int .i64 t158, u164001] 25 (0, 0))) ∧ Qa (Qi w0 w' g s0_0 t167) ∧ Qa (Qn w w' g none) ∧ Qa (Below w0.heap.size w0 w'))
       case atStart => exact ⟨(t159), (.slice Ao24 t159.length co24), H', ⟨Nat.le_refl _⟩, ⟨Kd.Q_of_R (kR HO161.out)⟩, ⟨by (with_reducible repeat apply Qd); exact BK157.out⟩, ⟨by (with_reducible repeat apply Qd); exact BK163.out⟩, ⟨by repeat (first | (with_reducible first | exact HI0.out | apply Qi.alloc | apply Qi.drewN | apply Qi.drew | apply Qi.Zr | refine Qi.far ?_ NB0_157.out _ | refine Qi.far ?_ NB0_163.out _) | exact HI0.out)⟩, ⟨by repeat (first | (with_reducible first | exact HK.out | apply Qn.set_ | apply Qv | apply Qz | apply Qw | refine Wn ?_ GW157.out _ | refine Wn ?_ GW163.out _) | exact HK.out)⟩, ⟨by repeat (first | (with_reducible first | exact HB.out | apply Qc | apply Qb | apply Qq | refine Qm ?_ (Qi.ge HI0.out) | refine Qm ?_ GE157.out | refine Qm ?_ GE163.out) | exact HB.out)⟩⟩
       case round =>
        clear H'
        try clear c1
        try clear p1
        try clear q1
        try clear hx1
        try clear c2
        try clear p2
        try clear c3
        try clear c4
        try clear c4b0
        try clear p4
        try clear q4
        try clear hx4
        try clear hf4
        try clear c5
        try clear c8
        try clear c9
        try clear c14
        try clear p17
        try clear q17
        try clear hx17
        try clear c21
        try clear c22
        try clear c27
        try clear c27b0
        try clear c27b1
        try clear c29
        try clear c29b0
        try clear c30
        try clear c30b0
        try clear c35
        try clear c36
        try clear c38
        try clear c38b0
        try clear c38b1
        try clear c39
        try clear c39b0
        try clear c39b1
        try clear c40
        try clear c41
        try clear c42
        try clear c43
        try clear q43
        try clear c44
        try clear c44b0
        try clear c44b1
        try clear c47
        try clear c47b0
        try clear c48
        try clear c48b0
        try clear c49
        try clear p49
        try clear q49
        try clear hx49
        try clear hf49
        try clear c53
        try clear c54
        try clear c54b0
        try clear c54b1
        try clear hcz10_0
        try clear hcz10_1
        try clear hcz13_0
        try clear hcz13_1
        try clear hcz15_0
        try clear hcz15_1
        try clear hcz23_0
        try clear hcz23_1
        try clear hcz37_0
        try clear hcz37_1
        try clear hcz42_0
        try clear hcz42_1
        try clear hfz10_0
        try clear hfz10_1
        try clear hfz13_0
        try clear hfz13_1
        try clear hfz15_0
        try clear hfz15_1
        try clear hfz23_0
        try clear hfz23_1
        try clear hfz37_0
        try clear hfz37_1
        try clear hfz42_0
        try clear hfz42_1
        try clear hx173_0
        try clear hx49_0
        try clear hx49_1
        try clear p173
        try clear p49
        try clear q173
        try clear q43
        try clear q49
        obtain ⟨x164001_1, u164001, HA, HK1, HO_164001, BK157, BK163, HI0, HK, HB⟩ := hrel
        cases gk with
        | zero => exact absurd HA.out (by simp [Wd.l0])
        | succ k1 =>
         have H := HA.out
         clear HA
         simp only [Wd.l0] at H
         by_cases c55 : (x164001_1.length : Int) <= (wrap64 (t158 * 5))
         ·rw [if_pos c55] at H
          have c55b0 : decide ((x164001_1.length : Int) <= (wrap64 (t158 * 5))) = true := decide_eq_true c55
          clear c55
          by_cases c56 : x164001_1.length < 8796093022208
          ·rw [if_pos c56] at H
           have LMc56 := Qa.mk c56
           clear c56
           obtain ⟨y183, hy183⟩ : ∃ y_ : List (S42), y_ = (x164001_1 ++ [(⟨0, 0⟩ : S42)]) := ⟨_, rfl⟩
           replace H : (Wd.l0 k1 s0_0 t167 t158 y183) = some (r1, r2, r3) := by first | (rw [hy183]; with_reducible exact H) | (have H2_ := (Option.bind_some _ _).symm.trans H; rw [hy183]; with_reducible exact H2_) | (have H2_ := (Option.bind_some _ _).symm.trans H; with_reducible exact H2_) | with_reducible exact H | (rw [hy183]; exact H) | exact H
           have Ny183 := Qa.mk hy183
           clear hy183
           have H' := Qa.mk H
           clear H
           have hnb57 := NB163_157.out
           have hnc57 := NB157_163.out
           have hnb58 := NB163_0.out
           have hnc58 := NB0_163.out
           have hcz59_0 : wr.cell? ⟨gb163, 0, none⟩ = some (.int .i64 t158) := (Qe BK163.out 0).trans rfl
           have hcz59_1 : wr.cell? ⟨gb163, 1, none⟩ = some (u164001) := (Qe BK163.out 1).trans rfl
           have hfz59_0 := Qf BK163.out 0
           have hfz59_1 := Qf BK163.out 1
           obtain ⟨Ao60, co60, eo60, _⟩ := Kd.Q_slice HO_164001.out
           subst eo60
           go_wp2_with (first | ((with_reducible refine Zz (b := .append) (xs := #[.tmp 49, .tmp 51]) rfl ?_); at_builtin; refine Kd.Q_append k42 w.heap.size rfl (.tmp 49) (.tmp 51) 23 42 (.agg #[(.int .i64 0), (.int .i64 0)]) 16 rfl Try.underlying23 info42 rfl (by decide) (by omega) (.slice Ao60 x164001_1.length co60) x164001_1 (⟨0, 0⟩ : S42) [.int .i64 0, .int .i64 0] (fun _ => True) (fun _ => False) rfl rfl ?aP (fun _ hk => hk.elim) ?aF ?aO (Below.refl _ _) ?aS ?aL ?_; (case aP => exact k42_mkM _ _ _ (⟨0, 0⟩ : S42)); (case aF => exact (fun _ _ => trivial)); (case aO => exact (by (with_reducible repeat apply Kd.Zj); exact HO_164001.out)); (case aS => exact (Yd (w := w) (g := g) (row := none) (by repeat (first | (with_reducible first | exact HK.out | apply Qn.set_ | apply Qv | apply Qz | apply Qw | refine Wn ?_ GW157.out _ | refine Wn ?_ GW163.out _) | exact HK.out)))); (case aL => have := LMc56.out; omega); intro v184 w61 ho hb hg hat; rw [<- Ny183.out] at ho; have n0_ := Qa.mk (Wu (g := gb157) (o := .cells #[.int .i64 0, .slice none 0 0] 25 (0, 0)) (bK BK157.out) hg (Kd.Q_ne HO_164001.out BK157.out (by decide))); have n1_ := Qa.mk (Wu (g := gb163) (o := .cells #[.int .i64 t158, .slice Ao60 x164001_1.length co60] 25 (0, 0)) (bK BK163.out) hg (Kd.Q_ne HO_164001.out BK163.out (by decide))); have n2_ := Qa.mk (Qi.grown (by repeat (first | (with_reducible first | exact HI0.out | apply Qi.alloc | apply Qi.drewN | apply Qi.drew | apply Qi.Zr | refine Qi.far ?_ NB0_157.out _ | refine Qi.far ?_ NB0_163.out _) | exact HI0.out)) hg (Qi.own_neQ HI0.out HO_164001.out (by decide))); have n3_ := Qa.mk (below_weaken (by repeat (first | (with_reducible first | exact HB.out | apply Qc | apply Qb | apply Qq | refine Qm ?_ (Qi.ge HI0.out) | refine Qm ?_ GE157.out | refine Qm ?_ GE163.out) | exact HB.out)) HL.out hb); have n4_ := Qa.mk (Qn.trans (by repeat (first | (with_reducible first | exact HK.out | apply Qn.set_ | apply Qv | apply Qz | apply Qw | refine Wn ?_ GW157.out _ | refine Wn ?_ GW163.out _) | exact HK.out)) (Qn.of_grown hg g) (Kd.Q_base2 HO_164001.out)); have n5_ := Qa.mk (ho); clear BK157; clear BK163; clear HI0; clear HB; clear HK; clear HO_164001; have BK157 := n0_; have BK163 := n1_; have HI0 := n2_; have HB := n3_; have HK := n4_; have HO185 := n5_; clear n0_ n1_ n2_ n3_ n4_ n5_; clear ho hb hg hat; obtain ⟨Ao62, co62, eo62, _⟩ := Kd.Q_slice HO185.out; subst eo62; have hcz63_0 : w61.cell? ⟨gb163, 0, none⟩ = some (.int .i64 t158) := (Qe BK163.out 0).trans rfl; have hcz63_1 : w61.cell? ⟨gb163, 1, none⟩ = some (.slice Ao60 x164001_1.length co60) := (Qe BK163.out 1).trans rfl; have hfz63_0 := Qf BK163.out 0; have hfz63_1 := Qf BK163.out 1))
           go_roundg k1
           case measure => have := HK1.out; omega
           case rel => exact ⟨(y183), (.slice Ao62 y183.length co62), H', ⟨by have := HK1.out; omega⟩, ⟨by (with_reducible repeat apply Kd.Zj); exact Kd.Q_mono (Kd.Q_far (p := ⟨gb163, 1, none⟩) (Kd.Q_types HO185.out BK163.out (by decide)) (fun _ hk => hk.2) (.slice Ao62 y183.length co62)) (fun _ hk => trivial)⟩, ⟨by (with_reducible repeat apply Qd); refine Qo ?_ NB157_163.out _; (with_reducible repeat apply Qd); exact BK157.out⟩, ⟨by (with_reducible repeat apply Qd); refine Wm (cs := #[.int .i64 t158, .slice Ao60 x164001_1.length co60]) ?_ 1 _ rfl; (with_reducible repeat apply Qd); exact BK163.out⟩, ⟨by repeat (first | (with_reducible first | exact HI0.out | apply Qi.alloc | apply Qi.drewN | apply Qi.drew | apply Qi.Zr | refine Qi.far ?_ NB0_157.out _ | refine Qi.far ?_ NB0_163.out _) | exact HI0.out)⟩, ⟨by repeat (first | (with_reducible first | exact HK.out | apply Qn.set_ | apply Qv | apply Qz | apply Qw | refine Wn ?_ GW157.out _ | refine Wn ?_ GW163.out _) | exact HK.out)⟩, ⟨by repeat (first | (with_reducible first | exact HB.out | apply Qc | apply Qb | apply Qq | refine Qm ?_ (Qi.ge HI0.out) | refine Qm ?_ GE157.out | refine Qm ?_ GE163.out) | exact HB.out)⟩⟩
          ·rw [if_neg c56] at H
           exact absurd H (by simp)
         ·rw [if_neg c55] at H
          have c55b0 : decide ((x164001_1.length : Int) <= (wrap64 (t158 * 5))) = false := decide_eq_false c55
          clear c55
          have H' := Qa.mk H
          clear H
          have hnb64 := NB163_157.out
          have hnc64 := NB157_163.out
          have hnb65 := NB163_0.out
          have hnc65 := NB0_163.out
          have hcz66_0 : wr.cell? ⟨gb163, 0, none⟩ = some (.int .i64 t158) := (Qe BK163.out 0).trans rfl
          have hcz66_1 : wr.cell? ⟨gb163, 1, none⟩ = some (u164001) := (Qe BK163.out 1).trans rfl
          have hfz66_0 := Qf BK163.out 0
          have hfz66_1 := Qf BK163.out 1
          obtain ⟨Ao67, co67, eo67, _⟩ := Kd.Q_slice HO_164001.out
          subst eo67
          go_wp2
          go_meet
          case rel => exact ⟨_, (t167), (t158), (x164001_1), (.slice Ao67 x164001_1.length co67), H', ⟨by have := HK1.out; first | omega | exact Nat.le_refl _⟩, ⟨by (with_reducible repeat apply Kd.Zj); exact HO_164001.out⟩, ⟨by (with_reducible repeat apply Qd); exact BK157.out⟩, ⟨by (with_reducible repeat apply Qd); exact BK163.out⟩, ⟨by repeat (first | (with_reducible first | exact HI0.out | apply Qi.alloc | apply Qi.drewN | apply Qi.drew | apply Qi.Zr | refine Qi.far ?_ NB0_157.out _ | refine Qi.far ?_ NB0_163.out _) | exact HI0.out)⟩, ⟨by repeat (first | (with_reducible first | exact HK.out | apply Qn.set_ | apply Qv | apply Qz | apply Qw | refine Wn ?_ GW157.out _ | refine Wn ?_ GW163.out _) | exact HK.out)⟩, ⟨by repeat (first | (with_reducible first | exact HB.out | apply Qc | apply Qb | apply Qq | refine Qm ?_ (Qi.ge HI0.out) | refine Qm ?_ GE157.out | refine Qm ?_ GE163.out) | exact HB.out)⟩⟩
      ·rw [if_neg c54] at H
       have c54b0 : (t166 == 3) = false := beq_eq_false_iff_ne.mpr c54
       have c54b1 : (t166 != 3) = true := bne_iff_ne.mpr c54
       have H' := Qa.mk H
       clear H
       have hnb68 := NB163_157.out
       have hnc68 := NB157_163.out
       have hnb69 := NB163_0.out
       have hnc69 := NB0_163.out
       have hcz70_0 : w26.cell? ⟨gb163, 0, none⟩ = some (.int .i64 t158) := (Qe BK163.out 0).trans rfl
       have hcz70_1 : w26.cell? ⟨gb163, 1, none⟩ = some (.slice Ao24 t159.length co24) := (Qe BK163.out 1).trans rfl
       have hfz70_0 := Qf BK163.out 0
       have hfz70_1 := Qf BK163.out 1
       go_wp2
       go_meet
       case rel => exact ⟨_, (t167), (t158), (([] : List (S42))), (.slice none 0 0), H', ⟨by first | omega | exact Nat.le_refl _⟩, ⟨Kd.Q_of_R (by first | exact Kd.R_nil _ _ _ _ _ | exact Kd.N_nil _ _ _ _ _ | exact Kd.V_nil _ _ _ _ _ | exact Kd.Q_nil _ _ _ _ _ | exact Kd.S_nil _ _ _ _ _)⟩, ⟨by (with_reducible repeat apply Qd); refine Qo ?_ NB157_163.out _; (with_reducible repeat apply Qd); exact BK157.out⟩, ⟨by (with_reducible repeat apply Qd); refine Wm (cs := #[.int .i64 t158, .slice Ao24 t159.length co24]) ?_ 1 _ rfl; (with_reducible repeat apply Qd); exact BK163.out⟩, ⟨by repeat (first | (with_reducible first | exact HI0.out | apply Qi.alloc | apply Qi.drewN | apply Qi.drew | apply Qi.Zr | refine Qi.far ?_ NB0_157.out _ | refine Qi.far ?_ NB0_163.out _) | exact HI0.out)⟩, ⟨by repeat (first | (with_reducible first | exact HK.out | apply Qn.set_ | apply Qv | apply Qz | apply Qw | refine Wn ?_ GW157.out _ | refine Wn ?_ GW163.out _) | exact HK.out)⟩, ⟨by repeat (first | (with_reducible first | exact HB.out | apply Qc | apply Qb | apply Qq | refine Qm ?_ (Qi.ge HI0.out) | refine Qm ?_ GE157.out | refine Qm ?_ GE163.out) | exact HB.out)⟩⟩
  case rest =>
   clear HC17
   try clear c1
   try clear p1
   try clear q1
   try clear hx1
   try clear c2
   try clear p2
   try clear c3
   try clear c4
   try clear c4b0
   try clear p4
   try clear q4
   try clear hx4
   try clear hf4
   try clear c5
   try clear c6
   try clear p6
   try clear c8
   try clear c9
   try clear c14
   try clear p17
   try clear q17
   try clear hx17
   try clear c21
   try clear c22
   try clear c27
   try clear c27b0
   try clear c27b1
   try clear c29
   try clear c29b0
   try clear c30
   try clear c30b0
   try clear c35
   try clear c36
   try clear c38
   try clear c38b0
   try clear c38b1
   try clear c39
   try clear c39b0
   try clear c39b1
   try clear c40
   try clear c41
   try clear c42
   try clear c43
   try clear q43
   try clear c44
   try clear c44b0
   try clear c44b1
   try clear c47
   try clear c47b0
   try clear c48
   try clear c48b0
   try clear c49
   try clear p49
   try clear q49
   try clear hx49
   try clear hf49
   try clear c53
   try clear c54
   try clear c54b0
   try clear c54b1
   try clear c55
   try clear c55b0
   try clear c56
   try clear c57
   try clear c58
   try clear c59
   try clear c64
   try clear p64
   try clear c65
   try clear c68
   try clear c69
   try clear hcz10_0
   try clear hcz10_1
   try clear hcz13_0
   try clear hcz13_1
   try clear hcz15_0
   try clear hcz15_1
   try clear hcz23_0
   try clear hcz23_1
   try clear hcz37_0
   try clear hcz37_1
   try clear hcz42_0
   try clear hcz42_1
   try clear hcz59_0
   try clear hcz59_1
   try clear hcz63_0
   try clear hcz63_1
   try clear hcz66_0
   try clear hcz66_1
   try clear hcz70_0
   try clear hcz70_1
   try clear hfz10_0
   try clear hfz10_1
   try clear hfz13_0
   try clear hfz13_1
   try clear hfz15_0
   try clear hfz15_1
   try clear hfz23_0
   try clear hfz23_1
   try clear hfz37_0
   try clear hfz37_1
   try clear hfz42_0
   try clear hfz42_1
   try clear hfz59_0
   try clear hfz59_1
   try clear hfz63_0
   try clear hfz63_1
   try clear hfz66_0
   try clear hfz66_1
   try clear hfz70_0
   try clear hfz70_1
   try clear hx173_0
   try clear hx49_0
   try clear hx49_1
   try clear p1
   try clear p17
   try clear p173
   try clear p2
   try clear p4
   try clear p49
   try clear q1
   try clear q17
   try clear q173
   try clear q4
   try clear q43
   try clear q49
   obtain ⟨kq, x1001_16, x164000_16, x164001_16, u164001, HA, HJ16, HO_164001, BK157, BK163, HI0, HK, HB⟩ := hcut
   cases kq with
   | zero => exact absurd HA.out (by simp [Wd.j1])
   | succ kj16 =>
    have H := HA.out
    clear HA
    simp only [Wd.j1] at H
    simp only [Option.some.injEq, Prod.mk.injEq] at H
    obtain ⟨rfl, rfl, rfl⟩ := H
    have hnb71 := NB163_157.out
    have hnc71 := NB157_163.out
    have hnb72 := NB163_0.out
    have hnc72 := NB0_163.out
    have hcz73_0 : wc.cell? ⟨gb163, 0, none⟩ = some (.int .i64 x164000_16) := (Qe BK163.out 0).trans rfl
    have hcz73_1 : wc.cell? ⟨gb163, 1, none⟩ = some (u164001) := (Qe BK163.out 1).trans rfl
    have hfz73_0 := Qf BK163.out 0
    have hfz73_1 := Qf BK163.out 1
    have hnb74 := NB157_0.out
    have hnc74 := NB0_157.out
    have hcz75_0 : wc.cell? ⟨gb157, 0, none⟩ = some (.int .i64 0) := (Qe BK157.out 0).trans rfl
    have hcz75_1 : wc.cell? ⟨gb157, 1, none⟩ = some (.slice none 0 0) := (Qe BK157.out 1).trans rfl
    have hfz75_0 := Qf BK157.out 0
    have hfz75_1 := Qf BK157.out 1
    obtain ⟨Ao76, co76, eo76, _⟩ := Kd.Q_slice HO_164001.out
    subst eo76
    go_wp2
    refine bodyPost_ret (results_cell_row rfl _ _ gb157 25 #[.int .i64 x164000_16, .slice Ao76 x164001_16.length co76] (0, 0) _ rfl (by (with_reducible repeat apply Qd); refine Wm (cs := #[.int .i64 x164000_16, .slice none 0 0]) ?_ 1 _ rfl; (with_reducible repeat apply Qd); refine Wm (cs := #[.int .i64 0, .slice none 0 0]) ?_ 0 _ rfl; (with_reducible repeat apply Qd); exact BK157.out) Try.underlying25 rfl (by kernel_rfl)) rfl ?_
    exact ⟨_, by first | rfl | (simp [Qt, Qs] <;> rfl) | (simp [*, Qt, Qs] <;> rfl) | (exfalso; simp_all; done), by (with_reducible repeat apply Kd.Zj); exact Kd.Q_mono (Kd.Q_far (p := ⟨gb157, 1, none⟩) (Kd.Q_far (p := ⟨gb157, 0, none⟩) (Kd.Q_types HO_164001.out BK157.out (by decide)) (fun _ hk => hk.2) (.int .i64 x164000_16)) (fun _ hk => hk.2) (.slice Ao76 x164001_16.length co76)) (fun _ hk => trivial), by repeat (first | (with_reducible first | exact HI0.out | apply Qi.alloc | apply Qi.drewN | apply Qi.drew | apply Qi.Zr | refine Qi.far ?_ NB0_157.out _ | refine Qi.far ?_ NB0_163.out _) | exact HI0.out), by repeat (first | (with_reducible first | exact HB.out | apply Qc | apply Qb | apply Qq | refine Qm ?_ (Qi.ge HI0.out) | refine Qm ?_ GE157.out | refine Qm ?_ GE163.out) | exact HB.out), by repeat (first | (with_reducible first | exact HK.out | apply Qn.set_ | apply Qv | apply Qz | apply Qw | refine Wn ?_ GW157.out _ | refine Wn ?_ GW163.out _) | exact HK.out)⟩
end Go.Proofs.Yteapnipnoadejaa.P
