/- PROVED: contracts of functions; No condition. -/
import Derived.Test.YteapnipnoadejaaPx0
import Derived.Test.YteapnipnoadejaaPx4
import Derived.Test.YteapnipnoadejaaPx7
import Derived.Test.YteapnipnoadejaaPx11
namespace Go.Proofs.Yteapnipnoadejaa.P
open Go.RowKit Go.Proofs.YteapnipnoadejaaW
set_option linter.unusedVariables false
set_option linter.unusedSimpArgs false
def Yu.f (k : Nat) (l0 : List Int) : Option (Int × (List (S42)) × Int) := (spec_l6Open.f l0).bind fun bt187 => ((Wd.f k bt187.1 bt187.2).bind fun bt190 => ((Zo.f k bt187.1 bt190.2.2 bt190.1 bt190.2.1).bind fun bt196 => (some (bt190.1, bt190.2.1, bt196.1))))
set_option maxHeartbeats 8000000 in
set_option maxRecDepth 100000 in
theorem Yu.calls (k : Nat) (A0 : Option Addr) (c0 : Nat) (l0 : List Int) (r1 : Int) (r2 : List (S42)) (r3 : Int) (w : World) (hr0 : Kd.C (Kd.int .u8) w A0 l0.length l0) (hc0 : l0.length <= c0) (h : Yu.f k l0 = some (r1, r2, r3)) :
  Calls Try.prog 27 #[.slice A0 l0.length c0] w fun e w' => ∃ v1_ : Value, e = .returned (.tuple #[.agg #[.int .i64 r1, v1_], .int .i64 r3]) ∧ Kd.Q k42 42 w' w.heap.size (fun _ => True) v1_ r2 ∧ Below w.heap.size w w' := by
 have hu25 := Try.underlying25
 have HR0 := Qa.mk hr0
 have HC0 := Qa.mk hc0
 clear hr0 hc0
 have HB := Qa.mk (Below.refl w.heap.size w)
 have H : ((spec_l6Open.f l0).bind fun bt187 => ((Wd.f k bt187.1 bt187.2).bind fun bt190 => ((Zo.f k bt187.1 bt190.2.2 bt190.1 bt190.2.1).bind fun bt196 => (some (bt190.1, bt190.2.1, bt196.1))))) = some (r1, r2, r3) := h
 clear h
 replace H := Option.bind_eq_some_iff.mp H
 obtain ⟨⟨t187, t188⟩, A20, H⟩ := H
 replace H : ((Wd.f k t187 t188).bind fun bt190 => ((Zo.f k t187 bt190.2.2 bt190.1 bt190.2.1).bind fun bt196 => (some (bt190.1, bt190.2.1, bt196.1)))) = some (r1, r2, r3) := H
 have A2 := Qa.mk A20
 clear A20
 replace H := Option.bind_eq_some_iff.mp H
 obtain ⟨⟨t190, t191, t194⟩, A30, H⟩ := H
 replace H : ((Zo.f k t187 t194 t190 t191).bind fun bt196 => (some (t190, t191, bt196.1))) = some (r1, r2, r3) := H
 have A3 := Qa.mk A30
 clear A30
 replace H := Option.bind_eq_some_iff.mp H
 obtain ⟨⟨t196, t197⟩, A40, H⟩ := H
 replace H : (some (t190, t191, t196)) = some (r1, r2, r3) := H
 have A4 := Qa.mk A40
 clear A40
 simp only [Option.some.injEq, Prod.mk.injEq] at H
 obtain ⟨rfl, rfl, rfl⟩ := H
 go_enter Try.func27, Try.ntmps27
 try go_wp2_with (first | ((with_reducible refine We (N := 2) rfl ?_); refine Qy rfl (N := 2) rfl (cs := #[.int .i64 0, .slice none 0 0]) (t := 25) ?hr ?_; (case hr => first | (go_simp; done) | (go_simp; rfl)); intro gb186 hg w5 hbox hb; have n0_ := Qa.mk (Ql (by repeat first | exact HB.out | apply Qc | apply Qb) hb); have n1_ := Qa.mk (hbox); have n2_ := Qa.mk ((by rw [hg]; exact (Qr (by repeat first | exact HB.out | apply Qc | apply Qb)) : w.heap.size <= gb186)); have n3_ := n2_; clear HB; have HB := n0_; have BK186 := n1_; have GW186 := n2_; have GE186 := n3_; clear n0_ n1_ n2_ n3_; clear hb hbox hg) | ((with_reducible refine Wi (f := 39) rfl ?_); refine Zu (some 7) rfl rfl Try.func39 (by kernel_rfl) rfl #[.slice A0 l0.length c0] rfl (by first | rfl | (simp only [List.map_toArray, List.map_cons, List.map_nil, List.length_drop, List.length_take]; try rfl)) ?_; (with_reducible refine (spec_l6Open.calls _ _ l0 t187 t188 w _ ?side1 ?side2 ?side3 A2.out).mono ?_); (case side1 => repeat (first | (with_reducible first | exact HB.out | apply Qc | apply Qb | apply Qq | refine Qm ?_ GE186.out) | exact HB.out)); (case side2 => exact HR0.out); (case side3 => exact HC0.out); rintro e w6 ⟨g189, rfl, hi, hb, hb2⟩; refine ⟨_, rfl, ?_⟩; have n0_ := Qa.mk (Qk (bK BK186.out) hb2); have n1_ := Qa.mk (hb); have n2_ := Qa.mk (hi); have n3_ := Qa.mk (Qi.ne_blk hi (Qk (bK BK186.out) hb2) (by decide)); have n4_ := Qa.mk (Ne.symm (Qi.ne_blk hi (Qk (bK BK186.out) hb2) (by decide))); clear BK186; clear HB; have BK186 := n0_; have HB := n1_; have HI189 := n2_; have NB189_186 := n3_; have NB186_189 := n4_; clear n0_ n1_ n2_ n3_ n4_; (try clear hb); (try clear hb2); (try clear hk); (try clear hi)) | ((with_reducible refine Wi (f := 43) rfl ?_); refine Zu (some 9) rfl rfl Try.func43 (by kernel_rfl) rfl #[.pointer (some ⟨g189, 0, none⟩)] rfl (by first | rfl | (simp only [List.map_toArray, List.map_cons, List.map_nil, List.length_drop, List.length_take]; try rfl)) ?_; (with_reducible refine (Wd.calls k g189 t187 t188 t190 t191 t194 w _ ?side1 ?side2 A3.out).mono ?_); (case side1 => repeat (first | (with_reducible first | exact HI189.out | apply Qi.alloc | apply Qi.drewN | apply Qi.drew | apply Qi.Zr | refine Qi.far ?_ NB189_186.out _) | exact HI189.out)); (case side2 => repeat (first | (with_reducible first | exact HB.out | apply Qc | apply Qb | apply Qq | refine Qm ?_ (Qi.ge HI189.out) | refine Qm ?_ GE186.out) | exact HB.out)); rintro e w7 ⟨v192, rfl, ho0, hi, hb, hk⟩; refine ⟨_, rfl, ?_⟩; have n0_ := Qa.mk (Qn.blk hk (g' := gb186) (o := .cells #[.int .i64 0, .slice none 0 0] 25 (0, 0)) (bK BK186.out) NB186_189.out (by simp)); have n1_ := Qa.mk (Kd.Q_lower ho0 (Qr (by repeat (first | (with_reducible first | exact HB.out | apply Qc | apply Qb | apply Qq | refine Qm ?_ (Qi.ge HI189.out) | refine Qm ?_ GE186.out) | exact HB.out)))); have n2_ := Qa.mk (hb); have n3_ := Qa.mk (hi); clear BK186; clear HB; clear HI189; have BK186 := n0_; have HO193 := n1_; have HB := n2_; have HI189 := n3_; clear n0_ n1_ n2_ n3_; (try clear hb); (try clear hb2); (try clear hk); (try clear hi); (try clear ho0)) | ((with_reducible refine We (N := 5) rfl ?_); refine Qy rfl (N := 5) rfl (cs := #[.int .i64 0, .slice none 0 0]) (t := 25) ?hr ?_; (case hr => first | (go_simp; done) | (go_simp; rfl)); intro gb195 hg w8 hbox hb; have n0_ := Qa.mk (Kd.Xo (by (with_reducible repeat apply Kd.Zj); exact HO193.out) hb); have n1_ := Qa.mk (Qk (bK BK186.out) hb); have n2_ := Qa.mk (Qi.below (by repeat (first | (with_reducible first | exact HI189.out | apply Qi.alloc | apply Qi.drewN | apply Qi.drew | apply Qi.Zr | refine Qi.far ?_ NB189_186.out _) | exact HI189.out)) hb); have n3_ := Qa.mk (Ql (by repeat (first | (with_reducible first | exact HB.out | apply Qc | apply Qb | apply Qq | refine Qm ?_ (Qi.ge HI189.out) | refine Qm ?_ GE186.out) | exact HB.out)) hb); have n4_ := Qa.mk (hbox); have n5_ := Qa.mk ((by rw [hg]; exact (Qr (by repeat (first | (with_reducible first | exact HB.out | apply Qc | apply Qb | apply Qq | refine Qm ?_ (Qi.ge HI189.out) | refine Qm ?_ GE186.out) | exact HB.out))) : w.heap.size <= gb195)); have n6_ := n5_; have n7_ := Qa.mk ((by rw [hg]; exact Nat.ne_of_lt (Wl (bK BK186.out)) : gb186 ≠ gb195)); have n8_ := Qa.mk ((by rw [hg]; exact Nat.ne_of_gt (Wl (bK BK186.out)) : gb195 ≠ gb186)); have n9_ := Qa.mk ((by rw [hg]; exact Nat.ne_of_lt (Qi.lt (show Qi w _ g189 t187 t194 from by repeat (first | (with_reducible first | exact HI189.out | apply Qi.alloc | apply Qi.drewN | apply Qi.drew | apply Qi.Zr | refine Qi.far ?_ NB189_186.out _) | exact HI189.out))) : g189 ≠ gb195)); have n10_ := Qa.mk ((by rw [hg]; exact Nat.ne_of_gt (Qi.lt (show Qi w _ g189 t187 t194 from by repeat (first | (with_reducible first | exact HI189.out | apply Qi.alloc | apply Qi.drewN | apply Qi.drew | apply Qi.Zr | refine Qi.far ?_ NB189_186.out _) | exact HI189.out))) : gb195 ≠ g189)); clear HO193; clear BK186; clear HI189; clear HB; have HO193 := n0_; have BK186 := n1_; have HI189 := n2_; have HB := n3_; have BK195 := n4_; have GW195 := n5_; have GE195 := n6_; have NB186_195 := n7_; have NB195_186 := n8_; have NB189_195 := n9_; have NB195_189 := n10_; clear n0_ n1_ n2_ n3_ n4_ n5_ n6_ n7_ n8_ n9_ n10_; clear hb hbox hg; have hnb9 := NB195_186.out; have hnc9 := NB186_195.out; have hnb10 := NB195_189.out; have hnc10 := NB189_195.out; have hcz11_0 : w8.cell? ⟨gb195, 0, none⟩ = some (.int .i64 0) := (Qe BK195.out 0).trans rfl; have hcz11_1 : w8.cell? ⟨gb195, 1, none⟩ = some (.slice none 0 0) := (Qe BK195.out 1).trans rfl; have hfz11_0 := Qf BK195.out 0; have hfz11_1 := Qf BK195.out 1; obtain ⟨Ao12, co12, eo12, _⟩ := Kd.Q_slice HO193.out; subst eo12))
 have n0_ : Qa (Kd.Q k42 42 ((w8.setCell ⟨gb195, 0, none⟩ (.int .i64 t190)).setCell ⟨gb195, 1, none⟩ (.slice Ao12 t191.length co12)) w.heap.size (fun _ => True) (.slice Ao12 t191.length co12) t191) := ⟨by (with_reducible repeat apply Kd.Zj); exact Kd.Q_mono (Kd.Q_far (p := ⟨gb195, 1, none⟩) (Kd.Q_far (p := ⟨gb195, 0, none⟩) (Kd.Q_types HO193.out BK195.out (by decide)) (fun _ hk => hk.2) (.int .i64 t190)) (fun _ hk => hk.2) (.slice Ao12 t191.length co12)) (fun _ hk => trivial)⟩
 have n1_ : Qa (((w8.setCell ⟨gb195, 0, none⟩ (.int .i64 t190)).setCell ⟨gb195, 1, none⟩ (.slice Ao12 t191.length co12)).heap[gb186]? = some (.cells #[.int .i64 0, .slice none 0 0] 25 (0, 0))) := ⟨by (with_reducible repeat apply Qd); refine Qo ?_ NB186_195.out _; (with_reducible repeat apply Qd); refine Qo ?_ NB186_195.out _; (with_reducible repeat apply Qd); exact BK186.out⟩
 have n2_ : Qa (((w8.setCell ⟨gb195, 0, none⟩ (.int .i64 t190)).setCell ⟨gb195, 1, none⟩ (.slice Ao12 t191.length co12)).heap[gb195]? = some (.cells #[.int .i64 t190, .slice Ao12 t191.length co12] 25 (0, 0))) := ⟨by (with_reducible repeat apply Qd); refine Wm (cs := #[.int .i64 t190, .slice none 0 0]) ?_ 1 _ rfl; (with_reducible repeat apply Qd); refine Wm (cs := #[.int .i64 0, .slice none 0 0]) ?_ 0 _ rfl; (with_reducible repeat apply Qd); exact BK195.out⟩
 have n3_ : Qa (Qi w ((w8.setCell ⟨gb195, 0, none⟩ (.int .i64 t190)).setCell ⟨gb195, 1, none⟩ (.slice Ao12 t191.length co12)) g189 t187 t194) := ⟨by repeat (first | (with_reducible first | exact HI189.out | apply Qi.alloc | apply Qi.drewN | apply Qi.drew | apply Qi.Zr | refine Qi.far ?_ NB189_186.out _ | refine Qi.far ?_ NB189_195.out _) | exact HI189.out)⟩
 have n4_ : Qa (Below w.heap.size w ((w8.setCell ⟨gb195, 0, none⟩ (.int .i64 t190)).setCell ⟨gb195, 1, none⟩ (.slice Ao12 t191.length co12))) := ⟨by repeat (first | (with_reducible first | exact HB.out | apply Qc | apply Qb | apply Qq | refine Qm ?_ (Qi.ge HI189.out) | refine Qm ?_ GE186.out | refine Qm ?_ GE195.out) | exact HB.out)⟩
 (try clear HO193)
 (try clear BK186)
 (try clear BK195)
 (try clear HI189)
 (try clear HB)
 generalize ((w8.setCell ⟨gb195, 0, none⟩ (.int .i64 t190)).setCell ⟨gb195, 1, none⟩ (.slice Ao12 t191.length co12)) = w13 at n0_ n1_ n2_ n3_ n4_ ⊢
 have HO193 := n0_
 have BK186 := n1_
 have BK195 := n2_
 have HI189 := n3_
 have HB := n4_
 clear n0_ n1_ n2_ n3_ n4_
 have n0_ := Qa.mk (Kd.Q_drew HO193.out)
 have n1_ := Qa.mk (Ye BK186.out)
 have n2_ := Qa.mk (Ye BK195.out)
 have n3_ := Qa.mk (Qi.drew HI189.out)
 have n4_ := Qa.mk (Qq HB.out)
 clear HO193
 clear BK186
 clear BK195
 clear HI189
 clear HB
 have HO193 := n0_
 have BK186 := n1_
 have BK195 := n2_
 have HI189 := n3_
 have HB := n4_
 clear n0_ n1_ n2_ n3_ n4_
 refine start_ (n := 6) (S := fun w' => w'.cell? ⟨gb195, 0, none⟩ = some (.int .i64 t190) ∧ w'.cell? ⟨gb195, 1, none⟩ = some (.slice Ao12 t191.length co12)) (ds := []) #[false, false, false, false, false, false] (by kernel_rfl) rfl rfl ⟨(Qe BK195.out 0).trans rfl, (Qe BK195.out 1).trans rfl⟩ (fun hHeld => ?_)
 generalize w13.drew = w14 at HO193 BK186 BK195 HI189 HB hHeld ⊢
 refine Zt (i := 1) (N := some 11) (v := ?_) (a' := ?_) #[false, true, false, false, false, false] rfl rfl (by kernel_rfl) (fun _ _ _ h => h) (Or.inl ⟨by rfl, ?_⟩) ?_ ?_
 rotate_left
 ·intro w'
  go_simp
  with_reducible rfl
 rotate_left
 ·simp only [Act.put, sA_, sZ_, sS_, Wp, Ws]
  rfl
 refine Xt (i := 0) (N := some 10) (v := ?_) (a' := ?_) #[true, true, false, false, false, false] rfl rfl (by kernel_rfl) (fun _ _ _ h => h) (Or.inl ⟨by rfl, ?_⟩) hHeld ?_ ?_
 rotate_left
 ·rintro w' ⟨s0, s1⟩
  go_simp
  with_reducible rfl
 rotate_left
 ·simp only [Act.put, sA_, sZ_, sS_, Wp, Ws]
  rfl
 refine Xt (i := 2) (N := some 12) (v := ?_) (a' := ?_) #[true, true, true, false, false, false] rfl rfl (by kernel_rfl) (fun _ _ _ h => h) (Or.inl ⟨by rfl, ?_⟩) hHeld ?_ ?_
 rotate_left
 ·rintro w' ⟨s0, s1⟩
  go_simp
  with_reducible rfl
 rotate_left
 ·simp only [Act.put, sA_, sZ_, sS_, Wp, Ws]
  rfl
 refine one_ (i := 3) (N := some 13) #[true, true, true, true, false, false] rfl rfl (by kernel_rfl) (by decide) (fun K hK => ?_)
 refine goes_ Try.func41 (by kernel_rfl) rfl #[.pointer (some ⟨g189, 0, none⟩), .agg #[.int .i64 t190, .slice Ao12 t191.length co12]] (by rfl) rfl rfl (by first | rfl | (simp only [List.map_toArray, List.map_cons, List.map_nil, List.length_drop, List.length_take]; try rfl)) ?_
 with_reducible refine (Zo.calls k g189 t187 t194 t190 _ _ t191 t196 t197 w _ ?side1 ?side2 ?side3 ?side4 A4.out).mono ?_
 (case side1 => repeat (first | (with_reducible first | exact HI189.out | apply Qi.alloc | apply Qi.drewN | apply Qi.drew | apply Qi.Zr | refine Qi.far ?_ NB189_186.out _ | refine Qi.far ?_ NB189_195.out _) | exact HI189.out))
 (case side2 => repeat (first | (with_reducible first | exact HB.out | apply Qc | apply Qb | apply Qq | refine Qm ?_ (Qi.ge HI189.out) | refine Qm ?_ GE186.out | refine Qm ?_ GE195.out) | exact HB.out))
 (case side3 => exact Kd.C_foot_ownQ (Qi.apartQ (show Qi w _ g189 t187 t194 from by repeat (first | (with_reducible first | exact HI189.out | apply Qi.alloc | apply Qi.drewN | apply Qi.drew | apply Qi.Zr | refine Qi.far ?_ NB189_186.out _ | refine Qi.far ?_ NB189_195.out _) | exact HI189.out)) (by (with_reducible repeat apply Kd.Zj); exact HO193.out) (by decide)) (fun _ h_ => h_.2))
 (case side4 => exact (Kd.Q_reads' HO193.out).2.1)
 rintro e w15 ⟨rfl, hi, hb, hk⟩
 refine ⟨_, rfl, ?_⟩
 have n0_ := Qa.mk (Qn.blk hk (g' := gb186) (o := .cells #[.int .i64 0, .slice none 0 0] 25 (0, 0)) (bK BK186.out) NB186_189.out (by simp))
 have n1_ := Qa.mk (Kd.Q_mono (Kd.Q_keep (Qi.apartQ (show Qi w _ g189 t187 t194 from by repeat (first | (with_reducible first | exact HI189.out | apply Qi.alloc | apply Qi.drewN | apply Qi.drew | apply Qi.Zr | refine Qi.far ?_ NB189_186.out _ | refine Qi.far ?_ NB189_195.out _) | exact HI189.out)) (by (with_reducible repeat apply Kd.Zj); exact HO193.out) (by decide)) hk (fun _ h => h.2)) (fun _ h => h.1))
 have n2_ := Qa.mk (Qn.blk hk (g' := gb195) (o := .cells #[.int .i64 t190, .slice Ao12 t191.length co12] 25 (0, 0)) (bK BK195.out) NB195_189.out (by simp))
 have n3_ := Qa.mk (hb)
 have n4_ := Qa.mk (hi)
 clear BK186
 clear HO193
 clear BK195
 clear HB
 clear HI189
 have BK186 := n0_
 have HO193 := n1_
 have BK195 := n2_
 have HB := n3_
 have HI189 := n4_
 clear n0_ n1_ n2_ n3_ n4_
 (try clear hb)
 (try clear hb2)
 (try clear hk)
 (try clear hi)
 refine hK.out _ _ ⟨(Qe BK195.out 0).trans rfl, (Qe BK195.out 1).trans rfl⟩ (fun hHeld => ?_)
 clear hK K
 refine Xp (a' := ?_) ?_ ?_
 rotate_left
 ·show Act.put _ (some 13) _ = _
  simp only [Act.put, sA_, sZ_, sS_, Wp, Ws]
  rfl
 refine one_ (i := 4) (N := none) #[true, true, true, true, true, false] rfl rfl (by kernel_rfl) (by decide) (fun K hK => ?_)
 have hs16 : w15.cell? ⟨gb186, 0, none⟩ = some (.int .i64 0) := (Qe BK186.out 0).trans rfl
 have hfs16 := Qf BK186.out 0
 have hns16_1 := NB195_186.out
 have hms16_1 := NB186_195.out
 have hs17 : w15.cell? ⟨gb186, 1, none⟩ = some (.slice none 0 0) := (Qe BK186.out 1).trans rfl
 have hfs17 := Qf BK186.out 1
 have hns17_1 := NB195_186.out
 have hms17_1 := NB186_195.out
 refine skip_ (w1 := ?_) (by rfl) rfl ?_ ?_
 rotate_left
 ·go_simp
  rfl
 refine hK.out _ _ ⟨((cell_far (p := ⟨gb186, _, none⟩) NB195_186.out _).trans (((cell_far (p := ⟨gb186, _, none⟩) NB195_186.out _).trans (hHeld.1)))), ((cell_far (p := ⟨gb186, _, none⟩) NB195_186.out _).trans (((cell_far (p := ⟨gb186, _, none⟩) NB195_186.out _).trans (hHeld.2))))⟩ (fun hHeld => ?_)
 clear hK K
 refine Zt (i := 5) (N := some 3) (v := ?_) (a' := ?_) #[true, true, true, true, true, true] rfl rfl (by kernel_rfl) (fun _ _ _ h => h) (Or.inl ⟨by rfl, ?_⟩) ?_ ?_
 rotate_left
 ·intro w'
  go_simp
  with_reducible rfl
 rotate_left
 ·simp only [Act.put, sA_, sZ_, sS_, Wp, Ws]
  rfl
 refine done_ (by kernel_rfl) ?_
 try go_wp2
 refine bodyPost_ret (results_ct rfl _ _ gb186 25 #[.int .i64 t190, .slice Ao12 t191.length co12] (0, 0) _ rfl (by (with_reducible repeat apply Qd); refine Wm (cs := #[.int .i64 t190, .slice none 0 0]) ?_ 1 _ rfl; (with_reducible repeat apply Qd); refine Wm (cs := #[.int .i64 0, .slice none 0 0]) ?_ 0 _ rfl; (with_reducible repeat apply Qd); exact BK186.out) Try.underlying25 rfl (by kernel_rfl)) rfl ?_
 exact ⟨_, by first | rfl | (simp [Qt, Qs] <;> rfl) | (simp [*, Qt, Qs] <;> rfl) | (exfalso; simp_all; done), by (with_reducible repeat apply Kd.Zj); exact Kd.Q_mono (Kd.Q_far (p := ⟨gb186, 1, none⟩) (Kd.Q_far (p := ⟨gb186, 0, none⟩) (Kd.Q_types HO193.out BK186.out (by decide)) (fun _ hk => hk.2) (.int .i64 t190)) (fun _ hk => hk.2) (.slice Ao12 t191.length co12)) (fun _ hk => trivial), by repeat (first | (with_reducible first | exact HB.out | apply Qc | apply Qb | apply Qq | refine Qm ?_ (Qi.ge HI189.out) | refine Qm ?_ GE186.out | refine Qm ?_ GE195.out) | exact HB.out)⟩
end Go.Proofs.Yteapnipnoadejaa.P
