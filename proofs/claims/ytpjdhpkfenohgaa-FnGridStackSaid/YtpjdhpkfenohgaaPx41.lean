/- PROVED: contracts of functions; written by this session's driver (pk.py). No condition. -/
import Derived.Test.YtpjdhpkfenohgaaPx0
import Derived.Test.YtpjdhpkfenohgaaPx14
import Derived.Test.YtpjdhpkfenohgaaPx23
import Derived.Test.YtpjdhpkfenohgaaPx30
import Derived.Test.YtpjdhpkfenohgaaPx33
import Derived.Test.YtpjdhpkfenohgaaPx35
import Derived.Test.YtpjdhpkfenohgaaH3GridText
namespace Go.Proofs.Ytpjdhpkfenohgaa.P
open Go.RowKit Go.Proofs.YtpjdhpkfenohgaaW.PrintWords Go.Proofs.YtpjdhpkfenohgaaW.PrintLast Go.Proofs.YtpjdhpkfenohgaaW.PrintMore
attribute [local go_sem] max2_int min2_int max_two min_two max_three min_three max_four min_four   -- for this text's walks alone
set_option linter.unusedVariables false
set_option linter.unusedSimpArgs false

/-! ### laws_FnGridStack: function 8 -/
mutual
def laws_FnGridStack.j0 : Nat → List Int → List Int → Bool → Option (Bool)
 | 0, _, _, _ => none
 | k + 1, x0, x1, x20 => if x20 = true then (some true) else ((spec_DrawGridText.f k x0).bind fun bt362 => ((spec_DrawGridText.f k x1).bind fun bt367 => ((impl_GridText.f k bt362.1 bt362.2).bind fun t372 => ((impl_GridText.f k bt367.1 bt367.2).bind fun t373 => ((spec_GridText.f k bt362.1 bt362.2).bind fun t374 => (if t372.toList = t374.toList then ((spec_GridText.f k bt367.1 bt367.2).bind fun t375 => (if t373.toList = t375.toList then (if t372.toList = ([] : List UInt8) then (laws_FnGridStack.j1 k t372 t373 true bt362.1 bt362.2 bt367.1 bt367.2) else (laws_FnGridStack.j1 k t372 t373 (t373.toList == ([] : List UInt8)) bt362.1 bt362.2 bt367.1 bt367.2)) else (laws_FnGridStack.j1 k t372 t373 true bt362.1 bt362.2 bt367.1 bt367.2))) else (laws_FnGridStack.j1 k t372 t373 true bt362.1 bt362.2 bt367.1 bt367.2)))))))
def laws_FnGridStack.j1 : Nat → ByteArray → ByteArray → Bool → Int → List (S39) → Int → List (S39) → Option (Bool)
 | 0, _, _, _, _, _, _, _ => none
 | k + 1, x7, x8, x46, x367000, x367001, x372000, x372001 => if x46 = true then ((spec_GridText.f k x367000 x367001).bind fun t376 => (if x7.toList = t376.toList then ((spec_GridText.f k x372000 x372001).bind fun t377 => (some (x8.toList == t377.toList))) else (some false))) else ((some (([] : List (S39)) : List (S39))).bind fun y378 => (if y378.length + x367001.length < 8796093022208 then ((some (y378 ++ x367001 : List (S39))).bind fun y381 => (if y381.length + x372001.length < 8796093022208 then ((some (y381 ++ x372001 : List (S39))).bind fun y384 => (if x367000 = x372000 then (laws_FnGridStack.j2 k x7 x8 (decide ((y384.length : Int) ≤ (wrap64 (5 * x367000)))) x367000 y384) else (laws_FnGridStack.j2 k x7 x8 false x367000 y384))) else (none))) else (none)))
def laws_FnGridStack.j2 : Nat → ByteArray → ByteArray → Bool → Int → List (S39) → Option (Bool)
 | 0, _, _, _, _, _ => none
 | k + 1, x7, x8, x10, x388000, x388001 => if x7.size + x8.size ≤ 9223372036854775807 then ((impl_GridRead.f k (x7 ++ x8)).bind fun bt388 => (if x10 = true then (if bt388.2.2 = true then ((laws_llGrid.f k bt388.1 bt388.2.1 x388000 x388001).bind fun t394 => (if t394 = true then ((impl_GridOk.f k x388000 x388001).bind fun t395 => (some t395)) else (some false))) else (some false)) else (some (!bt388.2.2)))) else (none)
end
def laws_FnGridStack.f (k : Nat) (l0 : List Int) (l1 : List Int) : Option (Bool) := if (l0.length : Int) > 1048576 then (laws_FnGridStack.j0 k l0 l1 true) else (laws_FnGridStack.j0 k l0 l1 (decide ((l1.length : Int) > 1048576)))
def laws_FnGridStack.T9 : Bool × List (List Nat × List Nat) := (true, [([], []), ([0], [0]), ([], []), ([], []), ([3], [3]), ([2, 4], [2, 4]), ([], []), ([6], [6]), ([5, 7, 5], [5, 7]), ([1, 8], [1, 8]), ([], []), ([10, 9, 8, 0, 1, 2, 3, 4, 5, 6, 7, 8, 9, 10], [9, 10])])
def laws_FnGridStack.B9 : List Nat := [0, 1, 0, 0, 8, 28, 0, 64, 252, 511, 0, 2047]
theorem laws_FnGridStack.tab9 : rtab .any (opsOf Try.f8 9) = laws_FnGridStack.T9 := by kernel_rfl
theorem laws_FnGridStack.bits9 : waitsOk laws_FnGridStack.T9.2 laws_FnGridStack.B9 = true := by kernel_rfl
set_option maxHeartbeats 8000000 in
set_option maxRecDepth 100000 in
theorem laws_FnGridStack.calls (k : Nat) (A0 : Option Addr) (c0 : Nat) (l0 : List Int) (A1 : Option Addr) (c1 : Nat) (l1 : List Int) (r : Bool) (w : World) (hr0 : Kd.C (Kd.int .u8) w A0 l0.length l0) (hc0 : l0.length ≤ c0) (hr1 : Kd.C (Kd.int .u8) w A1 l1.length l1) (hc1 : l1.length ≤ c1) (h : laws_FnGridStack.f k l0 l1 = some r) (hrt : r = true) :
  Calls Try.prog 8 #[.slice A0 l0.length c0, .slice A1 l1.length c1] w fun e w' => e = .returned (.bool r) ∧ Below w.heap.size w w' := by
 have HRT := Aside0.mk hrt
 clear hrt
 have hu29 := Try.underlying29
 have HR0 := Aside0.mk hr0
 have HC0 := Aside0.mk hc0
 clear hr0 hc0
 have HR1 := Aside0.mk hr1
 have HC1 := Aside0.mk hc1
 clear hr1 hc1
 have HB := Aside0.mk (Below.refl w.heap.size w)
 have H : (if (l0.length : Int) > 1048576 then (laws_FnGridStack.j0 k l0 l1 true) else (laws_FnGridStack.j0 k l0 l1 (decide ((l1.length : Int) > 1048576)))) = some r := h
 clear h
 have HC3 := Aside0.mk H
 clear H
 go_enter Try.func8, Try.ntmps8
 go_upto_region 1 with (fail)
 go_cut [20] (fun v20 wc => ∃ (kq : Nat) (x20_2 : Bool), v20 = .bool x20_2 ∧ Aside0 (laws_FnGridStack.j0 kq l0 l1 x20_2 = some r) ∧ Aside0 (kq ≤ k) ∧ Aside0 (Below w.heap.size w wc))
 case first =>
  have H := HC3.out
  clear HC3
  by_cases c4 : (l0.length : Int) > 1048576
  ·rw [if_pos c4] at H
   have c4b0 : decide (1048576 < (l0.length : Int)) = true := decide_eq_true c4
   have c4b1 : decide (1048576 < l0.length) = true := decide_eq_true (by omega)
   clear c4
   (first | rw [c4b0] | (simp only [i64_w, i32_w]; rw [c4b0]) | skip)
   have H' := Aside0.mk H
   clear H
   go_wp2
   go_meet
   case rel => exact ⟨_, (true), (by first | rfl | (simp; done) | (simp [*]; done)), H', ⟨by first | omega | exact Nat.le_refl _⟩, ⟨by repeat first | exact HB.out | apply below_alloc | apply pw_below_drewN⟩⟩
  ·rw [if_neg c4] at H
   have c4b0 : decide (1048576 < (l0.length : Int)) = false := decide_eq_false c4
   have c4b1 : decide (1048576 < l0.length) = false := decide_eq_false (by omega)
   clear c4
   (first | rw [c4b0] | (simp only [i64_w, i32_w]; rw [c4b0]) | skip)
   have H' := Aside0.mk H
   clear H
   go_wp2
   go_meet
   case rel => exact ⟨_, (decide ((l1.length : Int) > 1048576)), (by first | rfl | (simp; done) | (simp [*]; done)), H', ⟨by first | omega | exact Nat.le_refl _⟩, ⟨by repeat first | exact HB.out | apply below_alloc | apply pw_below_drewN⟩⟩
 case rest =>
  clear HC3
  try clear c1
  try clear p2
  try clear c4
  try clear c4b0
  try clear c4b1
  obtain ⟨kq, x20_2, rfl, HA, HJ2, HB⟩ := hcut
  cases kq with
  | zero => exact absurd HA.out (by simp [laws_FnGridStack.j0])
  | succ kj2 =>
   have H := HA.out
   clear HA
   simp only [laws_FnGridStack.j0] at H
   by_cases c5 : x20_2 = true
   ·subst c5
    have H1 : (some true) = some r := by rw [if_pos rfl] at H; exact H
    clear H
    have H := H1
    clear H1
    obtain rfl := Option.some.inj H
    go_wp2
    go_ret
    exact ⟨by first | rfl | (simp [errW_none, errW_some] <;> rfl) | (simp [*, errW_none, errW_some] <;> rfl) | (exfalso; simp_all; done), by repeat first | exact HB.out | apply below_alloc | apply pw_below_drewN⟩
   ·replace c5 := Bool.eq_false_iff.mpr c5
    subst c5
    have H1 : ((spec_DrawGridText.f kj2 l0).bind fun bt362 => ((spec_DrawGridText.f kj2 l1).bind fun bt367 => ((impl_GridText.f kj2 bt362.1 bt362.2).bind fun t372 => ((impl_GridText.f kj2 bt367.1 bt367.2).bind fun t373 => ((spec_GridText.f kj2 bt362.1 bt362.2).bind fun t374 => (if t372.toList = t374.toList then ((spec_GridText.f kj2 bt367.1 bt367.2).bind fun t375 => (if t373.toList = t375.toList then (if t372.toList = ([] : List UInt8) then (laws_FnGridStack.j1 kj2 t372 t373 true bt362.1 bt362.2 bt367.1 bt367.2) else (laws_FnGridStack.j1 kj2 t372 t373 (t373.toList == ([] : List UInt8)) bt362.1 bt362.2 bt367.1 bt367.2)) else (laws_FnGridStack.j1 kj2 t372 t373 true bt362.1 bt362.2 bt367.1 bt367.2))) else (laws_FnGridStack.j1 kj2 t372 t373 true bt362.1 bt362.2 bt367.1 bt367.2))))))) = some r := by rw [if_neg (show ¬ (false = true) by decide)] at H; exact H
    clear H
    have H := H1
    clear H1
    replace H := Option.bind_eq_some_iff.mp H
    obtain ⟨⟨t362, t363⟩, A60, H⟩ := H
    replace H : ((spec_DrawGridText.f kj2 l1).bind fun bt367 => ((impl_GridText.f kj2 t362 t363).bind fun t372 => ((impl_GridText.f kj2 bt367.1 bt367.2).bind fun t373 => ((spec_GridText.f kj2 t362 t363).bind fun t374 => (if t372.toList = t374.toList then ((spec_GridText.f kj2 bt367.1 bt367.2).bind fun t375 => (if t373.toList = t375.toList then (if t372.toList = ([] : List UInt8) then (laws_FnGridStack.j1 kj2 t372 t373 true t362 t363 bt367.1 bt367.2) else (laws_FnGridStack.j1 kj2 t372 t373 (t373.toList == ([] : List UInt8)) t362 t363 bt367.1 bt367.2)) else (laws_FnGridStack.j1 kj2 t372 t373 true t362 t363 bt367.1 bt367.2))) else (laws_FnGridStack.j1 kj2 t372 t373 true t362 t363 bt367.1 bt367.2)))))) = some r := H
    have A6 := Aside0.mk A60
    clear A60
    replace H := Option.bind_eq_some_iff.mp H
    obtain ⟨⟨t367, t368⟩, A70, H⟩ := H
    replace H : ((impl_GridText.f kj2 t362 t363).bind fun t372 => ((impl_GridText.f kj2 t367 t368).bind fun t373 => ((spec_GridText.f kj2 t362 t363).bind fun t374 => (if t372.toList = t374.toList then ((spec_GridText.f kj2 t367 t368).bind fun t375 => (if t373.toList = t375.toList then (if t372.toList = ([] : List UInt8) then (laws_FnGridStack.j1 kj2 t372 t373 true t362 t363 t367 t368) else (laws_FnGridStack.j1 kj2 t372 t373 (t373.toList == ([] : List UInt8)) t362 t363 t367 t368)) else (laws_FnGridStack.j1 kj2 t372 t373 true t362 t363 t367 t368))) else (laws_FnGridStack.j1 kj2 t372 t373 true t362 t363 t367 t368))))) = some r := H
    have A7 := Aside0.mk A70
    clear A70
    replace H := Option.bind_eq_some_iff.mp H
    obtain ⟨t372, A80, H⟩ := H
    replace H : ((impl_GridText.f kj2 t367 t368).bind fun t373 => ((spec_GridText.f kj2 t362 t363).bind fun t374 => (if t372.toList = t374.toList then ((spec_GridText.f kj2 t367 t368).bind fun t375 => (if t373.toList = t375.toList then (if t372.toList = ([] : List UInt8) then (laws_FnGridStack.j1 kj2 t372 t373 true t362 t363 t367 t368) else (laws_FnGridStack.j1 kj2 t372 t373 (t373.toList == ([] : List UInt8)) t362 t363 t367 t368)) else (laws_FnGridStack.j1 kj2 t372 t373 true t362 t363 t367 t368))) else (laws_FnGridStack.j1 kj2 t372 t373 true t362 t363 t367 t368)))) = some r := H
    have A8 := Aside0.mk A80
    clear A80
    replace H := Option.bind_eq_some_iff.mp H
    obtain ⟨t373, A90, H⟩ := H
    replace H : ((spec_GridText.f kj2 t362 t363).bind fun t374 => (if t372.toList = t374.toList then ((spec_GridText.f kj2 t367 t368).bind fun t375 => (if t373.toList = t375.toList then (if t372.toList = ([] : List UInt8) then (laws_FnGridStack.j1 kj2 t372 t373 true t362 t363 t367 t368) else (laws_FnGridStack.j1 kj2 t372 t373 (t373.toList == ([] : List UInt8)) t362 t363 t367 t368)) else (laws_FnGridStack.j1 kj2 t372 t373 true t362 t363 t367 t368))) else (laws_FnGridStack.j1 kj2 t372 t373 true t362 t363 t367 t368))) = some r := H
    have A9 := Aside0.mk A90
    clear A90
    have HC10 := Aside0.mk H
    clear H
    go_upto_region 7 with (first | ((with_reducible refine gate_callee (f := 22) rfl ?_); refine goesL_ (some 22) rfl rfl Try.func22 (by kernel_rfl) rfl #[.slice A0 l0.length c0] rfl (by first | rfl | (simp only [List.map_toArray, List.map_cons, List.map_nil, List.length_drop, List.length_take]; try rfl)) ?_; (with_reducible refine (spec_DrawGridText.calls kj2 _ _ l0 t362 t363 _ ?side1 ?side2 A6.out).mono ?_); (case side1 => repeat (first | exact (Kd.C_below HR0.out HB.out) | (with_reducible refine Kd.C_alloc ?_ _) | (with_reducible refine Kd.C_drewN ?_ _) | (with_reducible refine Kd.C_drew ?_))); (case side2 => exact HC0.out); rintro e w11 ⟨v364, rfl, ho0, hb⟩; refine ⟨_, rfl, ?_⟩; have n0_ := Aside0.mk (Kd.Q_lower ho0 (below_size (by repeat first | exact HB.out | apply below_alloc | apply pw_below_drewN))); have n1_ := Aside0.mk (below_step (by repeat first | exact HB.out | apply below_alloc | apply pw_below_drewN) hb); clear HB; have HO365 := n0_; have HB := n1_; clear n0_ n1_; (try clear hb); (try clear hb2); (try clear hk); (try clear hi); (try clear ho0)) | ((with_reducible refine gate_dst (N := 5) rfl ?_); (try (refine gate_guard (by rfl) ?_; dsimp only)); refine box_event rfl (N := 5) rfl (cs := #[.int .i64 0, .slice none 0 0]) (t := 29) ?hr ?_; (case hr => first | (go_simp; done) | (go_simp; rfl)); intro gb366 hg w12 hbox hb; have n0_ := Aside0.mk (Kd.Q_below (by (with_reducible repeat apply Kd.Q_alloc); exact HO365.out) hb); have n1_ := Aside0.mk (below_step (by repeat first | exact HB.out | apply below_alloc | apply pw_below_drewN) hb); have n2_ := Aside0.mk (hbox); have n3_ := Aside0.mk ((by rw [hg]; exact (below_size (by repeat first | exact HB.out | apply below_alloc | apply pw_below_drewN)) : w.heap.size ≤ gb366)); have n4_ := n3_; clear HO365; clear HB; have HO365 := n0_; have HB := n1_; have BK366 := n2_; have GW366 := n3_; have GE366 := n4_; clear n0_ n1_ n2_ n3_ n4_; clear hb hbox hg; have hcz13_0 : w12.cell? ⟨gb366, 0, none⟩ = some (.int .i64 0) := (blk_cell BK366.out 0).trans rfl; have hcz13_1 : w12.cell? ⟨gb366, 1, none⟩ = some (.slice none 0 0) := (blk_cell BK366.out 1).trans rfl; have hfz13_0 := blk_frozen BK366.out 0; have hfz13_1 := blk_frozen BK366.out 1; obtain ⟨Ao14, co14, eo14, _⟩ := Kd.Q_slice HO365.out; subst eo14) | ((with_reducible refine gate_callee (f := 22) rfl ?_); refine goesL_ (some 24) rfl rfl Try.func22 (by kernel_rfl) rfl #[.slice A1 l1.length c1] rfl (by first | rfl | (simp only [List.map_toArray, List.map_cons, List.map_nil, List.length_drop, List.length_take]; try rfl)) ?_; (with_reducible refine (spec_DrawGridText.calls kj2 _ _ l1 t367 t368 _ ?side1 ?side2 A7.out).mono ?_); (case side1 => exact Kd.C_below HR1.out (by repeat first | exact HB.out | with_reducible refine below_setA ?_ ‹_› | apply below_alloc | apply pw_below_drewN)); (case side2 => exact HC1.out); rintro e w15 ⟨v369, rfl, ho0, hb⟩; refine ⟨_, rfl, ?_⟩; have n0_ := Aside0.mk (Kd.Q_elder' (by (with_reducible repeat apply Kd.Q_alloc); exact (Kd.Q_mono (Kd.Q_far (p := ⟨gb366, 1, none⟩) (Kd.Q_far (p := ⟨gb366, 0, none⟩) (Kd.Q_types HO365.out BK366.out (by decide)) (fun _ hk => hk.2) (.int .i64 t362)) (fun _ hk => hk.2) (.slice Ao14 t363.length co14)) (fun _ h_ => h_.1))) (Kd.Q_base ho0) hb); have n1_ := Aside0.mk (Kd.Q_lower (Kd.Q_new' ho0 (Kd.Q_lt (by (with_reducible repeat apply Kd.Q_alloc); exact (Kd.Q_mono (Kd.Q_far (p := ⟨gb366, 1, none⟩) (Kd.Q_far (p := ⟨gb366, 0, none⟩) (Kd.Q_types HO365.out BK366.out (by decide)) (fun _ hk => hk.2) (.int .i64 t362)) (fun _ hk => hk.2) (.slice Ao14 t363.length co14)) (fun _ h_ => h_.1))))) (below_size (by repeat first | exact HB.out | with_reducible refine below_setA ?_ ‹_› | apply below_alloc | apply pw_below_drewN))); have n2_ := Aside0.mk (blk_below (g := gb366) (o := .cells #[.int .i64 t362, .slice Ao14 t363.length co14] 29 (0, 0)) (by (with_reducible repeat apply blk_alloc); refine blk_put (cs := #[.int .i64 t362, .slice none 0 0]) ?_ 1 _ rfl; (with_reducible repeat apply blk_alloc); refine blk_put (cs := #[.int .i64 0, .slice none 0 0]) ?_ 0 _ rfl; (with_reducible repeat apply blk_alloc); exact BK366.out) hb); have n3_ := Aside0.mk (below_step (by repeat first | exact HB.out | with_reducible refine below_setA ?_ ‹_› | apply below_alloc | apply pw_below_drewN) hb); clear HO365; clear BK366; clear HB; have HO365 := n0_; have HO370 := n1_; have BK366 := n2_; have HB := n3_; clear n0_ n1_ n2_ n3_; (try clear hb); (try clear hb2); (try clear hk); (try clear hi); (try clear ho0)) | ((with_reducible refine gate_dst (N := 6) rfl ?_); (try (refine gate_guard (by rfl) ?_; dsimp only)); refine box_event rfl (N := 6) rfl (cs := #[.int .i64 0, .slice none 0 0]) (t := 29) ?hr ?_; (case hr => first | (go_simp; done) | (go_simp; rfl)); intro gb371 hg w16 hbox hb; have n0_ := Aside0.mk (Kd.Q_below (by (with_reducible repeat apply Kd.Q_alloc); exact HO365.out) hb); have n1_ := Aside0.mk (Kd.Q_below (by (with_reducible repeat apply Kd.Q_alloc); exact HO370.out) hb); have n2_ := Aside0.mk (blk_below (bK BK366.out) hb); have n3_ := Aside0.mk (below_step (by repeat first | exact HB.out | with_reducible refine below_setA ?_ ‹_› | apply below_alloc | apply pw_below_drewN) hb); have n4_ := Aside0.mk (hbox); have n5_ := Aside0.mk ((by rw [hg]; exact (below_size (by repeat first | exact HB.out | with_reducible refine below_setA ?_ ‹_› | apply below_alloc | apply pw_below_drewN)) : w.heap.size ≤ gb371)); have n6_ := n5_; have n7_ := Aside0.mk ((by rw [hg]; exact Nat.ne_of_lt (blk_lt (bK BK366.out)) : gb366 ≠ gb371)); have n8_ := Aside0.mk ((by rw [hg]; exact Nat.ne_of_gt (blk_lt (bK BK366.out)) : gb371 ≠ gb366)); clear HO365; clear HO370; clear BK366; clear HB; have HO365 := n0_; have HO370 := n1_; have BK366 := n2_; have HB := n3_; have BK371 := n4_; have GW371 := n5_; have GE371 := n6_; have NB366_371 := n7_; have NB371_366 := n8_; clear n0_ n1_ n2_ n3_ n4_ n5_ n6_ n7_ n8_; clear hb hbox hg; have hnb17 := NB371_366.out; have hnc17 := NB366_371.out; have hcz18_0 : w16.cell? ⟨gb371, 0, none⟩ = some (.int .i64 0) := (blk_cell BK371.out 0).trans rfl; have hcz18_1 : w16.cell? ⟨gb371, 1, none⟩ = some (.slice none 0 0) := (blk_cell BK371.out 1).trans rfl; have hfz18_0 := blk_frozen BK371.out 0; have hfz18_1 := blk_frozen BK371.out 1; obtain ⟨Ao19, co19, eo19, _⟩ := Kd.Q_slice HO370.out; subst eo19; have hcz20_0 : w16.cell? ⟨gb366, 0, none⟩ = some (.int .i64 t362) := (blk_cell BK366.out 0).trans rfl; have hcz20_1 : w16.cell? ⟨gb366, 1, none⟩ = some (.slice Ao14 t363.length co14) := (blk_cell BK366.out 1).trans rfl; have hfz20_0 := blk_frozen BK366.out 0; have hfz20_1 := blk_frozen BK366.out 1) | ((with_reducible refine gate_callee (f := 13) rfl ?_); refine goesL_ (some 26) rfl rfl Try.func13 (by kernel_rfl) rfl #[.agg #[.int .i64 t362, .slice Ao14 t363.length co14]] rfl (by first | rfl | (simp only [List.map_toArray, List.map_cons, List.map_nil, List.length_drop, List.length_take]; try rfl)) ?_; (with_reducible refine (impl_GridText.calls kj2 t362 _ _ t363 t372 _ ?side1 ?side2 A8.out).mono ?_); (case side1 => refine (Kd.Q_reads' (e := 39) (base := w.heap.size) (ok := fun k_ => (True ∧ some k_ ≠ (.slice Ao19 t368.length co19 : Value).ownBlock)) (n := t363.length) (c := co14) ?_).2.2; exact (by (with_reducible repeat apply Kd.Q_alloc); exact (Kd.Q_mono (Kd.Q_far (p := ⟨gb371, 1, none⟩) (Kd.Q_far (p := ⟨gb371, 0, none⟩) (Kd.Q_types HO365.out BK371.out (by decide)) (fun _ hk => hk.2) (.int .i64 t367)) (fun _ hk => hk.2) (.slice Ao19 t368.length co19)) (fun _ h_ => h_.1)))); (case side2 => exact (Kd.Q_reads' HO365.out).2.1); rintro e w21 ⟨rfl, hb⟩; refine ⟨_, rfl, ?_⟩; have n0_ := Aside0.mk (Kd.Q_below (by (with_reducible repeat apply Kd.Q_alloc); exact (Kd.Q_mono (Kd.Q_far (p := ⟨gb371, 1, none⟩) (Kd.Q_far (p := ⟨gb371, 0, none⟩) (Kd.Q_types HO365.out BK371.out (by decide)) (fun _ hk => hk.2) (.int .i64 t367)) (fun _ hk => hk.2) (.slice Ao19 t368.length co19)) (fun _ h_ => h_.1))) hb); have n1_ := Aside0.mk (Kd.Q_below (by (with_reducible repeat apply Kd.Q_alloc); exact (Kd.Q_mono (Kd.Q_far (p := ⟨gb371, 1, none⟩) (Kd.Q_far (p := ⟨gb371, 0, none⟩) (Kd.Q_types HO370.out BK371.out (by decide)) (fun _ hk => hk.2) (.int .i64 t367)) (fun _ hk => hk.2) (.slice Ao19 t368.length co19)) (fun _ h_ => h_.1))) hb); have n2_ := Aside0.mk (blk_below (g := gb366) (o := .cells #[.int .i64 t362, .slice Ao14 t363.length co14] 29 (0, 0)) (by (with_reducible repeat apply blk_alloc); refine blk_far ?_ NB366_371.out _; (with_reducible repeat apply blk_alloc); refine blk_far ?_ NB366_371.out _; (with_reducible repeat apply blk_alloc); exact BK366.out) hb); have n3_ := Aside0.mk (blk_below (g := gb371) (o := .cells #[.int .i64 t367, .slice Ao19 t368.length co19] 29 (0, 0)) (by (with_reducible repeat apply blk_alloc); refine blk_put (cs := #[.int .i64 t367, .slice none 0 0]) ?_ 1 _ rfl; (with_reducible repeat apply blk_alloc); refine blk_put (cs := #[.int .i64 0, .slice none 0 0]) ?_ 0 _ rfl; (with_reducible repeat apply blk_alloc); exact BK371.out) hb); have n4_ := Aside0.mk (below_step (by repeat first | exact HB.out | with_reducible refine below_setA ?_ ‹_› | apply below_alloc | apply pw_below_drewN) hb); clear HO365; clear HO370; clear BK366; clear BK371; clear HB; have HO365 := n0_; have HO370 := n1_; have BK366 := n2_; have BK371 := n3_; have HB := n4_; clear n0_ n1_ n2_ n3_ n4_; (try clear hb); (try clear hb2); (try clear hk); (try clear hi); have hcz22_0 : w21.cell? ⟨gb371, 0, none⟩ = some (.int .i64 t367) := (blk_cell BK371.out 0).trans rfl; have hcz22_1 : w21.cell? ⟨gb371, 1, none⟩ = some (.slice Ao19 t368.length co19) := (blk_cell BK371.out 1).trans rfl; have hfz22_0 := blk_frozen BK371.out 0; have hfz22_1 := blk_frozen BK371.out 1) | ((with_reducible refine gate_callee (f := 13) rfl ?_); refine goesL_ (some 28) rfl rfl Try.func13 (by kernel_rfl) rfl #[.agg #[.int .i64 t367, .slice Ao19 t368.length co19]] rfl (by first | rfl | (simp only [List.map_toArray, List.map_cons, List.map_nil, List.length_drop, List.length_take]; try rfl)) ?_; (with_reducible refine (impl_GridText.calls kj2 t367 _ _ t368 t373 _ ?side1 ?side2 A9.out).mono ?_); (case side1 => repeat (first | exact (Kd.Q_reads' HO370.out).2.2 | (with_reducible refine Kd.C_alloc ?_ _) | (with_reducible refine Kd.C_drewN ?_ _) | (with_reducible refine Kd.C_drew ?_))); (case side2 => exact (Kd.Q_reads' HO370.out).2.1); rintro e w23 ⟨rfl, hb⟩; refine ⟨_, rfl, ?_⟩; have n0_ := Aside0.mk (Kd.Q_below (by (with_reducible repeat apply Kd.Q_alloc); exact HO365.out) hb); have n1_ := Aside0.mk (Kd.Q_below (by (with_reducible repeat apply Kd.Q_alloc); exact HO370.out) hb); have n2_ := Aside0.mk (blk_below (bK BK366.out) hb); have n3_ := Aside0.mk (blk_below (bK BK371.out) hb); have n4_ := Aside0.mk (below_step (by repeat first | exact HB.out | with_reducible refine below_setA ?_ ‹_› | apply below_alloc | apply pw_below_drewN) hb); clear HO365; clear HO370; clear BK366; clear BK371; clear HB; have HO365 := n0_; have HO370 := n1_; have BK366 := n2_; have BK371 := n3_; have HB := n4_; clear n0_ n1_ n2_ n3_ n4_; (try clear hb); (try clear hb2); (try clear hk); (try clear hi)))
    (try simp only [Act.put, List.setIfInBounds_toArray, List.set_cons_zero, List.set_cons_succ])
    go_cut [46] (fun v46 wc => ∃ (kq : Nat) (x46_9 : Bool), v46 = .bool x46_9 ∧ Aside0 (laws_FnGridStack.j1 kq t372 t373 x46_9 t362 t363 t367 t368 = some r) ∧ Aside0 (kq ≤ kj2) ∧ Aside0 (Kd.Q k39 39 wc w.heap.size (fun k_ => some k_ ≠ ((.slice Ao19 t368.length co19) : Value).ownBlock) (.slice Ao14 t363.length co14) t363) ∧ Aside0 (Kd.Q k39 39 wc w.heap.size (fun k_ => some k_ ≠ ((.slice Ao14 t363.length co14) : Value).ownBlock) (.slice Ao19 t368.length co19) t368) ∧ Aside0 (wc.heap[gb366]? = some (.cells #[.int .i64 t362, (.slice Ao14 t363.length co14)] 29 (0, 0))) ∧ Aside0 (wc.heap[gb371]? = some (.cells #[.int .i64 t367, (.slice Ao19 t368.length co19)] 29 (0, 0))) ∧ Aside0 (Below w.heap.size w wc))
    case first =>
     have H := HC10.out
     clear HC10
     replace H := Option.bind_eq_some_iff.mp H
     obtain ⟨t374, A240, H⟩ := H
     replace H : (if t372.toList = t374.toList then ((spec_GridText.f kj2 t367 t368).bind fun t375 => (if t373.toList = t375.toList then (if t372.toList = ([] : List UInt8) then (laws_FnGridStack.j1 kj2 t372 t373 true t362 t363 t367 t368) else (laws_FnGridStack.j1 kj2 t372 t373 (t373.toList == ([] : List UInt8)) t362 t363 t367 t368)) else (laws_FnGridStack.j1 kj2 t372 t373 true t362 t363 t367 t368))) else (laws_FnGridStack.j1 kj2 t372 t373 true t362 t363 t367 t368)) = some r := H
     have A24 := Aside0.mk A240
     clear A240
     by_cases c25 : t372.toList = t374.toList
     ·rw [if_pos c25] at H
      have c25b0 : (t372.toList == t374.toList) = true := beq_iff_eq.mpr c25
      have c25b1 : (t372.toList != t374.toList) = false := bne_eq_false_iff_eq.mpr c25
      clear c25
      (first | rw [c25b0] | (simp only [i64_w, i32_w]; rw [c25b0]) | skip)
      replace H := Option.bind_eq_some_iff.mp H
      obtain ⟨t375, A260, H⟩ := H
      replace H : (if t373.toList = t375.toList then (if t372.toList = ([] : List UInt8) then (laws_FnGridStack.j1 kj2 t372 t373 true t362 t363 t367 t368) else (laws_FnGridStack.j1 kj2 t372 t373 (t373.toList == ([] : List UInt8)) t362 t363 t367 t368)) else (laws_FnGridStack.j1 kj2 t372 t373 true t362 t363 t367 t368)) = some r := H
      have A26 := Aside0.mk A260
      clear A260
      by_cases c27 : t373.toList = t375.toList
      ·rw [if_pos c27] at H
       have c27b0 : (t373.toList == t375.toList) = true := beq_iff_eq.mpr c27
       have c27b1 : (t373.toList != t375.toList) = false := bne_eq_false_iff_eq.mpr c27
       clear c27
       by_cases c28 : t372.toList = ([] : List UInt8)
       ·rw [if_pos c28] at H
        have c28b0 : (t372.toList == ([] : List UInt8)) = true := beq_iff_eq.mpr c28
        have c28b1 : (t372.toList != ([] : List UInt8)) = false := bne_eq_false_iff_eq.mpr c28
        clear c28
        have H' := Aside0.mk H
        clear H
        have hnb29 := NB366_371.out
        have hnc29 := NB371_366.out
        have hcz30_0 : w23.cell? ⟨gb366, 0, none⟩ = some (.int .i64 t362) := (blk_cell BK366.out 0).trans rfl
        have hcz30_1 : w23.cell? ⟨gb366, 1, none⟩ = some (.slice Ao14 t363.length co14) := (blk_cell BK366.out 1).trans rfl
        have hfz30_0 := blk_frozen BK366.out 0
        have hfz30_1 := blk_frozen BK366.out 1
        go_wp2_with (first | ((with_reducible refine gate_callee (f := 11) rfl ?_); refine goesL_ (some 31) rfl rfl Try.func11 (by kernel_rfl) rfl #[.agg #[.int .i64 t362, .slice Ao14 t363.length co14]] rfl (by first | rfl | (simp only [List.map_toArray, List.map_cons, List.map_nil, List.length_drop, List.length_take]; try rfl)) ?_; (with_reducible refine (spec_GridText.calls kj2 t362 _ _ t363 t374 _ ?side1 ?side2 A24.out).mono ?_); (case side1 => repeat (first | exact (Kd.Q_reads' HO365.out).2.2 | (with_reducible refine Kd.C_alloc ?_ _) | (with_reducible refine Kd.C_drewN ?_ _) | (with_reducible refine Kd.C_drew ?_))); (case side2 => exact (Kd.Q_reads' HO365.out).2.1); rintro e w31 ⟨rfl, hb⟩; refine ⟨_, rfl, ?_⟩; have n0_ := Aside0.mk (Kd.Q_below (by (with_reducible repeat apply Kd.Q_alloc); exact HO365.out) hb); have n1_ := Aside0.mk (Kd.Q_below (by (with_reducible repeat apply Kd.Q_alloc); exact HO370.out) hb); have n2_ := Aside0.mk (blk_below (bK BK366.out) hb); have n3_ := Aside0.mk (blk_below (bK BK371.out) hb); have n4_ := Aside0.mk (below_step (by repeat first | exact HB.out | with_reducible refine below_setA ?_ ‹_› | apply below_alloc | apply pw_below_drewN) hb); clear HO365; clear HO370; clear BK366; clear BK371; clear HB; have HO365 := n0_; have HO370 := n1_; have BK366 := n2_; have BK371 := n3_; have HB := n4_; clear n0_ n1_ n2_ n3_ n4_; (try clear hb); (try clear hb2); (try clear hk); (try clear hi); have hcz32_0 : w31.cell? ⟨gb371, 0, none⟩ = some (.int .i64 t367) := (blk_cell BK371.out 0).trans rfl; have hcz32_1 : w31.cell? ⟨gb371, 1, none⟩ = some (.slice Ao19 t368.length co19) := (blk_cell BK371.out 1).trans rfl; have hfz32_0 := blk_frozen BK371.out 0; have hfz32_1 := blk_frozen BK371.out 1) | (go_at_call 11; (with_reducible refine (spec_GridText.calls kj2 t367 _ _ t368 t375 _ ?side1 ?side2 A26.out).mono ?_); (case side1 => repeat (first | exact (Kd.Q_reads' HO370.out).2.2 | (with_reducible refine Kd.C_alloc ?_ _) | (with_reducible refine Kd.C_drewN ?_ _) | (with_reducible refine Kd.C_drew ?_))); (case side2 => exact (Kd.Q_reads' HO370.out).2.1); rintro e w33 ⟨rfl, hb⟩; have n0_ := Aside0.mk (Kd.Q_below (by (with_reducible repeat apply Kd.Q_alloc); exact HO365.out) hb); have n1_ := Aside0.mk (Kd.Q_below (by (with_reducible repeat apply Kd.Q_alloc); exact HO370.out) hb); have n2_ := Aside0.mk (blk_below (bK BK366.out) hb); have n3_ := Aside0.mk (blk_below (bK BK371.out) hb); have n4_ := Aside0.mk (below_step (by repeat first | exact HB.out | with_reducible refine below_setA ?_ ‹_› | apply below_alloc | apply pw_below_drewN) hb); clear HO365; clear HO370; clear BK366; clear BK371; clear HB; have HO365 := n0_; have HO370 := n1_; have BK366 := n2_; have BK371 := n3_; have HB := n4_; clear n0_ n1_ n2_ n3_ n4_; (try clear hb); (try clear hb2); (try clear hk); (try clear hi)))
        go_meet
        case rel => exact ⟨_, (true), (by first | rfl | (simp; done) | (simp [*]; done)), H', ⟨by have := HJ2.out; first | omega | exact Nat.le_refl _⟩, ⟨by (with_reducible repeat apply Kd.Q_alloc); exact Kd.Q_mono HO365.out (fun _ hk => hk.2)⟩, ⟨by (with_reducible repeat apply Kd.Q_alloc); exact Kd.Q_mono HO370.out (fun _ hk => hk.2)⟩, ⟨by (with_reducible repeat apply blk_alloc); exact BK366.out⟩, ⟨by (with_reducible repeat apply blk_alloc); exact BK371.out⟩, ⟨by repeat first | exact HB.out | with_reducible refine below_setA ?_ ‹_› | apply below_alloc | apply pw_below_drewN⟩⟩
       ·rw [if_neg c28] at H
        have c28b0 : (t372.toList == ([] : List UInt8)) = false := beq_eq_false_iff_ne.mpr c28
        have c28b1 : (t372.toList != ([] : List UInt8)) = true := bne_iff_ne.mpr c28
        have H' := Aside0.mk H
        clear H
        have hnb34 := NB366_371.out
        have hnc34 := NB371_366.out
        have hcz35_0 : w23.cell? ⟨gb366, 0, none⟩ = some (.int .i64 t362) := (blk_cell BK366.out 0).trans rfl
        have hcz35_1 : w23.cell? ⟨gb366, 1, none⟩ = some (.slice Ao14 t363.length co14) := (blk_cell BK366.out 1).trans rfl
        have hfz35_0 := blk_frozen BK366.out 0
        have hfz35_1 := blk_frozen BK366.out 1
        go_wp2_with (first | ((with_reducible refine gate_callee (f := 11) rfl ?_); refine goesL_ (some 31) rfl rfl Try.func11 (by kernel_rfl) rfl #[.agg #[.int .i64 t362, .slice Ao14 t363.length co14]] rfl (by first | rfl | (simp only [List.map_toArray, List.map_cons, List.map_nil, List.length_drop, List.length_take]; try rfl)) ?_; (with_reducible refine (spec_GridText.calls kj2 t362 _ _ t363 t374 _ ?side1 ?side2 A24.out).mono ?_); (case side1 => repeat (first | exact (Kd.Q_reads' HO365.out).2.2 | (with_reducible refine Kd.C_alloc ?_ _) | (with_reducible refine Kd.C_drewN ?_ _) | (with_reducible refine Kd.C_drew ?_))); (case side2 => exact (Kd.Q_reads' HO365.out).2.1); rintro e w36 ⟨rfl, hb⟩; refine ⟨_, rfl, ?_⟩; have n0_ := Aside0.mk (Kd.Q_below (by (with_reducible repeat apply Kd.Q_alloc); exact HO365.out) hb); have n1_ := Aside0.mk (Kd.Q_below (by (with_reducible repeat apply Kd.Q_alloc); exact HO370.out) hb); have n2_ := Aside0.mk (blk_below (bK BK366.out) hb); have n3_ := Aside0.mk (blk_below (bK BK371.out) hb); have n4_ := Aside0.mk (below_step (by repeat first | exact HB.out | with_reducible refine below_setA ?_ ‹_› | apply below_alloc | apply pw_below_drewN) hb); clear HO365; clear HO370; clear BK366; clear BK371; clear HB; have HO365 := n0_; have HO370 := n1_; have BK366 := n2_; have BK371 := n3_; have HB := n4_; clear n0_ n1_ n2_ n3_ n4_; (try clear hb); (try clear hb2); (try clear hk); (try clear hi); have hcz37_0 : w36.cell? ⟨gb371, 0, none⟩ = some (.int .i64 t367) := (blk_cell BK371.out 0).trans rfl; have hcz37_1 : w36.cell? ⟨gb371, 1, none⟩ = some (.slice Ao19 t368.length co19) := (blk_cell BK371.out 1).trans rfl; have hfz37_0 := blk_frozen BK371.out 0; have hfz37_1 := blk_frozen BK371.out 1) | (go_at_call 11; (with_reducible refine (spec_GridText.calls kj2 t367 _ _ t368 t375 _ ?side1 ?side2 A26.out).mono ?_); (case side1 => repeat (first | exact (Kd.Q_reads' HO370.out).2.2 | (with_reducible refine Kd.C_alloc ?_ _) | (with_reducible refine Kd.C_drewN ?_ _) | (with_reducible refine Kd.C_drew ?_))); (case side2 => exact (Kd.Q_reads' HO370.out).2.1); rintro e w38 ⟨rfl, hb⟩; have n0_ := Aside0.mk (Kd.Q_below (by (with_reducible repeat apply Kd.Q_alloc); exact HO365.out) hb); have n1_ := Aside0.mk (Kd.Q_below (by (with_reducible repeat apply Kd.Q_alloc); exact HO370.out) hb); have n2_ := Aside0.mk (blk_below (bK BK366.out) hb); have n3_ := Aside0.mk (blk_below (bK BK371.out) hb); have n4_ := Aside0.mk (below_step (by repeat first | exact HB.out | with_reducible refine below_setA ?_ ‹_› | apply below_alloc | apply pw_below_drewN) hb); clear HO365; clear HO370; clear BK366; clear BK371; clear HB; have HO365 := n0_; have HO370 := n1_; have BK366 := n2_; have BK371 := n3_; have HB := n4_; clear n0_ n1_ n2_ n3_ n4_; (try clear hb); (try clear hb2); (try clear hk); (try clear hi)))
        go_meet
        case rel => exact ⟨_, ((t373.toList == ([] : List UInt8))), (by first | rfl | (simp; done) | (simp [*]; done)), H', ⟨by have := HJ2.out; first | omega | exact Nat.le_refl _⟩, ⟨by (with_reducible repeat apply Kd.Q_alloc); exact Kd.Q_mono HO365.out (fun _ hk => hk.2)⟩, ⟨by (with_reducible repeat apply Kd.Q_alloc); exact Kd.Q_mono HO370.out (fun _ hk => hk.2)⟩, ⟨by (with_reducible repeat apply blk_alloc); exact BK366.out⟩, ⟨by (with_reducible repeat apply blk_alloc); exact BK371.out⟩, ⟨by repeat first | exact HB.out | with_reducible refine below_setA ?_ ‹_› | apply below_alloc | apply pw_below_drewN⟩⟩
      ·rw [if_neg c27] at H
       have c27b0 : (t373.toList == t375.toList) = false := beq_eq_false_iff_ne.mpr c27
       have c27b1 : (t373.toList != t375.toList) = true := bne_iff_ne.mpr c27
       have H' := Aside0.mk H
       clear H
       have hnb39 := NB366_371.out
       have hnc39 := NB371_366.out
       have hcz40_0 : w23.cell? ⟨gb366, 0, none⟩ = some (.int .i64 t362) := (blk_cell BK366.out 0).trans rfl
       have hcz40_1 : w23.cell? ⟨gb366, 1, none⟩ = some (.slice Ao14 t363.length co14) := (blk_cell BK366.out 1).trans rfl
       have hfz40_0 := blk_frozen BK366.out 0
       have hfz40_1 := blk_frozen BK366.out 1
       go_wp2_with (first | ((with_reducible refine gate_callee (f := 11) rfl ?_); refine goesL_ (some 31) rfl rfl Try.func11 (by kernel_rfl) rfl #[.agg #[.int .i64 t362, .slice Ao14 t363.length co14]] rfl (by first | rfl | (simp only [List.map_toArray, List.map_cons, List.map_nil, List.length_drop, List.length_take]; try rfl)) ?_; (with_reducible refine (spec_GridText.calls kj2 t362 _ _ t363 t374 _ ?side1 ?side2 A24.out).mono ?_); (case side1 => repeat (first | exact (Kd.Q_reads' HO365.out).2.2 | (with_reducible refine Kd.C_alloc ?_ _) | (with_reducible refine Kd.C_drewN ?_ _) | (with_reducible refine Kd.C_drew ?_))); (case side2 => exact (Kd.Q_reads' HO365.out).2.1); rintro e w41 ⟨rfl, hb⟩; refine ⟨_, rfl, ?_⟩; have n0_ := Aside0.mk (Kd.Q_below (by (with_reducible repeat apply Kd.Q_alloc); exact HO365.out) hb); have n1_ := Aside0.mk (Kd.Q_below (by (with_reducible repeat apply Kd.Q_alloc); exact HO370.out) hb); have n2_ := Aside0.mk (blk_below (bK BK366.out) hb); have n3_ := Aside0.mk (blk_below (bK BK371.out) hb); have n4_ := Aside0.mk (below_step (by repeat first | exact HB.out | with_reducible refine below_setA ?_ ‹_› | apply below_alloc | apply pw_below_drewN) hb); clear HO365; clear HO370; clear BK366; clear BK371; clear HB; have HO365 := n0_; have HO370 := n1_; have BK366 := n2_; have BK371 := n3_; have HB := n4_; clear n0_ n1_ n2_ n3_ n4_; (try clear hb); (try clear hb2); (try clear hk); (try clear hi); have hcz42_0 : w41.cell? ⟨gb371, 0, none⟩ = some (.int .i64 t367) := (blk_cell BK371.out 0).trans rfl; have hcz42_1 : w41.cell? ⟨gb371, 1, none⟩ = some (.slice Ao19 t368.length co19) := (blk_cell BK371.out 1).trans rfl; have hfz42_0 := blk_frozen BK371.out 0; have hfz42_1 := blk_frozen BK371.out 1) | (go_at_call 11; (with_reducible refine (spec_GridText.calls kj2 t367 _ _ t368 t375 _ ?side1 ?side2 A26.out).mono ?_); (case side1 => repeat (first | exact (Kd.Q_reads' HO370.out).2.2 | (with_reducible refine Kd.C_alloc ?_ _) | (with_reducible refine Kd.C_drewN ?_ _) | (with_reducible refine Kd.C_drew ?_))); (case side2 => exact (Kd.Q_reads' HO370.out).2.1); rintro e w43 ⟨rfl, hb⟩; have n0_ := Aside0.mk (Kd.Q_below (by (with_reducible repeat apply Kd.Q_alloc); exact HO365.out) hb); have n1_ := Aside0.mk (Kd.Q_below (by (with_reducible repeat apply Kd.Q_alloc); exact HO370.out) hb); have n2_ := Aside0.mk (blk_below (bK BK366.out) hb); have n3_ := Aside0.mk (blk_below (bK BK371.out) hb); have n4_ := Aside0.mk (below_step (by repeat first | exact HB.out | with_reducible refine below_setA ?_ ‹_› | apply below_alloc | apply pw_below_drewN) hb); clear HO365; clear HO370; clear BK366; clear BK371; clear HB; have HO365 := n0_; have HO370 := n1_; have BK366 := n2_; have BK371 := n3_; have HB := n4_; clear n0_ n1_ n2_ n3_ n4_; (try clear hb); (try clear hb2); (try clear hk); (try clear hi)))
       go_meet
       case rel => exact ⟨_, (true), (by first | rfl | (simp; done) | (simp [*]; done)), H', ⟨by have := HJ2.out; first | omega | exact Nat.le_refl _⟩, ⟨by (with_reducible repeat apply Kd.Q_alloc); exact Kd.Q_mono HO365.out (fun _ hk => hk.2)⟩, ⟨by (with_reducible repeat apply Kd.Q_alloc); exact Kd.Q_mono HO370.out (fun _ hk => hk.2)⟩, ⟨by (with_reducible repeat apply blk_alloc); exact BK366.out⟩, ⟨by (with_reducible repeat apply blk_alloc); exact BK371.out⟩, ⟨by repeat first | exact HB.out | with_reducible refine below_setA ?_ ‹_› | apply below_alloc | apply pw_below_drewN⟩⟩
     ·rw [if_neg c25] at H
      have c25b0 : (t372.toList == t374.toList) = false := beq_eq_false_iff_ne.mpr c25
      have c25b1 : (t372.toList != t374.toList) = true := bne_iff_ne.mpr c25
      (first | rw [c25b0] | (simp only [i64_w, i32_w]; rw [c25b0]) | skip)
      have H' := Aside0.mk H
      clear H
      have hnb44 := NB366_371.out
      have hnc44 := NB371_366.out
      have hcz45_0 : w23.cell? ⟨gb366, 0, none⟩ = some (.int .i64 t362) := (blk_cell BK366.out 0).trans rfl
      have hcz45_1 : w23.cell? ⟨gb366, 1, none⟩ = some (.slice Ao14 t363.length co14) := (blk_cell BK366.out 1).trans rfl
      have hfz45_0 := blk_frozen BK366.out 0
      have hfz45_1 := blk_frozen BK366.out 1
      go_wp2_with (first | ((with_reducible refine gate_callee (f := 11) rfl ?_); refine goesL_ (some 31) rfl rfl Try.func11 (by kernel_rfl) rfl #[.agg #[.int .i64 t362, .slice Ao14 t363.length co14]] rfl (by first | rfl | (simp only [List.map_toArray, List.map_cons, List.map_nil, List.length_drop, List.length_take]; try rfl)) ?_; (with_reducible refine (spec_GridText.calls kj2 t362 _ _ t363 t374 _ ?side1 ?side2 A24.out).mono ?_); (case side1 => repeat (first | exact (Kd.Q_reads' HO365.out).2.2 | (with_reducible refine Kd.C_alloc ?_ _) | (with_reducible refine Kd.C_drewN ?_ _) | (with_reducible refine Kd.C_drew ?_))); (case side2 => exact (Kd.Q_reads' HO365.out).2.1); rintro e w46 ⟨rfl, hb⟩; refine ⟨_, rfl, ?_⟩; have n0_ := Aside0.mk (Kd.Q_below (by (with_reducible repeat apply Kd.Q_alloc); exact HO365.out) hb); have n1_ := Aside0.mk (Kd.Q_below (by (with_reducible repeat apply Kd.Q_alloc); exact HO370.out) hb); have n2_ := Aside0.mk (blk_below (bK BK366.out) hb); have n3_ := Aside0.mk (blk_below (bK BK371.out) hb); have n4_ := Aside0.mk (below_step (by repeat first | exact HB.out | with_reducible refine below_setA ?_ ‹_› | apply below_alloc | apply pw_below_drewN) hb); clear HO365; clear HO370; clear BK366; clear BK371; clear HB; have HO365 := n0_; have HO370 := n1_; have BK366 := n2_; have BK371 := n3_; have HB := n4_; clear n0_ n1_ n2_ n3_ n4_; (try clear hb); (try clear hb2); (try clear hk); (try clear hi)))
      go_meet
      case rel => exact ⟨_, (true), (by first | rfl | (simp; done) | (simp [*]; done)), H', ⟨by have := HJ2.out; first | omega | exact Nat.le_refl _⟩, ⟨by (with_reducible repeat apply Kd.Q_alloc); exact Kd.Q_mono HO365.out (fun _ hk => hk.2)⟩, ⟨by (with_reducible repeat apply Kd.Q_alloc); exact Kd.Q_mono HO370.out (fun _ hk => hk.2)⟩, ⟨by (with_reducible repeat apply blk_alloc); exact BK366.out⟩, ⟨by (with_reducible repeat apply blk_alloc); exact BK371.out⟩, ⟨by repeat first | exact HB.out | with_reducible refine below_setA ?_ ‹_› | apply below_alloc | apply pw_below_drewN⟩⟩
    case rest =>
     clear HC10
     try clear c1
     try clear c2
     try clear p2
     try clear c3
     try clear c4
     try clear c4b0
     try clear c4b1
     try clear c5
     try clear c8
     try clear c11
     try clear c13
     try clear c17
     try clear c22
     try clear c25
     try clear c25b0
     try clear c25b1
     try clear c27
     try clear c27b0
     try clear c27b1
     try clear c28
     try clear c28b0
     try clear c28b1
     try clear c29
     try clear c34
     try clear c39
     try clear c44
     try clear hcz13_0
     try clear hcz13_1
     try clear hcz18_0
     try clear hcz18_1
     try clear hcz20_0
     try clear hcz20_1
     try clear hcz22_0
     try clear hcz22_1
     try clear hcz30_0
     try clear hcz30_1
     try clear hcz32_0
     try clear hcz32_1
     try clear hcz35_0
     try clear hcz35_1
     try clear hcz37_0
     try clear hcz37_1
     try clear hcz40_0
     try clear hcz40_1
     try clear hcz42_0
     try clear hcz42_1
     try clear hcz45_0
     try clear hcz45_1
     try clear hfz13_0
     try clear hfz13_1
     try clear hfz18_0
     try clear hfz18_1
     try clear hfz20_0
     try clear hfz20_1
     try clear hfz22_0
     try clear hfz22_1
     try clear hfz30_0
     try clear hfz30_1
     try clear hfz32_0
     try clear hfz32_1
     try clear hfz35_0
     try clear hfz35_1
     try clear hfz37_0
     try clear hfz37_1
     try clear hfz40_0
     try clear hfz40_1
     try clear hfz42_0
     try clear hfz42_1
     try clear hfz45_0
     try clear hfz45_1
     try clear p2
     obtain ⟨kq, x46_9, rfl, HA, HJ9, HO_367001, HO_372001, BK366, BK371, HB⟩ := hcut
     cases kq with
     | zero => exact absurd HA.out (by simp [laws_FnGridStack.j1])
     | succ kj9 =>
      have H := HA.out
      clear HA
      simp only [laws_FnGridStack.j1] at H
      by_cases c47 : x46_9 = true
      ·subst c47
       have H1 : ((spec_GridText.f kj9 t362 t363).bind fun t376 => (if t372.toList = t376.toList then ((spec_GridText.f kj9 t367 t368).bind fun t377 => (some (t373.toList == t377.toList))) else (some false))) = some r := by rw [if_pos rfl] at H; exact H
       clear H
       have H := H1
       clear H1
       replace H := Option.bind_eq_some_iff.mp H
       obtain ⟨t376, A480, H⟩ := H
       replace H : (if t372.toList = t376.toList then ((spec_GridText.f kj9 t367 t368).bind fun t377 => (some (t373.toList == t377.toList))) else (some false)) = some r := H
       have A48 := Aside0.mk A480
       clear A480
       by_cases c49 : t372.toList = t376.toList
       ·rw [if_pos c49] at H
        have c49b0 : (t372.toList == t376.toList) = true := beq_iff_eq.mpr c49
        have c49b1 : (t372.toList != t376.toList) = false := bne_eq_false_iff_eq.mpr c49
        clear c49
        replace H := Option.bind_eq_some_iff.mp H
        obtain ⟨t377, A500, H⟩ := H
        replace H : (some (t373.toList == t377.toList)) = some r := H
        have A50 := Aside0.mk A500
        clear A500
        obtain rfl := Option.some.inj H
        have hnb51 := NB366_371.out
        have hnc51 := NB371_366.out
        have hcz52_0 : wc.cell? ⟨gb366, 0, none⟩ = some (.int .i64 t362) := (blk_cell BK366.out 0).trans rfl
        have hcz52_1 : wc.cell? ⟨gb366, 1, none⟩ = some (.slice Ao14 t363.length co14) := (blk_cell BK366.out 1).trans rfl
        have hfz52_0 := blk_frozen BK366.out 0
        have hfz52_1 := blk_frozen BK366.out 1
        go_wp2_with (first | ((with_reducible refine gate_callee (f := 11) rfl ?_); refine goesL_ (some 49) rfl rfl Try.func11 (by kernel_rfl) rfl #[.agg #[.int .i64 t362, .slice Ao14 t363.length co14]] rfl (by first | rfl | (simp only [List.map_toArray, List.map_cons, List.map_nil, List.length_drop, List.length_take]; try rfl)) ?_; (with_reducible refine (spec_GridText.calls kj9 t362 _ _ t363 t376 _ ?side1 ?side2 A48.out).mono ?_); (case side1 => repeat (first | exact (Kd.Q_reads' HO_367001.out).2.2 | (with_reducible refine Kd.C_alloc ?_ _) | (with_reducible refine Kd.C_drewN ?_ _) | (with_reducible refine Kd.C_drew ?_))); (case side2 => exact (Kd.Q_reads' HO_367001.out).2.1); rintro e w53 ⟨rfl, hb⟩; refine ⟨_, rfl, ?_⟩; have n0_ := Aside0.mk (Kd.Q_below (by (with_reducible repeat apply Kd.Q_alloc); exact HO_367001.out) hb); have n1_ := Aside0.mk (Kd.Q_below (by (with_reducible repeat apply Kd.Q_alloc); exact HO_372001.out) hb); have n2_ := Aside0.mk (blk_below (bK BK366.out) hb); have n3_ := Aside0.mk (blk_below (bK BK371.out) hb); have n4_ := Aside0.mk (below_step (by repeat first | exact HB.out | with_reducible refine below_setA ?_ ‹_› | apply below_alloc | apply pw_below_drewN) hb); clear HO_367001; clear HO_372001; clear BK366; clear BK371; clear HB; have HO_367001 := n0_; have HO_372001 := n1_; have BK366 := n2_; have BK371 := n3_; have HB := n4_; clear n0_ n1_ n2_ n3_ n4_; (try clear hb); (try clear hb2); (try clear hk); (try clear hi); have hcz54_0 : w53.cell? ⟨gb371, 0, none⟩ = some (.int .i64 t367) := (blk_cell BK371.out 0).trans rfl; have hcz54_1 : w53.cell? ⟨gb371, 1, none⟩ = some (.slice Ao19 t368.length co19) := (blk_cell BK371.out 1).trans rfl; have hfz54_0 := blk_frozen BK371.out 0; have hfz54_1 := blk_frozen BK371.out 1) | (go_at_call 11; (with_reducible refine (spec_GridText.calls kj9 t367 _ _ t368 t377 _ ?side1 ?side2 A50.out).mono ?_); (case side1 => repeat (first | exact (Kd.Q_reads' HO_372001.out).2.2 | (with_reducible refine Kd.C_alloc ?_ _) | (with_reducible refine Kd.C_drewN ?_ _) | (with_reducible refine Kd.C_drew ?_))); (case side2 => exact (Kd.Q_reads' HO_372001.out).2.1); rintro e w55 ⟨rfl, hb⟩; have n0_ := Aside0.mk (Kd.Q_below (by (with_reducible repeat apply Kd.Q_alloc); exact HO_367001.out) hb); have n1_ := Aside0.mk (Kd.Q_below (by (with_reducible repeat apply Kd.Q_alloc); exact HO_372001.out) hb); have n2_ := Aside0.mk (blk_below (bK BK366.out) hb); have n3_ := Aside0.mk (blk_below (bK BK371.out) hb); have n4_ := Aside0.mk (below_step (by repeat first | exact HB.out | with_reducible refine below_setA ?_ ‹_› | apply below_alloc | apply pw_below_drewN) hb); clear HO_367001; clear HO_372001; clear BK366; clear BK371; clear HB; have HO_367001 := n0_; have HO_372001 := n1_; have BK366 := n2_; have BK371 := n3_; have HB := n4_; clear n0_ n1_ n2_ n3_ n4_; (try clear hb); (try clear hb2); (try clear hk); (try clear hi)))
        go_ret
        exact ⟨by first | rfl | (simp [errW_none, errW_some] <;> rfl) | (simp [*, errW_none, errW_some] <;> rfl) | (exfalso; simp_all; done), by repeat first | exact HB.out | with_reducible refine below_setA ?_ ‹_› | apply below_alloc | apply pw_below_drewN⟩
       ·rw [if_neg c49] at H
        have c49b0 : (t372.toList == t376.toList) = false := beq_eq_false_iff_ne.mpr c49
        have c49b1 : (t372.toList != t376.toList) = true := bne_iff_ne.mpr c49
        obtain rfl := Option.some.inj H
        exact absurd HRT.out (by decide)
      ·replace c47 := Bool.eq_false_iff.mpr c47
       subst c47
       have H1 : ((some (([] : List (S39)) : List (S39))).bind fun y378 => (if y378.length + t363.length < 8796093022208 then ((some (y378 ++ t363 : List (S39))).bind fun y381 => (if y381.length + t368.length < 8796093022208 then ((some (y381 ++ t368 : List (S39))).bind fun y384 => (if t362 = t367 then (laws_FnGridStack.j2 kj9 t372 t373 (decide ((y384.length : Int) ≤ (wrap64 (5 * t362)))) t362 y384) else (laws_FnGridStack.j2 kj9 t372 t373 false t362 y384))) else (none))) else (none))) = some r := by rw [if_neg (show ¬ (false = true) by decide)] at H; exact H
       clear H
       have H := H1
       clear H1
       obtain ⟨y378, hy378⟩ : ∃ y_ : List (S39), y_ = (([] : List (S39))) := ⟨_, rfl⟩
       replace H : (if y378.length + t363.length < 8796093022208 then ((some (y378 ++ t363 : List (S39))).bind fun y381 => (if y381.length + t368.length < 8796093022208 then ((some (y381 ++ t368 : List (S39))).bind fun y384 => (if t362 = t367 then (laws_FnGridStack.j2 kj9 t372 t373 (decide ((y384.length : Int) ≤ (wrap64 (5 * t362)))) t362 y384) else (laws_FnGridStack.j2 kj9 t372 t373 false t362 y384))) else (none))) else (none)) = some r := by first | (rw [hy378]; with_reducible exact H) | (have H2_ := (Option.bind_some _ _).symm.trans H; rw [hy378]; with_reducible exact H2_) | (have H2_ := (Option.bind_some _ _).symm.trans H; with_reducible exact H2_) | with_reducible exact H | (rw [hy378]; exact H) | exact H
       have Ny378 := Aside0.mk hy378
       clear hy378
       by_cases c56 : y378.length + t363.length < 8796093022208
       ·rw [if_pos c56] at H
        have LMc56 := Aside0.mk c56
        clear c56
        obtain ⟨y381, hy381⟩ : ∃ y_ : List (S39), y_ = (y378 ++ t363) := ⟨_, rfl⟩
        replace H : (if y381.length + t368.length < 8796093022208 then ((some (y381 ++ t368 : List (S39))).bind fun y384 => (if t362 = t367 then (laws_FnGridStack.j2 kj9 t372 t373 (decide ((y384.length : Int) ≤ (wrap64 (5 * t362)))) t362 y384) else (laws_FnGridStack.j2 kj9 t372 t373 false t362 y384))) else (none)) = some r := by first | (rw [hy381]; with_reducible exact H) | (have H2_ := (Option.bind_some _ _).symm.trans H; rw [hy381]; with_reducible exact H2_) | (have H2_ := (Option.bind_some _ _).symm.trans H; with_reducible exact H2_) | with_reducible exact H | (rw [hy381]; exact H) | exact H
        have Ny381 := Aside0.mk hy381
        clear hy381
        by_cases c57 : y381.length + t368.length < 8796093022208
        ·rw [if_pos c57] at H
         have LMc57 := Aside0.mk c57
         clear c57
         obtain ⟨y384, hy384⟩ : ∃ y_ : List (S39), y_ = (y381 ++ t368) := ⟨_, rfl⟩
         replace H : (if t362 = t367 then (laws_FnGridStack.j2 kj9 t372 t373 (decide ((y384.length : Int) ≤ (wrap64 (5 * t362)))) t362 y384) else (laws_FnGridStack.j2 kj9 t372 t373 false t362 y384)) = some r := by first | (rw [hy384]; with_reducible exact H) | (have H2_ := (Option.bind_some _ _).symm.trans H; rw [hy384]; with_reducible exact H2_) | (have H2_ := (Option.bind_some _ _).symm.trans H; with_reducible exact H2_) | with_reducible exact H | (rw [hy384]; exact H) | exact H
         have Ny384 := Aside0.mk hy384
         clear hy384
         have HC58 := Aside0.mk H
         clear H
         try go_wp2
         have n0_ := Aside0.mk (Kd.Q_drew HO_367001.out)
         have n1_ := Aside0.mk (Kd.Q_drew HO_372001.out)
         have n2_ := Aside0.mk (blk_drew BK366.out)
         have n3_ := Aside0.mk (blk_drew BK371.out)
         have n4_ := Aside0.mk (below_drew1 HB.out)
         clear HO_367001
         clear HO_372001
         clear BK366
         clear BK371
         clear HB
         have HO_367001 := n0_
         have HO_372001 := n1_
         have BK366 := n2_
         have BK371 := n3_
         have HB := n4_
         clear n0_ n1_ n2_ n3_ n4_
         refine start_ (n := 12) (S := fun w' => w'.cell? ⟨gb366, 0, none⟩ = some (.int .i64 t362) ∧ w'.cell? ⟨gb366, 1, none⟩ = some (.slice Ao14 t363.length co14) ∧ w'.cell? ⟨gb371, 0, none⟩ = some (.int .i64 t367) ∧ w'.cell? ⟨gb371, 1, none⟩ = some (.slice Ao19 t368.length co19)) (ds := []) #[false, false, false, false, false, false, false, false, false, false, false, false] (by kernel_rfl) rfl rfl ⟨(blk_cell BK366.out 0).trans rfl, (blk_cell BK366.out 1).trans rfl, (blk_cell BK371.out 0).trans rfl, (blk_cell BK371.out 1).trans rfl⟩ (fun hHeld => ?_); refine with_tabW laws_FnGridStack.tab9 laws_FnGridStack.bits9 (fun HT_ HW_ => ?_)
         generalize wc.drew = w59 at HO_367001 HO_372001 BK366 BK371 HB hHeld ⊢
         refine pure_ (i := 0) (N := some 57) (v := ?_) (a' := ?_) #[true, false, false, false, false, false, false, false, false, false, false, false] rfl rfl (any_of HT_.out (by kernel_rfl)) (fun _ _ _ h => h) (Or.inl ⟨by rfl, ?_⟩) ?_ ?_
         rotate_left
         ·intro w'
          go_simp
          with_reducible rfl
         rotate_left
         ·simp only [Act.put, List.setIfInBounds_toArray, List.set_cons_zero, List.set_cons_succ, i64_w, i32_w]
          rfl
         refine pure_ (i := 3) (N := some 60) (v := ?_) (a' := ?_) #[true, false, false, true, false, false, false, false, false, false, false, false] rfl rfl (any_of HT_.out (by kernel_rfl)) (fun _ _ _ h => h) (Or.inl ⟨by rfl, ?_⟩) ?_ ?_
         rotate_left
         ·intro w'
          go_simp
          with_reducible rfl
         rotate_left
         ·simp only [Act.put, List.setIfInBounds_toArray, List.set_cons_zero, List.set_cons_succ, i64_w, i32_w]
          rfl
         refine pure_ (i := 6) (N := some 63) (v := ?_) (a' := ?_) #[true, false, false, true, false, false, true, false, false, false, false, false] rfl rfl (any_of HT_.out (by kernel_rfl)) (fun _ _ _ h => h) (Or.inl ⟨by rfl, ?_⟩) ?_ ?_
         rotate_left
         ·intro w'
          go_simp
          with_reducible rfl
         rotate_left
         ·simp only [Act.put, List.setIfInBounds_toArray, List.set_cons_zero, List.set_cons_succ, i64_w, i32_w]
          rfl
         refine take_ (i := 1) (N := some 58) (v := ?_) (a' := ?_) #[true, true, false, true, false, false, true, false, false, false, false, false] rfl rfl (take_ofW HT_.out HW_.out (by kernel_rfl)) (fun _ _ _ h => h) (Or.inl ⟨by rfl, ?_⟩) hHeld ?_ ?_
         rotate_left
         ·rintro w' ⟨s0, s1, s2, s3⟩
          go_simp
          with_reducible rfl
         rotate_left
         ·simp only [Act.put, List.setIfInBounds_toArray, List.set_cons_zero, List.set_cons_succ, i64_w, i32_w]
          rfl
         refine take_ (i := 4) (N := some 61) (v := ?_) (a' := ?_) #[true, true, false, true, true, false, true, false, false, false, false, false] rfl rfl (take_ofW HT_.out HW_.out (by kernel_rfl)) (fun _ _ _ h => h) (Or.inl ⟨by rfl, ?_⟩) hHeld ?_ ?_
         rotate_left
         ·rintro w' ⟨s0, s1, s2, s3⟩
          go_simp
          with_reducible rfl
         rotate_left
         ·simp only [Act.put, List.setIfInBounds_toArray, List.set_cons_zero, List.set_cons_succ, i64_w, i32_w]
          rfl
         refine take_ (i := 7) (N := some 64) (v := ?_) (a' := ?_) #[true, true, false, true, true, false, true, true, false, false, false, false] rfl rfl (take_ofW HT_.out HW_.out (by kernel_rfl)) (fun _ _ _ h => h) (Or.inl ⟨by rfl, ?_⟩) hHeld ?_ ?_
         rotate_left
         ·rintro w' ⟨s0, s1, s2, s3⟩
          go_simp
          with_reducible rfl
         rotate_left
         ·simp only [Act.put, List.setIfInBounds_toArray, List.set_cons_zero, List.set_cons_succ, i64_w, i32_w]
          rfl
         refine join_ (σ := Value × Value × Value × Nat) 1 #[true, true, true, true, true, true, true, true, true, true, true, false] (fun s_ => [(59, s_.1), (62, s_.2.1), (65, s_.2.2.1), (9, .pointer (some ⟨s_.2.2.2, 0, none⟩)), (66, .agg #[.int .i64 t362, s_.2.2.1])]) (fun s_ w' => (w'.cell? ⟨gb366, 0, none⟩ = some (.int .i64 t362) ∧ w'.cell? ⟨gb366, 1, none⟩ = some (.slice Ao14 t363.length co14) ∧ w'.cell? ⟨gb371, 0, none⟩ = some (.int .i64 t367) ∧ w'.cell? ⟨gb371, 1, none⟩ = some (.slice Ao19 t368.length co19)) ∧ (Kd.R k39 39 w' w.heap.size (fun k_ => some k_ ≠ (.slice Ao14 t363.length co14 : Value).ownBlock ∧ some k_ ≠ (.slice Ao19 t368.length co19 : Value).ownBlock) s_.2.2.1 y384) ∧ (Kd.Q k39 39 w' w.heap.size (fun k_ => some k_ ≠ (s_.2.2.1 : Value).ownBlock ∧ some k_ ≠ (.slice Ao19 t368.length co19 : Value).ownBlock) (.slice Ao14 t363.length co14) t363) ∧ (Kd.Q k39 39 w' w.heap.size (fun k_ => some k_ ≠ (s_.2.2.1 : Value).ownBlock ∧ some k_ ≠ (.slice Ao14 t363.length co14 : Value).ownBlock) (.slice Ao19 t368.length co19) t368) ∧ (w'.heap[gb366]? = some (.cells #[.int .i64 t362, .slice Ao14 t363.length co14] 29 (0, 0))) ∧ (w'.heap[gb371]? = some (.cells #[.int .i64 t367, .slice Ao19 t368.length co19] 29 (0, 0))) ∧ (w'.heap[s_.2.2.2]? = some (.cells #[.int .i64 0, .slice none 0 0] 29 (0, 0))) ∧ (w.heap.size ≤ s_.2.2.2) ∧ (w.heap.size ≤ s_.2.2.2) ∧ (gb366 ≠ s_.2.2.2) ∧ (s_.2.2.2 ≠ gb366) ∧ (gb371 ≠ s_.2.2.2) ∧ (s_.2.2.2 ≠ gb371) ∧ (Below w.heap.size w w')) ?_ ?_
         rotate_left
         ·intro hCont
          refine two_ (i := 2) (j := 10) (Ni := some 59) (Nj := some 9) #[true, true, true, true, true, false, true, true, false, false, false, false] #[true, true, false, true, true, false, true, true, false, false, true, false] rfl rfl rfl rfl (two_of HT_.out (by kernel_rfl)) (by decide) (by decide) (fun K hK => ?_) (fun K hK => ?_)
          ·skip
           refine Kd.R_lit_step k39 _ 39 ?hg (N := 59) ?hd (xs := ([] : List (S39))) (inner := []) (ok := fun _ => True) (okp := fun _ => True) ?hr ?hp (fun _ hk => hk) trivial (Below.refl _ _) (Nat.le_refl _) (by simp) ?_; (case hd => rfl); (case hg => rfl); (case hr => first | (go_simp; done) | (go_simp; rfl)); (case hp => exact (Reps.none _ _))
           intro v379 w60 ho61 hb hg_ hnew_
           clear hg_ hnew_
           (first | rw [← Ny378.out] at ho61 | (simp only [Int.reduceToNat] at ho61; rw [← Ny378.out] at ho61))
           have n0_ := Aside0.mk (Kd.Q_elder' (by (with_reducible repeat apply Kd.Q_alloc); exact HO_367001.out) (Kd.R_base ho61) hb)
           have n1_ := Aside0.mk (Kd.Q_elder' (by (with_reducible repeat apply Kd.Q_alloc); exact HO_372001.out) (Kd.R_base ho61) hb)
           have n2_ := Aside0.mk (Kd.R_lower (Kd.R_new' (Kd.R_new' ho61 (Kd.Q_lt (by (with_reducible repeat apply Kd.Q_alloc); exact HO_367001.out))) (Kd.Q_lt (by (with_reducible repeat apply Kd.Q_alloc); exact HO_372001.out))) (below_size (by repeat first | exact HB.out | with_reducible refine below_setA ?_ ‹_› | apply below_alloc | apply pw_below_drewN)))
           have n3_ := Aside0.mk (blk_below (bK BK366.out) hb)
           have n4_ := Aside0.mk (blk_below (bK BK371.out) hb)
           have n5_ := Aside0.mk (below_step (by repeat first | exact HB.out | with_reducible refine below_setA ?_ ‹_› | apply below_alloc | apply pw_below_drewN) hb)
           clear HO_367001
           clear HO_372001
           clear BK366
           clear BK371
           clear HB
           have HO_367001 := n0_
           have HO_372001 := n1_
           have HO380 := n2_
           have BK366 := n3_
           have BK371 := n4_
           have HB := n5_
           clear n0_ n1_ n2_ n3_ n4_ n5_
           clear hb ho61
           refine hK.out _ _ ⟨(blk_cell BK366.out 0).trans rfl, (blk_cell BK366.out 1).trans rfl, (blk_cell BK371.out 0).trans rfl, (blk_cell BK371.out 1).trans rfl⟩ (fun hHeld => ?_)
           clear hK K
           refine norm_ (a' := ?_) ?_ ?_
           rotate_left
           ·show Act.put _ (some 59) _ = _
            simp only [Act.put, List.setIfInBounds_toArray, List.set_cons_zero, List.set_cons_succ, i64_w, i32_w]
            rfl
           refine two_ (i := 5) (j := 10) (Ni := some 62) (Nj := some 9) #[true, true, true, true, true, true, true, true, false, false, false, false] #[true, true, true, true, true, false, true, true, false, false, true, false] rfl rfl rfl rfl (two_of HT_.out (by kernel_rfl)) (by decide) (by decide) (fun K hK => ?_) (fun K hK => ?_)
           ·skip
            refine Kd.R_append_rows_step k39 (w0 := w) w.heap.size (by rfl) (.tmp 59) (.tmp 61) 27 39 (.agg #[(.int .i64 0), (.int .i64 0)]) 16 rfl Try.underlying27 info39 rfl (by decide) (by omega) v379 y378 t363 _ _ _ (fun k_ => some k_ ≠ (.slice Ao14 t363.length co14 : Value).ownBlock ∧ some k_ ≠ (.slice Ao19 t368.length co19 : Value).ownBlock) (fun _ => False) rfl rfl ?aO ?aR (fun _ _ h => h) (fun _ h => h.elim) ?aF ?aB ?aS ?aL ?_
            (case aR => repeat (first | exact (Kd.Q_reads' HO_367001.out).2.2 | (with_reducible refine Kd.C_alloc ?_ _) | (with_reducible refine Kd.C_drewN ?_ _) | (with_reducible refine Kd.C_drew ?_)))
            (case aB => exact (by repeat first | exact HB.out | with_reducible refine below_setA ?_ ‹_› | apply below_alloc | apply pw_below_drewN))
            (case aF => exact (fun k_ hk => ⟨Kd.fresh' (Kd.Q_lt (by (with_reducible repeat apply Kd.Q_alloc); exact HO_367001.out)) k_ hk, Kd.fresh' (Kd.Q_lt (by (with_reducible repeat apply Kd.Q_alloc); exact HO_372001.out)) k_ hk⟩))
            (case aO => exact (by (with_reducible repeat apply Kd.R_alloc); exact Kd.R_mono HO380.out (fun _ hk => ⟨hk.1.2, hk.2⟩)))
            (case aS => exact (below_size (by repeat first | exact HB.out | with_reducible refine below_setA ?_ ‹_› | apply below_alloc | apply pw_below_drewN)))
            (case aL => have := LMc56.out; omega)
            intro v382 w62 ho hb hg hat
            rw [← Ny381.out] at ho
            have n0_ := Aside0.mk (Kd.Q_after (ok := (fun k_ => some k_ ≠ (.slice Ao19 t368.length co19 : Value).ownBlock)) (by (with_reducible repeat apply Kd.Q_alloc); exact HO_367001.out) hg hat)
            have n1_ := Aside0.mk (Kd.Q_after (ok := (fun k_ => some k_ ≠ (.slice Ao14 t363.length co14 : Value).ownBlock)) (by (with_reducible repeat apply Kd.Q_alloc); exact HO_372001.out) hg hat)
            have n2_ := Aside0.mk (blk_grown (g := gb366) (o := .cells #[.int .i64 t362, .slice Ao14 t363.length co14] 29 (0, 0)) (bK BK366.out) hg (Kd.R_ne HO380.out BK366.out (by decide)))
            have n3_ := Aside0.mk (blk_grown (g := gb371) (o := .cells #[.int .i64 t367, .slice Ao19 t368.length co19] 29 (0, 0)) (bK BK371.out) hg (Kd.R_ne HO380.out BK371.out (by decide)))
            have n4_ := Aside0.mk (hb)
            have n5_ := Aside0.mk (ho)
            clear HO_367001
            clear HO_372001
            clear BK366
            clear BK371
            clear HB
            clear HO380
            have HO_367001 := n0_
            have HO_372001 := n1_
            have BK366 := n2_
            have BK371 := n3_
            have HB := n4_
            have HO383 := n5_
            clear n0_ n1_ n2_ n3_ n4_ n5_
            clear ho hb hg hat
            refine hK.out _ _ ⟨(blk_cell BK366.out 0).trans rfl, (blk_cell BK366.out 1).trans rfl, (blk_cell BK371.out 0).trans rfl, (blk_cell BK371.out 1).trans rfl⟩ (fun hHeld => ?_)
            clear hK K
            refine norm_ (a' := ?_) ?_ ?_
            rotate_left
            ·show Act.put _ (some 62) _ = _
             simp only [Act.put, List.setIfInBounds_toArray, List.set_cons_zero, List.set_cons_succ, i64_w, i32_w]
             rfl
            refine two_ (i := 8) (j := 10) (Ni := some 65) (Nj := some 9) #[true, true, true, true, true, true, true, true, true, false, false, false] #[true, true, true, true, true, true, true, true, false, false, true, false] rfl rfl rfl rfl (two_of HT_.out (by kernel_rfl)) (by decide) (by decide) (fun K hK => ?_) (fun K hK => ?_)
            ·skip
             refine Kd.R_append_rows_step k39 (w0 := w) w.heap.size (by rfl) (.tmp 62) (.tmp 64) 27 39 (.agg #[(.int .i64 0), (.int .i64 0)]) 16 rfl Try.underlying27 info39 rfl (by decide) (by omega) v382 y381 t368 _ _ _ (fun k_ => some k_ ≠ (.slice Ao14 t363.length co14 : Value).ownBlock ∧ some k_ ≠ (.slice Ao19 t368.length co19 : Value).ownBlock) (fun _ => False) rfl rfl ?aO ?aR (fun _ _ h => h) (fun _ h => h.elim) ?aF ?aB ?aS ?aL ?_
             (case aR => repeat (first | exact (Kd.Q_reads' HO_372001.out).2.2 | (with_reducible refine Kd.C_alloc ?_ _) | (with_reducible refine Kd.C_drewN ?_ _) | (with_reducible refine Kd.C_drew ?_)))
             (case aB => exact (by repeat first | exact HB.out | with_reducible refine below_setA ?_ ‹_› | apply below_alloc | apply pw_below_drewN))
             (case aF => exact (fun k_ hk => ⟨Kd.fresh' (Kd.Q_lt (by (with_reducible repeat apply Kd.Q_alloc); exact HO_367001.out)) k_ hk, Kd.fresh' (Kd.Q_lt (by (with_reducible repeat apply Kd.Q_alloc); exact HO_372001.out)) k_ hk⟩))
             (case aO => exact (kR HO383.out))
             (case aS => exact (below_size (by repeat first | exact HB.out | with_reducible refine below_setA ?_ ‹_› | apply below_alloc | apply pw_below_drewN)))
             (case aL => have := LMc57.out; omega)
             intro v385 w63 ho hb hg hat
             rw [← Ny384.out] at ho
             have n0_ := Aside0.mk (Kd.Q_after (ok := (fun k_ => some k_ ≠ (.slice Ao19 t368.length co19 : Value).ownBlock)) (by (with_reducible repeat apply Kd.Q_alloc); exact HO_367001.out) hg hat)
             have n1_ := Aside0.mk (Kd.Q_after (ok := (fun k_ => some k_ ≠ (.slice Ao14 t363.length co14 : Value).ownBlock)) (by (with_reducible repeat apply Kd.Q_alloc); exact HO_372001.out) hg hat)
             have n2_ := Aside0.mk (blk_grown (g := gb366) (o := .cells #[.int .i64 t362, .slice Ao14 t363.length co14] 29 (0, 0)) (bK BK366.out) hg (Kd.R_ne HO383.out BK366.out (by decide)))
             have n3_ := Aside0.mk (blk_grown (g := gb371) (o := .cells #[.int .i64 t367, .slice Ao19 t368.length co19] 29 (0, 0)) (bK BK371.out) hg (Kd.R_ne HO383.out BK371.out (by decide)))
             have n4_ := Aside0.mk (hb)
             have n5_ := Aside0.mk (ho)
             clear HO_367001
             clear HO_372001
             clear BK366
             clear BK371
             clear HB
             clear HO383
             have HO_367001 := n0_
             have HO_372001 := n1_
             have BK366 := n2_
             have BK371 := n3_
             have HB := n4_
             have HO386 := n5_
             clear n0_ n1_ n2_ n3_ n4_ n5_
             clear ho hb hg hat
             obtain ⟨Ao64, co64, eo64⟩ := Kd.R_slice HO386.out
             (first | subst eo64 | (injection eo64 with f1_ f2_ f3_; have f4_ := f1_.symm; have f5_ := f3_.symm; clear f1_ f2_ f3_; subst f4_; subst f5_))
             refine hK.out _ _ ⟨(blk_cell BK366.out 0).trans rfl, (blk_cell BK366.out 1).trans rfl, (blk_cell BK371.out 0).trans rfl, (blk_cell BK371.out 1).trans rfl⟩ (fun hHeld => ?_)
             clear hK K
             refine norm_ (a' := ?_) ?_ ?_
             rotate_left
             ·show Act.put _ (some 65) _ = _
              simp only [Act.put, List.setIfInBounds_toArray, List.set_cons_zero, List.set_cons_succ, i64_w, i32_w]
              rfl
             refine pure_ (i := 9) (N := some 66) (v := ?_) (a' := ?_) #[true, true, true, true, true, true, true, true, true, true, false, false] rfl rfl (any_of HT_.out (by kernel_rfl)) (fun _ _ _ h => h) (Or.inl ⟨by rfl, ?_⟩) ?_ ?_
             rotate_left
             ·intro w'
              go_simp
              with_reducible rfl
             rotate_left
             ·simp only [Act.put, List.setIfInBounds_toArray, List.set_cons_zero, List.set_cons_succ, i64_w, i32_w]
              rfl
             refine one_ (i := 10) (N := some 9) #[true, true, true, true, true, true, true, true, true, true, true, false] rfl rfl (one_of HT_.out (by kernel_rfl)) (by decide) (fun K hK => ?_)
             refine box_step ?hg (N := 9) ?hd (cs := #[.int .i64 0, .slice none 0 0]) (t := 29) ?hr ?_; (case hd => rfl); (case hg => rfl); (case hr => first | (go_simp; done) | (go_simp; rfl))
             intro gb387 hg w65 hbox hb
             have n0_ := Aside0.mk (Kd.Q_below (by (with_reducible repeat apply Kd.Q_alloc); exact HO_367001.out) hb)
             have n1_ := Aside0.mk (Kd.Q_below (by (with_reducible repeat apply Kd.Q_alloc); exact HO_372001.out) hb)
             have n2_ := Aside0.mk (Kd.R_below (kR HO386.out) hb)
             have n3_ := Aside0.mk (blk_below (bK BK366.out) hb)
             have n4_ := Aside0.mk (blk_below (bK BK371.out) hb)
             have n5_ := Aside0.mk (below_step (by repeat first | exact HB.out | with_reducible refine below_setA ?_ ‹_› | apply below_alloc | apply pw_below_drewN) hb)
             have n6_ := Aside0.mk (hbox)
             have n7_ := Aside0.mk ((by rw [hg]; exact (below_size (by repeat first | exact HB.out | with_reducible refine below_setA ?_ ‹_› | apply below_alloc | apply pw_below_drewN)) : w.heap.size ≤ gb387))
             have n8_ := Aside0.mk ((by rw [hg]; exact (below_size (by repeat first | exact HB.out | with_reducible refine below_setA ?_ ‹_› | apply below_alloc | apply pw_below_drewN)) : w.heap.size ≤ gb387))
             have n9_ := Aside0.mk ((by rw [hg]; exact Nat.ne_of_lt (blk_lt (bK BK366.out)) : gb366 ≠ gb387))
             have n10_ := Aside0.mk ((by rw [hg]; exact Nat.ne_of_gt (blk_lt (bK BK366.out)) : gb387 ≠ gb366))
             have n11_ := Aside0.mk ((by rw [hg]; exact Nat.ne_of_lt (blk_lt (bK BK371.out)) : gb371 ≠ gb387))
             have n12_ := Aside0.mk ((by rw [hg]; exact Nat.ne_of_gt (blk_lt (bK BK371.out)) : gb387 ≠ gb371))
             clear HO_367001
             clear HO_372001
             clear HO386
             clear BK366
             clear BK371
             clear HB
             have HO_367001 := n0_
             have HO_372001 := n1_
             have HO386 := n2_
             have BK366 := n3_
             have BK371 := n4_
             have HB := n5_
             have BK387 := n6_
             have GW387 := n7_
             have GE387 := n8_
             have NB366_387 := n9_
             have NB387_366 := n10_
             have NB371_387 := n11_
             have NB387_371 := n12_
             clear n0_ n1_ n2_ n3_ n4_ n5_ n6_ n7_ n8_ n9_ n10_ n11_ n12_
             clear hb hbox hg
             refine hK.out _ _ ⟨(blk_cell BK366.out 0).trans rfl, (blk_cell BK366.out 1).trans rfl, (blk_cell BK371.out 0).trans rfl, (blk_cell BK371.out 1).trans rfl⟩ (fun hHeld => ?_)
             clear hK K
             refine norm_ (a' := ?_) ?_ ?_
             rotate_left
             ·show Act.put _ (some 9) _ = _
              simp only [Act.put, List.setIfInBounds_toArray, List.set_cons_zero, List.set_cons_succ, i64_w, i32_w]
              rfl
             exact norm_ (by simp only [putAll, Act.put, List.setIfInBounds_toArray, List.set_cons_zero, List.set_cons_succ]) (hCont (v379, v382, .slice Ao64 y384.length co64, gb387) _ ⟨hHeld, (kR HO386.out), (by (with_reducible repeat apply Kd.Q_alloc); exact Kd.Q_mono HO_367001.out (fun _ hk => ⟨hk.2, hk.1⟩)), (by (with_reducible repeat apply Kd.Q_alloc); exact Kd.Q_mono HO_372001.out (fun _ hk => ⟨hk.2, hk.1⟩)), (bK BK366.out), (bK BK371.out), (bK BK387.out), GW387.out, GE387.out, NB366_387.out, NB387_366.out, NB371_387.out, NB387_371.out, (by repeat first | exact HB.out | with_reducible refine below_setA ?_ ‹_› | apply below_alloc | apply pw_below_drewN)⟩)
            ·skip
             refine box_step ?hg (N := 9) ?hd (cs := #[.int .i64 0, .slice none 0 0]) (t := 29) ?hr ?_; (case hd => rfl); (case hg => rfl); (case hr => first | (go_simp; done) | (go_simp; rfl))
             intro gb387 hg w63 hbox hb
             have n0_ := Aside0.mk (Kd.Q_below (by (with_reducible repeat apply Kd.Q_alloc); exact HO_367001.out) hb)
             have n1_ := Aside0.mk (Kd.Q_below (by (with_reducible repeat apply Kd.Q_alloc); exact HO_372001.out) hb)
             have n2_ := Aside0.mk (Kd.R_below (kR HO383.out) hb)
             have n3_ := Aside0.mk (blk_below (bK BK366.out) hb)
             have n4_ := Aside0.mk (blk_below (bK BK371.out) hb)
             have n5_ := Aside0.mk (below_step (by repeat first | exact HB.out | with_reducible refine below_setA ?_ ‹_› | apply below_alloc | apply pw_below_drewN) hb)
             have n6_ := Aside0.mk (hbox)
             have n7_ := Aside0.mk ((by rw [hg]; exact (below_size (by repeat first | exact HB.out | with_reducible refine below_setA ?_ ‹_› | apply below_alloc | apply pw_below_drewN)) : w.heap.size ≤ gb387))
             have n8_ := Aside0.mk ((by rw [hg]; exact (below_size (by repeat first | exact HB.out | with_reducible refine below_setA ?_ ‹_› | apply below_alloc | apply pw_below_drewN)) : w.heap.size ≤ gb387))
             have n9_ := Aside0.mk ((by rw [hg]; exact Nat.ne_of_lt (blk_lt (bK BK366.out)) : gb366 ≠ gb387))
             have n10_ := Aside0.mk ((by rw [hg]; exact Nat.ne_of_gt (blk_lt (bK BK366.out)) : gb387 ≠ gb366))
             have n11_ := Aside0.mk ((by rw [hg]; exact Nat.ne_of_lt (blk_lt (bK BK371.out)) : gb371 ≠ gb387))
             have n12_ := Aside0.mk ((by rw [hg]; exact Nat.ne_of_gt (blk_lt (bK BK371.out)) : gb387 ≠ gb371))
             clear HO_367001
             clear HO_372001
             clear HO383
             clear BK366
             clear BK371
             clear HB
             have HO_367001 := n0_
             have HO_372001 := n1_
             have HO383 := n2_
             have BK366 := n3_
             have BK371 := n4_
             have HB := n5_
             have BK387 := n6_
             have GW387 := n7_
             have GE387 := n8_
             have NB366_387 := n9_
             have NB387_366 := n10_
             have NB371_387 := n11_
             have NB387_371 := n12_
             clear n0_ n1_ n2_ n3_ n4_ n5_ n6_ n7_ n8_ n9_ n10_ n11_ n12_
             clear hb hbox hg
             refine hK.out _ _ ⟨(blk_cell BK366.out 0).trans rfl, (blk_cell BK366.out 1).trans rfl, (blk_cell BK371.out 0).trans rfl, (blk_cell BK371.out 1).trans rfl⟩ (fun hHeld => ?_)
             clear hK K
             refine norm_ (a' := ?_) ?_ ?_
             rotate_left
             ·show Act.put _ (some 9) _ = _
              simp only [Act.put, List.setIfInBounds_toArray, List.set_cons_zero, List.set_cons_succ, i64_w, i32_w]
              rfl
             refine one_ (i := 8) (N := some 65) #[true, true, true, true, true, true, true, true, true, false, true, false] rfl rfl (one_of HT_.out (by kernel_rfl)) (by decide) (fun K hK => ?_)
             refine Kd.R_append_rows_step k39 (w0 := w) w.heap.size (by rfl) (.tmp 62) (.tmp 64) 27 39 (.agg #[(.int .i64 0), (.int .i64 0)]) 16 rfl Try.underlying27 info39 rfl (by decide) (by omega) v382 y381 t368 _ _ _ (fun k_ => some k_ ≠ (.slice Ao14 t363.length co14 : Value).ownBlock ∧ some k_ ≠ (.slice Ao19 t368.length co19 : Value).ownBlock) (fun _ => False) rfl rfl ?aO ?aR (fun _ _ h => h) (fun _ h => h.elim) ?aF ?aB ?aS ?aL ?_
             (case aR => repeat (first | exact (Kd.Q_reads' HO_372001.out).2.2 | (with_reducible refine Kd.C_alloc ?_ _) | (with_reducible refine Kd.C_drewN ?_ _) | (with_reducible refine Kd.C_drew ?_)))
             (case aB => exact (by repeat first | exact HB.out | with_reducible refine below_setA ?_ ‹_› | apply below_alloc | apply pw_below_drewN))
             (case aF => exact (fun k_ hk => ⟨Kd.fresh' (Kd.Q_lt (by (with_reducible repeat apply Kd.Q_alloc); exact HO_367001.out)) k_ hk, Kd.fresh' (Kd.Q_lt (by (with_reducible repeat apply Kd.Q_alloc); exact HO_372001.out)) k_ hk⟩))
             (case aO => exact (kR HO383.out))
             (case aS => exact (below_size (by repeat first | exact HB.out | with_reducible refine below_setA ?_ ‹_› | apply below_alloc | apply pw_below_drewN)))
             (case aL => have := LMc57.out; omega)
             intro v385 w64 ho hb hg hat
             rw [← Ny384.out] at ho
             have n0_ := Aside0.mk (Kd.Q_after (ok := (fun k_ => some k_ ≠ (.slice Ao19 t368.length co19 : Value).ownBlock)) (by (with_reducible repeat apply Kd.Q_alloc); exact HO_367001.out) hg hat)
             have n1_ := Aside0.mk (Kd.Q_after (ok := (fun k_ => some k_ ≠ (.slice Ao14 t363.length co14 : Value).ownBlock)) (by (with_reducible repeat apply Kd.Q_alloc); exact HO_372001.out) hg hat)
             have n2_ := Aside0.mk (blk_grown (g := gb366) (o := .cells #[.int .i64 t362, .slice Ao14 t363.length co14] 29 (0, 0)) (bK BK366.out) hg (Kd.R_ne HO383.out BK366.out (by decide)))
             have n3_ := Aside0.mk (blk_grown (g := gb371) (o := .cells #[.int .i64 t367, .slice Ao19 t368.length co19] 29 (0, 0)) (bK BK371.out) hg (Kd.R_ne HO383.out BK371.out (by decide)))
             have n4_ := Aside0.mk (blk_grown (g := gb387) (o := .cells #[.int .i64 0, .slice none 0 0] 29 (0, 0)) (bK BK387.out) hg (Kd.R_ne HO383.out BK387.out (by decide)))
             have n5_ := Aside0.mk (hb)
             have n6_ := Aside0.mk (ho)
             clear HO_367001
             clear HO_372001
             clear BK366
             clear BK371
             clear BK387
             clear HB
             clear HO383
             have HO_367001 := n0_
             have HO_372001 := n1_
             have BK366 := n2_
             have BK371 := n3_
             have BK387 := n4_
             have HB := n5_
             have HO386 := n6_
             clear n0_ n1_ n2_ n3_ n4_ n5_ n6_
             clear ho hb hg hat
             obtain ⟨Ao65, co65, eo65⟩ := Kd.R_slice HO386.out
             (first | subst eo65 | (injection eo65 with f1_ f2_ f3_; have f4_ := f1_.symm; have f5_ := f3_.symm; clear f1_ f2_ f3_; subst f4_; subst f5_))
             refine hK.out _ _ ⟨(blk_cell BK366.out 0).trans rfl, (blk_cell BK366.out 1).trans rfl, (blk_cell BK371.out 0).trans rfl, (blk_cell BK371.out 1).trans rfl⟩ (fun hHeld => ?_)
             clear hK K
             refine norm_ (a' := ?_) ?_ ?_
             rotate_left
             ·show Act.put _ (some 65) _ = _
              simp only [Act.put, List.setIfInBounds_toArray, List.set_cons_zero, List.set_cons_succ, i64_w, i32_w]
              rfl
             refine pure_ (i := 9) (N := some 66) (v := ?_) (a' := ?_) #[true, true, true, true, true, true, true, true, true, true, true, false] rfl rfl (any_of HT_.out (by kernel_rfl)) (fun _ _ _ h => h) (Or.inl ⟨by rfl, ?_⟩) ?_ ?_
             rotate_left
             ·intro w'
              go_simp
              with_reducible rfl
             rotate_left
             ·simp only [Act.put, List.setIfInBounds_toArray, List.set_cons_zero, List.set_cons_succ, i64_w, i32_w]
              rfl
             exact norm_ (by simp only [putAll, Act.put, List.setIfInBounds_toArray, List.set_cons_zero, List.set_cons_succ]) (hCont (v379, v382, .slice Ao65 y384.length co65, gb387) _ ⟨hHeld, (kR HO386.out), (by (with_reducible repeat apply Kd.Q_alloc); exact Kd.Q_mono HO_367001.out (fun _ hk => ⟨hk.2, hk.1⟩)), (by (with_reducible repeat apply Kd.Q_alloc); exact Kd.Q_mono HO_372001.out (fun _ hk => ⟨hk.2, hk.1⟩)), (bK BK366.out), (bK BK371.out), (bK BK387.out), GW387.out, GE387.out, NB366_387.out, NB387_366.out, NB371_387.out, NB387_371.out, (by repeat first | exact HB.out | with_reducible refine below_setA ?_ ‹_› | apply below_alloc | apply pw_below_drewN)⟩)
           ·skip
            refine box_step ?hg (N := 9) ?hd (cs := #[.int .i64 0, .slice none 0 0]) (t := 29) ?hr ?_; (case hd => rfl); (case hg => rfl); (case hr => first | (go_simp; done) | (go_simp; rfl))
            intro gb387 hg w62 hbox hb
            have n0_ := Aside0.mk (Kd.Q_below (by (with_reducible repeat apply Kd.Q_alloc); exact HO_367001.out) hb)
            have n1_ := Aside0.mk (Kd.Q_below (by (with_reducible repeat apply Kd.Q_alloc); exact HO_372001.out) hb)
            have n2_ := Aside0.mk (Kd.R_below (kR HO380.out) hb)
            have n3_ := Aside0.mk (blk_below (bK BK366.out) hb)
            have n4_ := Aside0.mk (blk_below (bK BK371.out) hb)
            have n5_ := Aside0.mk (below_step (by repeat first | exact HB.out | with_reducible refine below_setA ?_ ‹_› | apply below_alloc | apply pw_below_drewN) hb)
            have n6_ := Aside0.mk (hbox)
            have n7_ := Aside0.mk ((by rw [hg]; exact (below_size (by repeat first | exact HB.out | with_reducible refine below_setA ?_ ‹_› | apply below_alloc | apply pw_below_drewN)) : w.heap.size ≤ gb387))
            have n8_ := Aside0.mk ((by rw [hg]; exact (below_size (by repeat first | exact HB.out | with_reducible refine below_setA ?_ ‹_› | apply below_alloc | apply pw_below_drewN)) : w.heap.size ≤ gb387))
            have n9_ := Aside0.mk ((by rw [hg]; exact Nat.ne_of_lt (blk_lt (bK BK366.out)) : gb366 ≠ gb387))
            have n10_ := Aside0.mk ((by rw [hg]; exact Nat.ne_of_gt (blk_lt (bK BK366.out)) : gb387 ≠ gb366))
            have n11_ := Aside0.mk ((by rw [hg]; exact Nat.ne_of_lt (blk_lt (bK BK371.out)) : gb371 ≠ gb387))
            have n12_ := Aside0.mk ((by rw [hg]; exact Nat.ne_of_gt (blk_lt (bK BK371.out)) : gb387 ≠ gb371))
            clear HO_367001
            clear HO_372001
            clear HO380
            clear BK366
            clear BK371
            clear HB
            have HO_367001 := n0_
            have HO_372001 := n1_
            have HO380 := n2_
            have BK366 := n3_
            have BK371 := n4_
            have HB := n5_
            have BK387 := n6_
            have GW387 := n7_
            have GE387 := n8_
            have NB366_387 := n9_
            have NB387_366 := n10_
            have NB371_387 := n11_
            have NB387_371 := n12_
            clear n0_ n1_ n2_ n3_ n4_ n5_ n6_ n7_ n8_ n9_ n10_ n11_ n12_
            clear hb hbox hg
            refine hK.out _ _ ⟨(blk_cell BK366.out 0).trans rfl, (blk_cell BK366.out 1).trans rfl, (blk_cell BK371.out 0).trans rfl, (blk_cell BK371.out 1).trans rfl⟩ (fun hHeld => ?_)
            clear hK K
            refine norm_ (a' := ?_) ?_ ?_
            rotate_left
            ·show Act.put _ (some 9) _ = _
             simp only [Act.put, List.setIfInBounds_toArray, List.set_cons_zero, List.set_cons_succ, i64_w, i32_w]
             rfl
            refine one_ (i := 5) (N := some 62) #[true, true, true, true, true, true, true, true, false, false, true, false] rfl rfl (one_of HT_.out (by kernel_rfl)) (by decide) (fun K hK => ?_)
            refine Kd.R_append_rows_step k39 (w0 := w) w.heap.size (by rfl) (.tmp 59) (.tmp 61) 27 39 (.agg #[(.int .i64 0), (.int .i64 0)]) 16 rfl Try.underlying27 info39 rfl (by decide) (by omega) v379 y378 t363 _ _ _ (fun k_ => some k_ ≠ (.slice Ao14 t363.length co14 : Value).ownBlock ∧ some k_ ≠ (.slice Ao19 t368.length co19 : Value).ownBlock) (fun _ => False) rfl rfl ?aO ?aR (fun _ _ h => h) (fun _ h => h.elim) ?aF ?aB ?aS ?aL ?_
            (case aR => repeat (first | exact (Kd.Q_reads' HO_367001.out).2.2 | (with_reducible refine Kd.C_alloc ?_ _) | (with_reducible refine Kd.C_drewN ?_ _) | (with_reducible refine Kd.C_drew ?_)))
            (case aB => exact (by repeat first | exact HB.out | with_reducible refine below_setA ?_ ‹_› | apply below_alloc | apply pw_below_drewN))
            (case aF => exact (fun k_ hk => ⟨Kd.fresh' (Kd.Q_lt (by (with_reducible repeat apply Kd.Q_alloc); exact HO_367001.out)) k_ hk, Kd.fresh' (Kd.Q_lt (by (with_reducible repeat apply Kd.Q_alloc); exact HO_372001.out)) k_ hk⟩))
            (case aO => exact (by (with_reducible repeat apply Kd.R_alloc); exact Kd.R_mono HO380.out (fun _ hk => ⟨hk.1.2, hk.2⟩)))
            (case aS => exact (below_size (by repeat first | exact HB.out | with_reducible refine below_setA ?_ ‹_› | apply below_alloc | apply pw_below_drewN)))
            (case aL => have := LMc56.out; omega)
            intro v382 w63 ho hb hg hat
            rw [← Ny381.out] at ho
            have n0_ := Aside0.mk (Kd.Q_after (ok := (fun k_ => some k_ ≠ (.slice Ao19 t368.length co19 : Value).ownBlock)) (by (with_reducible repeat apply Kd.Q_alloc); exact HO_367001.out) hg hat)
            have n1_ := Aside0.mk (Kd.Q_after (ok := (fun k_ => some k_ ≠ (.slice Ao14 t363.length co14 : Value).ownBlock)) (by (with_reducible repeat apply Kd.Q_alloc); exact HO_372001.out) hg hat)
            have n2_ := Aside0.mk (blk_grown (g := gb366) (o := .cells #[.int .i64 t362, .slice Ao14 t363.length co14] 29 (0, 0)) (bK BK366.out) hg (Kd.R_ne HO380.out BK366.out (by decide)))
            have n3_ := Aside0.mk (blk_grown (g := gb371) (o := .cells #[.int .i64 t367, .slice Ao19 t368.length co19] 29 (0, 0)) (bK BK371.out) hg (Kd.R_ne HO380.out BK371.out (by decide)))
            have n4_ := Aside0.mk (blk_grown (g := gb387) (o := .cells #[.int .i64 0, .slice none 0 0] 29 (0, 0)) (bK BK387.out) hg (Kd.R_ne HO380.out BK387.out (by decide)))
            have n5_ := Aside0.mk (hb)
            have n6_ := Aside0.mk (ho)
            clear HO_367001
            clear HO_372001
            clear BK366
            clear BK371
            clear BK387
            clear HB
            clear HO380
            have HO_367001 := n0_
            have HO_372001 := n1_
            have BK366 := n2_
            have BK371 := n3_
            have BK387 := n4_
            have HB := n5_
            have HO383 := n6_
            clear n0_ n1_ n2_ n3_ n4_ n5_ n6_
            clear ho hb hg hat
            refine hK.out _ _ ⟨(blk_cell BK366.out 0).trans rfl, (blk_cell BK366.out 1).trans rfl, (blk_cell BK371.out 0).trans rfl, (blk_cell BK371.out 1).trans rfl⟩ (fun hHeld => ?_)
            clear hK K
            refine norm_ (a' := ?_) ?_ ?_
            rotate_left
            ·show Act.put _ (some 62) _ = _
             simp only [Act.put, List.setIfInBounds_toArray, List.set_cons_zero, List.set_cons_succ, i64_w, i32_w]
             rfl
            refine one_ (i := 8) (N := some 65) #[true, true, true, true, true, true, true, true, true, false, true, false] rfl rfl (one_of HT_.out (by kernel_rfl)) (by decide) (fun K hK => ?_)
            refine Kd.R_append_rows_step k39 (w0 := w) w.heap.size (by rfl) (.tmp 62) (.tmp 64) 27 39 (.agg #[(.int .i64 0), (.int .i64 0)]) 16 rfl Try.underlying27 info39 rfl (by decide) (by omega) v382 y381 t368 _ _ _ (fun k_ => some k_ ≠ (.slice Ao14 t363.length co14 : Value).ownBlock ∧ some k_ ≠ (.slice Ao19 t368.length co19 : Value).ownBlock) (fun _ => False) rfl rfl ?aO ?aR (fun _ _ h => h) (fun _ h => h.elim) ?aF ?aB ?aS ?aL ?_
            (case aR => repeat (first | exact (Kd.Q_reads' HO_372001.out).2.2 | (with_reducible refine Kd.C_alloc ?_ _) | (with_reducible refine Kd.C_drewN ?_ _) | (with_reducible refine Kd.C_drew ?_)))
            (case aB => exact (by repeat first | exact HB.out | with_reducible refine below_setA ?_ ‹_› | apply below_alloc | apply pw_below_drewN))
            (case aF => exact (fun k_ hk => ⟨Kd.fresh' (Kd.Q_lt (by (with_reducible repeat apply Kd.Q_alloc); exact HO_367001.out)) k_ hk, Kd.fresh' (Kd.Q_lt (by (with_reducible repeat apply Kd.Q_alloc); exact HO_372001.out)) k_ hk⟩))
            (case aO => exact (kR HO383.out))
            (case aS => exact (below_size (by repeat first | exact HB.out | with_reducible refine below_setA ?_ ‹_› | apply below_alloc | apply pw_below_drewN)))
            (case aL => have := LMc57.out; omega)
            intro v385 w64 ho hb hg hat
            rw [← Ny384.out] at ho
            have n0_ := Aside0.mk (Kd.Q_after (ok := (fun k_ => some k_ ≠ (.slice Ao19 t368.length co19 : Value).ownBlock)) (by (with_reducible repeat apply Kd.Q_alloc); exact HO_367001.out) hg hat)
            have n1_ := Aside0.mk (Kd.Q_after (ok := (fun k_ => some k_ ≠ (.slice Ao14 t363.length co14 : Value).ownBlock)) (by (with_reducible repeat apply Kd.Q_alloc); exact HO_372001.out) hg hat)
            have n2_ := Aside0.mk (blk_grown (g := gb366) (o := .cells #[.int .i64 t362, .slice Ao14 t363.length co14] 29 (0, 0)) (bK BK366.out) hg (Kd.R_ne HO383.out BK366.out (by decide)))
            have n3_ := Aside0.mk (blk_grown (g := gb371) (o := .cells #[.int .i64 t367, .slice Ao19 t368.length co19] 29 (0, 0)) (bK BK371.out) hg (Kd.R_ne HO383.out BK371.out (by decide)))
            have n4_ := Aside0.mk (blk_grown (g := gb387) (o := .cells #[.int .i64 0, .slice none 0 0] 29 (0, 0)) (bK BK387.out) hg (Kd.R_ne HO383.out BK387.out (by decide)))
            have n5_ := Aside0.mk (hb)
            have n6_ := Aside0.mk (ho)
            clear HO_367001
            clear HO_372001
            clear BK366
            clear BK371
            clear BK387
            clear HB
            clear HO383
            have HO_367001 := n0_
            have HO_372001 := n1_
            have BK366 := n2_
            have BK371 := n3_
            have BK387 := n4_
            have HB := n5_
            have HO386 := n6_
            clear n0_ n1_ n2_ n3_ n4_ n5_ n6_
            clear ho hb hg hat
            obtain ⟨Ao65, co65, eo65⟩ := Kd.R_slice HO386.out
            (first | subst eo65 | (injection eo65 with f1_ f2_ f3_; have f4_ := f1_.symm; have f5_ := f3_.symm; clear f1_ f2_ f3_; subst f4_; subst f5_))
            refine hK.out _ _ ⟨(blk_cell BK366.out 0).trans rfl, (blk_cell BK366.out 1).trans rfl, (blk_cell BK371.out 0).trans rfl, (blk_cell BK371.out 1).trans rfl⟩ (fun hHeld => ?_)
            clear hK K
            refine norm_ (a' := ?_) ?_ ?_
            rotate_left
            ·show Act.put _ (some 65) _ = _
             simp only [Act.put, List.setIfInBounds_toArray, List.set_cons_zero, List.set_cons_succ, i64_w, i32_w]
             rfl
            refine pure_ (i := 9) (N := some 66) (v := ?_) (a' := ?_) #[true, true, true, true, true, true, true, true, true, true, true, false] rfl rfl (any_of HT_.out (by kernel_rfl)) (fun _ _ _ h => h) (Or.inl ⟨by rfl, ?_⟩) ?_ ?_
            rotate_left
            ·intro w'
             go_simp
             with_reducible rfl
            rotate_left
            ·simp only [Act.put, List.setIfInBounds_toArray, List.set_cons_zero, List.set_cons_succ, i64_w, i32_w]
             rfl
            exact norm_ (by simp only [putAll, Act.put, List.setIfInBounds_toArray, List.set_cons_zero, List.set_cons_succ]) (hCont (v379, v382, .slice Ao65 y384.length co65, gb387) _ ⟨hHeld, (kR HO386.out), (by (with_reducible repeat apply Kd.Q_alloc); exact Kd.Q_mono HO_367001.out (fun _ hk => ⟨hk.2, hk.1⟩)), (by (with_reducible repeat apply Kd.Q_alloc); exact Kd.Q_mono HO_372001.out (fun _ hk => ⟨hk.2, hk.1⟩)), (bK BK366.out), (bK BK371.out), (bK BK387.out), GW387.out, GE387.out, NB366_387.out, NB387_366.out, NB371_387.out, NB387_371.out, (by repeat first | exact HB.out | with_reducible refine below_setA ?_ ‹_› | apply below_alloc | apply pw_below_drewN)⟩)
          ·skip
           refine box_step ?hg (N := 9) ?hd (cs := #[.int .i64 0, .slice none 0 0]) (t := 29) ?hr ?_; (case hd => rfl); (case hg => rfl); (case hr => first | (go_simp; done) | (go_simp; rfl))
           intro gb387 hg w60 hbox hb
           have n0_ := Aside0.mk (Kd.Q_below (by (with_reducible repeat apply Kd.Q_alloc); exact HO_367001.out) hb)
           have n1_ := Aside0.mk (Kd.Q_below (by (with_reducible repeat apply Kd.Q_alloc); exact HO_372001.out) hb)
           have n2_ := Aside0.mk (blk_below (bK BK366.out) hb)
           have n3_ := Aside0.mk (blk_below (bK BK371.out) hb)
           have n4_ := Aside0.mk (below_step (by repeat first | exact HB.out | with_reducible refine below_setA ?_ ‹_› | apply below_alloc | apply pw_below_drewN) hb)
           have n5_ := Aside0.mk (hbox)
           have n6_ := Aside0.mk ((by rw [hg]; exact (below_size (by repeat first | exact HB.out | with_reducible refine below_setA ?_ ‹_› | apply below_alloc | apply pw_below_drewN)) : w.heap.size ≤ gb387))
           have n7_ := Aside0.mk ((by rw [hg]; exact (below_size (by repeat first | exact HB.out | with_reducible refine below_setA ?_ ‹_› | apply below_alloc | apply pw_below_drewN)) : w.heap.size ≤ gb387))
           have n8_ := Aside0.mk ((by rw [hg]; exact Nat.ne_of_lt (blk_lt (bK BK366.out)) : gb366 ≠ gb387))
           have n9_ := Aside0.mk ((by rw [hg]; exact Nat.ne_of_gt (blk_lt (bK BK366.out)) : gb387 ≠ gb366))
           have n10_ := Aside0.mk ((by rw [hg]; exact Nat.ne_of_lt (blk_lt (bK BK371.out)) : gb371 ≠ gb387))
           have n11_ := Aside0.mk ((by rw [hg]; exact Nat.ne_of_gt (blk_lt (bK BK371.out)) : gb387 ≠ gb371))
           clear HO_367001
           clear HO_372001
           clear BK366
           clear BK371
           clear HB
           have HO_367001 := n0_
           have HO_372001 := n1_
           have BK366 := n2_
           have BK371 := n3_
           have HB := n4_
           have BK387 := n5_
           have GW387 := n6_
           have GE387 := n7_
           have NB366_387 := n8_
           have NB387_366 := n9_
           have NB371_387 := n10_
           have NB387_371 := n11_
           clear n0_ n1_ n2_ n3_ n4_ n5_ n6_ n7_ n8_ n9_ n10_ n11_
           clear hb hbox hg
           refine hK.out _ _ ⟨(blk_cell BK366.out 0).trans rfl, (blk_cell BK366.out 1).trans rfl, (blk_cell BK371.out 0).trans rfl, (blk_cell BK371.out 1).trans rfl⟩ (fun hHeld => ?_)
           clear hK K
           refine norm_ (a' := ?_) ?_ ?_
           rotate_left
           ·show Act.put _ (some 9) _ = _
            simp only [Act.put, List.setIfInBounds_toArray, List.set_cons_zero, List.set_cons_succ, i64_w, i32_w]
            rfl
           refine one_ (i := 2) (N := some 59) #[true, true, true, true, true, false, true, true, false, false, true, false] rfl rfl (one_of HT_.out (by kernel_rfl)) (by decide) (fun K hK => ?_)
           refine Kd.R_lit_step k39 _ 39 ?hg (N := 59) ?hd (xs := ([] : List (S39))) (inner := []) (ok := fun _ => True) (okp := fun _ => True) ?hr ?hp (fun _ hk => hk) trivial (Below.refl _ _) (Nat.le_refl _) (by simp) ?_; (case hd => rfl); (case hg => rfl); (case hr => first | (go_simp; done) | (go_simp; rfl)); (case hp => exact (Reps.none _ _))
           intro v379 w61 ho62 hb hg_ hnew_
           clear hg_ hnew_
           (first | rw [← Ny378.out] at ho62 | (simp only [Int.reduceToNat] at ho62; rw [← Ny378.out] at ho62))
           have n0_ := Aside0.mk (Kd.Q_elder' (by (with_reducible repeat apply Kd.Q_alloc); exact HO_367001.out) (Kd.R_base ho62) hb)
           have n1_ := Aside0.mk (Kd.Q_elder' (by (with_reducible repeat apply Kd.Q_alloc); exact HO_372001.out) (Kd.R_base ho62) hb)
           have n2_ := Aside0.mk (Kd.R_lower (Kd.R_new' (Kd.R_new' ho62 (Kd.Q_lt (by (with_reducible repeat apply Kd.Q_alloc); exact HO_367001.out))) (Kd.Q_lt (by (with_reducible repeat apply Kd.Q_alloc); exact HO_372001.out))) (below_size (by repeat first | exact HB.out | with_reducible refine below_setA ?_ ‹_› | apply below_alloc | apply pw_below_drewN)))
           have n3_ := Aside0.mk (blk_below (bK BK366.out) hb)
           have n4_ := Aside0.mk (blk_below (bK BK371.out) hb)
           have n5_ := Aside0.mk (blk_below (bK BK387.out) hb)
           have n6_ := Aside0.mk (below_step (by repeat first | exact HB.out | with_reducible refine below_setA ?_ ‹_› | apply below_alloc | apply pw_below_drewN) hb)
           clear HO_367001
           clear HO_372001
           clear BK366
           clear BK371
           clear BK387
           clear HB
           have HO_367001 := n0_
           have HO_372001 := n1_
           have HO380 := n2_
           have BK366 := n3_
           have BK371 := n4_
           have BK387 := n5_
           have HB := n6_
           clear n0_ n1_ n2_ n3_ n4_ n5_ n6_
           clear hb ho62
           refine hK.out _ _ ⟨(blk_cell BK366.out 0).trans rfl, (blk_cell BK366.out 1).trans rfl, (blk_cell BK371.out 0).trans rfl, (blk_cell BK371.out 1).trans rfl⟩ (fun hHeld => ?_)
           clear hK K
           refine norm_ (a' := ?_) ?_ ?_
           rotate_left
           ·show Act.put _ (some 59) _ = _
            simp only [Act.put, List.setIfInBounds_toArray, List.set_cons_zero, List.set_cons_succ, i64_w, i32_w]
            rfl
           refine one_ (i := 5) (N := some 62) #[true, true, true, true, true, true, true, true, false, false, true, false] rfl rfl (one_of HT_.out (by kernel_rfl)) (by decide) (fun K hK => ?_)
           refine Kd.R_append_rows_step k39 (w0 := w) w.heap.size (by rfl) (.tmp 59) (.tmp 61) 27 39 (.agg #[(.int .i64 0), (.int .i64 0)]) 16 rfl Try.underlying27 info39 rfl (by decide) (by omega) v379 y378 t363 _ _ _ (fun k_ => some k_ ≠ (.slice Ao14 t363.length co14 : Value).ownBlock ∧ some k_ ≠ (.slice Ao19 t368.length co19 : Value).ownBlock) (fun _ => False) rfl rfl ?aO ?aR (fun _ _ h => h) (fun _ h => h.elim) ?aF ?aB ?aS ?aL ?_
           (case aR => repeat (first | exact (Kd.Q_reads' HO_367001.out).2.2 | (with_reducible refine Kd.C_alloc ?_ _) | (with_reducible refine Kd.C_drewN ?_ _) | (with_reducible refine Kd.C_drew ?_)))
           (case aB => exact (by repeat first | exact HB.out | with_reducible refine below_setA ?_ ‹_› | apply below_alloc | apply pw_below_drewN))
           (case aF => exact (fun k_ hk => ⟨Kd.fresh' (Kd.Q_lt (by (with_reducible repeat apply Kd.Q_alloc); exact HO_367001.out)) k_ hk, Kd.fresh' (Kd.Q_lt (by (with_reducible repeat apply Kd.Q_alloc); exact HO_372001.out)) k_ hk⟩))
           (case aO => exact (by (with_reducible repeat apply Kd.R_alloc); exact Kd.R_mono HO380.out (fun _ hk => ⟨hk.1.2, hk.2⟩)))
           (case aS => exact (below_size (by repeat first | exact HB.out | with_reducible refine below_setA ?_ ‹_› | apply below_alloc | apply pw_below_drewN)))
           (case aL => have := LMc56.out; omega)
           intro v382 w63 ho hb hg hat
           rw [← Ny381.out] at ho
           have n0_ := Aside0.mk (Kd.Q_after (ok := (fun k_ => some k_ ≠ (.slice Ao19 t368.length co19 : Value).ownBlock)) (by (with_reducible repeat apply Kd.Q_alloc); exact HO_367001.out) hg hat)
           have n1_ := Aside0.mk (Kd.Q_after (ok := (fun k_ => some k_ ≠ (.slice Ao14 t363.length co14 : Value).ownBlock)) (by (with_reducible repeat apply Kd.Q_alloc); exact HO_372001.out) hg hat)
           have n2_ := Aside0.mk (blk_grown (g := gb366) (o := .cells #[.int .i64 t362, .slice Ao14 t363.length co14] 29 (0, 0)) (bK BK366.out) hg (Kd.R_ne HO380.out BK366.out (by decide)))
           have n3_ := Aside0.mk (blk_grown (g := gb371) (o := .cells #[.int .i64 t367, .slice Ao19 t368.length co19] 29 (0, 0)) (bK BK371.out) hg (Kd.R_ne HO380.out BK371.out (by decide)))
           have n4_ := Aside0.mk (blk_grown (g := gb387) (o := .cells #[.int .i64 0, .slice none 0 0] 29 (0, 0)) (bK BK387.out) hg (Kd.R_ne HO380.out BK387.out (by decide)))
           have n5_ := Aside0.mk (hb)
           have n6_ := Aside0.mk (ho)
           clear HO_367001
           clear HO_372001
           clear BK366
           clear BK371
           clear BK387
           clear HB
           clear HO380
           have HO_367001 := n0_
           have HO_372001 := n1_
           have BK366 := n2_
           have BK371 := n3_
           have BK387 := n4_
           have HB := n5_
           have HO383 := n6_
           clear n0_ n1_ n2_ n3_ n4_ n5_ n6_
           clear ho hb hg hat
           refine hK.out _ _ ⟨(blk_cell BK366.out 0).trans rfl, (blk_cell BK366.out 1).trans rfl, (blk_cell BK371.out 0).trans rfl, (blk_cell BK371.out 1).trans rfl⟩ (fun hHeld => ?_)
           clear hK K
           refine norm_ (a' := ?_) ?_ ?_
           rotate_left
           ·show Act.put _ (some 62) _ = _
            simp only [Act.put, List.setIfInBounds_toArray, List.set_cons_zero, List.set_cons_succ, i64_w, i32_w]
            rfl
           refine one_ (i := 8) (N := some 65) #[true, true, true, true, true, true, true, true, true, false, true, false] rfl rfl (one_of HT_.out (by kernel_rfl)) (by decide) (fun K hK => ?_)
           refine Kd.R_append_rows_step k39 (w0 := w) w.heap.size (by rfl) (.tmp 62) (.tmp 64) 27 39 (.agg #[(.int .i64 0), (.int .i64 0)]) 16 rfl Try.underlying27 info39 rfl (by decide) (by omega) v382 y381 t368 _ _ _ (fun k_ => some k_ ≠ (.slice Ao14 t363.length co14 : Value).ownBlock ∧ some k_ ≠ (.slice Ao19 t368.length co19 : Value).ownBlock) (fun _ => False) rfl rfl ?aO ?aR (fun _ _ h => h) (fun _ h => h.elim) ?aF ?aB ?aS ?aL ?_
           (case aR => repeat (first | exact (Kd.Q_reads' HO_372001.out).2.2 | (with_reducible refine Kd.C_alloc ?_ _) | (with_reducible refine Kd.C_drewN ?_ _) | (with_reducible refine Kd.C_drew ?_)))
           (case aB => exact (by repeat first | exact HB.out | with_reducible refine below_setA ?_ ‹_› | apply below_alloc | apply pw_below_drewN))
           (case aF => exact (fun k_ hk => ⟨Kd.fresh' (Kd.Q_lt (by (with_reducible repeat apply Kd.Q_alloc); exact HO_367001.out)) k_ hk, Kd.fresh' (Kd.Q_lt (by (with_reducible repeat apply Kd.Q_alloc); exact HO_372001.out)) k_ hk⟩))
           (case aO => exact (kR HO383.out))
           (case aS => exact (below_size (by repeat first | exact HB.out | with_reducible refine below_setA ?_ ‹_› | apply below_alloc | apply pw_below_drewN)))
           (case aL => have := LMc57.out; omega)
           intro v385 w64 ho hb hg hat
           rw [← Ny384.out] at ho
           have n0_ := Aside0.mk (Kd.Q_after (ok := (fun k_ => some k_ ≠ (.slice Ao19 t368.length co19 : Value).ownBlock)) (by (with_reducible repeat apply Kd.Q_alloc); exact HO_367001.out) hg hat)
           have n1_ := Aside0.mk (Kd.Q_after (ok := (fun k_ => some k_ ≠ (.slice Ao14 t363.length co14 : Value).ownBlock)) (by (with_reducible repeat apply Kd.Q_alloc); exact HO_372001.out) hg hat)
           have n2_ := Aside0.mk (blk_grown (g := gb366) (o := .cells #[.int .i64 t362, .slice Ao14 t363.length co14] 29 (0, 0)) (bK BK366.out) hg (Kd.R_ne HO383.out BK366.out (by decide)))
           have n3_ := Aside0.mk (blk_grown (g := gb371) (o := .cells #[.int .i64 t367, .slice Ao19 t368.length co19] 29 (0, 0)) (bK BK371.out) hg (Kd.R_ne HO383.out BK371.out (by decide)))
           have n4_ := Aside0.mk (blk_grown (g := gb387) (o := .cells #[.int .i64 0, .slice none 0 0] 29 (0, 0)) (bK BK387.out) hg (Kd.R_ne HO383.out BK387.out (by decide)))
           have n5_ := Aside0.mk (hb)
           have n6_ := Aside0.mk (ho)
           clear HO_367001
           clear HO_372001
           clear BK366
           clear BK371
           clear BK387
           clear HB
           clear HO383
           have HO_367001 := n0_
           have HO_372001 := n1_
           have BK366 := n2_
           have BK371 := n3_
           have BK387 := n4_
           have HB := n5_
           have HO386 := n6_
           clear n0_ n1_ n2_ n3_ n4_ n5_ n6_
           clear ho hb hg hat
           obtain ⟨Ao65, co65, eo65⟩ := Kd.R_slice HO386.out
           (first | subst eo65 | (injection eo65 with f1_ f2_ f3_; have f4_ := f1_.symm; have f5_ := f3_.symm; clear f1_ f2_ f3_; subst f4_; subst f5_))
           refine hK.out _ _ ⟨(blk_cell BK366.out 0).trans rfl, (blk_cell BK366.out 1).trans rfl, (blk_cell BK371.out 0).trans rfl, (blk_cell BK371.out 1).trans rfl⟩ (fun hHeld => ?_)
           clear hK K
           refine norm_ (a' := ?_) ?_ ?_
           rotate_left
           ·show Act.put _ (some 65) _ = _
            simp only [Act.put, List.setIfInBounds_toArray, List.set_cons_zero, List.set_cons_succ, i64_w, i32_w]
            rfl
           refine pure_ (i := 9) (N := some 66) (v := ?_) (a' := ?_) #[true, true, true, true, true, true, true, true, true, true, true, false] rfl rfl (any_of HT_.out (by kernel_rfl)) (fun _ _ _ h => h) (Or.inl ⟨by rfl, ?_⟩) ?_ ?_
           rotate_left
           ·intro w'
            go_simp
            with_reducible rfl
           rotate_left
           ·simp only [Act.put, List.setIfInBounds_toArray, List.set_cons_zero, List.set_cons_succ, i64_w, i32_w]
            rfl
           exact norm_ (by simp only [putAll, Act.put, List.setIfInBounds_toArray, List.set_cons_zero, List.set_cons_succ]) (hCont (v379, v382, .slice Ao65 y384.length co65, gb387) _ ⟨hHeld, (kR HO386.out), (by (with_reducible repeat apply Kd.Q_alloc); exact Kd.Q_mono HO_367001.out (fun _ hk => ⟨hk.2, hk.1⟩)), (by (with_reducible repeat apply Kd.Q_alloc); exact Kd.Q_mono HO_372001.out (fun _ hk => ⟨hk.2, hk.1⟩)), (bK BK366.out), (bK BK371.out), (bK BK387.out), GW387.out, GE387.out, NB366_387.out, NB387_366.out, NB371_387.out, NB387_371.out, (by repeat first | exact HB.out | with_reducible refine below_setA ?_ ‹_› | apply below_alloc | apply pw_below_drewN)⟩)
         rintro ⟨v379, v382, v385, gb387⟩ w66 ⟨hS_, h0_, h1_, h2_, h3_, h4_, h5_, h6_, h7_, h8_, h9_, h10_, h11_, h12_⟩
         have n0_ : Aside0 (Kd.R k39 39 w66 w.heap.size (fun k_ => some k_ ≠ (.slice Ao14 t363.length co14 : Value).ownBlock ∧ some k_ ≠ (.slice Ao19 t368.length co19 : Value).ownBlock) v385 y384) := ⟨h0_⟩
         have n1_ : Aside0 (Kd.Q k39 39 w66 w.heap.size (fun k_ => some k_ ≠ (v385 : Value).ownBlock ∧ some k_ ≠ (.slice Ao19 t368.length co19 : Value).ownBlock) (.slice Ao14 t363.length co14) t363) := ⟨h1_⟩
         have n2_ : Aside0 (Kd.Q k39 39 w66 w.heap.size (fun k_ => some k_ ≠ (v385 : Value).ownBlock ∧ some k_ ≠ (.slice Ao14 t363.length co14 : Value).ownBlock) (.slice Ao19 t368.length co19) t368) := ⟨h2_⟩
         have n3_ : Aside0 (w66.heap[gb366]? = some (.cells #[.int .i64 t362, .slice Ao14 t363.length co14] 29 (0, 0))) := ⟨h3_⟩
         have n4_ : Aside0 (w66.heap[gb371]? = some (.cells #[.int .i64 t367, .slice Ao19 t368.length co19] 29 (0, 0))) := ⟨h4_⟩
         have n5_ : Aside0 (w66.heap[gb387]? = some (.cells #[.int .i64 0, .slice none 0 0] 29 (0, 0))) := ⟨h5_⟩
         have n6_ : Aside0 (w.heap.size ≤ gb387) := ⟨h6_⟩
         have n7_ : Aside0 (w.heap.size ≤ gb387) := ⟨h7_⟩
         have n8_ : Aside0 (gb366 ≠ gb387) := ⟨h8_⟩
         have n9_ : Aside0 (gb387 ≠ gb366) := ⟨h9_⟩
         have n10_ : Aside0 (gb371 ≠ gb387) := ⟨h10_⟩
         have n11_ : Aside0 (gb387 ≠ gb371) := ⟨h11_⟩
         have n12_ : Aside0 (Below w.heap.size w w66) := ⟨h12_⟩
         clear HO_367001
         clear HO_372001
         clear BK366
         clear BK371
         clear HB
         clear h0_ h1_ h2_ h3_ h4_ h5_ h6_ h7_ h8_ h9_ h10_ h11_ h12_
         have HO386 := n0_
         have HO_367001 := n1_
         have HO_372001 := n2_
         have BK366 := n3_
         have BK371 := n4_
         have BK387 := n5_
         have GW387 := n6_
         have GE387 := n7_
         have NB366_387 := n8_
         have NB387_366 := n9_
         have NB371_387 := n10_
         have NB387_371 := n11_
         have HB := n12_
         clear n0_ n1_ n2_ n3_ n4_ n5_ n6_ n7_ n8_ n9_ n10_ n11_ n12_
         have hHeld : w66.cell? ⟨gb366, 0, none⟩ = some (.int .i64 t362) ∧ w66.cell? ⟨gb366, 1, none⟩ = some (.slice Ao14 t363.length co14) ∧ w66.cell? ⟨gb371, 0, none⟩ = some (.int .i64 t367) ∧ w66.cell? ⟨gb371, 1, none⟩ = some (.slice Ao19 t368.length co19) := hS_
         obtain ⟨Ao67, co67, eo67⟩ := Kd.R_slice HO386.out
         (first | subst eo67 | (injection eo67 with f1_ f2_ f3_; have f4_ := f1_.symm; have f5_ := f3_.symm; clear f1_ f2_ f3_; subst f4_; subst f5_))
         refine norm_ (a' := ?_) ?_ ?_
         rotate_left
         ·simp only [putAll, Act.put, List.setIfInBounds_toArray, List.set_cons_zero, List.set_cons_succ]
          rfl
         refine one_ (i := 11) (N := none) #[true, true, true, true, true, true, true, true, true, true, true, true] rfl rfl (one_of HT_.out (by kernel_rfl)) (by decide) (fun K hK => ?_)
         have hs68 : w66.cell? ⟨gb387, 0, none⟩ = some (.int .i64 0) := (blk_cell BK387.out 0).trans rfl
         have hfs68 := blk_frozen BK387.out 0
         have hns68_0 := NB366_387.out
         have hns68_1 := NB371_387.out
         have hms68_0 := NB387_366.out
         have hms68_1 := NB387_371.out
         have hs69 : w66.cell? ⟨gb387, 1, none⟩ = some (.slice none 0 0) := (blk_cell BK387.out 1).trans rfl
         have hfs69 := blk_frozen BK387.out 1
         have hns69_0 := NB366_387.out
         have hns69_1 := NB371_387.out
         have hms69_0 := NB387_366.out
         have hms69_1 := NB387_371.out
         refine skip_ (w1 := ?_) (by rfl) rfl ?_ ?_
         rotate_left
         ·go_simp
          rfl
         refine hK.out _ _ ⟨((cell_far (p := ⟨gb387, _, none⟩) NB366_387.out _).trans (((cell_far (p := ⟨gb387, _, none⟩) NB366_387.out _).trans (hHeld.1)))), ((cell_far (p := ⟨gb387, _, none⟩) NB366_387.out _).trans (((cell_far (p := ⟨gb387, _, none⟩) NB366_387.out _).trans (hHeld.2.1)))), ((cell_far (p := ⟨gb387, _, none⟩) NB371_387.out _).trans (((cell_far (p := ⟨gb387, _, none⟩) NB371_387.out _).trans (hHeld.2.2.1)))), ((cell_far (p := ⟨gb387, _, none⟩) NB371_387.out _).trans (((cell_far (p := ⟨gb387, _, none⟩) NB371_387.out _).trans (hHeld.2.2.2))))⟩ (fun hHeld => ?_)
         clear hK K
         refine done_ (done_of HT_.out (by kernel_rfl)) ?_
         go_upto_region 10 with (fail)
         go_cut [10] (fun v10 wc => ∃ (kq : Nat) (x10_57 : Bool), v10 = .bool x10_57 ∧ Aside0 (laws_FnGridStack.j2 kq t372 t373 x10_57 t362 y384 = some r) ∧ Aside0 (kq ≤ kj9) ∧ Aside0 (Kd.Q k39 39 wc w.heap.size (fun k_ => some k_ ≠ ((.slice Ao19 t368.length co19) : Value).ownBlock ∧ some k_ ≠ ((.slice Ao67 y384.length co67) : Value).ownBlock) (.slice Ao14 t363.length co14) t363) ∧ Aside0 (Kd.Q k39 39 wc w.heap.size (fun k_ => some k_ ≠ ((.slice Ao14 t363.length co14) : Value).ownBlock ∧ some k_ ≠ ((.slice Ao67 y384.length co67) : Value).ownBlock) (.slice Ao19 t368.length co19) t368) ∧ Aside0 (Kd.Q k39 39 wc w.heap.size (fun k_ => some k_ ≠ ((.slice Ao14 t363.length co14) : Value).ownBlock ∧ some k_ ≠ ((.slice Ao19 t368.length co19) : Value).ownBlock) (.slice Ao67 y384.length co67) y384) ∧ Aside0 (wc.heap[gb366]? = some (.cells #[.int .i64 t362, (.slice Ao14 t363.length co14)] 29 (0, 0))) ∧ Aside0 (wc.heap[gb371]? = some (.cells #[.int .i64 t367, (.slice Ao19 t368.length co19)] 29 (0, 0))) ∧ Aside0 (wc.heap[gb387]? = some (.cells #[.int .i64 t362, (.slice Ao67 y384.length co67)] 29 (0, 0))) ∧ Aside0 (Below w.heap.size w wc))
         case first =>
          have H := HC58.out
          clear HC58
          by_cases c70 : t362 = t367
          ·rw [if_pos c70] at H
           have c70b0 : (t362 == t367) = true := beq_iff_eq.mpr c70
           have c70b1 : (t362 != t367) = false := bne_eq_false_iff_eq.mpr c70
           clear c70
           (first | rw [c70b0] | (simp only [i64_w, i32_w]; rw [c70b0]) | skip)
           have H' := Aside0.mk H
           clear H
           have hnb71 := NB366_371.out
           have hnc71 := NB371_366.out
           have hnb72 := NB366_387.out
           have hnc72 := NB387_366.out
           have hcz73_0 : w66.cell? ⟨gb366, 0, none⟩ = some (.int .i64 t362) := (blk_cell BK366.out 0).trans rfl
           have hcz73_1 : w66.cell? ⟨gb366, 1, none⟩ = some (.slice Ao14 t363.length co14) := (blk_cell BK366.out 1).trans rfl
           have hfz73_0 := blk_frozen BK366.out 0
           have hfz73_1 := blk_frozen BK366.out 1
           have hnb74 := NB371_387.out
           have hnc74 := NB387_371.out
           have hcz75_0 : w66.cell? ⟨gb371, 0, none⟩ = some (.int .i64 t367) := (blk_cell BK371.out 0).trans rfl
           have hcz75_1 : w66.cell? ⟨gb371, 1, none⟩ = some (.slice Ao19 t368.length co19) := (blk_cell BK371.out 1).trans rfl
           have hfz75_0 := blk_frozen BK371.out 0
           have hfz75_1 := blk_frozen BK371.out 1
           have hcz76_0 : w66.cell? ⟨gb387, 0, none⟩ = some (.int .i64 0) := (blk_cell BK387.out 0).trans rfl
           have hcz76_1 : w66.cell? ⟨gb387, 1, none⟩ = some (.slice none 0 0) := (blk_cell BK387.out 1).trans rfl
           have hfz76_0 := blk_frozen BK387.out 0
           have hfz76_1 := blk_frozen BK387.out 1
           go_wp2
           go_meet
           case rel => exact ⟨_, (decide ((y384.length : Int) ≤ (wrap64 (5 * t362)))), (by first | rfl | (simp; done) | (simp [*]; done)), H', ⟨by have := HJ2.out; have := HJ9.out; first | omega | exact Nat.le_refl _⟩, ⟨by (with_reducible repeat apply Kd.Q_alloc); exact Kd.Q_mono (Kd.Q_far (p := ⟨gb387, 1, none⟩) (Kd.Q_far (p := ⟨gb387, 0, none⟩) (Kd.Q_types HO_367001.out BK387.out (by decide)) (fun _ hk => hk.2) (.int .i64 t362)) (fun _ hk => hk.2) (.slice Ao67 y384.length co67)) (fun _ hk => ⟨hk.1.2, hk.1.1⟩)⟩, ⟨by (with_reducible repeat apply Kd.Q_alloc); exact Kd.Q_mono (Kd.Q_far (p := ⟨gb387, 1, none⟩) (Kd.Q_far (p := ⟨gb387, 0, none⟩) (Kd.Q_types HO_372001.out BK387.out (by decide)) (fun _ hk => hk.2) (.int .i64 t362)) (fun _ hk => hk.2) (.slice Ao67 y384.length co67)) (fun _ hk => ⟨hk.1.2, hk.1.1⟩)⟩, ⟨Kd.Q_of_R (by (with_reducible repeat apply Kd.R_alloc); exact Kd.R_mono (Kd.R_far (p := ⟨gb387, 1, none⟩) (Kd.R_far (p := ⟨gb387, 0, none⟩) (Kd.R_types HO386.out BK387.out (by decide)) (fun _ hk => hk.2) (.int .i64 t362)) (fun _ hk => hk.2) (.slice Ao67 y384.length co67)) (fun _ hk => ⟨hk.1.1, hk.1.2⟩))⟩, ⟨by (with_reducible repeat apply blk_alloc); refine blk_far ?_ NB366_387.out _; (with_reducible repeat apply blk_alloc); refine blk_far ?_ NB366_387.out _; (with_reducible repeat apply blk_alloc); exact BK366.out⟩, ⟨by (with_reducible repeat apply blk_alloc); refine blk_far ?_ NB371_387.out _; (with_reducible repeat apply blk_alloc); refine blk_far ?_ NB371_387.out _; (with_reducible repeat apply blk_alloc); exact BK371.out⟩, ⟨by (with_reducible repeat apply blk_alloc); refine blk_put (cs := #[.int .i64 t362, .slice none 0 0]) ?_ 1 _ rfl; (with_reducible repeat apply blk_alloc); refine blk_put (cs := #[.int .i64 0, .slice none 0 0]) ?_ 0 _ rfl; (with_reducible repeat apply blk_alloc); exact BK387.out⟩, ⟨by repeat first | exact HB.out | with_reducible refine below_setA ?_ ‹_› | apply below_alloc | apply pw_below_drewN⟩⟩
          ·rw [if_neg c70] at H
           have c70b0 : (t362 == t367) = false := beq_eq_false_iff_ne.mpr c70
           have c70b1 : (t362 != t367) = true := bne_iff_ne.mpr c70
           (first | rw [c70b0] | (simp only [i64_w, i32_w]; rw [c70b0]) | skip)
           have H' := Aside0.mk H
           clear H
           have hnb77 := NB366_371.out
           have hnc77 := NB371_366.out
           have hnb78 := NB366_387.out
           have hnc78 := NB387_366.out
           have hcz79_0 : w66.cell? ⟨gb366, 0, none⟩ = some (.int .i64 t362) := (blk_cell BK366.out 0).trans rfl
           have hcz79_1 : w66.cell? ⟨gb366, 1, none⟩ = some (.slice Ao14 t363.length co14) := (blk_cell BK366.out 1).trans rfl
           have hfz79_0 := blk_frozen BK366.out 0
           have hfz79_1 := blk_frozen BK366.out 1
           have hnb80 := NB371_387.out
           have hnc80 := NB387_371.out
           have hcz81_0 : w66.cell? ⟨gb371, 0, none⟩ = some (.int .i64 t367) := (blk_cell BK371.out 0).trans rfl
           have hcz81_1 : w66.cell? ⟨gb371, 1, none⟩ = some (.slice Ao19 t368.length co19) := (blk_cell BK371.out 1).trans rfl
           have hfz81_0 := blk_frozen BK371.out 0
           have hfz81_1 := blk_frozen BK371.out 1
           go_wp2
           go_meet
           case rel => exact ⟨_, (false), (by first | rfl | (simp; done) | (simp [*]; done)), H', ⟨by have := HJ2.out; have := HJ9.out; first | omega | exact Nat.le_refl _⟩, ⟨by (with_reducible repeat apply Kd.Q_alloc); exact Kd.Q_mono (Kd.Q_far (p := ⟨gb387, 1, none⟩) (Kd.Q_far (p := ⟨gb387, 0, none⟩) (Kd.Q_types HO_367001.out BK387.out (by decide)) (fun _ hk => hk.2) (.int .i64 t362)) (fun _ hk => hk.2) (.slice Ao67 y384.length co67)) (fun _ hk => ⟨hk.1.2, hk.1.1⟩)⟩, ⟨by (with_reducible repeat apply Kd.Q_alloc); exact Kd.Q_mono (Kd.Q_far (p := ⟨gb387, 1, none⟩) (Kd.Q_far (p := ⟨gb387, 0, none⟩) (Kd.Q_types HO_372001.out BK387.out (by decide)) (fun _ hk => hk.2) (.int .i64 t362)) (fun _ hk => hk.2) (.slice Ao67 y384.length co67)) (fun _ hk => ⟨hk.1.2, hk.1.1⟩)⟩, ⟨Kd.Q_of_R (by (with_reducible repeat apply Kd.R_alloc); exact Kd.R_mono (Kd.R_far (p := ⟨gb387, 1, none⟩) (Kd.R_far (p := ⟨gb387, 0, none⟩) (Kd.R_types HO386.out BK387.out (by decide)) (fun _ hk => hk.2) (.int .i64 t362)) (fun _ hk => hk.2) (.slice Ao67 y384.length co67)) (fun _ hk => ⟨hk.1.1, hk.1.2⟩))⟩, ⟨by (with_reducible repeat apply blk_alloc); refine blk_far ?_ NB366_387.out _; (with_reducible repeat apply blk_alloc); refine blk_far ?_ NB366_387.out _; (with_reducible repeat apply blk_alloc); exact BK366.out⟩, ⟨by (with_reducible repeat apply blk_alloc); refine blk_far ?_ NB371_387.out _; (with_reducible repeat apply blk_alloc); refine blk_far ?_ NB371_387.out _; (with_reducible repeat apply blk_alloc); exact BK371.out⟩, ⟨by (with_reducible repeat apply blk_alloc); refine blk_put (cs := #[.int .i64 t362, .slice none 0 0]) ?_ 1 _ rfl; (with_reducible repeat apply blk_alloc); refine blk_put (cs := #[.int .i64 0, .slice none 0 0]) ?_ 0 _ rfl; (with_reducible repeat apply blk_alloc); exact BK387.out⟩, ⟨by repeat first | exact HB.out | with_reducible refine below_setA ?_ ‹_› | apply below_alloc | apply pw_below_drewN⟩⟩
         case rest =>
          clear HC58
          try clear p2
          try clear c5
          try clear p6
          try clear c7
          try clear c8
          try clear c56
          try clear c57
          try clear p64
          try clear c70
          try clear c70b0
          try clear c70b1
          try clear c71
          try clear c72
          try clear c74
          try clear c77
          try clear c78
          try clear c80
          try clear hcz73_0
          try clear hcz73_1
          try clear hcz75_0
          try clear hcz75_1
          try clear hcz76_0
          try clear hcz76_1
          try clear hcz79_0
          try clear hcz79_1
          try clear hcz81_0
          try clear hcz81_1
          try clear hfz73_0
          try clear hfz73_1
          try clear hfz75_0
          try clear hfz75_1
          try clear hfz76_0
          try clear hfz76_1
          try clear hfz79_0
          try clear hfz79_1
          try clear hfz81_0
          try clear hfz81_1
          obtain ⟨kq, x10_57, rfl, HA, HJ57, HO_367001, HO_372001, HO_388001, BK366, BK371, BK387, HB⟩ := hcut
          cases kq with
          | zero => exact absurd HA.out (by simp [laws_FnGridStack.j2])
          | succ kj57 =>
           have H := HA.out
           clear HA
           simp only [laws_FnGridStack.j2] at H
           by_cases c82 : t372.size + t373.size ≤ 9223372036854775807
           ·rw [if_pos c82] at H
            have c82b0 := eq_true c82
            have c82b1 : decide (t372.size + t373.size ≤ 9223372036854775807) = true := decide_eq_true c82
            try have c82b2 : (9223372036854775807 < t372.size + t373.size) = False := eq_false (Nat.not_lt.2 c82)
            try (have c82b3 := c82b2; rw [ByteArray.size_append] at c82b3)
            try (have c82b4 := c82b0; rw [ByteArray.size_append] at c82b4)
            replace H := Option.bind_eq_some_iff.mp H
            obtain ⟨⟨t388, t389, t392⟩, A830, H⟩ := H
            replace H : (if x10_57 = true then (if t392 = true then ((laws_llGrid.f kj57 t388 t389 t362 y384).bind fun t394 => (if t394 = true then ((impl_GridOk.f kj57 t362 y384).bind fun t395 => (some t395)) else (some false))) else (some false)) else (some (!t392))) = some r := H
            have A83 := Aside0.mk A830
            clear A830
            by_cases c84 : x10_57 = true
            ·subst c84
             have H1 : (if t392 = true then ((laws_llGrid.f kj57 t388 t389 t362 y384).bind fun t394 => (if t394 = true then ((impl_GridOk.f kj57 t362 y384).bind fun t395 => (some t395)) else (some false))) else (some false)) = some r := by rw [if_pos rfl] at H; exact H
             clear H
             have H := H1
             clear H1
             by_cases c85 : t392 = true
             ·subst c85
              have H1 : ((laws_llGrid.f kj57 t388 t389 t362 y384).bind fun t394 => (if t394 = true then ((impl_GridOk.f kj57 t362 y384).bind fun t395 => (some t395)) else (some false))) = some r := by rw [if_pos rfl] at H; exact H
              clear H
              have H := H1
              clear H1
              replace H := Option.bind_eq_some_iff.mp H
              obtain ⟨t394, A860, H⟩ := H
              replace H : (if t394 = true then ((impl_GridOk.f kj57 t362 y384).bind fun t395 => (some t395)) else (some false)) = some r := H
              have A86 := Aside0.mk A860
              clear A860
              by_cases c87 : t394 = true
              ·subst c87
               have H1 : ((impl_GridOk.f kj57 t362 y384).bind fun t395 => (some t395)) = some r := by rw [if_pos rfl] at H; exact H
               clear H
               have H := H1
               clear H1
               replace H := Option.bind_eq_some_iff.mp H
               obtain ⟨t395, A880, H⟩ := H
               replace H : (some t395) = some r := H
               have A88 := Aside0.mk A880
               clear A880
               obtain rfl := Option.some.inj H
               go_wp2_with (first | ((with_reducible refine gate_callee (f := 16) rfl ?_); refine goesL_ (some 85) rfl rfl Try.func16 (by kernel_rfl) rfl #[.string (t372 ++ t373)] rfl (by first | rfl | (simp only [List.map_toArray, List.map_cons, List.map_nil, List.length_drop, List.length_take]; try rfl)) ?_; (with_reducible refine (impl_GridRead.calls kj57 (t372 ++ t373) t388 t389 true _ A83.out).mono ?_); rintro e w89 ⟨v390, rfl, ho0, hb⟩; refine ⟨_, rfl, ?_⟩; have n0_ := Aside0.mk (Kd.Q_elder' (by (with_reducible repeat apply Kd.Q_alloc); exact HO_367001.out) (Kd.R_base ho0) hb); have n1_ := Aside0.mk (Kd.Q_elder' (by (with_reducible repeat apply Kd.Q_alloc); exact HO_372001.out) (Kd.R_base ho0) hb); have n2_ := Aside0.mk (Kd.Q_elder' (by (with_reducible repeat apply Kd.Q_alloc); exact HO_388001.out) (Kd.R_base ho0) hb); have n3_ := Aside0.mk (Kd.R_lower (Kd.R_new' (Kd.R_new' (Kd.R_new' ho0 (Kd.Q_lt (by (with_reducible repeat apply Kd.Q_alloc); exact HO_367001.out))) (Kd.Q_lt (by (with_reducible repeat apply Kd.Q_alloc); exact HO_372001.out))) (Kd.Q_lt (by (with_reducible repeat apply Kd.Q_alloc); exact HO_388001.out))) (below_size (by repeat first | exact HB.out | with_reducible refine below_setA ?_ ‹_› | apply below_alloc | apply pw_below_drewN))); have n4_ := Aside0.mk (blk_below (bK BK366.out) hb); have n5_ := Aside0.mk (blk_below (bK BK371.out) hb); have n6_ := Aside0.mk (blk_below (bK BK387.out) hb); have n7_ := Aside0.mk (below_step (by repeat first | exact HB.out | with_reducible refine below_setA ?_ ‹_› | apply below_alloc | apply pw_below_drewN) hb); clear HO_367001; clear HO_372001; clear HO_388001; clear BK366; clear BK371; clear BK387; clear HB; have HO_367001 := n0_; have HO_372001 := n1_; have HO_388001 := n2_; have HO391 := n3_; have BK366 := n4_; have BK371 := n5_; have BK387 := n6_; have HB := n7_; clear n0_ n1_ n2_ n3_ n4_ n5_ n6_ n7_; (try clear hb); (try clear hb2); (try clear hk); (try clear hi); (try clear ho0)) | ((with_reducible refine gate_dst (N := 11) rfl ?_); (try (refine gate_guard (by rfl) ?_; dsimp only)); refine box_event rfl (N := 11) rfl (cs := #[.int .i64 0, .slice none 0 0]) (t := 29) ?hr ?_; (case hr => first | (go_simp; done) | (go_simp; rfl)); intro gb393 hg w90 hbox hb; have n0_ := Aside0.mk (Kd.Q_below (by (with_reducible repeat apply Kd.Q_alloc); exact HO_367001.out) hb); have n1_ := Aside0.mk (Kd.Q_below (by (with_reducible repeat apply Kd.Q_alloc); exact HO_372001.out) hb); have n2_ := Aside0.mk (Kd.Q_below (by (with_reducible repeat apply Kd.Q_alloc); exact HO_388001.out) hb); have n3_ := Aside0.mk (Kd.R_below (kR HO391.out) hb); have n4_ := Aside0.mk (blk_below (bK BK366.out) hb); have n5_ := Aside0.mk (blk_below (bK BK371.out) hb); have n6_ := Aside0.mk (blk_below (bK BK387.out) hb); have n7_ := Aside0.mk (below_step (by repeat first | exact HB.out | with_reducible refine below_setA ?_ ‹_› | apply below_alloc | apply pw_below_drewN) hb); have n8_ := Aside0.mk (hbox); have n9_ := Aside0.mk ((by rw [hg]; exact (below_size (by repeat first | exact HB.out | with_reducible refine below_setA ?_ ‹_› | apply below_alloc | apply pw_below_drewN)) : w.heap.size ≤ gb393)); have n10_ := n9_; have n11_ := Aside0.mk ((by rw [hg]; exact Nat.ne_of_lt (blk_lt (bK BK366.out)) : gb366 ≠ gb393)); have n12_ := Aside0.mk ((by rw [hg]; exact Nat.ne_of_gt (blk_lt (bK BK366.out)) : gb393 ≠ gb366)); have n13_ := Aside0.mk ((by rw [hg]; exact Nat.ne_of_lt (blk_lt (bK BK371.out)) : gb371 ≠ gb393)); have n14_ := Aside0.mk ((by rw [hg]; exact Nat.ne_of_gt (blk_lt (bK BK371.out)) : gb393 ≠ gb371)); have n15_ := Aside0.mk ((by rw [hg]; exact Nat.ne_of_lt (blk_lt (bK BK387.out)) : gb387 ≠ gb393)); have n16_ := Aside0.mk ((by rw [hg]; exact Nat.ne_of_gt (blk_lt (bK BK387.out)) : gb393 ≠ gb387)); clear HO_367001; clear HO_372001; clear HO_388001; clear HO391; clear BK366; clear BK371; clear BK387; clear HB; have HO_367001 := n0_; have HO_372001 := n1_; have HO_388001 := n2_; have HO391 := n3_; have BK366 := n4_; have BK371 := n5_; have BK387 := n6_; have HB := n7_; have BK393 := n8_; have GW393 := n9_; have GE393 := n10_; have NB366_393 := n11_; have NB393_366 := n12_; have NB371_393 := n13_; have NB393_371 := n14_; have NB387_393 := n15_; have NB393_387 := n16_; clear n0_ n1_ n2_ n3_ n4_ n5_ n6_ n7_ n8_ n9_ n10_ n11_ n12_ n13_ n14_ n15_ n16_; clear hb hbox hg; have hnb91 := NB393_366.out; have hnc91 := NB366_393.out; have hnb92 := NB393_371.out; have hnc92 := NB371_393.out; have hnb93 := NB393_387.out; have hnc93 := NB387_393.out; have hcz94_0 : w90.cell? ⟨gb393, 0, none⟩ = some (.int .i64 0) := (blk_cell BK393.out 0).trans rfl; have hcz94_1 : w90.cell? ⟨gb393, 1, none⟩ = some (.slice none 0 0) := (blk_cell BK393.out 1).trans rfl; have hfz94_0 := blk_frozen BK393.out 0; have hfz94_1 := blk_frozen BK393.out 1; obtain ⟨Ao95, co95, eo95⟩ := Kd.R_slice HO391.out; subst eo95; have hnb96 := NB387_366.out; have hnc96 := NB366_387.out; have hnb97 := NB387_371.out; have hnc97 := NB371_387.out; have hcz98_0 : w90.cell? ⟨gb387, 0, none⟩ = some (.int .i64 t362) := (blk_cell BK387.out 0).trans rfl; have hcz98_1 : w90.cell? ⟨gb387, 1, none⟩ = some (.slice Ao67 y384.length co67) := (blk_cell BK387.out 1).trans rfl; have hfz98_0 := blk_frozen BK387.out 0; have hfz98_1 := blk_frozen BK387.out 1) | (go_at_call 23; (with_reducible refine (laws_llGrid.calls kj57 t388 _ _ t389 t362 _ _ y384 true _ ?side1 ?side2 ?side3 ?side4 A86.out).mono ?_); (case side1 => refine (Kd.R_reads' (e := 39) (base := w.heap.size) (ok := fun k_ => (((True ∧ some k_ ≠ (.slice Ao14 t363.length co14 : Value).ownBlock) ∧ some k_ ≠ (.slice Ao19 t368.length co19 : Value).ownBlock) ∧ some k_ ≠ (.slice Ao67 y384.length co67 : Value).ownBlock)) (n := t389.length) (c := co95) ?_).2.2; exact (by (with_reducible repeat apply Kd.R_alloc); exact (Kd.R_mono (Kd.R_far (p := ⟨gb393, 1, none⟩) (Kd.R_far (p := ⟨gb393, 0, none⟩) (Kd.R_types HO391.out BK393.out (by decide)) (fun _ hk => hk.2) (.int .i64 t388)) (fun _ hk => hk.2) (.slice Ao95 t389.length co95)) (fun _ h_ => h_.1)))); (case side2 => exact (Kd.R_reads' HO391.out).2.1); (case side3 => refine (Kd.Q_reads' (e := 39) (base := w.heap.size) (ok := fun k_ => ((some k_ ≠ (.slice Ao14 t363.length co14 : Value).ownBlock ∧ some k_ ≠ (.slice Ao19 t368.length co19 : Value).ownBlock) ∧ some k_ ≠ (.slice Ao95 t389.length co95 : Value).ownBlock)) (n := y384.length) (c := co67) ?_).2.2; exact (by (with_reducible repeat apply Kd.Q_alloc); exact (Kd.Q_mono (Kd.Q_far (p := ⟨gb393, 1, none⟩) (Kd.Q_far (p := ⟨gb393, 0, none⟩) (Kd.Q_types HO_388001.out BK393.out (by decide)) (fun _ hk => hk.2) (.int .i64 t388)) (fun _ hk => hk.2) (.slice Ao95 t389.length co95)) (fun _ h_ => h_.1)))); (case side4 => exact (Kd.Q_reads' HO_388001.out).2.1); rintro e w99 ⟨rfl, hb⟩; have n0_ := Aside0.mk (Kd.Q_below (by (with_reducible repeat apply Kd.Q_alloc); exact (Kd.Q_mono (Kd.Q_far (p := ⟨gb393, 1, none⟩) (Kd.Q_far (p := ⟨gb393, 0, none⟩) (Kd.Q_types HO_367001.out BK393.out (by decide)) (fun _ hk => hk.2) (.int .i64 t388)) (fun _ hk => hk.2) (.slice Ao95 t389.length co95)) (fun _ h_ => h_.1))) hb); have n1_ := Aside0.mk (Kd.Q_below (by (with_reducible repeat apply Kd.Q_alloc); exact (Kd.Q_mono (Kd.Q_far (p := ⟨gb393, 1, none⟩) (Kd.Q_far (p := ⟨gb393, 0, none⟩) (Kd.Q_types HO_372001.out BK393.out (by decide)) (fun _ hk => hk.2) (.int .i64 t388)) (fun _ hk => hk.2) (.slice Ao95 t389.length co95)) (fun _ h_ => h_.1))) hb); have n2_ := Aside0.mk (Kd.Q_below (by (with_reducible repeat apply Kd.Q_alloc); exact (Kd.Q_mono (Kd.Q_far (p := ⟨gb393, 1, none⟩) (Kd.Q_far (p := ⟨gb393, 0, none⟩) (Kd.Q_types HO_388001.out BK393.out (by decide)) (fun _ hk => hk.2) (.int .i64 t388)) (fun _ hk => hk.2) (.slice Ao95 t389.length co95)) (fun _ h_ => h_.1))) hb); have n3_ := Aside0.mk (Kd.R_below (by (with_reducible repeat apply Kd.R_alloc); exact (Kd.R_mono (Kd.R_far (p := ⟨gb393, 1, none⟩) (Kd.R_far (p := ⟨gb393, 0, none⟩) (Kd.R_types HO391.out BK393.out (by decide)) (fun _ hk => hk.2) (.int .i64 t388)) (fun _ hk => hk.2) (.slice Ao95 t389.length co95)) (fun _ h_ => h_.1))) hb); have n4_ := Aside0.mk (blk_below (g := gb366) (o := .cells #[.int .i64 t362, .slice Ao14 t363.length co14] 29 (0, 0)) (by (with_reducible repeat apply blk_alloc); refine blk_far ?_ NB366_393.out _; (with_reducible repeat apply blk_alloc); refine blk_far ?_ NB366_393.out _; (with_reducible repeat apply blk_alloc); exact BK366.out) hb); have n5_ := Aside0.mk (blk_below (g := gb371) (o := .cells #[.int .i64 t367, .slice Ao19 t368.length co19] 29 (0, 0)) (by (with_reducible repeat apply blk_alloc); refine blk_far ?_ NB371_393.out _; (with_reducible repeat apply blk_alloc); refine blk_far ?_ NB371_393.out _; (with_reducible repeat apply blk_alloc); exact BK371.out) hb); have n6_ := Aside0.mk (blk_below (g := gb387) (o := .cells #[.int .i64 t362, .slice Ao67 y384.length co67] 29 (0, 0)) (by (with_reducible repeat apply blk_alloc); refine blk_far ?_ NB387_393.out _; (with_reducible repeat apply blk_alloc); refine blk_far ?_ NB387_393.out _; (with_reducible repeat apply blk_alloc); exact BK387.out) hb); have n7_ := Aside0.mk (blk_below (g := gb393) (o := .cells #[.int .i64 t388, .slice Ao95 t389.length co95] 29 (0, 0)) (by (with_reducible repeat apply blk_alloc); refine blk_put (cs := #[.int .i64 t388, .slice none 0 0]) ?_ 1 _ rfl; (with_reducible repeat apply blk_alloc); refine blk_put (cs := #[.int .i64 0, .slice none 0 0]) ?_ 0 _ rfl; (with_reducible repeat apply blk_alloc); exact BK393.out) hb); have n8_ := Aside0.mk (below_step (by repeat first | exact HB.out | with_reducible refine below_setA ?_ ‹_› | apply below_alloc | apply pw_below_drewN) hb); clear HO_367001; clear HO_372001; clear HO_388001; clear HO391; clear BK366; clear BK371; clear BK387; clear BK393; clear HB; have HO_367001 := n0_; have HO_372001 := n1_; have HO_388001 := n2_; have HO391 := n3_; have BK366 := n4_; have BK371 := n5_; have BK387 := n6_; have BK393 := n7_; have HB := n8_; clear n0_ n1_ n2_ n3_ n4_ n5_ n6_ n7_ n8_; (try clear hb); (try clear hb2); (try clear hk); (try clear hi); have hcz100_0 : w99.cell? ⟨gb387, 0, none⟩ = some (.int .i64 t362) := (blk_cell BK387.out 0).trans rfl; have hcz100_1 : w99.cell? ⟨gb387, 1, none⟩ = some (.slice Ao67 y384.length co67) := (blk_cell BK387.out 1).trans rfl; have hfz100_0 := blk_frozen BK387.out 0; have hfz100_1 := blk_frozen BK387.out 1) | (go_at_call 24; (with_reducible refine (impl_GridOk.calls kj57 t362 _ _ y384 t395 _ ?side1 ?side2 A88.out).mono ?_); (case side1 => repeat (first | exact (Kd.Q_reads' HO_388001.out).2.2 | (with_reducible refine Kd.C_alloc ?_ _) | (with_reducible refine Kd.C_drewN ?_ _) | (with_reducible refine Kd.C_drew ?_))); (case side2 => exact (Kd.Q_reads' HO_388001.out).2.1); rintro e w101 ⟨rfl, hb⟩; have n0_ := Aside0.mk (Kd.Q_below (by (with_reducible repeat apply Kd.Q_alloc); exact HO_367001.out) hb); have n1_ := Aside0.mk (Kd.Q_below (by (with_reducible repeat apply Kd.Q_alloc); exact HO_372001.out) hb); have n2_ := Aside0.mk (Kd.Q_below (by (with_reducible repeat apply Kd.Q_alloc); exact HO_388001.out) hb); have n3_ := Aside0.mk (Kd.R_below (kR HO391.out) hb); have n4_ := Aside0.mk (blk_below (bK BK366.out) hb); have n5_ := Aside0.mk (blk_below (bK BK371.out) hb); have n6_ := Aside0.mk (blk_below (bK BK387.out) hb); have n7_ := Aside0.mk (blk_below (bK BK393.out) hb); have n8_ := Aside0.mk (below_step (by repeat first | exact HB.out | with_reducible refine below_setA ?_ ‹_› | apply below_alloc | apply pw_below_drewN) hb); clear HO_367001; clear HO_372001; clear HO_388001; clear HO391; clear BK366; clear BK371; clear BK387; clear BK393; clear HB; have HO_367001 := n0_; have HO_372001 := n1_; have HO_388001 := n2_; have HO391 := n3_; have BK366 := n4_; have BK371 := n5_; have BK387 := n6_; have BK393 := n7_; have HB := n8_; clear n0_ n1_ n2_ n3_ n4_ n5_ n6_ n7_ n8_; (try clear hb); (try clear hb2); (try clear hk); (try clear hi)))
               go_ret
               exact ⟨by first | rfl | (simp [errW_none, errW_some] <;> rfl) | (simp [*, errW_none, errW_some] <;> rfl) | (exfalso; simp_all; done), by repeat first | exact HB.out | with_reducible refine below_setA ?_ ‹_› | apply below_alloc | apply pw_below_drewN⟩
              ·replace c87 := Bool.eq_false_iff.mpr c87
               subst c87
               have H1 : (some false) = some r := by rw [if_neg (show ¬ (false = true) by decide)] at H; exact H
               clear H
               have H := H1
               clear H1
               obtain rfl := Option.some.inj H
               exact absurd HRT.out (by decide)
             ·replace c85 := Bool.eq_false_iff.mpr c85
              subst c85
              have H1 : (some false) = some r := by rw [if_neg (show ¬ (false = true) by decide)] at H; exact H
              clear H
              have H := H1
              clear H1
              obtain rfl := Option.some.inj H
              exact absurd HRT.out (by decide)
            ·replace c84 := Bool.eq_false_iff.mpr c84
             subst c84
             have H1 : (some (!t392)) = some r := by rw [if_neg (show ¬ (false = true) by decide)] at H; exact H
             clear H
             have H := H1
             clear H1
             obtain rfl := Option.some.inj H
             go_wp2_with (first | ((with_reducible refine gate_callee (f := 16) rfl ?_); refine goesL_ (some 85) rfl rfl Try.func16 (by kernel_rfl) rfl #[.string (t372 ++ t373)] rfl (by first | rfl | (simp only [List.map_toArray, List.map_cons, List.map_nil, List.length_drop, List.length_take]; try rfl)) ?_; (with_reducible refine (impl_GridRead.calls kj57 (t372 ++ t373) t388 t389 t392 _ A83.out).mono ?_); rintro e w102 ⟨v390, rfl, ho0, hb⟩; refine ⟨_, rfl, ?_⟩; have n0_ := Aside0.mk (Kd.Q_elder' (by (with_reducible repeat apply Kd.Q_alloc); exact HO_367001.out) (Kd.R_base ho0) hb); have n1_ := Aside0.mk (Kd.Q_elder' (by (with_reducible repeat apply Kd.Q_alloc); exact HO_372001.out) (Kd.R_base ho0) hb); have n2_ := Aside0.mk (Kd.Q_elder' (by (with_reducible repeat apply Kd.Q_alloc); exact HO_388001.out) (Kd.R_base ho0) hb); have n3_ := Aside0.mk (Kd.R_lower (Kd.R_new' (Kd.R_new' (Kd.R_new' ho0 (Kd.Q_lt (by (with_reducible repeat apply Kd.Q_alloc); exact HO_367001.out))) (Kd.Q_lt (by (with_reducible repeat apply Kd.Q_alloc); exact HO_372001.out))) (Kd.Q_lt (by (with_reducible repeat apply Kd.Q_alloc); exact HO_388001.out))) (below_size (by repeat first | exact HB.out | with_reducible refine below_setA ?_ ‹_› | apply below_alloc | apply pw_below_drewN))); have n4_ := Aside0.mk (blk_below (bK BK366.out) hb); have n5_ := Aside0.mk (blk_below (bK BK371.out) hb); have n6_ := Aside0.mk (blk_below (bK BK387.out) hb); have n7_ := Aside0.mk (below_step (by repeat first | exact HB.out | with_reducible refine below_setA ?_ ‹_› | apply below_alloc | apply pw_below_drewN) hb); clear HO_367001; clear HO_372001; clear HO_388001; clear BK366; clear BK371; clear BK387; clear HB; have HO_367001 := n0_; have HO_372001 := n1_; have HO_388001 := n2_; have HO391 := n3_; have BK366 := n4_; have BK371 := n5_; have BK387 := n6_; have HB := n7_; clear n0_ n1_ n2_ n3_ n4_ n5_ n6_ n7_; (try clear hb); (try clear hb2); (try clear hk); (try clear hi); (try clear ho0)) | ((with_reducible refine gate_dst (N := 11) rfl ?_); (try (refine gate_guard (by rfl) ?_; dsimp only)); refine box_event rfl (N := 11) rfl (cs := #[.int .i64 0, .slice none 0 0]) (t := 29) ?hr ?_; (case hr => first | (go_simp; done) | (go_simp; rfl)); intro gb393 hg w103 hbox hb; have n0_ := Aside0.mk (Kd.Q_below (by (with_reducible repeat apply Kd.Q_alloc); exact HO_367001.out) hb); have n1_ := Aside0.mk (Kd.Q_below (by (with_reducible repeat apply Kd.Q_alloc); exact HO_372001.out) hb); have n2_ := Aside0.mk (Kd.Q_below (by (with_reducible repeat apply Kd.Q_alloc); exact HO_388001.out) hb); have n3_ := Aside0.mk (Kd.R_below (kR HO391.out) hb); have n4_ := Aside0.mk (blk_below (bK BK366.out) hb); have n5_ := Aside0.mk (blk_below (bK BK371.out) hb); have n6_ := Aside0.mk (blk_below (bK BK387.out) hb); have n7_ := Aside0.mk (below_step (by repeat first | exact HB.out | with_reducible refine below_setA ?_ ‹_› | apply below_alloc | apply pw_below_drewN) hb); have n8_ := Aside0.mk (hbox); have n9_ := Aside0.mk ((by rw [hg]; exact (below_size (by repeat first | exact HB.out | with_reducible refine below_setA ?_ ‹_› | apply below_alloc | apply pw_below_drewN)) : w.heap.size ≤ gb393)); have n10_ := n9_; have n11_ := Aside0.mk ((by rw [hg]; exact Nat.ne_of_lt (blk_lt (bK BK366.out)) : gb366 ≠ gb393)); have n12_ := Aside0.mk ((by rw [hg]; exact Nat.ne_of_gt (blk_lt (bK BK366.out)) : gb393 ≠ gb366)); have n13_ := Aside0.mk ((by rw [hg]; exact Nat.ne_of_lt (blk_lt (bK BK371.out)) : gb371 ≠ gb393)); have n14_ := Aside0.mk ((by rw [hg]; exact Nat.ne_of_gt (blk_lt (bK BK371.out)) : gb393 ≠ gb371)); have n15_ := Aside0.mk ((by rw [hg]; exact Nat.ne_of_lt (blk_lt (bK BK387.out)) : gb387 ≠ gb393)); have n16_ := Aside0.mk ((by rw [hg]; exact Nat.ne_of_gt (blk_lt (bK BK387.out)) : gb393 ≠ gb387)); clear HO_367001; clear HO_372001; clear HO_388001; clear HO391; clear BK366; clear BK371; clear BK387; clear HB; have HO_367001 := n0_; have HO_372001 := n1_; have HO_388001 := n2_; have HO391 := n3_; have BK366 := n4_; have BK371 := n5_; have BK387 := n6_; have HB := n7_; have BK393 := n8_; have GW393 := n9_; have GE393 := n10_; have NB366_393 := n11_; have NB393_366 := n12_; have NB371_393 := n13_; have NB393_371 := n14_; have NB387_393 := n15_; have NB393_387 := n16_; clear n0_ n1_ n2_ n3_ n4_ n5_ n6_ n7_ n8_ n9_ n10_ n11_ n12_ n13_ n14_ n15_ n16_; clear hb hbox hg; have hnb104 := NB393_366.out; have hnc104 := NB366_393.out; have hnb105 := NB393_371.out; have hnc105 := NB371_393.out; have hnb106 := NB393_387.out; have hnc106 := NB387_393.out; have hcz107_0 : w103.cell? ⟨gb393, 0, none⟩ = some (.int .i64 0) := (blk_cell BK393.out 0).trans rfl; have hcz107_1 : w103.cell? ⟨gb393, 1, none⟩ = some (.slice none 0 0) := (blk_cell BK393.out 1).trans rfl; have hfz107_0 := blk_frozen BK393.out 0; have hfz107_1 := blk_frozen BK393.out 1; obtain ⟨Ao108, co108, eo108⟩ := Kd.R_slice HO391.out; subst eo108))
             go_ret
             exact ⟨by first | rfl | (simp [errW_none, errW_some] <;> rfl) | (simp [*, errW_none, errW_some] <;> rfl) | (exfalso; simp_all; done), by repeat first | exact HB.out | with_reducible refine below_setA ?_ ‹_› | apply below_alloc | apply pw_below_drewN⟩
           ·rw [if_neg c82] at H
            exact absurd H (by simp)
        ·rw [if_neg c57] at H
         exact absurd H (by simp)
       ·rw [if_neg c56] at H
        exact absurd H (by simp)

/-- THE ONE PURE STATEMENT of laws_FnGridStack: yours. -/
def laws_FnGridStack.Pure : Prop := ∀ (l0 : List Int) (l1 : List Int), l0.length ≤ maxLen → l0.length * 1 ≤ 140737488351232 → (∀ x ∈ l0, (Lit.int .u8 x).wf = true) → l1.length ≤ maxLen → l1.length * 1 ≤ 140737488351232 → (∀ x ∈ l1, (Lit.int .u8 x).wf = true) → ∃ k, laws_FnGridStack.f k l0 l1 = some true
theorem laws_FnGridStack.walk (P : laws_FnGridStack.Pure) (a0 : Option Addr) (len0 cap0 : Nat) (z0 : List Int) (a1 : Option Addr) (len1 cap1 : Nat) (z1 : List Int) (w : World) (w0 : (a0 = none ∧ len0 = 0 ∧ cap0 = 0 ∧ z0 = []) ∨ ∃ x, a0 = some x ∧ len0 ≤ cap0 ∧ cap0 ≤ maxLen ∧ z0.length = cap0 ∧ (∀ i, i < z0.length → w.cell? (x.add i) = some (.int .u8 (z0.getD i 0))) ∧ ∀ n ∈ z0, (Lit.int .u8 n).wf = true) (y0 : len0 * 1 ≤ 140737488351232) (w1 : (a1 = none ∧ len1 = 0 ∧ cap1 = 0 ∧ z1 = []) ∨ ∃ x, a1 = some x ∧ len1 ≤ cap1 ∧ cap1 ≤ maxLen ∧ z1.length = cap1 ∧ (∀ i, i < z1.length → w.cell? (x.add i) = some (.int .u8 (z1.getD i 0))) ∧ ∀ n ∈ z1, (Lit.int .u8 n).wf = true) (y1 : len1 * 1 ≤ 140737488351232) :
  Calls Try.prog 8 #[.slice a0 len0 cap0, .slice a1 len1 cap1] w fun e w' => e = .returned (.bool true) ∧ Below w.heap.size w w' := by
 obtain ⟨l0, rfl, hr0, hm0, hw0, hc0⟩ := ReadsInt.ofRowC w0
 obtain ⟨l1, rfl, hr1, hm1, hw1, hc1⟩ := ReadsInt.ofRowC w1
 obtain ⟨k, h⟩ := P l0 l1 hm0 y0 hw0 hm1 y1 hw1
 refine (laws_FnGridStack.calls k _ _ l0 _ _ l1 true w (Kd.C_of_reads (d := (0 : Int)) (h1 := fun _ => rfl) hr0) hc0 (Kd.C_of_reads (d := (0 : Int)) (h1 := fun _ => rfl) hr1) hc1 h rfl).mono ?_
 rintro e w' ⟨rfl, hd⟩
 exact ⟨rfl, hd⟩

end Go.Proofs.Ytpjdhpkfenohgaa.P
