/- PROVED: contracts of functions; written by this session's driver (pk.py). No condition. -/
import Derived.Test.YtpjdhpkfenohgaaPx0
import Derived.Test.YtpjdhpkfenohgaaPx14
import Derived.Test.YtpjdhpkfenohgaaPx23
import Derived.Test.YtpjdhpkfenohgaaPx30
import Derived.Test.YtpjdhpkfenohgaaH3GridText
namespace Go.Proofs.Ytpjdhpkfenohgaa.P
open Go.RowKit Go.Proofs.YtpjdhpkfenohgaaW.PrintWords Go.Proofs.YtpjdhpkfenohgaaW.PrintLast Go.Proofs.YtpjdhpkfenohgaaW.PrintMore
attribute [local go_sem] max2_int min2_int max_two min_two max_three min_three max_four min_four   -- for this text's walks alone
set_option linter.unusedVariables false
set_option linter.unusedSimpArgs false

/-! ### laws_FnGridOne: function 6 -/
mutual
def laws_FnGridOne.j0 : Nat → List Int → List Int → Bool → Option (Bool)
 | 0, _, _, _ => none
 | k + 1, x0, x1, x16 => if x16 = true then (some true) else ((spec_DrawGridText.f k x0).bind fun bt329 => ((spec_DrawGridText.f k x1).bind fun bt334 => ((impl_GridText.f k bt329.1 bt329.2).bind fun t339 => ((impl_GridText.f k bt334.1 bt334.2).bind fun t340 => ((spec_GridText.f k bt329.1 bt329.2).bind fun t341 => (if t339.toList = t341.toList then ((spec_GridText.f k bt334.1 bt334.2).bind fun t342 => (if t340.toList = t342.toList then (if t339.toList = ([] : List UInt8) then (laws_FnGridOne.j1 k t339 t340 true bt329.1 bt329.2 bt334.1 bt334.2) else (laws_FnGridOne.j1 k t339 t340 (t340.toList == ([] : List UInt8)) bt329.1 bt329.2 bt334.1 bt334.2)) else (laws_FnGridOne.j1 k t339 t340 true bt329.1 bt329.2 bt334.1 bt334.2))) else (laws_FnGridOne.j1 k t339 t340 true bt329.1 bt329.2 bt334.1 bt334.2)))))))
def laws_FnGridOne.j1 : Nat → ByteArray → ByteArray → Bool → Int → List (S39) → Int → List (S39) → Option (Bool)
 | 0, _, _, _, _, _, _, _ => none
 | k + 1, x7, x8, x42, x334000, x334001, x339000, x339001 => if x42 = true then ((spec_GridText.f k x334000 x334001).bind fun t343 => (if x7.toList = t343.toList then ((spec_GridText.f k x339000 x339001).bind fun t344 => (some (x8.toList == t344.toList))) else (some false))) else ((laws_llGrid.f k x334000 x334001 x339000 x339001).bind fun t345 => (some ((x7.toList == x8.toList) == t345)))
end
def laws_FnGridOne.f (k : Nat) (l0 : List Int) (l1 : List Int) : Option (Bool) := if (l0.length : Int) > 1048576 then (laws_FnGridOne.j0 k l0 l1 true) else (laws_FnGridOne.j0 k l0 l1 (decide ((l1.length : Int) > 1048576)))
set_option maxHeartbeats 8000000 in
set_option maxRecDepth 100000 in
theorem laws_FnGridOne.calls (k : Nat) (A0 : Option Addr) (c0 : Nat) (l0 : List Int) (A1 : Option Addr) (c1 : Nat) (l1 : List Int) (r : Bool) (w : World) (hr0 : Kd.C (Kd.int .u8) w A0 l0.length l0) (hc0 : l0.length ≤ c0) (hr1 : Kd.C (Kd.int .u8) w A1 l1.length l1) (hc1 : l1.length ≤ c1) (h : laws_FnGridOne.f k l0 l1 = some r) (hrt : r = true) :
  Calls Try.prog 6 #[.slice A0 l0.length c0, .slice A1 l1.length c1] w fun e w' => e = .returned (.bool r) ∧ Below w.heap.size w w' := by
 have HRT := Aside0.mk hrt
 clear hrt
 have hu29 := Try.underlying29
 have HR0 := Aside0.mk hr0
 have HC0 := Aside0.mk hc0
 clear hr0 hc0
 have HR1 := Aside0.mk hr1
 have HC1 := Aside0.mk hc1
 clear hr1 hc1
 have HB := Aside0.mk (Below.refl w.heap.size w)
 have H : (if (l0.length : Int) > 1048576 then (laws_FnGridOne.j0 k l0 l1 true) else (laws_FnGridOne.j0 k l0 l1 (decide ((l1.length : Int) > 1048576)))) = some r := h
 clear h
 have HC3 := Aside0.mk H
 clear H
 go_enter Try.func6, Try.ntmps6
 go_upto_region 1 with (fail)
 go_cut [16] (fun v16 wc => ∃ (kq : Nat) (x16_2 : Bool), v16 = .bool x16_2 ∧ Aside0 (laws_FnGridOne.j0 kq l0 l1 x16_2 = some r) ∧ Aside0 (kq ≤ k) ∧ Aside0 (Below w.heap.size w wc))
 case first =>
  have H := HC3.out
  clear HC3
  by_cases c4 : (l0.length : Int) > 1048576
  ·rw [if_pos c4] at H
   have c4b0 : decide (1048576 < (l0.length : Int)) = true := decide_eq_true c4
   have c4b1 : decide (1048576 < l0.length) = true := decide_eq_true (by omega)
   clear c4
   (first | rw [c4b0] | (simp only [i64_w, i32_w]; rw [c4b0]) | skip)
   have H' := Aside0.mk H
   clear H
   go_wp2
   go_meet
   case rel => exact ⟨_, (true), (by first | rfl | (simp; done) | (simp [*]; done)), H', ⟨by first | omega | exact Nat.le_refl _⟩, ⟨by repeat first | exact HB.out | apply below_alloc | apply pw_below_drewN⟩⟩
  ·rw [if_neg c4] at H
   have c4b0 : decide (1048576 < (l0.length : Int)) = false := decide_eq_false c4
   have c4b1 : decide (1048576 < l0.length) = false := decide_eq_false (by omega)
   clear c4
   (first | rw [c4b0] | (simp only [i64_w, i32_w]; rw [c4b0]) | skip)
   have H' := Aside0.mk H
   clear H
   go_wp2
   go_meet
   case rel => exact ⟨_, (decide ((l1.length : Int) > 1048576)), (by first | rfl | (simp; done) | (simp [*]; done)), H', ⟨by first | omega | exact Nat.le_refl _⟩, ⟨by repeat first | exact HB.out | apply below_alloc | apply pw_below_drewN⟩⟩
 case rest =>
  clear HC3
  try clear c1
  try clear p2
  try clear c4
  try clear c4b0
  try clear c4b1
  obtain ⟨kq, x16_2, rfl, HA, HJ2, HB⟩ := hcut
  cases kq with
  | zero => exact absurd HA.out (by simp [laws_FnGridOne.j0])
  | succ kj2 =>
   have H := HA.out
   clear HA
   simp only [laws_FnGridOne.j0] at H
   by_cases c5 : x16_2 = true
   ·subst c5
    have H1 : (some true) = some r := by rw [if_pos rfl] at H; exact H
    clear H
    have H := H1
    clear H1
    obtain rfl := Option.some.inj H
    go_wp2
    go_ret
    exact ⟨by first | rfl | (simp [errW_none, errW_some] <;> rfl) | (simp [*, errW_none, errW_some] <;> rfl) | (exfalso; simp_all; done), by repeat first | exact HB.out | apply below_alloc | apply pw_below_drewN⟩
   ·replace c5 := Bool.eq_false_iff.mpr c5
    subst c5
    have H1 : ((spec_DrawGridText.f kj2 l0).bind fun bt329 => ((spec_DrawGridText.f kj2 l1).bind fun bt334 => ((impl_GridText.f kj2 bt329.1 bt329.2).bind fun t339 => ((impl_GridText.f kj2 bt334.1 bt334.2).bind fun t340 => ((spec_GridText.f kj2 bt329.1 bt329.2).bind fun t341 => (if t339.toList = t341.toList then ((spec_GridText.f kj2 bt334.1 bt334.2).bind fun t342 => (if t340.toList = t342.toList then (if t339.toList = ([] : List UInt8) then (laws_FnGridOne.j1 kj2 t339 t340 true bt329.1 bt329.2 bt334.1 bt334.2) else (laws_FnGridOne.j1 kj2 t339 t340 (t340.toList == ([] : List UInt8)) bt329.1 bt329.2 bt334.1 bt334.2)) else (laws_FnGridOne.j1 kj2 t339 t340 true bt329.1 bt329.2 bt334.1 bt334.2))) else (laws_FnGridOne.j1 kj2 t339 t340 true bt329.1 bt329.2 bt334.1 bt334.2))))))) = some r := by rw [if_neg (show ¬ (false = true) by decide)] at H; exact H
    clear H
    have H := H1
    clear H1
    replace H := Option.bind_eq_some_iff.mp H
    obtain ⟨⟨t329, t330⟩, A60, H⟩ := H
    replace H : ((spec_DrawGridText.f kj2 l1).bind fun bt334 => ((impl_GridText.f kj2 t329 t330).bind fun t339 => ((impl_GridText.f kj2 bt334.1 bt334.2).bind fun t340 => ((spec_GridText.f kj2 t329 t330).bind fun t341 => (if t339.toList = t341.toList then ((spec_GridText.f kj2 bt334.1 bt334.2).bind fun t342 => (if t340.toList = t342.toList then (if t339.toList = ([] : List UInt8) then (laws_FnGridOne.j1 kj2 t339 t340 true t329 t330 bt334.1 bt334.2) else (laws_FnGridOne.j1 kj2 t339 t340 (t340.toList == ([] : List UInt8)) t329 t330 bt334.1 bt334.2)) else (laws_FnGridOne.j1 kj2 t339 t340 true t329 t330 bt334.1 bt334.2))) else (laws_FnGridOne.j1 kj2 t339 t340 true t329 t330 bt334.1 bt334.2)))))) = some r := H
    have A6 := Aside0.mk A60
    clear A60
    replace H := Option.bind_eq_some_iff.mp H
    obtain ⟨⟨t334, t335⟩, A70, H⟩ := H
    replace H : ((impl_GridText.f kj2 t329 t330).bind fun t339 => ((impl_GridText.f kj2 t334 t335).bind fun t340 => ((spec_GridText.f kj2 t329 t330).bind fun t341 => (if t339.toList = t341.toList then ((spec_GridText.f kj2 t334 t335).bind fun t342 => (if t340.toList = t342.toList then (if t339.toList = ([] : List UInt8) then (laws_FnGridOne.j1 kj2 t339 t340 true t329 t330 t334 t335) else (laws_FnGridOne.j1 kj2 t339 t340 (t340.toList == ([] : List UInt8)) t329 t330 t334 t335)) else (laws_FnGridOne.j1 kj2 t339 t340 true t329 t330 t334 t335))) else (laws_FnGridOne.j1 kj2 t339 t340 true t329 t330 t334 t335))))) = some r := H
    have A7 := Aside0.mk A70
    clear A70
    replace H := Option.bind_eq_some_iff.mp H
    obtain ⟨t339, A80, H⟩ := H
    replace H : ((impl_GridText.f kj2 t334 t335).bind fun t340 => ((spec_GridText.f kj2 t329 t330).bind fun t341 => (if t339.toList = t341.toList then ((spec_GridText.f kj2 t334 t335).bind fun t342 => (if t340.toList = t342.toList then (if t339.toList = ([] : List UInt8) then (laws_FnGridOne.j1 kj2 t339 t340 true t329 t330 t334 t335) else (laws_FnGridOne.j1 kj2 t339 t340 (t340.toList == ([] : List UInt8)) t329 t330 t334 t335)) else (laws_FnGridOne.j1 kj2 t339 t340 true t329 t330 t334 t335))) else (laws_FnGridOne.j1 kj2 t339 t340 true t329 t330 t334 t335)))) = some r := H
    have A8 := Aside0.mk A80
    clear A80
    replace H := Option.bind_eq_some_iff.mp H
    obtain ⟨t340, A90, H⟩ := H
    replace H : ((spec_GridText.f kj2 t329 t330).bind fun t341 => (if t339.toList = t341.toList then ((spec_GridText.f kj2 t334 t335).bind fun t342 => (if t340.toList = t342.toList then (if t339.toList = ([] : List UInt8) then (laws_FnGridOne.j1 kj2 t339 t340 true t329 t330 t334 t335) else (laws_FnGridOne.j1 kj2 t339 t340 (t340.toList == ([] : List UInt8)) t329 t330 t334 t335)) else (laws_FnGridOne.j1 kj2 t339 t340 true t329 t330 t334 t335))) else (laws_FnGridOne.j1 kj2 t339 t340 true t329 t330 t334 t335))) = some r := H
    have A9 := Aside0.mk A90
    clear A90
    have HC10 := Aside0.mk H
    clear H
    go_upto_region 7 with (first | ((with_reducible refine gate_callee (f := 22) rfl ?_); refine goesL_ (some 18) rfl rfl Try.func22 (by kernel_rfl) rfl #[.slice A0 l0.length c0] rfl (by first | rfl | (simp only [List.map_toArray, List.map_cons, List.map_nil, List.length_drop, List.length_take]; try rfl)) ?_; (with_reducible refine (spec_DrawGridText.calls kj2 _ _ l0 t329 t330 _ ?side1 ?side2 A6.out).mono ?_); (case side1 => repeat (first | exact (Kd.C_below HR0.out HB.out) | (with_reducible refine Kd.C_alloc ?_ _) | (with_reducible refine Kd.C_drewN ?_ _) | (with_reducible refine Kd.C_drew ?_))); (case side2 => exact HC0.out); rintro e w11 ⟨v331, rfl, ho0, hb⟩; refine ⟨_, rfl, ?_⟩; have n0_ := Aside0.mk (Kd.Q_lower ho0 (below_size (by repeat first | exact HB.out | apply below_alloc | apply pw_below_drewN))); have n1_ := Aside0.mk (below_step (by repeat first | exact HB.out | apply below_alloc | apply pw_below_drewN) hb); clear HB; have HO332 := n0_; have HB := n1_; clear n0_ n1_; (try clear hb); (try clear hb2); (try clear hk); (try clear hi); (try clear ho0)) | ((with_reducible refine gate_dst (N := 5) rfl ?_); (try (refine gate_guard (by rfl) ?_; dsimp only)); refine box_event rfl (N := 5) rfl (cs := #[.int .i64 0, .slice none 0 0]) (t := 29) ?hr ?_; (case hr => first | (go_simp; done) | (go_simp; rfl)); intro gb333 hg w12 hbox hb; have n0_ := Aside0.mk (Kd.Q_below (by (with_reducible repeat apply Kd.Q_alloc); exact HO332.out) hb); have n1_ := Aside0.mk (below_step (by repeat first | exact HB.out | apply below_alloc | apply pw_below_drewN) hb); have n2_ := Aside0.mk (hbox); have n3_ := Aside0.mk ((by rw [hg]; exact (below_size (by repeat first | exact HB.out | apply below_alloc | apply pw_below_drewN)) : w.heap.size ≤ gb333)); have n4_ := n3_; clear HO332; clear HB; have HO332 := n0_; have HB := n1_; have BK333 := n2_; have GW333 := n3_; have GE333 := n4_; clear n0_ n1_ n2_ n3_ n4_; clear hb hbox hg; have hcz13_0 : w12.cell? ⟨gb333, 0, none⟩ = some (.int .i64 0) := (blk_cell BK333.out 0).trans rfl; have hcz13_1 : w12.cell? ⟨gb333, 1, none⟩ = some (.slice none 0 0) := (blk_cell BK333.out 1).trans rfl; have hfz13_0 := blk_frozen BK333.out 0; have hfz13_1 := blk_frozen BK333.out 1; obtain ⟨Ao14, co14, eo14, _⟩ := Kd.Q_slice HO332.out; subst eo14) | ((with_reducible refine gate_callee (f := 22) rfl ?_); refine goesL_ (some 20) rfl rfl Try.func22 (by kernel_rfl) rfl #[.slice A1 l1.length c1] rfl (by first | rfl | (simp only [List.map_toArray, List.map_cons, List.map_nil, List.length_drop, List.length_take]; try rfl)) ?_; (with_reducible refine (spec_DrawGridText.calls kj2 _ _ l1 t334 t335 _ ?side1 ?side2 A7.out).mono ?_); (case side1 => exact Kd.C_below HR1.out (by repeat first | exact HB.out | with_reducible refine below_setA ?_ ‹_› | apply below_alloc | apply pw_below_drewN)); (case side2 => exact HC1.out); rintro e w15 ⟨v336, rfl, ho0, hb⟩; refine ⟨_, rfl, ?_⟩; have n0_ := Aside0.mk (Kd.Q_elder' (by (with_reducible repeat apply Kd.Q_alloc); exact (Kd.Q_mono (Kd.Q_far (p := ⟨gb333, 1, none⟩) (Kd.Q_far (p := ⟨gb333, 0, none⟩) (Kd.Q_types HO332.out BK333.out (by decide)) (fun _ hk => hk.2) (.int .i64 t329)) (fun _ hk => hk.2) (.slice Ao14 t330.length co14)) (fun _ h_ => h_.1))) (Kd.Q_base ho0) hb); have n1_ := Aside0.mk (Kd.Q_lower (Kd.Q_new' ho0 (Kd.Q_lt (by (with_reducible repeat apply Kd.Q_alloc); exact (Kd.Q_mono (Kd.Q_far (p := ⟨gb333, 1, none⟩) (Kd.Q_far (p := ⟨gb333, 0, none⟩) (Kd.Q_types HO332.out BK333.out (by decide)) (fun _ hk => hk.2) (.int .i64 t329)) (fun _ hk => hk.2) (.slice Ao14 t330.length co14)) (fun _ h_ => h_.1))))) (below_size (by repeat first | exact HB.out | with_reducible refine below_setA ?_ ‹_› | apply below_alloc | apply pw_below_drewN))); have n2_ := Aside0.mk (blk_below (g := gb333) (o := .cells #[.int .i64 t329, .slice Ao14 t330.length co14] 29 (0, 0)) (by (with_reducible repeat apply blk_alloc); refine blk_put (cs := #[.int .i64 t329, .slice none 0 0]) ?_ 1 _ rfl; (with_reducible repeat apply blk_alloc); refine blk_put (cs := #[.int .i64 0, .slice none 0 0]) ?_ 0 _ rfl; (with_reducible repeat apply blk_alloc); exact BK333.out) hb); have n3_ := Aside0.mk (below_step (by repeat first | exact HB.out | with_reducible refine below_setA ?_ ‹_› | apply below_alloc | apply pw_below_drewN) hb); clear HO332; clear BK333; clear HB; have HO332 := n0_; have HO337 := n1_; have BK333 := n2_; have HB := n3_; clear n0_ n1_ n2_ n3_; (try clear hb); (try clear hb2); (try clear hk); (try clear hi); (try clear ho0)) | ((with_reducible refine gate_dst (N := 6) rfl ?_); (try (refine gate_guard (by rfl) ?_; dsimp only)); refine box_event rfl (N := 6) rfl (cs := #[.int .i64 0, .slice none 0 0]) (t := 29) ?hr ?_; (case hr => first | (go_simp; done) | (go_simp; rfl)); intro gb338 hg w16 hbox hb; have n0_ := Aside0.mk (Kd.Q_below (by (with_reducible repeat apply Kd.Q_alloc); exact HO332.out) hb); have n1_ := Aside0.mk (Kd.Q_below (by (with_reducible repeat apply Kd.Q_alloc); exact HO337.out) hb); have n2_ := Aside0.mk (blk_below (bK BK333.out) hb); have n3_ := Aside0.mk (below_step (by repeat first | exact HB.out | with_reducible refine below_setA ?_ ‹_› | apply below_alloc | apply pw_below_drewN) hb); have n4_ := Aside0.mk (hbox); have n5_ := Aside0.mk ((by rw [hg]; exact (below_size (by repeat first | exact HB.out | with_reducible refine below_setA ?_ ‹_› | apply below_alloc | apply pw_below_drewN)) : w.heap.size ≤ gb338)); have n6_ := n5_; have n7_ := Aside0.mk ((by rw [hg]; exact Nat.ne_of_lt (blk_lt (bK BK333.out)) : gb333 ≠ gb338)); have n8_ := Aside0.mk ((by rw [hg]; exact Nat.ne_of_gt (blk_lt (bK BK333.out)) : gb338 ≠ gb333)); clear HO332; clear HO337; clear BK333; clear HB; have HO332 := n0_; have HO337 := n1_; have BK333 := n2_; have HB := n3_; have BK338 := n4_; have GW338 := n5_; have GE338 := n6_; have NB333_338 := n7_; have NB338_333 := n8_; clear n0_ n1_ n2_ n3_ n4_ n5_ n6_ n7_ n8_; clear hb hbox hg; have hnb17 := NB338_333.out; have hnc17 := NB333_338.out; have hcz18_0 : w16.cell? ⟨gb338, 0, none⟩ = some (.int .i64 0) := (blk_cell BK338.out 0).trans rfl; have hcz18_1 : w16.cell? ⟨gb338, 1, none⟩ = some (.slice none 0 0) := (blk_cell BK338.out 1).trans rfl; have hfz18_0 := blk_frozen BK338.out 0; have hfz18_1 := blk_frozen BK338.out 1; obtain ⟨Ao19, co19, eo19, _⟩ := Kd.Q_slice HO337.out; subst eo19; have hcz20_0 : w16.cell? ⟨gb333, 0, none⟩ = some (.int .i64 t329) := (blk_cell BK333.out 0).trans rfl; have hcz20_1 : w16.cell? ⟨gb333, 1, none⟩ = some (.slice Ao14 t330.length co14) := (blk_cell BK333.out 1).trans rfl; have hfz20_0 := blk_frozen BK333.out 0; have hfz20_1 := blk_frozen BK333.out 1) | ((with_reducible refine gate_callee (f := 13) rfl ?_); refine goesL_ (some 22) rfl rfl Try.func13 (by kernel_rfl) rfl #[.agg #[.int .i64 t329, .slice Ao14 t330.length co14]] rfl (by first | rfl | (simp only [List.map_toArray, List.map_cons, List.map_nil, List.length_drop, List.length_take]; try rfl)) ?_; (with_reducible refine (impl_GridText.calls kj2 t329 _ _ t330 t339 _ ?side1 ?side2 A8.out).mono ?_); (case side1 => refine (Kd.Q_reads' (e := 39) (base := w.heap.size) (ok := fun k_ => (True ∧ some k_ ≠ (.slice Ao19 t335.length co19 : Value).ownBlock)) (n := t330.length) (c := co14) ?_).2.2; exact (by (with_reducible repeat apply Kd.Q_alloc); exact (Kd.Q_mono (Kd.Q_far (p := ⟨gb338, 1, none⟩) (Kd.Q_far (p := ⟨gb338, 0, none⟩) (Kd.Q_types HO332.out BK338.out (by decide)) (fun _ hk => hk.2) (.int .i64 t334)) (fun _ hk => hk.2) (.slice Ao19 t335.length co19)) (fun _ h_ => h_.1)))); (case side2 => exact (Kd.Q_reads' HO332.out).2.1); rintro e w21 ⟨rfl, hb⟩; refine ⟨_, rfl, ?_⟩; have n0_ := Aside0.mk (Kd.Q_below (by (with_reducible repeat apply Kd.Q_alloc); exact (Kd.Q_mono (Kd.Q_far (p := ⟨gb338, 1, none⟩) (Kd.Q_far (p := ⟨gb338, 0, none⟩) (Kd.Q_types HO332.out BK338.out (by decide)) (fun _ hk => hk.2) (.int .i64 t334)) (fun _ hk => hk.2) (.slice Ao19 t335.length co19)) (fun _ h_ => h_.1))) hb); have n1_ := Aside0.mk (Kd.Q_below (by (with_reducible repeat apply Kd.Q_alloc); exact (Kd.Q_mono (Kd.Q_far (p := ⟨gb338, 1, none⟩) (Kd.Q_far (p := ⟨gb338, 0, none⟩) (Kd.Q_types HO337.out BK338.out (by decide)) (fun _ hk => hk.2) (.int .i64 t334)) (fun _ hk => hk.2) (.slice Ao19 t335.length co19)) (fun _ h_ => h_.1))) hb); have n2_ := Aside0.mk (blk_below (g := gb333) (o := .cells #[.int .i64 t329, .slice Ao14 t330.length co14] 29 (0, 0)) (by (with_reducible repeat apply blk_alloc); refine blk_far ?_ NB333_338.out _; (with_reducible repeat apply blk_alloc); refine blk_far ?_ NB333_338.out _; (with_reducible repeat apply blk_alloc); exact BK333.out) hb); have n3_ := Aside0.mk (blk_below (g := gb338) (o := .cells #[.int .i64 t334, .slice Ao19 t335.length co19] 29 (0, 0)) (by (with_reducible repeat apply blk_alloc); refine blk_put (cs := #[.int .i64 t334, .slice none 0 0]) ?_ 1 _ rfl; (with_reducible repeat apply blk_alloc); refine blk_put (cs := #[.int .i64 0, .slice none 0 0]) ?_ 0 _ rfl; (with_reducible repeat apply blk_alloc); exact BK338.out) hb); have n4_ := Aside0.mk (below_step (by repeat first | exact HB.out | with_reducible refine below_setA ?_ ‹_› | apply below_alloc | apply pw_below_drewN) hb); clear HO332; clear HO337; clear BK333; clear BK338; clear HB; have HO332 := n0_; have HO337 := n1_; have BK333 := n2_; have BK338 := n3_; have HB := n4_; clear n0_ n1_ n2_ n3_ n4_; (try clear hb); (try clear hb2); (try clear hk); (try clear hi); have hcz22_0 : w21.cell? ⟨gb338, 0, none⟩ = some (.int .i64 t334) := (blk_cell BK338.out 0).trans rfl; have hcz22_1 : w21.cell? ⟨gb338, 1, none⟩ = some (.slice Ao19 t335.length co19) := (blk_cell BK338.out 1).trans rfl; have hfz22_0 := blk_frozen BK338.out 0; have hfz22_1 := blk_frozen BK338.out 1) | ((with_reducible refine gate_callee (f := 13) rfl ?_); refine goesL_ (some 24) rfl rfl Try.func13 (by kernel_rfl) rfl #[.agg #[.int .i64 t334, .slice Ao19 t335.length co19]] rfl (by first | rfl | (simp only [List.map_toArray, List.map_cons, List.map_nil, List.length_drop, List.length_take]; try rfl)) ?_; (with_reducible refine (impl_GridText.calls kj2 t334 _ _ t335 t340 _ ?side1 ?side2 A9.out).mono ?_); (case side1 => repeat (first | exact (Kd.Q_reads' HO337.out).2.2 | (with_reducible refine Kd.C_alloc ?_ _) | (with_reducible refine Kd.C_drewN ?_ _) | (with_reducible refine Kd.C_drew ?_))); (case side2 => exact (Kd.Q_reads' HO337.out).2.1); rintro e w23 ⟨rfl, hb⟩; refine ⟨_, rfl, ?_⟩; have n0_ := Aside0.mk (Kd.Q_below (by (with_reducible repeat apply Kd.Q_alloc); exact HO332.out) hb); have n1_ := Aside0.mk (Kd.Q_below (by (with_reducible repeat apply Kd.Q_alloc); exact HO337.out) hb); have n2_ := Aside0.mk (blk_below (bK BK333.out) hb); have n3_ := Aside0.mk (blk_below (bK BK338.out) hb); have n4_ := Aside0.mk (below_step (by repeat first | exact HB.out | with_reducible refine below_setA ?_ ‹_› | apply below_alloc | apply pw_below_drewN) hb); clear HO332; clear HO337; clear BK333; clear BK338; clear HB; have HO332 := n0_; have HO337 := n1_; have BK333 := n2_; have BK338 := n3_; have HB := n4_; clear n0_ n1_ n2_ n3_ n4_; (try clear hb); (try clear hb2); (try clear hk); (try clear hi)))
    (try simp only [Act.put, List.setIfInBounds_toArray, List.set_cons_zero, List.set_cons_succ])
    go_cut [42] (fun v42 wc => ∃ (kq : Nat) (x42_9 : Bool), v42 = .bool x42_9 ∧ Aside0 (laws_FnGridOne.j1 kq t339 t340 x42_9 t329 t330 t334 t335 = some r) ∧ Aside0 (kq ≤ kj2) ∧ Aside0 (Kd.Q k39 39 wc w.heap.size (fun k_ => some k_ ≠ ((.slice Ao19 t335.length co19) : Value).ownBlock) (.slice Ao14 t330.length co14) t330) ∧ Aside0 (Kd.Q k39 39 wc w.heap.size (fun k_ => some k_ ≠ ((.slice Ao14 t330.length co14) : Value).ownBlock) (.slice Ao19 t335.length co19) t335) ∧ Aside0 (wc.heap[gb333]? = some (.cells #[.int .i64 t329, (.slice Ao14 t330.length co14)] 29 (0, 0))) ∧ Aside0 (wc.heap[gb338]? = some (.cells #[.int .i64 t334, (.slice Ao19 t335.length co19)] 29 (0, 0))) ∧ Aside0 (Below w.heap.size w wc))
    case first =>
     have H := HC10.out
     clear HC10
     replace H := Option.bind_eq_some_iff.mp H
     obtain ⟨t341, A240, H⟩ := H
     replace H : (if t339.toList = t341.toList then ((spec_GridText.f kj2 t334 t335).bind fun t342 => (if t340.toList = t342.toList then (if t339.toList = ([] : List UInt8) then (laws_FnGridOne.j1 kj2 t339 t340 true t329 t330 t334 t335) else (laws_FnGridOne.j1 kj2 t339 t340 (t340.toList == ([] : List UInt8)) t329 t330 t334 t335)) else (laws_FnGridOne.j1 kj2 t339 t340 true t329 t330 t334 t335))) else (laws_FnGridOne.j1 kj2 t339 t340 true t329 t330 t334 t335)) = some r := H
     have A24 := Aside0.mk A240
     clear A240
     by_cases c25 : t339.toList = t341.toList
     ·rw [if_pos c25] at H
      have c25b0 : (t339.toList == t341.toList) = true := beq_iff_eq.mpr c25
      have c25b1 : (t339.toList != t341.toList) = false := bne_eq_false_iff_eq.mpr c25
      clear c25
      (first | rw [c25b0] | (simp only [i64_w, i32_w]; rw [c25b0]) | skip)
      replace H := Option.bind_eq_some_iff.mp H
      obtain ⟨t342, A260, H⟩ := H
      replace H : (if t340.toList = t342.toList then (if t339.toList = ([] : List UInt8) then (laws_FnGridOne.j1 kj2 t339 t340 true t329 t330 t334 t335) else (laws_FnGridOne.j1 kj2 t339 t340 (t340.toList == ([] : List UInt8)) t329 t330 t334 t335)) else (laws_FnGridOne.j1 kj2 t339 t340 true t329 t330 t334 t335)) = some r := H
      have A26 := Aside0.mk A260
      clear A260
      by_cases c27 : t340.toList = t342.toList
      ·rw [if_pos c27] at H
       have c27b0 : (t340.toList == t342.toList) = true := beq_iff_eq.mpr c27
       have c27b1 : (t340.toList != t342.toList) = false := bne_eq_false_iff_eq.mpr c27
       clear c27
       by_cases c28 : t339.toList = ([] : List UInt8)
       ·rw [if_pos c28] at H
        have c28b0 : (t339.toList == ([] : List UInt8)) = true := beq_iff_eq.mpr c28
        have c28b1 : (t339.toList != ([] : List UInt8)) = false := bne_eq_false_iff_eq.mpr c28
        clear c28
        have H' := Aside0.mk H
        clear H
        have hnb29 := NB333_338.out
        have hnc29 := NB338_333.out
        have hcz30_0 : w23.cell? ⟨gb333, 0, none⟩ = some (.int .i64 t329) := (blk_cell BK333.out 0).trans rfl
        have hcz30_1 : w23.cell? ⟨gb333, 1, none⟩ = some (.slice Ao14 t330.length co14) := (blk_cell BK333.out 1).trans rfl
        have hfz30_0 := blk_frozen BK333.out 0
        have hfz30_1 := blk_frozen BK333.out 1
        go_wp2_with (first | ((with_reducible refine gate_callee (f := 11) rfl ?_); refine goesL_ (some 27) rfl rfl Try.func11 (by kernel_rfl) rfl #[.agg #[.int .i64 t329, .slice Ao14 t330.length co14]] rfl (by first | rfl | (simp only [List.map_toArray, List.map_cons, List.map_nil, List.length_drop, List.length_take]; try rfl)) ?_; (with_reducible refine (spec_GridText.calls kj2 t329 _ _ t330 t341 _ ?side1 ?side2 A24.out).mono ?_); (case side1 => repeat (first | exact (Kd.Q_reads' HO332.out).2.2 | (with_reducible refine Kd.C_alloc ?_ _) | (with_reducible refine Kd.C_drewN ?_ _) | (with_reducible refine Kd.C_drew ?_))); (case side2 => exact (Kd.Q_reads' HO332.out).2.1); rintro e w31 ⟨rfl, hb⟩; refine ⟨_, rfl, ?_⟩; have n0_ := Aside0.mk (Kd.Q_below (by (with_reducible repeat apply Kd.Q_alloc); exact HO332.out) hb); have n1_ := Aside0.mk (Kd.Q_below (by (with_reducible repeat apply Kd.Q_alloc); exact HO337.out) hb); have n2_ := Aside0.mk (blk_below (bK BK333.out) hb); have n3_ := Aside0.mk (blk_below (bK BK338.out) hb); have n4_ := Aside0.mk (below_step (by repeat first | exact HB.out | with_reducible refine below_setA ?_ ‹_› | apply below_alloc | apply pw_below_drewN) hb); clear HO332; clear HO337; clear BK333; clear BK338; clear HB; have HO332 := n0_; have HO337 := n1_; have BK333 := n2_; have BK338 := n3_; have HB := n4_; clear n0_ n1_ n2_ n3_ n4_; (try clear hb); (try clear hb2); (try clear hk); (try clear hi); have hcz32_0 : w31.cell? ⟨gb338, 0, none⟩ = some (.int .i64 t334) := (blk_cell BK338.out 0).trans rfl; have hcz32_1 : w31.cell? ⟨gb338, 1, none⟩ = some (.slice Ao19 t335.length co19) := (blk_cell BK338.out 1).trans rfl; have hfz32_0 := blk_frozen BK338.out 0; have hfz32_1 := blk_frozen BK338.out 1) | (go_at_call 11; (with_reducible refine (spec_GridText.calls kj2 t334 _ _ t335 t342 _ ?side1 ?side2 A26.out).mono ?_); (case side1 => repeat (first | exact (Kd.Q_reads' HO337.out).2.2 | (with_reducible refine Kd.C_alloc ?_ _) | (with_reducible refine Kd.C_drewN ?_ _) | (with_reducible refine Kd.C_drew ?_))); (case side2 => exact (Kd.Q_reads' HO337.out).2.1); rintro e w33 ⟨rfl, hb⟩; have n0_ := Aside0.mk (Kd.Q_below (by (with_reducible repeat apply Kd.Q_alloc); exact HO332.out) hb); have n1_ := Aside0.mk (Kd.Q_below (by (with_reducible repeat apply Kd.Q_alloc); exact HO337.out) hb); have n2_ := Aside0.mk (blk_below (bK BK333.out) hb); have n3_ := Aside0.mk (blk_below (bK BK338.out) hb); have n4_ := Aside0.mk (below_step (by repeat first | exact HB.out | with_reducible refine below_setA ?_ ‹_› | apply below_alloc | apply pw_below_drewN) hb); clear HO332; clear HO337; clear BK333; clear BK338; clear HB; have HO332 := n0_; have HO337 := n1_; have BK333 := n2_; have BK338 := n3_; have HB := n4_; clear n0_ n1_ n2_ n3_ n4_; (try clear hb); (try clear hb2); (try clear hk); (try clear hi)))
        go_meet
        case rel => exact ⟨_, (true), (by first | rfl | (simp; done) | (simp [*]; done)), H', ⟨by have := HJ2.out; first | omega | exact Nat.le_refl _⟩, ⟨by (with_reducible repeat apply Kd.Q_alloc); exact Kd.Q_mono HO332.out (fun _ hk => hk.2)⟩, ⟨by (with_reducible repeat apply Kd.Q_alloc); exact Kd.Q_mono HO337.out (fun _ hk => hk.2)⟩, ⟨by (with_reducible repeat apply blk_alloc); exact BK333.out⟩, ⟨by (with_reducible repeat apply blk_alloc); exact BK338.out⟩, ⟨by repeat first | exact HB.out | with_reducible refine below_setA ?_ ‹_› | apply below_alloc | apply pw_below_drewN⟩⟩
       ·rw [if_neg c28] at H
        have c28b0 : (t339.toList == ([] : List UInt8)) = false := beq_eq_false_iff_ne.mpr c28
        have c28b1 : (t339.toList != ([] : List UInt8)) = true := bne_iff_ne.mpr c28
        have H' := Aside0.mk H
        clear H
        have hnb34 := NB333_338.out
        have hnc34 := NB338_333.out
        have hcz35_0 : w23.cell? ⟨gb333, 0, none⟩ = some (.int .i64 t329) := (blk_cell BK333.out 0).trans rfl
        have hcz35_1 : w23.cell? ⟨gb333, 1, none⟩ = some (.slice Ao14 t330.length co14) := (blk_cell BK333.out 1).trans rfl
        have hfz35_0 := blk_frozen BK333.out 0
        have hfz35_1 := blk_frozen BK333.out 1
        go_wp2_with (first | ((with_reducible refine gate_callee (f := 11) rfl ?_); refine goesL_ (some 27) rfl rfl Try.func11 (by kernel_rfl) rfl #[.agg #[.int .i64 t329, .slice Ao14 t330.length co14]] rfl (by first | rfl | (simp only [List.map_toArray, List.map_cons, List.map_nil, List.length_drop, List.length_take]; try rfl)) ?_; (with_reducible refine (spec_GridText.calls kj2 t329 _ _ t330 t341 _ ?side1 ?side2 A24.out).mono ?_); (case side1 => repeat (first | exact (Kd.Q_reads' HO332.out).2.2 | (with_reducible refine Kd.C_alloc ?_ _) | (with_reducible refine Kd.C_drewN ?_ _) | (with_reducible refine Kd.C_drew ?_))); (case side2 => exact (Kd.Q_reads' HO332.out).2.1); rintro e w36 ⟨rfl, hb⟩; refine ⟨_, rfl, ?_⟩; have n0_ := Aside0.mk (Kd.Q_below (by (with_reducible repeat apply Kd.Q_alloc); exact HO332.out) hb); have n1_ := Aside0.mk (Kd.Q_below (by (with_reducible repeat apply Kd.Q_alloc); exact HO337.out) hb); have n2_ := Aside0.mk (blk_below (bK BK333.out) hb); have n3_ := Aside0.mk (blk_below (bK BK338.out) hb); have n4_ := Aside0.mk (below_step (by repeat first | exact HB.out | with_reducible refine below_setA ?_ ‹_› | apply below_alloc | apply pw_below_drewN) hb); clear HO332; clear HO337; clear BK333; clear BK338; clear HB; have HO332 := n0_; have HO337 := n1_; have BK333 := n2_; have BK338 := n3_; have HB := n4_; clear n0_ n1_ n2_ n3_ n4_; (try clear hb); (try clear hb2); (try clear hk); (try clear hi); have hcz37_0 : w36.cell? ⟨gb338, 0, none⟩ = some (.int .i64 t334) := (blk_cell BK338.out 0).trans rfl; have hcz37_1 : w36.cell? ⟨gb338, 1, none⟩ = some (.slice Ao19 t335.length co19) := (blk_cell BK338.out 1).trans rfl; have hfz37_0 := blk_frozen BK338.out 0; have hfz37_1 := blk_frozen BK338.out 1) | (go_at_call 11; (with_reducible refine (spec_GridText.calls kj2 t334 _ _ t335 t342 _ ?side1 ?side2 A26.out).mono ?_); (case side1 => repeat (first | exact (Kd.Q_reads' HO337.out).2.2 | (with_reducible refine Kd.C_alloc ?_ _) | (with_reducible refine Kd.C_drewN ?_ _) | (with_reducible refine Kd.C_drew ?_))); (case side2 => exact (Kd.Q_reads' HO337.out).2.1); rintro e w38 ⟨rfl, hb⟩; have n0_ := Aside0.mk (Kd.Q_below (by (with_reducible repeat apply Kd.Q_alloc); exact HO332.out) hb); have n1_ := Aside0.mk (Kd.Q_below (by (with_reducible repeat apply Kd.Q_alloc); exact HO337.out) hb); have n2_ := Aside0.mk (blk_below (bK BK333.out) hb); have n3_ := Aside0.mk (blk_below (bK BK338.out) hb); have n4_ := Aside0.mk (below_step (by repeat first | exact HB.out | with_reducible refine below_setA ?_ ‹_› | apply below_alloc | apply pw_below_drewN) hb); clear HO332; clear HO337; clear BK333; clear BK338; clear HB; have HO332 := n0_; have HO337 := n1_; have BK333 := n2_; have BK338 := n3_; have HB := n4_; clear n0_ n1_ n2_ n3_ n4_; (try clear hb); (try clear hb2); (try clear hk); (try clear hi)))
        go_meet
        case rel => exact ⟨_, ((t340.toList == ([] : List UInt8))), (by first | rfl | (simp; done) | (simp [*]; done)), H', ⟨by have := HJ2.out; first | omega | exact Nat.le_refl _⟩, ⟨by (with_reducible repeat apply Kd.Q_alloc); exact Kd.Q_mono HO332.out (fun _ hk => hk.2)⟩, ⟨by (with_reducible repeat apply Kd.Q_alloc); exact Kd.Q_mono HO337.out (fun _ hk => hk.2)⟩, ⟨by (with_reducible repeat apply blk_alloc); exact BK333.out⟩, ⟨by (with_reducible repeat apply blk_alloc); exact BK338.out⟩, ⟨by repeat first | exact HB.out | with_reducible refine below_setA ?_ ‹_› | apply below_alloc | apply pw_below_drewN⟩⟩
      ·rw [if_neg c27] at H
       have c27b0 : (t340.toList == t342.toList) = false := beq_eq_false_iff_ne.mpr c27
       have c27b1 : (t340.toList != t342.toList) = true := bne_iff_ne.mpr c27
       have H' := Aside0.mk H
       clear H
       have hnb39 := NB333_338.out
       have hnc39 := NB338_333.out
       have hcz40_0 : w23.cell? ⟨gb333, 0, none⟩ = some (.int .i64 t329) := (blk_cell BK333.out 0).trans rfl
       have hcz40_1 : w23.cell? ⟨gb333, 1, none⟩ = some (.slice Ao14 t330.length co14) := (blk_cell BK333.out 1).trans rfl
       have hfz40_0 := blk_frozen BK333.out 0
       have hfz40_1 := blk_frozen BK333.out 1
       go_wp2_with (first | ((with_reducible refine gate_callee (f := 11) rfl ?_); refine goesL_ (some 27) rfl rfl Try.func11 (by kernel_rfl) rfl #[.agg #[.int .i64 t329, .slice Ao14 t330.length co14]] rfl (by first | rfl | (simp only [List.map_toArray, List.map_cons, List.map_nil, List.length_drop, List.length_take]; try rfl)) ?_; (with_reducible refine (spec_GridText.calls kj2 t329 _ _ t330 t341 _ ?side1 ?side2 A24.out).mono ?_); (case side1 => repeat (first | exact (Kd.Q_reads' HO332.out).2.2 | (with_reducible refine Kd.C_alloc ?_ _) | (with_reducible refine Kd.C_drewN ?_ _) | (with_reducible refine Kd.C_drew ?_))); (case side2 => exact (Kd.Q_reads' HO332.out).2.1); rintro e w41 ⟨rfl, hb⟩; refine ⟨_, rfl, ?_⟩; have n0_ := Aside0.mk (Kd.Q_below (by (with_reducible repeat apply Kd.Q_alloc); exact HO332.out) hb); have n1_ := Aside0.mk (Kd.Q_below (by (with_reducible repeat apply Kd.Q_alloc); exact HO337.out) hb); have n2_ := Aside0.mk (blk_below (bK BK333.out) hb); have n3_ := Aside0.mk (blk_below (bK BK338.out) hb); have n4_ := Aside0.mk (below_step (by repeat first | exact HB.out | with_reducible refine below_setA ?_ ‹_› | apply below_alloc | apply pw_below_drewN) hb); clear HO332; clear HO337; clear BK333; clear BK338; clear HB; have HO332 := n0_; have HO337 := n1_; have BK333 := n2_; have BK338 := n3_; have HB := n4_; clear n0_ n1_ n2_ n3_ n4_; (try clear hb); (try clear hb2); (try clear hk); (try clear hi); have hcz42_0 : w41.cell? ⟨gb338, 0, none⟩ = some (.int .i64 t334) := (blk_cell BK338.out 0).trans rfl; have hcz42_1 : w41.cell? ⟨gb338, 1, none⟩ = some (.slice Ao19 t335.length co19) := (blk_cell BK338.out 1).trans rfl; have hfz42_0 := blk_frozen BK338.out 0; have hfz42_1 := blk_frozen BK338.out 1) | (go_at_call 11; (with_reducible refine (spec_GridText.calls kj2 t334 _ _ t335 t342 _ ?side1 ?side2 A26.out).mono ?_); (case side1 => repeat (first | exact (Kd.Q_reads' HO337.out).2.2 | (with_reducible refine Kd.C_alloc ?_ _) | (with_reducible refine Kd.C_drewN ?_ _) | (with_reducible refine Kd.C_drew ?_))); (case side2 => exact (Kd.Q_reads' HO337.out).2.1); rintro e w43 ⟨rfl, hb⟩; have n0_ := Aside0.mk (Kd.Q_below (by (with_reducible repeat apply Kd.Q_alloc); exact HO332.out) hb); have n1_ := Aside0.mk (Kd.Q_below (by (with_reducible repeat apply Kd.Q_alloc); exact HO337.out) hb); have n2_ := Aside0.mk (blk_below (bK BK333.out) hb); have n3_ := Aside0.mk (blk_below (bK BK338.out) hb); have n4_ := Aside0.mk (below_step (by repeat first | exact HB.out | with_reducible refine below_setA ?_ ‹_› | apply below_alloc | apply pw_below_drewN) hb); clear HO332; clear HO337; clear BK333; clear BK338; clear HB; have HO332 := n0_; have HO337 := n1_; have BK333 := n2_; have BK338 := n3_; have HB := n4_; clear n0_ n1_ n2_ n3_ n4_; (try clear hb); (try clear hb2); (try clear hk); (try clear hi)))
       go_meet
       case rel => exact ⟨_, (true), (by first | rfl | (simp; done) | (simp [*]; done)), H', ⟨by have := HJ2.out; first | omega | exact Nat.le_refl _⟩, ⟨by (with_reducible repeat apply Kd.Q_alloc); exact Kd.Q_mono HO332.out (fun _ hk => hk.2)⟩, ⟨by (with_reducible repeat apply Kd.Q_alloc); exact Kd.Q_mono HO337.out (fun _ hk => hk.2)⟩, ⟨by (with_reducible repeat apply blk_alloc); exact BK333.out⟩, ⟨by (with_reducible repeat apply blk_alloc); exact BK338.out⟩, ⟨by repeat first | exact HB.out | with_reducible refine below_setA ?_ ‹_› | apply below_alloc | apply pw_below_drewN⟩⟩
     ·rw [if_neg c25] at H
      have c25b0 : (t339.toList == t341.toList) = false := beq_eq_false_iff_ne.mpr c25
      have c25b1 : (t339.toList != t341.toList) = true := bne_iff_ne.mpr c25
      (first | rw [c25b0] | (simp only [i64_w, i32_w]; rw [c25b0]) | skip)
      have H' := Aside0.mk H
      clear H
      have hnb44 := NB333_338.out
      have hnc44 := NB338_333.out
      have hcz45_0 : w23.cell? ⟨gb333, 0, none⟩ = some (.int .i64 t329) := (blk_cell BK333.out 0).trans rfl
      have hcz45_1 : w23.cell? ⟨gb333, 1, none⟩ = some (.slice Ao14 t330.length co14) := (blk_cell BK333.out 1).trans rfl
      have hfz45_0 := blk_frozen BK333.out 0
      have hfz45_1 := blk_frozen BK333.out 1
      go_wp2_with (first | ((with_reducible refine gate_callee (f := 11) rfl ?_); refine goesL_ (some 27) rfl rfl Try.func11 (by kernel_rfl) rfl #[.agg #[.int .i64 t329, .slice Ao14 t330.length co14]] rfl (by first | rfl | (simp only [List.map_toArray, List.map_cons, List.map_nil, List.length_drop, List.length_take]; try rfl)) ?_; (with_reducible refine (spec_GridText.calls kj2 t329 _ _ t330 t341 _ ?side1 ?side2 A24.out).mono ?_); (case side1 => repeat (first | exact (Kd.Q_reads' HO332.out).2.2 | (with_reducible refine Kd.C_alloc ?_ _) | (with_reducible refine Kd.C_drewN ?_ _) | (with_reducible refine Kd.C_drew ?_))); (case side2 => exact (Kd.Q_reads' HO332.out).2.1); rintro e w46 ⟨rfl, hb⟩; refine ⟨_, rfl, ?_⟩; have n0_ := Aside0.mk (Kd.Q_below (by (with_reducible repeat apply Kd.Q_alloc); exact HO332.out) hb); have n1_ := Aside0.mk (Kd.Q_below (by (with_reducible repeat apply Kd.Q_alloc); exact HO337.out) hb); have n2_ := Aside0.mk (blk_below (bK BK333.out) hb); have n3_ := Aside0.mk (blk_below (bK BK338.out) hb); have n4_ := Aside0.mk (below_step (by repeat first | exact HB.out | with_reducible refine below_setA ?_ ‹_› | apply below_alloc | apply pw_below_drewN) hb); clear HO332; clear HO337; clear BK333; clear BK338; clear HB; have HO332 := n0_; have HO337 := n1_; have BK333 := n2_; have BK338 := n3_; have HB := n4_; clear n0_ n1_ n2_ n3_ n4_; (try clear hb); (try clear hb2); (try clear hk); (try clear hi)))
      go_meet
      case rel => exact ⟨_, (true), (by first | rfl | (simp; done) | (simp [*]; done)), H', ⟨by have := HJ2.out; first | omega | exact Nat.le_refl _⟩, ⟨by (with_reducible repeat apply Kd.Q_alloc); exact Kd.Q_mono HO332.out (fun _ hk => hk.2)⟩, ⟨by (with_reducible repeat apply Kd.Q_alloc); exact Kd.Q_mono HO337.out (fun _ hk => hk.2)⟩, ⟨by (with_reducible repeat apply blk_alloc); exact BK333.out⟩, ⟨by (with_reducible repeat apply blk_alloc); exact BK338.out⟩, ⟨by repeat first | exact HB.out | with_reducible refine below_setA ?_ ‹_› | apply below_alloc | apply pw_below_drewN⟩⟩
    case rest =>
     clear HC10
     try clear c1
     try clear c2
     try clear p2
     try clear c3
     try clear c4
     try clear c4b0
     try clear c4b1
     try clear c5
     try clear c6
     try clear c11
     try clear c13
     try clear c17
     try clear c22
     try clear c25
     try clear c25b0
     try clear c25b1
     try clear c27
     try clear c27b0
     try clear c27b1
     try clear c28
     try clear c28b0
     try clear c28b1
     try clear c29
     try clear c34
     try clear c39
     try clear c44
     try clear hcz13_0
     try clear hcz13_1
     try clear hcz18_0
     try clear hcz18_1
     try clear hcz20_0
     try clear hcz20_1
     try clear hcz22_0
     try clear hcz22_1
     try clear hcz30_0
     try clear hcz30_1
     try clear hcz32_0
     try clear hcz32_1
     try clear hcz35_0
     try clear hcz35_1
     try clear hcz37_0
     try clear hcz37_1
     try clear hcz40_0
     try clear hcz40_1
     try clear hcz42_0
     try clear hcz42_1
     try clear hcz45_0
     try clear hcz45_1
     try clear hfz13_0
     try clear hfz13_1
     try clear hfz18_0
     try clear hfz18_1
     try clear hfz20_0
     try clear hfz20_1
     try clear hfz22_0
     try clear hfz22_1
     try clear hfz30_0
     try clear hfz30_1
     try clear hfz32_0
     try clear hfz32_1
     try clear hfz35_0
     try clear hfz35_1
     try clear hfz37_0
     try clear hfz37_1
     try clear hfz40_0
     try clear hfz40_1
     try clear hfz42_0
     try clear hfz42_1
     try clear hfz45_0
     try clear hfz45_1
     try clear p2
     obtain ⟨kq, x42_9, rfl, HA, HJ9, HO_334001, HO_339001, BK333, BK338, HB⟩ := hcut
     cases kq with
     | zero => exact absurd HA.out (by simp [laws_FnGridOne.j1])
     | succ kj9 =>
      have H := HA.out
      clear HA
      simp only [laws_FnGridOne.j1] at H
      by_cases c47 : x42_9 = true
      ·subst c47
       have H1 : ((spec_GridText.f kj9 t329 t330).bind fun t343 => (if t339.toList = t343.toList then ((spec_GridText.f kj9 t334 t335).bind fun t344 => (some (t340.toList == t344.toList))) else (some false))) = some r := by rw [if_pos rfl] at H; exact H
       clear H
       have H := H1
       clear H1
       replace H := Option.bind_eq_some_iff.mp H
       obtain ⟨t343, A480, H⟩ := H
       replace H : (if t339.toList = t343.toList then ((spec_GridText.f kj9 t334 t335).bind fun t344 => (some (t340.toList == t344.toList))) else (some false)) = some r := H
       have A48 := Aside0.mk A480
       clear A480
       by_cases c49 : t339.toList = t343.toList
       ·rw [if_pos c49] at H
        have c49b0 : (t339.toList == t343.toList) = true := beq_iff_eq.mpr c49
        have c49b1 : (t339.toList != t343.toList) = false := bne_eq_false_iff_eq.mpr c49
        clear c49
        replace H := Option.bind_eq_some_iff.mp H
        obtain ⟨t344, A500, H⟩ := H
        replace H : (some (t340.toList == t344.toList)) = some r := H
        have A50 := Aside0.mk A500
        clear A500
        obtain rfl := Option.some.inj H
        have hnb51 := NB333_338.out
        have hnc51 := NB338_333.out
        have hcz52_0 : wc.cell? ⟨gb333, 0, none⟩ = some (.int .i64 t329) := (blk_cell BK333.out 0).trans rfl
        have hcz52_1 : wc.cell? ⟨gb333, 1, none⟩ = some (.slice Ao14 t330.length co14) := (blk_cell BK333.out 1).trans rfl
        have hfz52_0 := blk_frozen BK333.out 0
        have hfz52_1 := blk_frozen BK333.out 1
        go_wp2_with (first | ((with_reducible refine gate_callee (f := 11) rfl ?_); refine goesL_ (some 45) rfl rfl Try.func11 (by kernel_rfl) rfl #[.agg #[.int .i64 t329, .slice Ao14 t330.length co14]] rfl (by first | rfl | (simp only [List.map_toArray, List.map_cons, List.map_nil, List.length_drop, List.length_take]; try rfl)) ?_; (with_reducible refine (spec_GridText.calls kj9 t329 _ _ t330 t343 _ ?side1 ?side2 A48.out).mono ?_); (case side1 => repeat (first | exact (Kd.Q_reads' HO_334001.out).2.2 | (with_reducible refine Kd.C_alloc ?_ _) | (with_reducible refine Kd.C_drewN ?_ _) | (with_reducible refine Kd.C_drew ?_))); (case side2 => exact (Kd.Q_reads' HO_334001.out).2.1); rintro e w53 ⟨rfl, hb⟩; refine ⟨_, rfl, ?_⟩; have n0_ := Aside0.mk (Kd.Q_below (by (with_reducible repeat apply Kd.Q_alloc); exact HO_334001.out) hb); have n1_ := Aside0.mk (Kd.Q_below (by (with_reducible repeat apply Kd.Q_alloc); exact HO_339001.out) hb); have n2_ := Aside0.mk (blk_below (bK BK333.out) hb); have n3_ := Aside0.mk (blk_below (bK BK338.out) hb); have n4_ := Aside0.mk (below_step (by repeat first | exact HB.out | with_reducible refine below_setA ?_ ‹_› | apply below_alloc | apply pw_below_drewN) hb); clear HO_334001; clear HO_339001; clear BK333; clear BK338; clear HB; have HO_334001 := n0_; have HO_339001 := n1_; have BK333 := n2_; have BK338 := n3_; have HB := n4_; clear n0_ n1_ n2_ n3_ n4_; (try clear hb); (try clear hb2); (try clear hk); (try clear hi); have hcz54_0 : w53.cell? ⟨gb338, 0, none⟩ = some (.int .i64 t334) := (blk_cell BK338.out 0).trans rfl; have hcz54_1 : w53.cell? ⟨gb338, 1, none⟩ = some (.slice Ao19 t335.length co19) := (blk_cell BK338.out 1).trans rfl; have hfz54_0 := blk_frozen BK338.out 0; have hfz54_1 := blk_frozen BK338.out 1) | (go_at_call 11; (with_reducible refine (spec_GridText.calls kj9 t334 _ _ t335 t344 _ ?side1 ?side2 A50.out).mono ?_); (case side1 => repeat (first | exact (Kd.Q_reads' HO_339001.out).2.2 | (with_reducible refine Kd.C_alloc ?_ _) | (with_reducible refine Kd.C_drewN ?_ _) | (with_reducible refine Kd.C_drew ?_))); (case side2 => exact (Kd.Q_reads' HO_339001.out).2.1); rintro e w55 ⟨rfl, hb⟩; have n0_ := Aside0.mk (Kd.Q_below (by (with_reducible repeat apply Kd.Q_alloc); exact HO_334001.out) hb); have n1_ := Aside0.mk (Kd.Q_below (by (with_reducible repeat apply Kd.Q_alloc); exact HO_339001.out) hb); have n2_ := Aside0.mk (blk_below (bK BK333.out) hb); have n3_ := Aside0.mk (blk_below (bK BK338.out) hb); have n4_ := Aside0.mk (below_step (by repeat first | exact HB.out | with_reducible refine below_setA ?_ ‹_› | apply below_alloc | apply pw_below_drewN) hb); clear HO_334001; clear HO_339001; clear BK333; clear BK338; clear HB; have HO_334001 := n0_; have HO_339001 := n1_; have BK333 := n2_; have BK338 := n3_; have HB := n4_; clear n0_ n1_ n2_ n3_ n4_; (try clear hb); (try clear hb2); (try clear hk); (try clear hi)))
        go_ret
        exact ⟨by first | rfl | (simp [errW_none, errW_some] <;> rfl) | (simp [*, errW_none, errW_some] <;> rfl) | (exfalso; simp_all; done), by repeat first | exact HB.out | with_reducible refine below_setA ?_ ‹_› | apply below_alloc | apply pw_below_drewN⟩
       ·rw [if_neg c49] at H
        have c49b0 : (t339.toList == t343.toList) = false := beq_eq_false_iff_ne.mpr c49
        have c49b1 : (t339.toList != t343.toList) = true := bne_iff_ne.mpr c49
        obtain rfl := Option.some.inj H
        exact absurd HRT.out (by decide)
      ·replace c47 := Bool.eq_false_iff.mpr c47
       subst c47
       have H1 : ((laws_llGrid.f kj9 t329 t330 t334 t335).bind fun t345 => (some ((t339.toList == t340.toList) == t345))) = some r := by rw [if_neg (show ¬ (false = true) by decide)] at H; exact H
       clear H
       have H := H1
       clear H1
       replace H := Option.bind_eq_some_iff.mp H
       obtain ⟨t345, A560, H⟩ := H
       replace H : (some ((t339.toList == t340.toList) == t345)) = some r := H
       have A56 := Aside0.mk A560
       clear A560
       obtain rfl := Option.some.inj H
       have hnb57 := NB333_338.out
       have hnc57 := NB338_333.out
       have hcz58_0 : wc.cell? ⟨gb333, 0, none⟩ = some (.int .i64 t329) := (blk_cell BK333.out 0).trans rfl
       have hcz58_1 : wc.cell? ⟨gb333, 1, none⟩ = some (.slice Ao14 t330.length co14) := (blk_cell BK333.out 1).trans rfl
       have hfz58_0 := blk_frozen BK333.out 0
       have hfz58_1 := blk_frozen BK333.out 1
       have hcz59_0 : wc.cell? ⟨gb338, 0, none⟩ = some (.int .i64 t334) := (blk_cell BK338.out 0).trans rfl
       have hcz59_1 : wc.cell? ⟨gb338, 1, none⟩ = some (.slice Ao19 t335.length co19) := (blk_cell BK338.out 1).trans rfl
       have hfz59_0 := blk_frozen BK338.out 0
       have hfz59_1 := blk_frozen BK338.out 1
       go_wp2_with (first | ((with_reducible refine gate_callee (f := 23) rfl ?_); refine goesL_ (some 58) rfl rfl Try.func23 (by kernel_rfl) rfl #[.agg #[.int .i64 t329, .slice Ao14 t330.length co14], .agg #[.int .i64 t334, .slice Ao19 t335.length co19]] rfl (by first | rfl | (simp only [List.map_toArray, List.map_cons, List.map_nil, List.length_drop, List.length_take]; try rfl)) ?_; (with_reducible refine (laws_llGrid.calls kj9 t329 _ _ t330 t334 _ _ t335 t345 _ ?side1 ?side2 ?side3 ?side4 A56.out).mono ?_); (case side1 => repeat (first | exact (Kd.Q_reads' HO_334001.out).2.2 | (with_reducible refine Kd.C_alloc ?_ _) | (with_reducible refine Kd.C_drewN ?_ _) | (with_reducible refine Kd.C_drew ?_))); (case side2 => exact (Kd.Q_reads' HO_334001.out).2.1); (case side3 => repeat (first | exact (Kd.Q_reads' HO_339001.out).2.2 | (with_reducible refine Kd.C_alloc ?_ _) | (with_reducible refine Kd.C_drewN ?_ _) | (with_reducible refine Kd.C_drew ?_))); (case side4 => exact (Kd.Q_reads' HO_339001.out).2.1); rintro e w60 ⟨rfl, hb⟩; refine ⟨_, rfl, ?_⟩; have n0_ := Aside0.mk (Kd.Q_below (by (with_reducible repeat apply Kd.Q_alloc); exact HO_334001.out) hb); have n1_ := Aside0.mk (Kd.Q_below (by (with_reducible repeat apply Kd.Q_alloc); exact HO_339001.out) hb); have n2_ := Aside0.mk (blk_below (bK BK333.out) hb); have n3_ := Aside0.mk (blk_below (bK BK338.out) hb); have n4_ := Aside0.mk (below_step (by repeat first | exact HB.out | with_reducible refine below_setA ?_ ‹_› | apply below_alloc | apply pw_below_drewN) hb); clear HO_334001; clear HO_339001; clear BK333; clear BK338; clear HB; have HO_334001 := n0_; have HO_339001 := n1_; have BK333 := n2_; have BK338 := n3_; have HB := n4_; clear n0_ n1_ n2_ n3_ n4_; (try clear hb); (try clear hb2); (try clear hk); (try clear hi)))
       go_ret
       exact ⟨by first | rfl | (simp [errW_none, errW_some] <;> rfl) | (simp [*, errW_none, errW_some] <;> rfl) | (exfalso; simp_all; done), by repeat first | exact HB.out | with_reducible refine below_setA ?_ ‹_› | apply below_alloc | apply pw_below_drewN⟩

/-- THE ONE PURE STATEMENT of laws_FnGridOne: yours. -/
def laws_FnGridOne.Pure : Prop := ∀ (l0 : List Int) (l1 : List Int), l0.length ≤ maxLen → l0.length * 1 ≤ 140737488351232 → (∀ x ∈ l0, (Lit.int .u8 x).wf = true) → l1.length ≤ maxLen → l1.length * 1 ≤ 140737488351232 → (∀ x ∈ l1, (Lit.int .u8 x).wf = true) → ∃ k, laws_FnGridOne.f k l0 l1 = some true
theorem laws_FnGridOne.walk (P : laws_FnGridOne.Pure) (a0 : Option Addr) (len0 cap0 : Nat) (z0 : List Int) (a1 : Option Addr) (len1 cap1 : Nat) (z1 : List Int) (w : World) (w0 : (a0 = none ∧ len0 = 0 ∧ cap0 = 0 ∧ z0 = []) ∨ ∃ x, a0 = some x ∧ len0 ≤ cap0 ∧ cap0 ≤ maxLen ∧ z0.length = cap0 ∧ (∀ i, i < z0.length → w.cell? (x.add i) = some (.int .u8 (z0.getD i 0))) ∧ ∀ n ∈ z0, (Lit.int .u8 n).wf = true) (y0 : len0 * 1 ≤ 140737488351232) (w1 : (a1 = none ∧ len1 = 0 ∧ cap1 = 0 ∧ z1 = []) ∨ ∃ x, a1 = some x ∧ len1 ≤ cap1 ∧ cap1 ≤ maxLen ∧ z1.length = cap1 ∧ (∀ i, i < z1.length → w.cell? (x.add i) = some (.int .u8 (z1.getD i 0))) ∧ ∀ n ∈ z1, (Lit.int .u8 n).wf = true) (y1 : len1 * 1 ≤ 140737488351232) :
  Calls Try.prog 6 #[.slice a0 len0 cap0, .slice a1 len1 cap1] w fun e w' => e = .returned (.bool true) ∧ Below w.heap.size w w' := by
 obtain ⟨l0, rfl, hr0, hm0, hw0, hc0⟩ := ReadsInt.ofRowC w0
 obtain ⟨l1, rfl, hr1, hm1, hw1, hc1⟩ := ReadsInt.ofRowC w1
 obtain ⟨k, h⟩ := P l0 l1 hm0 y0 hw0 hm1 y1 hw1
 refine (laws_FnGridOne.calls k _ _ l0 _ _ l1 true w (Kd.C_of_reads (d := (0 : Int)) (h1 := fun _ => rfl) hr0) hc0 (Kd.C_of_reads (d := (0 : Int)) (h1 := fun _ => rfl) hr1) hc1 h rfl).mono ?_
 rintro e w' ⟨rfl, hd⟩
 exact ⟨rfl, hd⟩

end Go.Proofs.Ytpjdhpkfenohgaa.P
