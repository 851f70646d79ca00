/- PROVED: contracts of functions of the program, the reference and the statements; written by this session's driver (pk.py) through its own changed copy of the kit's print. No condition. -/
import Derived.Test.YtbnofnamkgfadaaPx0
import Derived.Test.YtbnofnamkgfadaaPx2
import Derived.Test.YtbnofnamkgfadaaPx3
namespace Go.Proofs.Ytbnofnamkgfadaa.P
open Go.RowKit Go.Proofs.YtbnofnamkgfadaaW.PrintWords Go.Proofs.YtbnofnamkgfadaaW.PrintLast Go.Proofs.YtbnofnamkgfadaaW.PrintMore
attribute [local go_sem] max2_int min2_int max_two min_two max_three min_three max_four min_four   -- for this text's walks alone
set_option linter.unusedVariables false
set_option linter.unusedSimpArgs false

/-! ### spec_l71Place: function 60 -/
def spec_l71Place.j0 : Nat → Bool → List Int → Int → Int → List (S24) → Option (Int × Int)
 | 0, _, _, _, _, _ => none
 | k + 1, x13, x1000, x1001, x460000, x460001 => if x13 = true then ((some (([(-1), 25, (x460001.length : Int)] : List Int) : List Int)).bind fun y462 => ((spec_l6Rd_pick.f k x1000 x1001 3).bind fun bt465 => (if 0 ≤ bt465.1 then (if bt465.1 < (y462.length : Int) then (some (rd y462 bt465.1, bt465.2)) else (none)) else (none)))) else ((spec_l6Rd_pick.f k x1000 x1001 (x460001.length : Int)).bind fun bt468 => (some (bt468.1, bt468.2)))
def spec_l71Place.f (k : Nat) (s0_0 : List Int) (s0_1 : Int) (a1_0 : Int) (l1_1 : List (S24)) : Option (Int × Int) := if (l1_1.length : Int) = 0 then (spec_l71Place.j0 k true s0_0 s0_1 a1_0 l1_1) else ((spec_l6Rd_pick.f k s0_0 s0_1 24).bind fun bt460 => (spec_l71Place.j0 k (bt460.1 == 0) s0_0 bt460.2 a1_0 l1_1))
def spec_l71Place.T2 : Bool × List (List Nat × List Nat) := (true, [([], []), ([0], [0]), ([1], [1]), ([2], [2]), ([], []), ([4], [4]), ([3, 5], [3, 5]), ([6], [6]), ([7, 5, 0, 1, 2, 3, 4, 5, 6, 7], [7])])
def spec_l71Place.B2 : List Nat := [0, 1, 3, 7, 0, 16, 63, 127, 255]
theorem spec_l71Place.tab2 : rtab .any (opsOf Try.f60 2) = spec_l71Place.T2 := by kernel_rfl
theorem spec_l71Place.bits2 : waitsOk spec_l71Place.T2.2 spec_l71Place.B2 = true := by kernel_rfl
set_option maxHeartbeats 8000000 in
set_option maxRecDepth 100000 in
theorem spec_l71Place.calls (k : Nat) (g : Nat) (s0_0 : List Int) (s0_1 : Int) (a1_0 : Int) (A1_1 : Option Addr) (c1_1 : Nat) (l1_1 : List (S24)) (r1 : Int) (r2 : Int) (w0 w : World) (hI : IsS77 w0 w g s0_0 s0_1) (hB : Below w0.heap.size w0 w) (hr1_1 : ∀ W_, KeepBut w W_ g none → Kd.C k24 W_ A1_1 l1_1.length l1_1) (hc1_1 : l1_1.length ≤ c1_1) (h : spec_l71Place.f k s0_0 s0_1 a1_0 l1_1 = some (r1, r2)) :
  Calls Try.prog 60 #[.pointer (some ⟨g, 0, none⟩), .agg #[.int .i64 a1_0, .slice A1_1 l1_1.length c1_1]] w fun e w' => e = .returned (.int .i64 r1) ∧ IsS77 w0 w' g s0_0 r2 ∧ Below w0.heap.size w0 w' ∧ KeepBut w w' g none := by
 have hu30 := Try.underlying30
 have HR1_1 := Aside0.mk hr1_1
 have HC1_1 := Aside0.mk hc1_1
 clear hr1_1 hc1_1
 have HI0 := Aside0.mk hI
 have HK := Aside0.mk (KeepBut.refl w g none)
 have HL := Aside0.mk hB.size
 clear hI
 have HW0 := Aside0.mk hB.size
 have HB := Aside0.mk hB
 clear hB
 have H : (if (l1_1.length : Int) = 0 then (spec_l71Place.j0 k true s0_0 s0_1 a1_0 l1_1) else ((spec_l6Rd_pick.f k s0_0 s0_1 24).bind fun bt460 => (spec_l71Place.j0 k (bt460.1 == 0) s0_0 bt460.2 a1_0 l1_1))) = some (r1, r2) := h
 clear h
 have HC3 := Aside0.mk H
 clear H
 go_enter Try.func60, Try.ntmps60
 go_upto_region 1 with (first | ((with_reducible refine gate_dst (N := 3) rfl ?_); refine box_event rfl (N := 3) rfl (cs := #[.int .i64 a1_0, .slice A1_1 l1_1.length c1_1]) (t := 30) ?hr ?_; (case hr => first | (go_simp; done) | (go_simp; rfl)); intro gb459 hg w4 hbox hb; have n0_ := Aside0.mk (IsS77.below (by repeat (first | (with_reducible first | exact HI0.out | apply IsS77.alloc | apply IsS77.drewN | apply IsS77.drew | apply IsS77.set_1) | exact HI0.out)) hb); have n1_ := Aside0.mk (KeepBut.trans (by repeat (first | (with_reducible first | exact HK.out | apply KeepBut.set_ | apply keep_drewN | apply keep_drew | apply keep_alloc) | exact HK.out)) (KeepBut.of_below hb g none) (.inl rfl)); have n2_ := Aside0.mk (below_step (by repeat (first | (with_reducible first | exact HB.out | apply below_alloc | apply pw_below_drewN | apply below_drew1 | refine below_set ?_ (IsS77.ge HI0.out)) | exact HB.out)) hb); have n3_ := Aside0.mk (hbox); have n4_ := Aside0.mk ((by rw [hg]; exact (keep_size (w := w) (g := g) (row := none) (by repeat (first | (with_reducible first | exact HK.out | apply KeepBut.set_ | apply keep_drewN | apply keep_drew | apply keep_alloc) | exact HK.out))) : w.heap.size ≤ gb459)); have n5_ := Aside0.mk ((Nat.le_trans HW0.out (by rw [hg]; exact (keep_size (w := w) (g := g) (row := none) (by repeat (first | (with_reducible first | exact HK.out | apply KeepBut.set_ | apply keep_drewN | apply keep_drew | apply keep_alloc) | exact HK.out))) : w.heap.size ≤ gb459) : w0.heap.size ≤ gb459)); have n6_ := Aside0.mk ((by rw [hg]; exact Nat.ne_of_lt (IsS77.lt (show IsS77 w0 _ g s0_0 s0_1 from by repeat (first | (with_reducible first | exact HI0.out | apply IsS77.alloc | apply IsS77.drewN | apply IsS77.drew | apply IsS77.set_1) | exact HI0.out))) : g ≠ gb459)); have n7_ := Aside0.mk ((by rw [hg]; exact Nat.ne_of_gt (IsS77.lt (show IsS77 w0 _ g s0_0 s0_1 from by repeat (first | (with_reducible first | exact HI0.out | apply IsS77.alloc | apply IsS77.drewN | apply IsS77.drew | apply IsS77.set_1) | exact HI0.out))) : gb459 ≠ g)); clear HI0; clear HK; clear HB; have HI0 := n0_; have HK := n1_; have HB := n2_; have BK459 := n3_; have GW459 := n4_; have GE459 := n5_; have NB0_459 := n6_; have NB459_0 := n7_; clear n0_ n1_ n2_ n3_ n4_ n5_ n6_ n7_; clear hb hbox hg))
 (try simp only [Act.put, List.setIfInBounds_toArray, List.set_cons_zero, List.set_cons_succ])
 go_cut [13] (fun v13 wc => ∃ (kq : Nat) (x13_2 : Bool) (x1001_2 : Int), v13 = .bool x13_2 ∧ Aside0 (spec_l71Place.j0 kq x13_2 s0_0 x1001_2 a1_0 l1_1 = some (r1, r2)) ∧ Aside0 (kq ≤ k) ∧ Aside0 (wc.heap[gb459]? = some (.cells #[.int .i64 a1_0, (.slice A1_1 l1_1.length c1_1)] 30 (0, 0))) ∧ Aside0 (IsS77 w0 wc g s0_0 x1001_2) ∧ Aside0 (KeepBut w wc g none) ∧ Aside0 (Below w0.heap.size w0 wc))
 case first =>
  have H := HC3.out
  clear HC3
  by_cases c5 : (l1_1.length : Int) = 0
  ·rw [if_pos c5] at H
   have c5b0 : ((l1_1.length : Int) == 0) = true := beq_iff_eq.mpr c5
   have c5b1 : ((l1_1.length : Int) != 0) = false := bne_eq_false_iff_eq.mpr c5
   clear c5
   (first | rw [c5b0] | (simp only [i64_w, i32_w]; rw [c5b0]) | skip)
   have H' := Aside0.mk H
   clear H
   have hnb6 := NB459_0.out
   have hnc6 := NB0_459.out
   have hcz7_0 : w4.cell? ⟨gb459, 0, none⟩ = some (.int .i64 a1_0) := (blk_cell BK459.out 0).trans rfl
   have hcz7_1 : w4.cell? ⟨gb459, 1, none⟩ = some (.slice A1_1 l1_1.length c1_1) := (blk_cell BK459.out 1).trans rfl
   have hfz7_0 := blk_frozen BK459.out 0
   have hfz7_1 := blk_frozen BK459.out 1
   go_wp2
   go_meet
   case rel => exact ⟨_, (true), (s0_1), (by first | rfl | (simp; done) | (simp [*]; done)), H', ⟨by first | omega | exact Nat.le_refl _⟩, ⟨by (with_reducible repeat apply blk_alloc); exact BK459.out⟩, ⟨by repeat (first | (with_reducible first | exact HI0.out | apply IsS77.alloc | apply IsS77.drewN | apply IsS77.drew | apply IsS77.set_1 | refine IsS77.far ?_ NB0_459.out _) | exact HI0.out)⟩, ⟨by repeat (first | (with_reducible first | exact HK.out | apply KeepBut.set_ | apply keep_drewN | apply keep_drew | apply keep_alloc | refine keep_far ?_ GW459.out _) | exact HK.out)⟩, ⟨by repeat (first | (with_reducible first | exact HB.out | apply below_alloc | apply pw_below_drewN | apply below_drew1 | refine below_set ?_ (IsS77.ge HI0.out) | refine below_set ?_ GE459.out) | exact HB.out)⟩⟩
  ·rw [if_neg c5] at H
   have c5b0 : ((l1_1.length : Int) == 0) = false := beq_eq_false_iff_ne.mpr c5
   have c5b1 : ((l1_1.length : Int) != 0) = true := bne_iff_ne.mpr c5
   have c5b2 : ¬ (l1_1 = []) := fun h_ => c5 (by rw [h_]; rfl)
   (first | rw [c5b0] | (simp only [i64_w, i32_w]; rw [c5b0]) | skip)
   replace H := Option.bind_eq_some_iff.mp H
   obtain ⟨⟨t460, t461⟩, A80, H⟩ := H
   replace H : (spec_l71Place.j0 k (t460 == 0) s0_0 t461 a1_0 l1_1) = some (r1, r2) := H
   have A8 := Aside0.mk A80
   clear A80
   have H' := Aside0.mk H
   clear H
   have hnb9 := NB459_0.out
   have hnc9 := NB0_459.out
   have hcz10_0 : w4.cell? ⟨gb459, 0, none⟩ = some (.int .i64 a1_0) := (blk_cell BK459.out 0).trans rfl
   have hcz10_1 : w4.cell? ⟨gb459, 1, none⟩ = some (.slice A1_1 l1_1.length c1_1) := (blk_cell BK459.out 1).trans rfl
   have hfz10_0 := blk_frozen BK459.out 0
   have hfz10_1 := blk_frozen BK459.out 1
   go_wp2_with (first | (go_at_call 42; (with_reducible refine (spec_l6Rd_pick.calls k g s0_0 s0_1 24 t460 t461 w0 _ ?side1 ?side2 A8.out).mono ?_); (case side1 => repeat (first | (with_reducible first | exact HI0.out | apply IsS77.alloc | apply IsS77.drewN | apply IsS77.drew | apply IsS77.set_1 | refine IsS77.far ?_ NB0_459.out _) | exact HI0.out)); (case side2 => repeat (first | (with_reducible first | exact HB.out | apply below_alloc | apply pw_below_drewN | apply below_drew1 | refine below_set ?_ (IsS77.ge HI0.out) | refine below_set ?_ GE459.out) | exact HB.out)); rintro e w11 ⟨rfl, hi, hb, hk⟩; have n0_ := Aside0.mk (KeepBut.blk hk (g' := gb459) (o := .cells #[.int .i64 a1_0, .slice A1_1 l1_1.length c1_1] 30 (0, 0)) (bK BK459.out) NB459_0.out (by simp)); have n1_ := Aside0.mk (KeepBut.trans (by repeat (first | (with_reducible first | exact HK.out | apply KeepBut.set_ | apply keep_drewN | apply keep_drew | apply keep_alloc | refine keep_far ?_ GW459.out _) | exact HK.out)) hk (.inl rfl)); have n2_ := Aside0.mk (hb); have n3_ := Aside0.mk (hi); clear BK459; clear HK; clear HB; clear HI0; have BK459 := n0_; have HK := n1_; have HB := n2_; have HI0 := n3_; clear n0_ n1_ n2_ n3_; (try clear hb); (try clear hb2); (try clear hk); (try clear hi)))
   go_meet
   case rel => exact ⟨_, ((t460 == 0)), (t461), (by first | rfl | (simp; done) | (simp [*]; done)), H', ⟨by first | omega | exact Nat.le_refl _⟩, ⟨by (with_reducible repeat apply blk_alloc); exact BK459.out⟩, ⟨by repeat (first | (with_reducible first | exact HI0.out | apply IsS77.alloc | apply IsS77.drewN | apply IsS77.drew | apply IsS77.set_1 | refine IsS77.far ?_ NB0_459.out _) | exact HI0.out)⟩, ⟨by repeat (first | (with_reducible first | exact HK.out | apply KeepBut.set_ | apply keep_drewN | apply keep_drew | apply keep_alloc | refine keep_far ?_ GW459.out _) | exact HK.out)⟩, ⟨by repeat (first | (with_reducible first | exact HB.out | apply below_alloc | apply pw_below_drewN | apply below_drew1 | refine below_set ?_ (IsS77.ge HI0.out) | refine below_set ?_ GE459.out) | exact HB.out)⟩⟩
 case rest =>
  clear HC3
  try clear c1
  try clear p2
  try clear c5
  try clear c5b0
  try clear c5b1
  try clear c5b2
  try clear c6
  try clear c9
  try clear hcz10_0
  try clear hcz10_1
  try clear hcz7_0
  try clear hcz7_1
  try clear hfz10_0
  try clear hfz10_1
  try clear hfz7_0
  try clear hfz7_1
  obtain ⟨kq, x13_2, x1001_2, rfl, HA, HJ2, BK459, HI0, HK, HB⟩ := hcut
  cases kq with
  | zero => exact absurd HA.out (by simp [spec_l71Place.j0])
  | succ kj2 =>
   have H := HA.out
   clear HA
   simp only [spec_l71Place.j0] at H
   by_cases c12 : x13_2 = true
   ·subst c12
    have H1 : ((some (([(-1), 25, (l1_1.length : Int)] : List Int) : List Int)).bind fun y462 => ((spec_l6Rd_pick.f kj2 s0_0 x1001_2 3).bind fun bt465 => (if 0 ≤ bt465.1 then (if bt465.1 < (y462.length : Int) then (some (rd y462 bt465.1, bt465.2)) else (none)) else (none)))) = some (r1, r2) := by rw [if_pos rfl] at H; exact H
    clear H
    have H := H1
    clear H1
    obtain ⟨y462, hy462⟩ : ∃ y_ : List Int, y_ = (([(-1), 25, (l1_1.length : Int)] : List Int)) := ⟨_, rfl⟩
    replace H : ((spec_l6Rd_pick.f kj2 s0_0 x1001_2 3).bind fun bt465 => (if 0 ≤ bt465.1 then (if bt465.1 < (y462.length : Int) then (some (rd y462 bt465.1, bt465.2)) else (none)) else (none))) = some (r1, r2) := by first | (rw [hy462]; with_reducible exact H) | (have H2_ := (Option.bind_some _ _).symm.trans H; rw [hy462]; with_reducible exact H2_) | (have H2_ := (Option.bind_some _ _).symm.trans H; with_reducible exact H2_) | with_reducible exact H | (rw [hy462]; exact H) | exact H
    have Ny462 := Aside0.mk hy462
    clear hy462
    replace H := Option.bind_eq_some_iff.mp H
    obtain ⟨⟨t465, t466⟩, A130, H⟩ := H
    replace H : (if 0 ≤ t465 then (if t465 < (y462.length : Int) then (some (rd y462 t465, t466)) else (none)) else (none)) = some (r1, r2) := H
    have A13 := Aside0.mk A130
    clear A130
    by_cases c14 : 0 ≤ t465
    ·rw [if_pos c14] at H
     have c14b0 : decide (0 ≤ t465) = true := decide_eq_true c14
     clear c14
     by_cases c15 : t465 < (y462.length : Int)
     ·rw [if_pos c15] at H
      have c15b0 : decide (t465 < (y462.length : Int)) = true := decide_eq_true c15
      clear c15
      simp only [Option.some.injEq, Prod.mk.injEq] at H
      obtain ⟨rfl, rfl⟩ := H
      try go_wp2
      have pi467 : (0 ≤ (t465 : Int)) = True := eq_true (of_decide_eq_true (by first | (with_reducible assumption) | assumption))
      have qi467 : (t465 < (y462.length : Int)) = True := eq_true (of_decide_eq_true (by first | (with_reducible assumption) | assumption))
      have n0_ := Aside0.mk (blk_drew BK459.out)
      have n1_ := Aside0.mk (IsS77.drew HI0.out)
      have n2_ := Aside0.mk (keep_drew HK.out)
      have n3_ := Aside0.mk (below_drew1 HB.out)
      clear BK459
      clear HI0
      clear HK
      clear HB
      have BK459 := n0_
      have HI0 := n1_
      have HK := n2_
      have HB := n3_
      clear n0_ n1_ n2_ n3_
      refine start_ (n := 9) (S := fun w' => True) (ds := []) #[false, false, false, false, false, false, false, false, false] (by kernel_rfl) rfl rfl trivial (fun hHeld => ?_); refine with_tabW spec_l71Place.tab2 spec_l71Place.bits2 (fun HT_ HW_ => ?_)
      generalize wc.drew = w16 at BK459 HI0 HK HB hHeld ⊢
      refine pure_ (i := 0) (N := some 14) (v := ?_) (a' := ?_) #[true, false, false, false, false, false, false, false, false] rfl rfl (any_of HT_.out (by kernel_rfl)) (fun _ _ _ h => h) (Or.inl ⟨by rfl, ?_⟩) ?_ ?_
      rotate_left
      ·intro w'
       go_simp
       with_reducible rfl
      rotate_left
      ·simp only [Act.put, List.setIfInBounds_toArray, List.set_cons_zero, List.set_cons_succ, i64_w, i32_w]
       rfl
      refine pure_ (i := 4) (N := some 18) (v := ?_) (a' := ?_) #[true, false, false, false, true, false, false, false, false] rfl rfl (any_of HT_.out (by kernel_rfl)) (fun _ _ _ h => h) (Or.inl ⟨by rfl, ?_⟩) ?_ ?_
      rotate_left
      ·intro w'
       go_simp
       with_reducible rfl
      rotate_left
      ·simp only [Act.put, List.setIfInBounds_toArray, List.set_cons_zero, List.set_cons_succ, i64_w, i32_w]
       rfl
      refine inv_at [1, 2, 3, 5, 6, 7, 8] (fun a0_ b a w' => ∃ (v463 : Value) (adz_v463 : Addr) (m6_ : Value), a = putSel a0_ b [(1, 15, .slice A1_1 l1_1.length c1_1), (2, 16, .int .i64 (l1_1.length : Int)), (3, 17, v463), (5, 19, .int .i64 t465), (6, 20, m6_), (7, 21, .int .i64 (rd y462 t465)), (8, 4, .int .i64 (rd y462 t465))] ∧ (w'.heap[gb459]? = some (.cells #[.int .i64 a1_0, .slice A1_1 l1_1.length c1_1] 30 (0, 0))) ∧ (b 5 = false → IsS77 w0 w' g s0_0 x1001_2) ∧ (KeepBut w w' g none) ∧ (Below w0.heap.size w0 w') ∧ (b 3 = true → Kd.R (Kd.int .i64) 3 w' w.heap.size (fun _ => True) v463 y462) ∧ (b 3 = true → ∃ c_, (v463 : Value) = .slice (some adz_v463) y462.length c_) ∧ (b 5 = true → IsS77 w0 w' g s0_0 t466) ∧ (b 6 = true → (m6_ : Value) = .pointer (some (adz_v463.add (t465).toNat)))) HT_.out HW_.out (by kernel_rfl) (by kernel_rfl) ?_ ?_ ?_
      ·exact ⟨.bool false, ⟨0, 0, none⟩, .bool false, by simp only [putSel, Bool.false_eq_true, if_false], BK459.out, fun _ => HI0.out, HK.out, HB.out, fun h_ => absurd h_ (by decide), fun h_ => absurd h_ (by decide), fun h_ => absurd h_ (by decide), fun h_ => absurd h_ (by decide)⟩
      ·skip
       clear BK459 HB HI0 HK
       refine steps_cons ?_ ?_
       ·rintro b a w' ⟨v463, adz_v463, m6_, ha, Q_BK459, Q_HI0, Q_HK, Q_HB, Q_HO464, Q_HA_HO464, Q_HI0_e5, Q_X6_⟩ hb_ hon hoff
        refine ⟨_, rfl, fun K hK => ?_⟩
        have e14 : a.tmps[14]? = some (.pointer (some ⟨gb459, 1, none⟩)) := by rw [ha]; exact (putSel_off rfl).trans rfl
        replace ha := Aside0.mk ha
        have BK459 := Aside0.mk Q_BK459
        have HK := Aside0.mk Q_HK
        have HB := Aside0.mk Q_HB
        have hc0_ : w'.cell? ⟨gb459, 0, none⟩ = some (.int .i64 a1_0) := (blk_cell BK459.out 0).trans rfl
        have hc1_ : w'.cell? ⟨gb459, 1, none⟩ = some (.slice A1_1 l1_1.length c1_1) := (blk_cell BK459.out 1).trans rfl
        refine value_ (w1 := w') (v := .slice A1_1 l1_1.length c1_1) (by rfl) rfl ?_ ?_
        ·go_simp
         (try simp only [i64_w])
         try rfl
        refine hK.out _ _ ⟨v463, adz_v463, m6_, (by rw [ha.out]; exact putSel_upk 0 hb_ rfl rfl rfl), Q_BK459, Q_HI0, Q_HK, Q_HB, fun h0_ => absurd ((hoff 3 (by kernel_rfl)).symm.trans h0_) (by decide), fun h0_ => absurd ((hoff 3 (by kernel_rfl)).symm.trans h0_) (by decide), Q_HI0_e5, fun h0_ => absurd ((hoff 6 (by kernel_rfl)).symm.trans h0_) (by decide)⟩
       refine steps_cons ?_ ?_
       ·rintro b a w' ⟨v463, adz_v463, m6_, ha, Q_BK459, Q_HI0, Q_HK, Q_HB, Q_HO464, Q_HA_HO464, Q_HI0_e5, Q_X6_⟩ hb_ hon hoff
        refine ⟨_, rfl, fun K hK => ?_⟩
        have e15 : a.tmps[15]? = some (.slice A1_1 l1_1.length c1_1) := by rw [ha]; exact putSel_on (e := (1, 15, .slice A1_1 l1_1.length c1_1)) 0 rfl rfl (hon 1 (by kernel_rfl)) rfl
        replace ha := Aside0.mk ha
        have BK459 := Aside0.mk Q_BK459
        have HK := Aside0.mk Q_HK
        have HB := Aside0.mk Q_HB
        refine value_ (w1 := w') (v := .int .i64 (l1_1.length : Int)) (by rfl) rfl ?_ ?_
        ·go_simp
         (try simp only [i64_w])
         try rfl
        refine hK.out _ _ ⟨v463, adz_v463, m6_, (by rw [ha.out]; exact putSel_upk 1 hb_ rfl rfl rfl), Q_BK459, Q_HI0, Q_HK, Q_HB, fun h0_ => absurd ((hoff 3 (by kernel_rfl)).symm.trans h0_) (by decide), fun h0_ => absurd ((hoff 3 (by kernel_rfl)).symm.trans h0_) (by decide), Q_HI0_e5, fun h0_ => absurd ((hoff 6 (by kernel_rfl)).symm.trans h0_) (by decide)⟩
       refine steps_cons ?_ ?_
       ·rintro b a w' ⟨v463, adz_v463, m6_, ha, Q_BK459, Q_HI0, Q_HK, Q_HB, Q_HO464, Q_HA_HO464, Q_HI0_e5, Q_X6_⟩ hb_ hon hoff
        refine ⟨_, rfl, fun K hK => ?_⟩
        have e16 : a.tmps[16]? = some (.int .i64 (l1_1.length : Int)) := by rw [ha]; exact putSel_on (e := (2, 16, .int .i64 (l1_1.length : Int))) 1 rfl rfl (hon 2 (by kernel_rfl)) rfl
        replace ha := Aside0.mk ha
        have BK459 := Aside0.mk Q_BK459
        have HK := Aside0.mk Q_HK
        have HB := Aside0.mk Q_HB
        refine Kd.R_lit_step (Kd.int .i64) _ 3 ?hg (N := 17) ?hd (xs := ([(-1), 25, (l1_1.length : Int)] : List Int)) (inner := [.int .i64 (-1), .int .i64 25, .int .i64 (l1_1.length : Int)]) (ok := fun _ => True) (okp := fun _ => True) ?hr ?hp (fun _ hk => hk) trivial (Below.refl _ _) (Nat.le_refl _) (by simp) ?_; (case hd => rfl); (case hg => rfl); (case hr => first | (go_simp; done) | (go_simp; rfl)); (case hp => exact (Reps.one (show Kd.M (Kd.int .i64) _ _ _ (-1) [.int .i64 (-1)] from rfl) (Reps.one (show Kd.M (Kd.int .i64) _ _ _ 25 [.int .i64 25] from rfl) (Reps.one (show Kd.M (Kd.int .i64) _ _ _ (l1_1.length : Int) [.int .i64 (l1_1.length : Int)] from rfl) (Reps.none _ _)))))
        intro v463 w17 ho18 hb hg_ hnew_
        clear hg_ hnew_
        (first | rw [← Ny462.out] at ho18 | (simp only [Int.reduceToNat] at ho18; rw [← Ny462.out] at ho18))
        have n0_ := Aside0.mk (Kd.R_lower ho18 (keep_size (w := w) (g := g) (row := none) (by repeat (first | (with_reducible first | exact HK.out | apply KeepBut.set_ | apply keep_drewN | apply keep_drew | apply keep_alloc | refine keep_far ?_ GW459.out _) | exact HK.out))))
        have n1_ := Aside0.mk (blk_below (bK BK459.out) hb)
        have n3_ := Aside0.mk (KeepBut.trans (by repeat (first | (with_reducible first | exact HK.out | apply KeepBut.set_ | apply keep_drewN | apply keep_drew | apply keep_alloc | refine keep_far ?_ GW459.out _) | exact HK.out)) (KeepBut.of_below hb g none) (.inl rfl))
        have n4_ := Aside0.mk (below_step (by repeat first | exact HB.out | with_reducible refine below_setA ?_ ‹_› | apply below_alloc | apply pw_below_drewN) hb)
        have z_HI0 := fun (h0_ : b 5 = false) => (show IsS77 w0 w17 g s0_0 x1001_2 from by first | exact (IsS77.below (by repeat (first | (with_reducible first | exact (Q_HI0 h0_) | apply IsS77.alloc | apply IsS77.drewN | apply IsS77.drew | apply IsS77.set_1 | refine IsS77.far ?_ NB0_459.out _) | exact (Q_HI0 h0_))) hb))
        have z_HI0_e5 := fun (h0_ : b 5 = true) => (show IsS77 w0 w17 g s0_0 t466 from by first | exact (IsS77.below (by repeat (first | (with_reducible first | exact (Q_HI0_e5 h0_) | apply IsS77.alloc | apply IsS77.drewN | apply IsS77.drew | apply IsS77.set_1 | refine IsS77.far ?_ NB0_459.out _) | exact (Q_HI0_e5 h0_))) hb))
        clear BK459
        clear HK
        clear HB
        have HO464 := n0_
        have BK459 := n1_
        have HK := n3_
        have HB := n4_
        clear n0_ n1_ n3_ n4_
        clear hb ho18
        obtain ⟨Ao19, co19, eo19⟩ := Kd.R_slice HO464.out
        subst eo19
        obtain ⟨ado19, fo19, _⟩ := Kd.at_int (Kd.R_reads' HO464.out).2.2 0 (by decide) (by rw [Ny462.out]; simp)
        cases fo19
        refine hK.out _ _ ⟨.slice (some ado19) y462.length co19, ado19, m6_, (by rw [ha.out]; exact putSel_upk 2 hb_ rfl rfl rfl), (bK BK459.out), z_HI0, (by repeat (first | (with_reducible first | exact HK.out | apply KeepBut.set_ | apply keep_drewN | apply keep_drew | apply keep_alloc | refine keep_far ?_ GW459.out _) | exact HK.out)), (by repeat first | exact HB.out | with_reducible refine below_setA ?_ ‹_› | apply below_alloc | apply pw_below_drewN), fun _ => (kR HO464.out), fun _ => ⟨_, rfl⟩, z_HI0_e5, fun h0_ => absurd ((hoff 6 (by kernel_rfl)).symm.trans h0_) (by decide)⟩
       refine steps_cons ?_ ?_
       ·rintro b a w' ⟨v463, adz_v463, m6_, ha, Q_BK459, Q_HI0, Q_HK, Q_HB, Q_HO464, Q_HA_HO464, Q_HI0_e5, Q_X6_⟩ hb_ hon hoff
        refine ⟨_, rfl, fun K hK => ?_⟩
        have e18 : a.tmps[18]? = some (.pointer (some ⟨g, 0, none⟩)) := by rw [ha]; exact (putSel_off rfl).trans rfl
        replace ha := Aside0.mk ha
        have BK459 := Aside0.mk Q_BK459
        have HI0 := Aside0.mk (Q_HI0 hb_)
        have HK := Aside0.mk Q_HK
        have HB := Aside0.mk Q_HB
        refine goes_ Try.func42 (by kernel_rfl) rfl #[.pointer (some ⟨g, 0, none⟩), .int .i64 3] (by rfl) rfl rfl (by first | (simp only [List.map_toArray, List.map_cons, List.map_nil, Act.eval, Array.getD_eq_getD_getElem?, Option.getD_some, e18]; done) | (simp only [List.map_toArray, List.map_cons, List.map_nil, Act.eval, Array.getD_eq_getD_getElem?, Option.getD_some, e18]; rfl)) ?_
        with_reducible refine (spec_l6Rd_pick.calls kj2 g s0_0 x1001_2 3 t465 t466 w0 _ ?side1 ?side2 A13.out).mono ?_
        (case side1 => repeat (first | (with_reducible first | exact HI0.out | apply IsS77.alloc | apply IsS77.drewN | apply IsS77.drew | apply IsS77.set_1 | refine IsS77.far ?_ NB0_459.out _) | exact HI0.out))
        (case side2 => repeat (first | (with_reducible first | exact HB.out | apply below_alloc | apply pw_below_drewN | apply below_drew1 | refine below_set ?_ (IsS77.ge HI0.out) | refine below_set ?_ GE459.out) | exact HB.out))
        rintro e w17 ⟨rfl, hi, hb, hk⟩
        refine ⟨_, rfl, ?_⟩
        have n0_ := Aside0.mk (KeepBut.blk hk (g' := gb459) (o := .cells #[.int .i64 a1_0, .slice A1_1 l1_1.length c1_1] 30 (0, 0)) (bK BK459.out) NB459_0.out (by simp))
        have n1_ := Aside0.mk (KeepBut.trans (by repeat (first | (with_reducible first | exact HK.out | apply KeepBut.set_ | apply keep_drewN | apply keep_drew | apply keep_alloc | refine keep_far ?_ GW459.out _) | exact HK.out)) hk (.inl rfl))
        have n2_ := Aside0.mk (hb)
        have n3_ := Aside0.mk (hi)
        have z_HO464 := fun (h0_ : b 3 = true) => (show Kd.R (Kd.int .i64) 3 w17 w.heap.size (fun _ => True) v463 y462 from by first | exact (Kd.R_mono (Kd.R_keep (IsS77.apart (show IsS77 w0 _ g s0_0 x1001_2 from by repeat (first | (with_reducible first | exact HI0.out | apply IsS77.alloc | apply IsS77.drewN | apply IsS77.drew | apply IsS77.set_1 | refine IsS77.far ?_ NB0_459.out _) | exact HI0.out)) (by (with_reducible repeat apply Kd.R_alloc); exact (Q_HO464 h0_)) (by decide)) hk (fun _ h => h.2)) (fun _ h => h.1)) | exact Kd.R_mono (Kd.R_mono (Kd.R_keep (IsS77.apart (show IsS77 w0 _ g s0_0 x1001_2 from by repeat (first | (with_reducible first | exact HI0.out | apply IsS77.alloc | apply IsS77.drewN | apply IsS77.drew | apply IsS77.set_1 | refine IsS77.far ?_ NB0_459.out _) | exact HI0.out)) (by (with_reducible repeat apply Kd.R_alloc); exact (Q_HO464 h0_)) (by decide)) hk (fun _ h => h.2)) (fun _ h => h.1)) (fun _ h_ => by first | trivial | exact h_ | exact h_.1))
        clear BK459
        clear HK
        clear HB
        clear HI0
        have BK459 := n0_
        have HK := n1_
        have HB := n2_
        have HI0 := n3_
        clear n0_ n1_ n2_ n3_
        (try clear hb)
        (try clear hb2)
        (try clear hk)
        (try clear hi)
        refine hK.out _ _ ⟨v463, adz_v463, m6_, (by rw [ha.out]; exact putSel_upk 3 hb_ rfl rfl rfl), (bK BK459.out), fun h0_ => absurd ((up_self b 5).symm.trans h0_) (by decide), (by repeat (first | (with_reducible first | exact HK.out | apply KeepBut.set_ | apply keep_drewN | apply keep_drew | apply keep_alloc | refine keep_far ?_ GW459.out _) | exact HK.out)), (by repeat (first | (with_reducible first | exact HB.out | apply below_alloc | apply pw_below_drewN | apply below_drew1 | refine below_set ?_ (IsS77.ge HI0.out) | refine below_set ?_ GE459.out) | exact HB.out)), z_HO464, Q_HA_HO464, fun _ => (by repeat (first | (with_reducible first | exact HI0.out | apply IsS77.alloc | apply IsS77.drewN | apply IsS77.drew | apply IsS77.set_1 | refine IsS77.far ?_ NB0_459.out _) | exact HI0.out)), fun h0_ => absurd ((hoff 6 (by kernel_rfl)).symm.trans h0_) (by decide)⟩
       refine steps_cons ?_ ?_
       ·rintro b a w' ⟨v463, adz_v463, m6_, ha, Q_BK459, Q_HI0, Q_HK, Q_HB, Q_HO464, Q_HA_HO464, Q_HI0_e5, Q_X6_⟩ hb_ hon hoff
        refine ⟨_, rfl, fun K hK => ?_⟩
        have e17 : a.tmps[17]? = some (v463) := by rw [ha]; exact putSel_on (e := (3, 17, v463)) 2 rfl rfl (hon 3 (by kernel_rfl)) rfl
        have e19 : a.tmps[19]? = some (.int .i64 t465) := by rw [ha]; exact putSel_on (e := (5, 19, .int .i64 t465)) 3 rfl rfl (hon 5 (by kernel_rfl)) rfl
        replace ha := Aside0.mk ha
        have BK459 := Aside0.mk Q_BK459
        have HK := Aside0.mk Q_HK
        have HB := Aside0.mk Q_HB
        have HO464 := Aside0.mk (Q_HO464 (hon 3 (by kernel_rfl)))
        have HA_HO464 := Aside0.mk (Q_HA_HO464 (hon 3 (by kernel_rfl)))
        have HI0 := Aside0.mk (Q_HI0_e5 (hon 5 (by kernel_rfl)))
        obtain ⟨c_, hv_⟩ := HA_HO464.out
        rw [hv_] at e17
        refine value_ (w1 := w') (v := .pointer (some (adz_v463.add (t465).toNat))) (by rfl) rfl ?_ ?_
        ·go_simp
         (try simp only [i64_w])
         try rfl
        refine hK.out _ _ ⟨v463, adz_v463, (.pointer (some (adz_v463.add (t465).toNat))), (by rw [ha.out]; exact putSel_upk 4 hb_ rfl rfl rfl), Q_BK459, fun h0_ => absurd ((hon 5 (by kernel_rfl)).symm.trans h0_) (by decide), Q_HK, Q_HB, Q_HO464, Q_HA_HO464, Q_HI0_e5, fun _ => rfl⟩
       refine steps_cons ?_ ?_
       ·rintro b a w' ⟨v463, adz_v463, m6_, ha, Q_BK459, Q_HI0, Q_HK, Q_HB, Q_HO464, Q_HA_HO464, Q_HI0_e5, Q_X6_⟩ hb_ hon hoff
        refine ⟨_, rfl, fun K hK => ?_⟩
        have e20 : a.tmps[20]? = some (m6_) := by rw [ha]; exact putSel_on (e := (6, 20, m6_)) 4 rfl rfl (hon 6 (by kernel_rfl)) rfl
        rw [Q_X6_ (hon 6 (by kernel_rfl))] at e20
        replace ha := Aside0.mk ha
        have BK459 := Aside0.mk Q_BK459
        have HK := Aside0.mk Q_HK
        have HB := Aside0.mk Q_HB
        have HO464 := Aside0.mk (Q_HO464 (hon 3 (by kernel_rfl)))
        have HA_HO464 := Aside0.mk (Q_HA_HO464 (hon 3 (by kernel_rfl)))
        have HI0 := Aside0.mk (Q_HI0_e5 (hon 5 (by kernel_rfl)))
        obtain ⟨c_, hv_⟩ := HA_HO464.out
        have hF_ := HO464.out
        rw [hv_] at hF_
        obtain ⟨ad_, ea_, hx_⟩ := Kd.at_int (Kd.R_reads' hF_).2.2 t465 (of_eq_true pi467) (of_eq_true qi467)
        cases ea_
        refine value_ (w1 := w') (v := .int .i64 (rd y462 t465)) (by rfl) rfl ?_ ?_
        ·go_simp
         (try simp only [i64_w])
         try rfl
        refine hK.out _ _ ⟨v463, adz_v463, m6_, (by rw [ha.out]; exact putSel_upk 5 hb_ rfl rfl rfl), Q_BK459, fun h0_ => absurd ((hon 5 (by kernel_rfl)).symm.trans h0_) (by decide), Q_HK, Q_HB, Q_HO464, Q_HA_HO464, Q_HI0_e5, Q_X6_⟩
       refine steps_cons ?_ ?_
       ·rintro b a w' ⟨v463, adz_v463, m6_, ha, Q_BK459, Q_HI0, Q_HK, Q_HB, Q_HO464, Q_HA_HO464, Q_HI0_e5, Q_X6_⟩ hb_ hon hoff
        refine ⟨_, rfl, fun K hK => ?_⟩
        have e21 : a.tmps[21]? = some (.int .i64 (rd y462 t465)) := by rw [ha]; exact putSel_on (e := (7, 21, .int .i64 (rd y462 t465))) 5 rfl rfl (hon 7 (by kernel_rfl)) rfl
        replace ha := Aside0.mk ha
        have BK459 := Aside0.mk Q_BK459
        have HK := Aside0.mk Q_HK
        have HB := Aside0.mk Q_HB
        have HO464 := Aside0.mk (Q_HO464 (hon 3 (by kernel_rfl)))
        have HA_HO464 := Aside0.mk (Q_HA_HO464 (hon 3 (by kernel_rfl)))
        have HI0 := Aside0.mk (Q_HI0_e5 (hon 5 (by kernel_rfl)))
        refine value_ (w1 := w') (v := .int .i64 (rd y462 t465)) (by rfl) rfl ?_ ?_
        ·go_simp
         (try simp only [i64_w])
         try rfl
        refine hK.out _ _ ⟨v463, adz_v463, m6_, (by rw [ha.out]; exact putSel_upk 6 hb_ rfl rfl rfl), Q_BK459, fun h0_ => absurd ((hon 5 (by kernel_rfl)).symm.trans h0_) (by decide), Q_HK, Q_HB, Q_HO464, Q_HA_HO464, Q_HI0_e5, Q_X6_⟩
       exact steps_nil
      rintro b a w21 hall ⟨v463, adz_v463, m6_, ha, Q_BK459, Q_HI0, Q_HK, Q_HB, Q_HO464, Q_HA_HO464, Q_HI0_e5, Q_X6_⟩
      clear BK459 HB HI0 HK
      have hb1_ := hall 1 (by kernel_rfl)
      have hb2_ := hall 2 (by kernel_rfl)
      have hb3_ := hall 3 (by kernel_rfl)
      have hb5_ := hall 5 (by kernel_rfl)
      have hb6_ := hall 6 (by kernel_rfl)
      have hb7_ := hall 7 (by kernel_rfl)
      have hb8_ := hall 8 (by kernel_rfl)
      subst ha
      obtain rfl := Q_X6_ hb6_
      simp only [putSel, hb1_, hb2_, hb3_, hb5_, hb6_, hb7_, hb8_, if_true, Act.put, List.setIfInBounds_toArray, List.set_cons_zero, List.set_cons_succ]
      have BK459 := Aside0.mk Q_BK459
      clear Q_BK459
      clear Q_HI0
      have HK := Aside0.mk Q_HK
      clear Q_HK
      have HB := Aside0.mk Q_HB
      clear Q_HB
      have HO464 := Aside0.mk (Q_HO464 hb3_)
      clear Q_HO464
      have HA_HO464 := Aside0.mk (Q_HA_HO464 hb3_)
      clear Q_HA_HO464
      have HI0 := Aside0.mk (Q_HI0_e5 hb5_)
      clear Q_HI0_e5
      clear hall hb1_ hb2_ hb3_ hb5_ hb6_ hb7_ hb8_
      obtain ⟨co22, eo22⟩ := HA_HO464.out
      clear HA_HO464
      subst eo22
      try go_wp2
      go_ret
      exact ⟨by first | rfl | (simp [errW_none, errW_some] <;> rfl) | (simp [*, errW_none, errW_some] <;> rfl) | (exfalso; simp_all; done), by repeat (first | (with_reducible first | exact HI0.out | apply IsS77.alloc | apply IsS77.drewN | apply IsS77.drew | apply IsS77.set_1 | refine IsS77.far ?_ NB0_459.out _) | exact HI0.out), by repeat (first | (with_reducible first | exact HB.out | apply below_alloc | apply pw_below_drewN | apply below_drew1 | refine below_set ?_ (IsS77.ge HI0.out) | refine below_set ?_ GE459.out) | exact HB.out), by repeat (first | (with_reducible first | exact HK.out | apply KeepBut.set_ | apply keep_drewN | apply keep_drew | apply keep_alloc | refine keep_far ?_ GW459.out _) | exact HK.out)⟩
     ·rw [if_neg c15] at H
      exact absurd H (by simp)
    ·rw [if_neg c14] at H
     exact absurd H (by simp)
   ·replace c12 := Bool.eq_false_iff.mpr c12
    subst c12
    have H1 : ((spec_l6Rd_pick.f kj2 s0_0 x1001_2 (l1_1.length : Int)).bind fun bt468 => (some (bt468.1, bt468.2))) = some (r1, r2) := by rw [if_neg (show ¬ (false = true) by decide)] at H; exact H
    clear H
    have H := H1
    clear H1
    replace H := Option.bind_eq_some_iff.mp H
    obtain ⟨⟨t468, t469⟩, A230, H⟩ := H
    replace H : (some (t468, t469)) = some (r1, r2) := H
    have A23 := Aside0.mk A230
    clear A230
    simp only [Option.some.injEq, Prod.mk.injEq] at H
    obtain ⟨rfl, rfl⟩ := H
    have hnb24 := NB459_0.out
    have hnc24 := NB0_459.out
    have hcz25_0 : wc.cell? ⟨gb459, 0, none⟩ = some (.int .i64 a1_0) := (blk_cell BK459.out 0).trans rfl
    have hcz25_1 : wc.cell? ⟨gb459, 1, none⟩ = some (.slice A1_1 l1_1.length c1_1) := (blk_cell BK459.out 1).trans rfl
    have hfz25_0 := blk_frozen BK459.out 0
    have hfz25_1 := blk_frozen BK459.out 1
    go_wp2_with (first | ((with_reducible refine gate_callee (f := 42) rfl ?_); refine goesL_ (some 26) rfl rfl Try.func42 (by kernel_rfl) rfl #[.pointer (some ⟨g, 0, none⟩), .int .i64 (l1_1.length : Int)] rfl (by first | rfl | (simp only [List.map_toArray, List.map_cons, List.map_nil, List.length_drop, List.length_take]; try rfl)) ?_; (with_reducible refine (spec_l6Rd_pick.calls kj2 g s0_0 x1001_2 (l1_1.length : Int) t468 t469 w0 _ ?side1 ?side2 A23.out).mono ?_); (case side1 => repeat (first | (with_reducible first | exact HI0.out | apply IsS77.alloc | apply IsS77.drewN | apply IsS77.drew | apply IsS77.set_1 | refine IsS77.far ?_ NB0_459.out _) | exact HI0.out)); (case side2 => repeat (first | (with_reducible first | exact HB.out | apply below_alloc | apply pw_below_drewN | apply below_drew1 | refine below_set ?_ (IsS77.ge HI0.out) | refine below_set ?_ GE459.out) | exact HB.out)); rintro e w26 ⟨rfl, hi, hb, hk⟩; refine ⟨_, rfl, ?_⟩; have n0_ := Aside0.mk (KeepBut.blk hk (g' := gb459) (o := .cells #[.int .i64 a1_0, .slice A1_1 l1_1.length c1_1] 30 (0, 0)) (bK BK459.out) NB459_0.out (by simp)); have n1_ := Aside0.mk (KeepBut.trans (by repeat (first | (with_reducible first | exact HK.out | apply KeepBut.set_ | apply keep_drewN | apply keep_drew | apply keep_alloc | refine keep_far ?_ GW459.out _) | exact HK.out)) hk (.inl rfl)); have n2_ := Aside0.mk (hb); have n3_ := Aside0.mk (hi); clear BK459; clear HK; clear HB; clear HI0; have BK459 := n0_; have HK := n1_; have HB := n2_; have HI0 := n3_; clear n0_ n1_ n2_ n3_; (try clear hb); (try clear hb2); (try clear hk); (try clear hi)))
    go_ret
    exact ⟨by first | rfl | (simp [errW_none, errW_some] <;> rfl) | (simp [*, errW_none, errW_some] <;> rfl) | (exfalso; simp_all; done), by repeat (first | (with_reducible first | exact HI0.out | apply IsS77.alloc | apply IsS77.drewN | apply IsS77.drew | apply IsS77.set_1 | refine IsS77.far ?_ NB0_459.out _) | exact HI0.out), by repeat (first | (with_reducible first | exact HB.out | apply below_alloc | apply pw_below_drewN | apply below_drew1 | refine below_set ?_ (IsS77.ge HI0.out) | refine below_set ?_ GE459.out) | exact HB.out), by repeat (first | (with_reducible first | exact HK.out | apply KeepBut.set_ | apply keep_drewN | apply keep_drew | apply keep_alloc | refine keep_far ?_ GW459.out _) | exact HK.out)⟩

end Go.Proofs.Ytbnofnamkgfadaa.P
