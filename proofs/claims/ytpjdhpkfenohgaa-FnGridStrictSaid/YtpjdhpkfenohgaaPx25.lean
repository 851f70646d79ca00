/- PROVED: contracts of functions; written by this session's driver (pk.py). No condition. -/
import Derived.Test.YtpjdhpkfenohgaaPx0
import Derived.Test.YtpjdhpkfenohgaaPx16
import Derived.Test.YtpjdhpkfenohgaaPx17
import Derived.Test.YtpjdhpkfenohgaaPx21
import Derived.Test.YtpjdhpkfenohgaaPx24
import Derived.Test.YtpjdhpkfenohgaaPx30
namespace Go.Proofs.Ytpjdhpkfenohgaa.P
open Go.RowKit Go.Proofs.YtpjdhpkfenohgaaW.PrintWords Go.Proofs.YtpjdhpkfenohgaaW.PrintLast Go.Proofs.YtpjdhpkfenohgaaW.PrintMore
attribute [local go_sem] max2_int min2_int max_two min_two max_three min_three max_four min_four   -- for this text's walks alone
set_option linter.unusedVariables false
set_option linter.unusedSimpArgs false

/-! ### spec_DrawGridRead: function 25 -/
def spec_DrawGridRead.f (k : Nat) (l0 : List Int) : Option (ByteArray) := (spec_l6Open.f l0).bind fun bt399 => ((spec_l71Grid.f k bt399.1 bt399.2).bind fun bt402 => ((spec_GridText.f k bt402.1 bt402.2.1).bind fun t407 => ((spec_l6Rd_pick.f k bt399.1 bt402.2.2 (wrap64 ((t407.size : Int) + 1))).bind fun bt408 => ((spec_l6Rd_pick.f k bt399.1 bt408.2 8).bind fun bt410 => (if bt410.1 = 0 then (if 0 ≤ bt408.1 then (if bt408.1 ≤ (t407.size : Int) then (some (t407.extract 0 (bt408.1 : Int).toNat)) else (none)) else (none)) else (if bt410.1 = 1 then (if 0 ≤ bt408.1 then (if bt408.1 ≤ (t407.size : Int) then ((spec_l6Rd_of.f k bt399.1 bt410.2 (([(⟨#[48]⟩ : ByteArray), (⟨#[32]⟩ : ByteArray), (⟨#[10]⟩ : ByteArray), (⟨#[46]⟩ : ByteArray), (⟨#[35]⟩ : ByteArray), (⟨#[113]⟩ : ByteArray)] : List ByteArray))).bind fun bt415 => (if (t407.extract 0 (bt408.1 : Int).toNat).size + bt415.1.size ≤ 9223372036854775807 then (if ((t407.extract 0 (bt408.1 : Int).toNat) ++ bt415.1).size + (t407.extract (bt408.1 : Int).toNat t407.size).size ≤ 9223372036854775807 then (some (((t407.extract 0 (bt408.1 : Int).toNat) ++ bt415.1) ++ (t407.extract (bt408.1 : Int).toNat t407.size))) else (none)) else (none))) else (none)) else (none)) else (if bt410.1 = 2 then ((spec_l6Rd_of.f k bt399.1 bt410.2 (([(⟨#[10]⟩ : ByteArray), (⟨#[46, 10]⟩ : ByteArray), (⟨#[46, 46, 46, 46, 46, 10]⟩ : ByteArray), (⟨#[46]⟩ : ByteArray)] : List ByteArray))).bind fun bt420 => (if t407.size + bt420.1.size ≤ 9223372036854775807 then (some (t407 ++ bt420.1)) else (none))) else (some t407))))))))
def spec_DrawGridRead.T8 : Bool × List (List Nat × List Nat) := (true, [([], []), ([], []), ([0, 1], [0, 1]), ([], []), ([], []), ([3, 4], [3, 4]), ([2, 5], [2, 5]), ([], []), ([], []), ([7, 8], [7, 8]), ([6, 9], [6, 9]), ([10, 5, 0, 1, 2, 3, 4, 5, 6, 7, 8, 9, 10], [10])])
def spec_DrawGridRead.B8 : List Nat := [0, 0, 3, 0, 0, 24, 63, 0, 0, 384, 1023, 2047]
theorem spec_DrawGridRead.tab8 : rtab .any (opsOf Try.f25 8) = spec_DrawGridRead.T8 := by kernel_rfl
theorem spec_DrawGridRead.bits8 : waitsOk spec_DrawGridRead.T8.2 spec_DrawGridRead.B8 = true := by kernel_rfl
set_option maxHeartbeats 8000000 in
set_option maxRecDepth 100000 in
theorem spec_DrawGridRead.calls (k : Nat) (A0 : Option Addr) (c0 : Nat) (l0 : List Int) (r : ByteArray) (w : World) (hr0 : Kd.C (Kd.int .u8) w A0 l0.length l0) (hc0 : l0.length ≤ c0) (h : spec_DrawGridRead.f k l0 = some r) :
  Calls Try.prog 25 #[.slice A0 l0.length c0] w fun e w' => e = .returned (.string r) ∧ Below w.heap.size w w' := by
 have HR0 := Aside0.mk hr0
 have HC0 := Aside0.mk hc0
 clear hr0 hc0
 have HB := Aside0.mk (Below.refl w.heap.size w)
 have H : ((spec_l6Open.f l0).bind fun bt399 => ((spec_l71Grid.f k bt399.1 bt399.2).bind fun bt402 => ((spec_GridText.f k bt402.1 bt402.2.1).bind fun t407 => ((spec_l6Rd_pick.f k bt399.1 bt402.2.2 (wrap64 ((t407.size : Int) + 1))).bind fun bt408 => ((spec_l6Rd_pick.f k bt399.1 bt408.2 8).bind fun bt410 => (if bt410.1 = 0 then (if 0 ≤ bt408.1 then (if bt408.1 ≤ (t407.size : Int) then (some (t407.extract 0 (bt408.1 : Int).toNat)) else (none)) else (none)) else (if bt410.1 = 1 then (if 0 ≤ bt408.1 then (if bt408.1 ≤ (t407.size : Int) then ((spec_l6Rd_of.f k bt399.1 bt410.2 (([(⟨#[48]⟩ : ByteArray), (⟨#[32]⟩ : ByteArray), (⟨#[10]⟩ : ByteArray), (⟨#[46]⟩ : ByteArray), (⟨#[35]⟩ : ByteArray), (⟨#[113]⟩ : ByteArray)] : List ByteArray))).bind fun bt415 => (if (t407.extract 0 (bt408.1 : Int).toNat).size + bt415.1.size ≤ 9223372036854775807 then (if ((t407.extract 0 (bt408.1 : Int).toNat) ++ bt415.1).size + (t407.extract (bt408.1 : Int).toNat t407.size).size ≤ 9223372036854775807 then (some (((t407.extract 0 (bt408.1 : Int).toNat) ++ bt415.1) ++ (t407.extract (bt408.1 : Int).toNat t407.size))) else (none)) else (none))) else (none)) else (none)) else (if bt410.1 = 2 then ((spec_l6Rd_of.f k bt399.1 bt410.2 (([(⟨#[10]⟩ : ByteArray), (⟨#[46, 10]⟩ : ByteArray), (⟨#[46, 46, 46, 46, 46, 10]⟩ : ByteArray), (⟨#[46]⟩ : ByteArray)] : List ByteArray))).bind fun bt420 => (if t407.size + bt420.1.size ≤ 9223372036854775807 then (some (t407 ++ bt420.1)) else (none))) else (some t407))))))))) = some r := h
 clear h
 replace H := Option.bind_eq_some_iff.mp H
 obtain ⟨⟨t399, t400⟩, A20, H⟩ := H
 replace H : ((spec_l71Grid.f k t399 t400).bind fun bt402 => ((spec_GridText.f k bt402.1 bt402.2.1).bind fun t407 => ((spec_l6Rd_pick.f k t399 bt402.2.2 (wrap64 ((t407.size : Int) + 1))).bind fun bt408 => ((spec_l6Rd_pick.f k t399 bt408.2 8).bind fun bt410 => (if bt410.1 = 0 then (if 0 ≤ bt408.1 then (if bt408.1 ≤ (t407.size : Int) then (some (t407.extract 0 (bt408.1 : Int).toNat)) else (none)) else (none)) else (if bt410.1 = 1 then (if 0 ≤ bt408.1 then (if bt408.1 ≤ (t407.size : Int) then ((spec_l6Rd_of.f k t399 bt410.2 (([(⟨#[48]⟩ : ByteArray), (⟨#[32]⟩ : ByteArray), (⟨#[10]⟩ : ByteArray), (⟨#[46]⟩ : ByteArray), (⟨#[35]⟩ : ByteArray), (⟨#[113]⟩ : ByteArray)] : List ByteArray))).bind fun bt415 => (if (t407.extract 0 (bt408.1 : Int).toNat).size + bt415.1.size ≤ 9223372036854775807 then (if ((t407.extract 0 (bt408.1 : Int).toNat) ++ bt415.1).size + (t407.extract (bt408.1 : Int).toNat t407.size).size ≤ 9223372036854775807 then (some (((t407.extract 0 (bt408.1 : Int).toNat) ++ bt415.1) ++ (t407.extract (bt408.1 : Int).toNat t407.size))) else (none)) else (none))) else (none)) else (none)) else (if bt410.1 = 2 then ((spec_l6Rd_of.f k t399 bt410.2 (([(⟨#[10]⟩ : ByteArray), (⟨#[46, 10]⟩ : ByteArray), (⟨#[46, 46, 46, 46, 46, 10]⟩ : ByteArray), (⟨#[46]⟩ : ByteArray)] : List ByteArray))).bind fun bt420 => (if t407.size + bt420.1.size ≤ 9223372036854775807 then (some (t407 ++ bt420.1)) else (none))) else (some t407)))))))) = some r := H
 have A2 := Aside0.mk A20
 clear A20
 replace H := Option.bind_eq_some_iff.mp H
 obtain ⟨⟨t402, t403, t406⟩, A30, H⟩ := H
 replace H : ((spec_GridText.f k t402 t403).bind fun t407 => ((spec_l6Rd_pick.f k t399 t406 (wrap64 ((t407.size : Int) + 1))).bind fun bt408 => ((spec_l6Rd_pick.f k t399 bt408.2 8).bind fun bt410 => (if bt410.1 = 0 then (if 0 ≤ bt408.1 then (if bt408.1 ≤ (t407.size : Int) then (some (t407.extract 0 (bt408.1 : Int).toNat)) else (none)) else (none)) else (if bt410.1 = 1 then (if 0 ≤ bt408.1 then (if bt408.1 ≤ (t407.size : Int) then ((spec_l6Rd_of.f k t399 bt410.2 (([(⟨#[48]⟩ : ByteArray), (⟨#[32]⟩ : ByteArray), (⟨#[10]⟩ : ByteArray), (⟨#[46]⟩ : ByteArray), (⟨#[35]⟩ : ByteArray), (⟨#[113]⟩ : ByteArray)] : List ByteArray))).bind fun bt415 => (if (t407.extract 0 (bt408.1 : Int).toNat).size + bt415.1.size ≤ 9223372036854775807 then (if ((t407.extract 0 (bt408.1 : Int).toNat) ++ bt415.1).size + (t407.extract (bt408.1 : Int).toNat t407.size).size ≤ 9223372036854775807 then (some (((t407.extract 0 (bt408.1 : Int).toNat) ++ bt415.1) ++ (t407.extract (bt408.1 : Int).toNat t407.size))) else (none)) else (none))) else (none)) else (none)) else (if bt410.1 = 2 then ((spec_l6Rd_of.f k t399 bt410.2 (([(⟨#[10]⟩ : ByteArray), (⟨#[46, 10]⟩ : ByteArray), (⟨#[46, 46, 46, 46, 46, 10]⟩ : ByteArray), (⟨#[46]⟩ : ByteArray)] : List ByteArray))).bind fun bt420 => (if t407.size + bt420.1.size ≤ 9223372036854775807 then (some (t407 ++ bt420.1)) else (none))) else (some t407))))))) = some r := H
 have A3 := Aside0.mk A30
 clear A30
 replace H := Option.bind_eq_some_iff.mp H
 obtain ⟨t407, A40, H⟩ := H
 replace H : ((spec_l6Rd_pick.f k t399 t406 (wrap64 ((t407.size : Int) + 1))).bind fun bt408 => ((spec_l6Rd_pick.f k t399 bt408.2 8).bind fun bt410 => (if bt410.1 = 0 then (if 0 ≤ bt408.1 then (if bt408.1 ≤ (t407.size : Int) then (some (t407.extract 0 (bt408.1 : Int).toNat)) else (none)) else (none)) else (if bt410.1 = 1 then (if 0 ≤ bt408.1 then (if bt408.1 ≤ (t407.size : Int) then ((spec_l6Rd_of.f k t399 bt410.2 (([(⟨#[48]⟩ : ByteArray), (⟨#[32]⟩ : ByteArray), (⟨#[10]⟩ : ByteArray), (⟨#[46]⟩ : ByteArray), (⟨#[35]⟩ : ByteArray), (⟨#[113]⟩ : ByteArray)] : List ByteArray))).bind fun bt415 => (if (t407.extract 0 (bt408.1 : Int).toNat).size + bt415.1.size ≤ 9223372036854775807 then (if ((t407.extract 0 (bt408.1 : Int).toNat) ++ bt415.1).size + (t407.extract (bt408.1 : Int).toNat t407.size).size ≤ 9223372036854775807 then (some (((t407.extract 0 (bt408.1 : Int).toNat) ++ bt415.1) ++ (t407.extract (bt408.1 : Int).toNat t407.size))) else (none)) else (none))) else (none)) else (none)) else (if bt410.1 = 2 then ((spec_l6Rd_of.f k t399 bt410.2 (([(⟨#[10]⟩ : ByteArray), (⟨#[46, 10]⟩ : ByteArray), (⟨#[46, 46, 46, 46, 46, 10]⟩ : ByteArray), (⟨#[46]⟩ : ByteArray)] : List ByteArray))).bind fun bt420 => (if t407.size + bt420.1.size ≤ 9223372036854775807 then (some (t407 ++ bt420.1)) else (none))) else (some t407)))))) = some r := H
 have A4 := Aside0.mk A40
 clear A40
 replace H := Option.bind_eq_some_iff.mp H
 obtain ⟨⟨t408, t409⟩, A50, H⟩ := H
 replace H : ((spec_l6Rd_pick.f k t399 t409 8).bind fun bt410 => (if bt410.1 = 0 then (if 0 ≤ t408 then (if t408 ≤ (t407.size : Int) then (some (t407.extract 0 (t408 : Int).toNat)) else (none)) else (none)) else (if bt410.1 = 1 then (if 0 ≤ t408 then (if t408 ≤ (t407.size : Int) then ((spec_l6Rd_of.f k t399 bt410.2 (([(⟨#[48]⟩ : ByteArray), (⟨#[32]⟩ : ByteArray), (⟨#[10]⟩ : ByteArray), (⟨#[46]⟩ : ByteArray), (⟨#[35]⟩ : ByteArray), (⟨#[113]⟩ : ByteArray)] : List ByteArray))).bind fun bt415 => (if (t407.extract 0 (t408 : Int).toNat).size + bt415.1.size ≤ 9223372036854775807 then (if ((t407.extract 0 (t408 : Int).toNat) ++ bt415.1).size + (t407.extract (t408 : Int).toNat t407.size).size ≤ 9223372036854775807 then (some (((t407.extract 0 (t408 : Int).toNat) ++ bt415.1) ++ (t407.extract (t408 : Int).toNat t407.size))) else (none)) else (none))) else (none)) else (none)) else (if bt410.1 = 2 then ((spec_l6Rd_of.f k t399 bt410.2 (([(⟨#[10]⟩ : ByteArray), (⟨#[46, 10]⟩ : ByteArray), (⟨#[46, 46, 46, 46, 46, 10]⟩ : ByteArray), (⟨#[46]⟩ : ByteArray)] : List ByteArray))).bind fun bt420 => (if t407.size + bt420.1.size ≤ 9223372036854775807 then (some (t407 ++ bt420.1)) else (none))) else (some t407))))) = some r := H
 have A5 := Aside0.mk A50
 clear A50
 replace H := Option.bind_eq_some_iff.mp H
 obtain ⟨⟨t410, t411⟩, A60, H⟩ := H
 replace H : (if t410 = 0 then (if 0 ≤ t408 then (if t408 ≤ (t407.size : Int) then (some (t407.extract 0 (t408 : Int).toNat)) else (none)) else (none)) else (if t410 = 1 then (if 0 ≤ t408 then (if t408 ≤ (t407.size : Int) then ((spec_l6Rd_of.f k t399 t411 (([(⟨#[48]⟩ : ByteArray), (⟨#[32]⟩ : ByteArray), (⟨#[10]⟩ : ByteArray), (⟨#[46]⟩ : ByteArray), (⟨#[35]⟩ : ByteArray), (⟨#[113]⟩ : ByteArray)] : List ByteArray))).bind fun bt415 => (if (t407.extract 0 (t408 : Int).toNat).size + bt415.1.size ≤ 9223372036854775807 then (if ((t407.extract 0 (t408 : Int).toNat) ++ bt415.1).size + (t407.extract (t408 : Int).toNat t407.size).size ≤ 9223372036854775807 then (some (((t407.extract 0 (t408 : Int).toNat) ++ bt415.1) ++ (t407.extract (t408 : Int).toNat t407.size))) else (none)) else (none))) else (none)) else (none)) else (if t410 = 2 then ((spec_l6Rd_of.f k t399 t411 (([(⟨#[10]⟩ : ByteArray), (⟨#[46, 10]⟩ : ByteArray), (⟨#[46, 46, 46, 46, 46, 10]⟩ : ByteArray), (⟨#[46]⟩ : ByteArray)] : List ByteArray))).bind fun bt420 => (if t407.size + bt420.1.size ≤ 9223372036854775807 then (some (t407 ++ bt420.1)) else (none))) else (some t407)))) = some r := H
 have A6 := Aside0.mk A60
 clear A60
 by_cases c7 : t410 = 0
 ·rw [if_pos c7] at H
  have c7b0 : (t410 == 0) = true := beq_iff_eq.mpr c7
  have c7b1 : (t410 != 0) = false := bne_eq_false_iff_eq.mpr c7
  clear c7
  by_cases c8 : 0 ≤ t408
  ·rw [if_pos c8] at H
   have c8b0 := eq_true c8
   have c8b1 : decide (0 ≤ t408) = true := decide_eq_true c8
   clear c8
   by_cases c9 : t408 ≤ (t407.size : Int)
   ·rw [if_pos c9] at H
    have c9b0 := eq_true c9
    have c9b1 : decide (t408 ≤ (t407.size : Int)) = true := decide_eq_true c9
    clear c9
    obtain rfl := Option.some.inj H
    go_enter Try.func25, Try.ntmps25
    go_wp2_with (first | ((with_reducible refine gate_callee (f := 40) rfl ?_); refine goesL_ (some 7) rfl rfl Try.func40 (by kernel_rfl) rfl #[.slice A0 l0.length c0] rfl (by first | rfl | (simp only [List.map_toArray, List.map_cons, List.map_nil, List.length_drop, List.length_take]; try rfl)) ?_; (with_reducible refine (spec_l6Open.calls _ _ l0 t399 t400 w _ ?side1 ?side2 ?side3 A2.out).mono ?_); (case side1 => repeat (first | (with_reducible first | exact HB.out | apply below_alloc | apply pw_below_drewN | apply below_drew1) | exact HB.out)); (case side2 => exact HR0.out); (case side3 => exact HC0.out); rintro e w10 ⟨g401, rfl, hi, hb, hb2⟩; refine ⟨_, rfl, ?_⟩; have n0_ := Aside0.mk (hb); have n1_ := Aside0.mk (hi); clear HB; have HB := n0_; have HI401 := n1_; clear n0_ n1_; (try clear hb); (try clear hb2); (try clear hk); (try clear hi)) | ((with_reducible refine gate_callee (f := 46) rfl ?_); refine goesL_ (some 9) rfl rfl Try.func46 (by kernel_rfl) rfl #[.pointer (some ⟨g401, 0, none⟩)] rfl (by first | rfl | (simp only [List.map_toArray, List.map_cons, List.map_nil, List.length_drop, List.length_take]; try rfl)) ?_; (with_reducible refine (spec_l71Grid.calls k g401 t399 t400 t402 t403 t406 w _ ?side1 ?side2 A3.out).mono ?_); (case side1 => repeat (first | (with_reducible first | exact HI401.out | apply IsS94.alloc | apply IsS94.drewN | apply IsS94.drew | apply IsS94.set_1) | exact HI401.out)); (case side2 => repeat (first | (with_reducible first | exact HB.out | apply below_alloc | apply pw_below_drewN | apply below_drew1 | refine below_set ?_ (IsS94.ge HI401.out)) | exact HB.out)); rintro e w11 ⟨v404, rfl, ho0, hi, hb, hk⟩; refine ⟨_, rfl, ?_⟩; have n0_ := Aside0.mk (Kd.R_lower ho0 (below_size (by repeat (first | (with_reducible first | exact HB.out | apply below_alloc | apply pw_below_drewN | apply below_drew1 | refine below_set ?_ (IsS94.ge HI401.out)) | exact HB.out)))); have n1_ := Aside0.mk (hb); have n2_ := Aside0.mk (hi); clear HB; clear HI401; have HO405 := n0_; have HB := n1_; have HI401 := n2_; clear n0_ n1_ n2_; (try clear hb); (try clear hb2); (try clear hk); (try clear hi); (try clear ho0); obtain ⟨Ao12, co12, eo12⟩ := Kd.R_slice HO405.out; subst eo12) | ((with_reducible refine gate_callee (f := 11) rfl ?_); refine goesL_ (some 10) rfl rfl Try.func11 (by kernel_rfl) rfl #[.agg #[.int .i64 t402, .slice Ao12 t403.length co12]] rfl (by first | rfl | (simp only [List.map_toArray, List.map_cons, List.map_nil, List.length_drop, List.length_take]; try rfl)) ?_; (with_reducible refine (spec_GridText.calls k t402 _ _ t403 t407 _ ?side1 ?side2 A4.out).mono ?_); (case side1 => repeat (first | exact (Kd.R_reads' HO405.out).2.2 | (with_reducible refine Kd.C_alloc ?_ _) | (with_reducible refine Kd.C_drewN ?_ _) | (with_reducible refine Kd.C_drew ?_))); (case side2 => exact (Kd.R_reads' HO405.out).2.1); rintro e w13 ⟨rfl, hb⟩; refine ⟨_, rfl, ?_⟩; have n0_ := Aside0.mk (Kd.R_below (kR HO405.out) hb); have n1_ := Aside0.mk (IsS94.below (by repeat (first | (with_reducible first | exact HI401.out | apply IsS94.alloc | apply IsS94.drewN | apply IsS94.drew | apply IsS94.set_1) | exact HI401.out)) hb); have n2_ := Aside0.mk (below_step (by repeat (first | (with_reducible first | exact HB.out | apply below_alloc | apply pw_below_drewN | apply below_drew1 | refine below_set ?_ (IsS94.ge HI401.out)) | exact HB.out)) hb); clear HO405; clear HI401; clear HB; have HO405 := n0_; have HI401 := n1_; have HB := n2_; clear n0_ n1_ n2_; (try clear hb); (try clear hb2); (try clear hk); (try clear hi)) | ((with_reducible refine gate_callee (f := 41) rfl ?_); refine goesL_ (some 15) rfl rfl Try.func41 (by kernel_rfl) rfl #[.pointer (some ⟨g401, 0, none⟩), .int .i64 (wrap64 ((t407.size : Int) + 1))] rfl (by first | rfl | (simp only [List.map_toArray, List.map_cons, List.map_nil, List.length_drop, List.length_take]; try rfl)) ?_; (with_reducible refine (spec_l6Rd_pick.calls k g401 t399 t406 (wrap64 ((t407.size : Int) + 1)) t408 t409 w _ ?side1 ?side2 A5.out).mono ?_); (case side1 => repeat (first | (with_reducible first | exact HI401.out | apply IsS94.alloc | apply IsS94.drewN | apply IsS94.drew | apply IsS94.set_1) | exact HI401.out)); (case side2 => repeat (first | (with_reducible first | exact HB.out | apply below_alloc | apply pw_below_drewN | apply below_drew1 | refine below_set ?_ (IsS94.ge HI401.out)) | exact HB.out)); rintro e w14 ⟨rfl, hi, hb, hk⟩; refine ⟨_, rfl, ?_⟩; have n0_ := Aside0.mk (Kd.R_mono (Kd.R_keep (IsS94.apart (show IsS94 w _ g401 t399 t406 from by repeat (first | (with_reducible first | exact HI401.out | apply IsS94.alloc | apply IsS94.drewN | apply IsS94.drew | apply IsS94.set_1) | exact HI401.out)) (kR HO405.out) (by decide)) hk (fun _ h => h.2)) (fun _ h => h.1)); have n1_ := Aside0.mk (hb); have n2_ := Aside0.mk (hi); clear HO405; clear HB; clear HI401; have HO405 := n0_; have HB := n1_; have HI401 := n2_; clear n0_ n1_ n2_; (try clear hb); (try clear hb2); (try clear hk); (try clear hi)) | ((with_reducible refine gate_callee (f := 41) rfl ?_); refine goesL_ (some 17) rfl rfl Try.func41 (by kernel_rfl) rfl #[.pointer (some ⟨g401, 0, none⟩), .int .i64 8] rfl (by first | rfl | (simp only [List.map_toArray, List.map_cons, List.map_nil, List.length_drop, List.length_take]; try rfl)) ?_; (with_reducible refine (spec_l6Rd_pick.calls k g401 t399 t409 8 t410 t411 w _ ?side1 ?side2 A6.out).mono ?_); (case side1 => repeat (first | (with_reducible first | exact HI401.out | apply IsS94.alloc | apply IsS94.drewN | apply IsS94.drew | apply IsS94.set_1) | exact HI401.out)); (case side2 => repeat (first | (with_reducible first | exact HB.out | apply below_alloc | apply pw_below_drewN | apply below_drew1 | refine below_set ?_ (IsS94.ge HI401.out)) | exact HB.out)); rintro e w15 ⟨rfl, hi, hb, hk⟩; refine ⟨_, rfl, ?_⟩; have n0_ := Aside0.mk (Kd.R_mono (Kd.R_keep (IsS94.apart (show IsS94 w _ g401 t399 t409 from by repeat (first | (with_reducible first | exact HI401.out | apply IsS94.alloc | apply IsS94.drewN | apply IsS94.drew | apply IsS94.set_1) | exact HI401.out)) (kR HO405.out) (by decide)) hk (fun _ h => h.2)) (fun _ h => h.1)); have n1_ := Aside0.mk (hb); have n2_ := Aside0.mk (hi); clear HO405; clear HB; clear HI401; have HO405 := n0_; have HB := n1_; have HI401 := n2_; clear n0_ n1_ n2_; (try clear hb); (try clear hb2); (try clear hk); (try clear hi)))
    go_ret
    exact ⟨by first | rfl | (simp [errW_none, errW_some] <;> rfl) | (simp [*, errW_none, errW_some] <;> rfl) | (exfalso; simp_all; done), by repeat (first | (with_reducible first | exact HB.out | apply below_alloc | apply pw_below_drewN | apply below_drew1 | refine below_set ?_ (IsS94.ge HI401.out)) | exact HB.out)⟩
   ·rw [if_neg c9] at H
    exact absurd H (by simp)
  ·rw [if_neg c8] at H
   exact absurd H (by simp)
 ·rw [if_neg c7] at H
  have c7b0 : (t410 == 0) = false := beq_eq_false_iff_ne.mpr c7
  have c7b1 : (t410 != 0) = true := bne_iff_ne.mpr c7
  by_cases c16 : t410 = 1
  ·rw [if_pos c16] at H
   have c16b0 : (t410 == 1) = true := beq_iff_eq.mpr c16
   have c16b1 : (t410 != 1) = false := bne_eq_false_iff_eq.mpr c16
   clear c16
   by_cases c17 : 0 ≤ t408
   ·rw [if_pos c17] at H
    have c17b0 := eq_true c17
    have c17b1 : decide (0 ≤ t408) = true := decide_eq_true c17
    clear c17
    by_cases c18 : t408 ≤ (t407.size : Int)
    ·rw [if_pos c18] at H
     have c18b0 := eq_true c18
     have c18b1 : decide (t408 ≤ (t407.size : Int)) = true := decide_eq_true c18
     clear c18
     obtain ⟨y412, hy412⟩ : ∃ y_ : List ByteArray, y_ = (([(⟨#[48]⟩ : ByteArray), (⟨#[32]⟩ : ByteArray), (⟨#[10]⟩ : ByteArray), (⟨#[46]⟩ : ByteArray), (⟨#[35]⟩ : ByteArray), (⟨#[113]⟩ : ByteArray)] : List ByteArray)) := ⟨_, rfl⟩
     replace H : ((spec_l6Rd_of.f k t399 t411 y412).bind fun bt415 => (if (t407.extract 0 (t408 : Int).toNat).size + bt415.1.size ≤ 9223372036854775807 then (if ((t407.extract 0 (t408 : Int).toNat) ++ bt415.1).size + (t407.extract (t408 : Int).toNat t407.size).size ≤ 9223372036854775807 then (some (((t407.extract 0 (t408 : Int).toNat) ++ bt415.1) ++ (t407.extract (t408 : Int).toNat t407.size))) else (none)) else (none))) = some r := by first | (rw [hy412]; with_reducible exact H) | (have H2_ := (Option.bind_some _ _).symm.trans H; rw [hy412]; with_reducible exact H2_) | (have H2_ := (Option.bind_some _ _).symm.trans H; with_reducible exact H2_) | with_reducible exact H | (rw [hy412]; exact H) | exact H
     have Ny412 := Aside0.mk hy412
     clear hy412
     replace H := Option.bind_eq_some_iff.mp H
     obtain ⟨⟨t415, t416⟩, A190, H⟩ := H
     replace H : (if (t407.extract 0 (t408 : Int).toNat).size + t415.size ≤ 9223372036854775807 then (if ((t407.extract 0 (t408 : Int).toNat) ++ t415).size + (t407.extract (t408 : Int).toNat t407.size).size ≤ 9223372036854775807 then (some (((t407.extract 0 (t408 : Int).toNat) ++ t415) ++ (t407.extract (t408 : Int).toNat t407.size))) else (none)) else (none)) = some r := H
     have A19 := Aside0.mk A190
     clear A190
     by_cases c20 : (t407.extract 0 (t408 : Int).toNat).size + t415.size ≤ 9223372036854775807
     ·rw [if_pos c20] at H
      have c20b0 := eq_true c20
      have c20b1 : decide ((t407.extract 0 (t408 : Int).toNat).size + t415.size ≤ 9223372036854775807) = true := decide_eq_true c20
      try have c20b2 : (9223372036854775807 < (t407.extract 0 (t408 : Int).toNat).size + t415.size) = False := eq_false (Nat.not_lt.2 c20)
      have c20h0 : 0 ≤ t408 := of_decide_eq_true (by assumption)
      have c20h1 : t408 ≤ (t407.size : Int) := of_decide_eq_true (by assumption)
      have c20x1 : (t407.extract 0 (t408 : Int).toNat).size = (t408 : Int).toNat := by rw [ByteArray.size_extract]; omega
      have c20x2 : (t407.extract (t408 : Int).toNat t407.size).size = t407.size - (t408 : Int).toNat := by rw [ByteArray.size_extract]; omega
      have c20x3 := c20b2
      try rw [ByteArray.size_append] at c20x3
      rw [c20x1] at c20x3
      try rw [c20x2] at c20x3
      have c20x4 : ¬ 9223372036854775807 < _ := of_eq_false c20x3
      try (have c20b3 := c20b2; rw [ByteArray.size_append] at c20b3)
      try (have c20b4 := c20b0; rw [ByteArray.size_append] at c20b4)
      have c21b0 := eq_true (of_decide_eq_true (by first | (with_reducible assumption) | assumption) : 0 ≤ t408)
      have c22b0 := eq_true (of_decide_eq_true (by first | (with_reducible assumption) | assumption) : t408 ≤ (t407.size : Int))
      by_cases c23 : ((t407.extract 0 (t408 : Int).toNat) ++ t415).size + (t407.extract (t408 : Int).toNat t407.size).size ≤ 9223372036854775807
      ·rw [if_pos c23] at H
       have c23b0 := eq_true c23
       have c23b1 : decide (((t407.extract 0 (t408 : Int).toNat) ++ t415).size + (t407.extract (t408 : Int).toNat t407.size).size ≤ 9223372036854775807) = true := decide_eq_true c23
       try have c23b2 : (9223372036854775807 < ((t407.extract 0 (t408 : Int).toNat) ++ t415).size + (t407.extract (t408 : Int).toNat t407.size).size) = False := eq_false (Nat.not_lt.2 c23)
       have c23h0 : 0 ≤ t408 := of_decide_eq_true (by assumption)
       have c23h1 : t408 ≤ (t407.size : Int) := of_decide_eq_true (by assumption)
       have c23x1 : (t407.extract 0 (t408 : Int).toNat).size = (t408 : Int).toNat := by rw [ByteArray.size_extract]; omega
       have c23x2 : (t407.extract (t408 : Int).toNat t407.size).size = t407.size - (t408 : Int).toNat := by rw [ByteArray.size_extract]; omega
       have c23x3 := c23b2
       try rw [ByteArray.size_append] at c23x3
       rw [c23x1] at c23x3
       try rw [c23x2] at c23x3
       have c23x4 : ¬ 9223372036854775807 < _ := of_eq_false c23x3
       try (have c23b3 := c23b2; rw [ByteArray.size_append] at c23b3)
       try (have c23b4 := c23b0; rw [ByteArray.size_append] at c23b4)
       obtain rfl := Option.some.inj H
       go_enter Try.func25, Try.ntmps25
       try go_wp2_with (first | ((with_reducible refine gate_callee (f := 40) rfl ?_); refine goesL_ (some 7) rfl rfl Try.func40 (by kernel_rfl) rfl #[.slice A0 l0.length c0] rfl (by first | rfl | (simp only [List.map_toArray, List.map_cons, List.map_nil, List.length_drop, List.length_take]; try rfl)) ?_; (with_reducible refine (spec_l6Open.calls _ _ l0 t399 t400 w _ ?side1 ?side2 ?side3 A2.out).mono ?_); (case side1 => repeat (first | (with_reducible first | exact HB.out | apply below_alloc | apply pw_below_drewN | apply below_drew1) | exact HB.out)); (case side2 => exact HR0.out); (case side3 => exact HC0.out); rintro e w24 ⟨g401, rfl, hi, hb, hb2⟩; refine ⟨_, rfl, ?_⟩; have n0_ := Aside0.mk (hb); have n1_ := Aside0.mk (hi); clear HB; have HB := n0_; have HI401 := n1_; clear n0_ n1_; (try clear hb); (try clear hb2); (try clear hk); (try clear hi)) | ((with_reducible refine gate_callee (f := 46) rfl ?_); refine goesL_ (some 9) rfl rfl Try.func46 (by kernel_rfl) rfl #[.pointer (some ⟨g401, 0, none⟩)] rfl (by first | rfl | (simp only [List.map_toArray, List.map_cons, List.map_nil, List.length_drop, List.length_take]; try rfl)) ?_; (with_reducible refine (spec_l71Grid.calls k g401 t399 t400 t402 t403 t406 w _ ?side1 ?side2 A3.out).mono ?_); (case side1 => repeat (first | (with_reducible first | exact HI401.out | apply IsS94.alloc | apply IsS94.drewN | apply IsS94.drew | apply IsS94.set_1) | exact HI401.out)); (case side2 => repeat (first | (with_reducible first | exact HB.out | apply below_alloc | apply pw_below_drewN | apply below_drew1 | refine below_set ?_ (IsS94.ge HI401.out)) | exact HB.out)); rintro e w25 ⟨v404, rfl, ho0, hi, hb, hk⟩; refine ⟨_, rfl, ?_⟩; have n0_ := Aside0.mk (Kd.R_lower ho0 (below_size (by repeat (first | (with_reducible first | exact HB.out | apply below_alloc | apply pw_below_drewN | apply below_drew1 | refine below_set ?_ (IsS94.ge HI401.out)) | exact HB.out)))); have n1_ := Aside0.mk (hb); have n2_ := Aside0.mk (hi); clear HB; clear HI401; have HO405 := n0_; have HB := n1_; have HI401 := n2_; clear n0_ n1_ n2_; (try clear hb); (try clear hb2); (try clear hk); (try clear hi); (try clear ho0); obtain ⟨Ao26, co26, eo26⟩ := Kd.R_slice HO405.out; subst eo26) | ((with_reducible refine gate_callee (f := 11) rfl ?_); refine goesL_ (some 10) rfl rfl Try.func11 (by kernel_rfl) rfl #[.agg #[.int .i64 t402, .slice Ao26 t403.length co26]] rfl (by first | rfl | (simp only [List.map_toArray, List.map_cons, List.map_nil, List.length_drop, List.length_take]; try rfl)) ?_; (with_reducible refine (spec_GridText.calls k t402 _ _ t403 t407 _ ?side1 ?side2 A4.out).mono ?_); (case side1 => repeat (first | exact (Kd.R_reads' HO405.out).2.2 | (with_reducible refine Kd.C_alloc ?_ _) | (with_reducible refine Kd.C_drewN ?_ _) | (with_reducible refine Kd.C_drew ?_))); (case side2 => exact (Kd.R_reads' HO405.out).2.1); rintro e w27 ⟨rfl, hb⟩; refine ⟨_, rfl, ?_⟩; have n0_ := Aside0.mk (Kd.R_below (kR HO405.out) hb); have n1_ := Aside0.mk (IsS94.below (by repeat (first | (with_reducible first | exact HI401.out | apply IsS94.alloc | apply IsS94.drewN | apply IsS94.drew | apply IsS94.set_1) | exact HI401.out)) hb); have n2_ := Aside0.mk (below_step (by repeat (first | (with_reducible first | exact HB.out | apply below_alloc | apply pw_below_drewN | apply below_drew1 | refine below_set ?_ (IsS94.ge HI401.out)) | exact HB.out)) hb); clear HO405; clear HI401; clear HB; have HO405 := n0_; have HI401 := n1_; have HB := n2_; clear n0_ n1_ n2_; (try clear hb); (try clear hb2); (try clear hk); (try clear hi)) | ((with_reducible refine gate_callee (f := 41) rfl ?_); refine goesL_ (some 15) rfl rfl Try.func41 (by kernel_rfl) rfl #[.pointer (some ⟨g401, 0, none⟩), .int .i64 (wrap64 ((t407.size : Int) + 1))] rfl (by first | rfl | (simp only [List.map_toArray, List.map_cons, List.map_nil, List.length_drop, List.length_take]; try rfl)) ?_; (with_reducible refine (spec_l6Rd_pick.calls k g401 t399 t406 (wrap64 ((t407.size : Int) + 1)) t408 t409 w _ ?side1 ?side2 A5.out).mono ?_); (case side1 => repeat (first | (with_reducible first | exact HI401.out | apply IsS94.alloc | apply IsS94.drewN | apply IsS94.drew | apply IsS94.set_1) | exact HI401.out)); (case side2 => repeat (first | (with_reducible first | exact HB.out | apply below_alloc | apply pw_below_drewN | apply below_drew1 | refine below_set ?_ (IsS94.ge HI401.out)) | exact HB.out)); rintro e w28 ⟨rfl, hi, hb, hk⟩; refine ⟨_, rfl, ?_⟩; have n0_ := Aside0.mk (Kd.R_mono (Kd.R_keep (IsS94.apart (show IsS94 w _ g401 t399 t406 from by repeat (first | (with_reducible first | exact HI401.out | apply IsS94.alloc | apply IsS94.drewN | apply IsS94.drew | apply IsS94.set_1) | exact HI401.out)) (kR HO405.out) (by decide)) hk (fun _ h => h.2)) (fun _ h => h.1)); have n1_ := Aside0.mk (hb); have n2_ := Aside0.mk (hi); clear HO405; clear HB; clear HI401; have HO405 := n0_; have HB := n1_; have HI401 := n2_; clear n0_ n1_ n2_; (try clear hb); (try clear hb2); (try clear hk); (try clear hi)) | ((with_reducible refine gate_callee (f := 41) rfl ?_); refine goesL_ (some 17) rfl rfl Try.func41 (by kernel_rfl) rfl #[.pointer (some ⟨g401, 0, none⟩), .int .i64 8] rfl (by first | rfl | (simp only [List.map_toArray, List.map_cons, List.map_nil, List.length_drop, List.length_take]; try rfl)) ?_; (with_reducible refine (spec_l6Rd_pick.calls k g401 t399 t409 8 t410 t411 w _ ?side1 ?side2 A6.out).mono ?_); (case side1 => repeat (first | (with_reducible first | exact HI401.out | apply IsS94.alloc | apply IsS94.drewN | apply IsS94.drew | apply IsS94.set_1) | exact HI401.out)); (case side2 => repeat (first | (with_reducible first | exact HB.out | apply below_alloc | apply pw_below_drewN | apply below_drew1 | refine below_set ?_ (IsS94.ge HI401.out)) | exact HB.out)); rintro e w29 ⟨rfl, hi, hb, hk⟩; refine ⟨_, rfl, ?_⟩; have n0_ := Aside0.mk (Kd.R_mono (Kd.R_keep (IsS94.apart (show IsS94 w _ g401 t399 t409 from by repeat (first | (with_reducible first | exact HI401.out | apply IsS94.alloc | apply IsS94.drewN | apply IsS94.drew | apply IsS94.set_1) | exact HI401.out)) (kR HO405.out) (by decide)) hk (fun _ h => h.2)) (fun _ h => h.1)); have n1_ := Aside0.mk (hb); have n2_ := Aside0.mk (hi); clear HO405; clear HB; clear HI401; have HO405 := n0_; have HB := n1_; have HI401 := n2_; clear n0_ n1_ n2_; (try clear hb); (try clear hb2); (try clear hk); (try clear hi)))
       have n0_ := Aside0.mk (Kd.R_drew HO405.out)
       have n1_ := Aside0.mk (IsS94.drew HI401.out)
       have n2_ := Aside0.mk (below_drew1 HB.out)
       clear HO405
       clear HI401
       clear HB
       have HO405 := n0_
       have HI401 := n1_
       have HB := n2_
       clear n0_ n1_ n2_
       refine start_ (n := 12) (S := fun w' => True) (ds := []) #[false, false, false, false, false, false, false, false, false, false, false, false] (by kernel_rfl) rfl rfl trivial (fun hHeld => ?_); refine with_tabW spec_DrawGridRead.tab8 spec_DrawGridRead.bits8 (fun HT_ HW_ => ?_)
       generalize w29.drew = w30 at HO405 HI401 HB hHeld ⊢
       refine pure_ (i := 0) (N := some 25) (v := ?_) (a' := ?_) #[true, false, false, false, false, false, false, false, false, false, false, false] rfl rfl (any_of HT_.out (by kernel_rfl)) (fun _ _ _ h => h) (Or.inl ⟨by rfl, ?_⟩) ?_ ?_
       rotate_left
       ·intro w'
        go_simp
        with_reducible rfl
       rotate_left
       ·simp only [Act.put, List.setIfInBounds_toArray, List.set_cons_zero, List.set_cons_succ, i64_w, i32_w]
        rfl
       refine pure_ (i := 1) (N := some 26) (v := ?_) (a' := ?_) #[true, true, false, false, false, false, false, false, false, false, false, false] rfl rfl (any_of HT_.out (by kernel_rfl)) (fun _ _ _ h => h) (Or.inl ⟨by rfl, ?_⟩) ?_ ?_
       rotate_left
       ·intro w'
        go_simp
        with_reducible rfl
       rotate_left
       ·simp only [Act.put, List.setIfInBounds_toArray, List.set_cons_zero, List.set_cons_succ, i64_w, i32_w]
        rfl
       refine pure_ (i := 2) (N := some 27) (v := ?_) (a' := ?_) #[true, true, true, false, false, false, false, false, false, false, false, false] rfl rfl (any_of HT_.out (by kernel_rfl)) (fun _ _ _ h => h) (Or.inl ⟨by rfl, ?_⟩) ?_ ?_
       rotate_left
       ·intro w'
        go_simp
        with_reducible rfl
       rotate_left
       ·simp only [Act.put, List.setIfInBounds_toArray, List.set_cons_zero, List.set_cons_succ, i64_w, i32_w]
        rfl
       refine pure_ (i := 3) (N := some 28) (v := ?_) (a' := ?_) #[true, true, true, true, false, false, false, false, false, false, false, false] rfl rfl (any_of HT_.out (by kernel_rfl)) (fun _ _ _ h => h) (Or.inl ⟨by rfl, ?_⟩) ?_ ?_
       rotate_left
       ·intro w'
        go_simp
        with_reducible rfl
       rotate_left
       ·simp only [Act.put, List.setIfInBounds_toArray, List.set_cons_zero, List.set_cons_succ, i64_w, i32_w]
        rfl
       refine pure_ (i := 7) (N := some 32) (v := ?_) (a' := ?_) #[true, true, true, true, false, false, false, true, false, false, false, false] rfl rfl (any_of HT_.out (by kernel_rfl)) (fun _ _ _ h => h) (Or.inl ⟨by rfl, ?_⟩) ?_ ?_
       rotate_left
       ·intro w'
        go_simp
        with_reducible rfl
       rotate_left
       ·simp only [Act.put, List.setIfInBounds_toArray, List.set_cons_zero, List.set_cons_succ, i64_w, i32_w]
        rfl
       refine pure_ (i := 8) (N := some 33) (v := ?_) (a' := ?_) #[true, true, true, true, false, false, false, true, true, false, false, false] rfl rfl (any_of HT_.out (by kernel_rfl)) (fun _ _ _ h => h) (Or.inl ⟨by rfl, ?_⟩) ?_ ?_
       rotate_left
       ·intro w'
        go_simp
        with_reducible rfl
       rotate_left
       ·simp only [Act.put, List.setIfInBounds_toArray, List.set_cons_zero, List.set_cons_succ, i64_w, i32_w]
        rfl
       refine pure_ (i := 9) (N := some 34) (v := ?_) (a' := ?_) #[true, true, true, true, false, false, false, true, true, true, false, false] rfl rfl (any_of HT_.out (by kernel_rfl)) (fun _ _ _ h => h) (Or.inl ⟨by rfl, ?_⟩) ?_ ?_
       rotate_left
       ·intro w'
        go_simp
        with_reducible rfl
       rotate_left
       ·simp only [Act.put, List.setIfInBounds_toArray, List.set_cons_zero, List.set_cons_succ, i64_w, i32_w]
        rfl
       refine one_ (i := 4) (N := some 29) #[true, true, true, true, true, false, false, true, true, true, false, false] rfl rfl (one_of HT_.out (by kernel_rfl)) (by decide) (fun K hK => ?_)
       refine Kd.R_lit_step Kd.string _ 9 ?hg (N := 29) ?hd (xs := ([(⟨#[48]⟩ : ByteArray), (⟨#[32]⟩ : ByteArray), (⟨#[10]⟩ : ByteArray), (⟨#[46]⟩ : ByteArray), (⟨#[35]⟩ : ByteArray), (⟨#[113]⟩ : ByteArray)] : List ByteArray)) (inner := [.string (⟨#[48]⟩ : ByteArray), .string (⟨#[32]⟩ : ByteArray), .string (⟨#[10]⟩ : ByteArray), .string (⟨#[46]⟩ : ByteArray), .string (⟨#[35]⟩ : ByteArray), .string (⟨#[113]⟩ : ByteArray)]) (ok := fun _ => True) (okp := fun _ => True) ?hr ?hp (fun _ hk => hk) trivial (Below.refl _ _) (Nat.le_refl _) (by simp) ?_; (case hd => rfl); (case hg => rfl); (case hr => first | (go_simp; done) | (go_simp; rfl)); (case hp => exact (Reps.one (show Kd.M Kd.string _ _ _ (⟨#[48]⟩ : ByteArray) [.string (⟨#[48]⟩ : ByteArray)] from rfl) (Reps.one (show Kd.M Kd.string _ _ _ (⟨#[32]⟩ : ByteArray) [.string (⟨#[32]⟩ : ByteArray)] from rfl) (Reps.one (show Kd.M Kd.string _ _ _ (⟨#[10]⟩ : ByteArray) [.string (⟨#[10]⟩ : ByteArray)] from rfl) (Reps.one (show Kd.M Kd.string _ _ _ (⟨#[46]⟩ : ByteArray) [.string (⟨#[46]⟩ : ByteArray)] from rfl) (Reps.one (show Kd.M Kd.string _ _ _ (⟨#[35]⟩ : ByteArray) [.string (⟨#[35]⟩ : ByteArray)] from rfl) (Reps.one (show Kd.M Kd.string _ _ _ (⟨#[113]⟩ : ByteArray) [.string (⟨#[113]⟩ : ByteArray)] from rfl) (Reps.none _ _))))))))
       intro v413 w31 ho32 hb hg_ hnew_
       clear hg_ hnew_
       (first | rw [← Ny412.out] at ho32 | (simp only [Int.reduceToNat] at ho32; rw [← Ny412.out] at ho32))
       have n0_ := Aside0.mk (Kd.R_below (kR HO405.out) hb)
       have n1_ := Aside0.mk (Kd.R_lower ho32 (below_size (by repeat (first | (with_reducible first | exact HB.out | apply below_alloc | apply pw_below_drewN | apply below_drew1 | refine below_set ?_ (IsS94.ge HI401.out)) | exact HB.out))))
       have n2_ := Aside0.mk (IsS94.below (by repeat (first | (with_reducible first | exact HI401.out | apply IsS94.alloc | apply IsS94.drewN | apply IsS94.drew | apply IsS94.set_1) | exact HI401.out)) hb)
       have n3_ := Aside0.mk (below_step (by repeat (first | (with_reducible first | exact HB.out | apply below_alloc | apply pw_below_drewN | apply below_drew1 | refine below_set ?_ (IsS94.ge HI401.out)) | exact HB.out)) hb)
       clear HO405
       clear HI401
       clear HB
       have HO405 := n0_
       have HO414 := n1_
       have HI401 := n2_
       have HB := n3_
       clear n0_ n1_ n2_ n3_
       clear hb ho32
       obtain ⟨Ao33, co33, eo33⟩ := Kd.R_slice HO414.out
       (first | subst eo33 | (injection eo33 with f1_ f2_ f3_; have f4_ := f1_.symm; have f5_ := f3_.symm; clear f1_ f2_ f3_; subst f4_; subst f5_))
       refine hK.out _ _ trivial (fun hHeld => ?_)
       clear hK K
       refine norm_ (a' := ?_) ?_ ?_
       rotate_left
       ·show Act.put _ (some 29) _ = _
        simp only [Act.put, List.setIfInBounds_toArray, List.set_cons_zero, List.set_cons_succ, i64_w, i32_w]
        rfl
       refine one_ (i := 5) (N := some 30) #[true, true, true, true, true, true, false, true, true, true, false, false] rfl rfl (one_of HT_.out (by kernel_rfl)) (by decide) (fun K hK => ?_)
       refine goes_ Try.func47 (by kernel_rfl) rfl #[.pointer (some ⟨g401, 0, none⟩), .slice Ao33 y412.length co33] (by rfl) rfl rfl (by first | rfl | (simp only [List.map_toArray, List.map_cons, List.map_nil, List.length_drop, List.length_take]; try rfl)) ?_
       with_reducible refine (spec_l6Rd_of.calls k g401 t399 t411 _ _ y412 t415 t416 w _ ?side1 ?side2 ?side3 ?side4 ?side5 A19.out).mono ?_
       (case side1 => repeat (first | (with_reducible first | exact HI401.out | apply IsS94.alloc | apply IsS94.drewN | apply IsS94.drew | apply IsS94.set_1) | exact HI401.out))
       (case side2 => repeat (first | (with_reducible first | exact HB.out | apply below_alloc | apply pw_below_drewN | apply below_drew1 | refine below_set ?_ (IsS94.ge HI401.out)) | exact HB.out))
       (case side3 => repeat (first | exact (Kd.R_reads' HO414.out).2.2 | (with_reducible refine Kd.C_alloc ?_ _) | (with_reducible refine Kd.C_drewN ?_ _) | (with_reducible refine Kd.C_drew ?_)))
       (case side4 => exact (Kd.R_reads' HO414.out).2.1)
       (case side5 => exact far_slice (IsS94.own_ne HI401.out HO414.out (by decide)))
       rintro e w34 ⟨rfl, hi, hb, hk⟩
       refine ⟨_, rfl, ?_⟩
       have n0_ := Aside0.mk (Kd.R_mono (Kd.R_keep (IsS94.apart (show IsS94 w _ g401 t399 t411 from by repeat (first | (with_reducible first | exact HI401.out | apply IsS94.alloc | apply IsS94.drewN | apply IsS94.drew | apply IsS94.set_1) | exact HI401.out)) (kR HO405.out) (by decide)) hk (fun _ h => h.2)) (fun _ h => h.1))
       have n1_ := Aside0.mk (Kd.R_mono (Kd.R_keep (IsS94.apart (show IsS94 w _ g401 t399 t411 from by repeat (first | (with_reducible first | exact HI401.out | apply IsS94.alloc | apply IsS94.drewN | apply IsS94.drew | apply IsS94.set_1) | exact HI401.out)) (kR HO414.out) (by decide)) hk (fun _ h => h.2)) (fun _ h => h.1))
       have n2_ := Aside0.mk (hb)
       have n3_ := Aside0.mk (hi)
       clear HO405
       clear HO414
       clear HB
       clear HI401
       have HO405 := n0_
       have HO414 := n1_
       have HB := n2_
       have HI401 := n3_
       clear n0_ n1_ n2_ n3_
       (try clear hb)
       (try clear hb2)
       (try clear hk)
       (try clear hi)
       refine hK.out _ _ trivial (fun hHeld => ?_)
       clear hK K
       refine norm_ (a' := ?_) ?_ ?_
       rotate_left
       ·show Act.put _ (some 30) _ = _
        simp only [Act.put, List.setIfInBounds_toArray, List.set_cons_zero, List.set_cons_succ, i64_w, i32_w]
        rfl
       refine pure_ (i := 6) (N := some 31) (v := ?_) (a' := ?_) #[true, true, true, true, true, true, true, true, true, true, false, false] rfl rfl (any_of HT_.out (by kernel_rfl)) (fun _ _ _ h => h) (Or.inl ⟨by rfl, ?_⟩) ?_ ?_
       rotate_left
       ·intro w'
        go_simp
        with_reducible rfl
       rotate_left
       ·simp only [Act.put, List.setIfInBounds_toArray, List.set_cons_zero, List.set_cons_succ, i64_w, i32_w]
        rfl
       refine pure_ (i := 10) (N := some 35) (v := ?_) (a' := ?_) #[true, true, true, true, true, true, true, true, true, true, true, false] rfl rfl (any_of HT_.out (by kernel_rfl)) (fun _ _ _ h => h) (Or.inl ⟨by rfl, ?_⟩) ?_ ?_
       rotate_left
       ·intro w'
        go_simp
        with_reducible rfl
       rotate_left
       ·simp only [Act.put, List.setIfInBounds_toArray, List.set_cons_zero, List.set_cons_succ, i64_w, i32_w]
        rfl
       refine pure_ (i := 11) (N := some 2) (v := ?_) (a' := ?_) #[true, true, true, true, true, true, true, true, true, true, true, true] rfl rfl (any_of HT_.out (by kernel_rfl)) (fun _ _ _ h => h) (Or.inl ⟨by rfl, ?_⟩) ?_ ?_
       rotate_left
       ·intro w'
        go_simp
        with_reducible rfl
       rotate_left
       ·simp only [Act.put, List.setIfInBounds_toArray, List.set_cons_zero, List.set_cons_succ, i64_w, i32_w]
        rfl
       refine done_ (done_of HT_.out (by kernel_rfl)) ?_
       try go_wp2
       go_ret
       exact ⟨by first | rfl | (simp [errW_none, errW_some] <;> rfl) | (simp [*, errW_none, errW_some] <;> rfl) | (exfalso; simp_all; done), by repeat (first | (with_reducible first | exact HB.out | apply below_alloc | apply pw_below_drewN | apply below_drew1 | refine below_set ?_ (IsS94.ge HI401.out)) | exact HB.out)⟩
      ·rw [if_neg c23] at H
       exact absurd H (by simp)
     ·rw [if_neg c20] at H
      exact absurd H (by simp)
    ·rw [if_neg c18] at H
     exact absurd H (by simp)
   ·rw [if_neg c17] at H
    exact absurd H (by simp)
  ·rw [if_neg c16] at H
   have c16b0 : (t410 == 1) = false := beq_eq_false_iff_ne.mpr c16
   have c16b1 : (t410 != 1) = true := bne_iff_ne.mpr c16
   by_cases c35 : t410 = 2
   ·rw [if_pos c35] at H
    have c35b0 : (t410 == 2) = true := beq_iff_eq.mpr c35
    have c35b1 : (t410 != 2) = false := bne_eq_false_iff_eq.mpr c35
    clear c35
    obtain ⟨y417, hy417⟩ : ∃ y_ : List ByteArray, y_ = (([(⟨#[10]⟩ : ByteArray), (⟨#[46, 10]⟩ : ByteArray), (⟨#[46, 46, 46, 46, 46, 10]⟩ : ByteArray), (⟨#[46]⟩ : ByteArray)] : List ByteArray)) := ⟨_, rfl⟩
    replace H : ((spec_l6Rd_of.f k t399 t411 y417).bind fun bt420 => (if t407.size + bt420.1.size ≤ 9223372036854775807 then (some (t407 ++ bt420.1)) else (none))) = some r := by first | (rw [hy417]; with_reducible exact H) | (have H2_ := (Option.bind_some _ _).symm.trans H; rw [hy417]; with_reducible exact H2_) | (have H2_ := (Option.bind_some _ _).symm.trans H; with_reducible exact H2_) | with_reducible exact H | (rw [hy417]; exact H) | exact H
    have Ny417 := Aside0.mk hy417
    clear hy417
    replace H := Option.bind_eq_some_iff.mp H
    obtain ⟨⟨t420, t421⟩, A360, H⟩ := H
    replace H : (if t407.size + t420.size ≤ 9223372036854775807 then (some (t407 ++ t420)) else (none)) = some r := H
    have A36 := Aside0.mk A360
    clear A360
    by_cases c37 : t407.size + t420.size ≤ 9223372036854775807
    ·rw [if_pos c37] at H
     have c37b0 := eq_true c37
     have c37b1 : decide (t407.size + t420.size ≤ 9223372036854775807) = true := decide_eq_true c37
     try have c37b2 : (9223372036854775807 < t407.size + t420.size) = False := eq_false (Nat.not_lt.2 c37)
     try (have c37b3 := c37b2; rw [ByteArray.size_append] at c37b3)
     try (have c37b4 := c37b0; rw [ByteArray.size_append] at c37b4)
     obtain rfl := Option.some.inj H
     go_enter Try.func25, Try.ntmps25
     go_wp2_with (first | ((with_reducible refine gate_callee (f := 40) rfl ?_); refine goesL_ (some 7) rfl rfl Try.func40 (by kernel_rfl) rfl #[.slice A0 l0.length c0] rfl (by first | rfl | (simp only [List.map_toArray, List.map_cons, List.map_nil, List.length_drop, List.length_take]; try rfl)) ?_; (with_reducible refine (spec_l6Open.calls _ _ l0 t399 t400 w _ ?side1 ?side2 ?side3 A2.out).mono ?_); (case side1 => repeat (first | (with_reducible first | exact HB.out | apply below_alloc | apply pw_below_drewN | apply below_drew1) | exact HB.out)); (case side2 => exact HR0.out); (case side3 => exact HC0.out); rintro e w38 ⟨g401, rfl, hi, hb, hb2⟩; refine ⟨_, rfl, ?_⟩; have n0_ := Aside0.mk (hb); have n1_ := Aside0.mk (hi); clear HB; have HB := n0_; have HI401 := n1_; clear n0_ n1_; (try clear hb); (try clear hb2); (try clear hk); (try clear hi)) | ((with_reducible refine gate_callee (f := 46) rfl ?_); refine goesL_ (some 9) rfl rfl Try.func46 (by kernel_rfl) rfl #[.pointer (some ⟨g401, 0, none⟩)] rfl (by first | rfl | (simp only [List.map_toArray, List.map_cons, List.map_nil, List.length_drop, List.length_take]; try rfl)) ?_; (with_reducible refine (spec_l71Grid.calls k g401 t399 t400 t402 t403 t406 w _ ?side1 ?side2 A3.out).mono ?_); (case side1 => repeat (first | (with_reducible first | exact HI401.out | apply IsS94.alloc | apply IsS94.drewN | apply IsS94.drew | apply IsS94.set_1) | exact HI401.out)); (case side2 => repeat (first | (with_reducible first | exact HB.out | apply below_alloc | apply pw_below_drewN | apply below_drew1 | refine below_set ?_ (IsS94.ge HI401.out)) | exact HB.out)); rintro e w39 ⟨v404, rfl, ho0, hi, hb, hk⟩; refine ⟨_, rfl, ?_⟩; have n0_ := Aside0.mk (Kd.R_lower ho0 (below_size (by repeat (first | (with_reducible first | exact HB.out | apply below_alloc | apply pw_below_drewN | apply below_drew1 | refine below_set ?_ (IsS94.ge HI401.out)) | exact HB.out)))); have n1_ := Aside0.mk (hb); have n2_ := Aside0.mk (hi); clear HB; clear HI401; have HO405 := n0_; have HB := n1_; have HI401 := n2_; clear n0_ n1_ n2_; (try clear hb); (try clear hb2); (try clear hk); (try clear hi); (try clear ho0); obtain ⟨Ao40, co40, eo40⟩ := Kd.R_slice HO405.out; subst eo40) | ((with_reducible refine gate_callee (f := 11) rfl ?_); refine goesL_ (some 10) rfl rfl Try.func11 (by kernel_rfl) rfl #[.agg #[.int .i64 t402, .slice Ao40 t403.length co40]] rfl (by first | rfl | (simp only [List.map_toArray, List.map_cons, List.map_nil, List.length_drop, List.length_take]; try rfl)) ?_; (with_reducible refine (spec_GridText.calls k t402 _ _ t403 t407 _ ?side1 ?side2 A4.out).mono ?_); (case side1 => repeat (first | exact (Kd.R_reads' HO405.out).2.2 | (with_reducible refine Kd.C_alloc ?_ _) | (with_reducible refine Kd.C_drewN ?_ _) | (with_reducible refine Kd.C_drew ?_))); (case side2 => exact (Kd.R_reads' HO405.out).2.1); rintro e w41 ⟨rfl, hb⟩; refine ⟨_, rfl, ?_⟩; have n0_ := Aside0.mk (Kd.R_below (kR HO405.out) hb); have n1_ := Aside0.mk (IsS94.below (by repeat (first | (with_reducible first | exact HI401.out | apply IsS94.alloc | apply IsS94.drewN | apply IsS94.drew | apply IsS94.set_1) | exact HI401.out)) hb); have n2_ := Aside0.mk (below_step (by repeat (first | (with_reducible first | exact HB.out | apply below_alloc | apply pw_below_drewN | apply below_drew1 | refine below_set ?_ (IsS94.ge HI401.out)) | exact HB.out)) hb); clear HO405; clear HI401; clear HB; have HO405 := n0_; have HI401 := n1_; have HB := n2_; clear n0_ n1_ n2_; (try clear hb); (try clear hb2); (try clear hk); (try clear hi)) | ((with_reducible refine gate_callee (f := 41) rfl ?_); refine goesL_ (some 15) rfl rfl Try.func41 (by kernel_rfl) rfl #[.pointer (some ⟨g401, 0, none⟩), .int .i64 (wrap64 ((t407.size : Int) + 1))] rfl (by first | rfl | (simp only [List.map_toArray, List.map_cons, List.map_nil, List.length_drop, List.length_take]; try rfl)) ?_; (with_reducible refine (spec_l6Rd_pick.calls k g401 t399 t406 (wrap64 ((t407.size : Int) + 1)) t408 t409 w _ ?side1 ?side2 A5.out).mono ?_); (case side1 => repeat (first | (with_reducible first | exact HI401.out | apply IsS94.alloc | apply IsS94.drewN | apply IsS94.drew | apply IsS94.set_1) | exact HI401.out)); (case side2 => repeat (first | (with_reducible first | exact HB.out | apply below_alloc | apply pw_below_drewN | apply below_drew1 | refine below_set ?_ (IsS94.ge HI401.out)) | exact HB.out)); rintro e w42 ⟨rfl, hi, hb, hk⟩; refine ⟨_, rfl, ?_⟩; have n0_ := Aside0.mk (Kd.R_mono (Kd.R_keep (IsS94.apart (show IsS94 w _ g401 t399 t406 from by repeat (first | (with_reducible first | exact HI401.out | apply IsS94.alloc | apply IsS94.drewN | apply IsS94.drew | apply IsS94.set_1) | exact HI401.out)) (kR HO405.out) (by decide)) hk (fun _ h => h.2)) (fun _ h => h.1)); have n1_ := Aside0.mk (hb); have n2_ := Aside0.mk (hi); clear HO405; clear HB; clear HI401; have HO405 := n0_; have HB := n1_; have HI401 := n2_; clear n0_ n1_ n2_; (try clear hb); (try clear hb2); (try clear hk); (try clear hi)) | ((with_reducible refine gate_callee (f := 41) rfl ?_); refine goesL_ (some 17) rfl rfl Try.func41 (by kernel_rfl) rfl #[.pointer (some ⟨g401, 0, none⟩), .int .i64 8] rfl (by first | rfl | (simp only [List.map_toArray, List.map_cons, List.map_nil, List.length_drop, List.length_take]; try rfl)) ?_; (with_reducible refine (spec_l6Rd_pick.calls k g401 t399 t409 8 t410 t411 w _ ?side1 ?side2 A6.out).mono ?_); (case side1 => repeat (first | (with_reducible first | exact HI401.out | apply IsS94.alloc | apply IsS94.drewN | apply IsS94.drew | apply IsS94.set_1) | exact HI401.out)); (case side2 => repeat (first | (with_reducible first | exact HB.out | apply below_alloc | apply pw_below_drewN | apply below_drew1 | refine below_set ?_ (IsS94.ge HI401.out)) | exact HB.out)); rintro e w43 ⟨rfl, hi, hb, hk⟩; refine ⟨_, rfl, ?_⟩; have n0_ := Aside0.mk (Kd.R_mono (Kd.R_keep (IsS94.apart (show IsS94 w _ g401 t399 t409 from by repeat (first | (with_reducible first | exact HI401.out | apply IsS94.alloc | apply IsS94.drewN | apply IsS94.drew | apply IsS94.set_1) | exact HI401.out)) (kR HO405.out) (by decide)) hk (fun _ h => h.2)) (fun _ h => h.1)); have n1_ := Aside0.mk (hb); have n2_ := Aside0.mk (hi); clear HO405; clear HB; clear HI401; have HO405 := n0_; have HB := n1_; have HI401 := n2_; clear n0_ n1_ n2_; (try clear hb); (try clear hb2); (try clear hk); (try clear hi)) | ((with_reducible refine gate_dst (N := 40) rfl ?_); refine Kd.R_lit Kd.string _ 9 ?hg (N := 40) ?hd (xs := ([(⟨#[10]⟩ : ByteArray), (⟨#[46, 10]⟩ : ByteArray), (⟨#[46, 46, 46, 46, 46, 10]⟩ : ByteArray), (⟨#[46]⟩ : ByteArray)] : List ByteArray)) (inner := [.string (⟨#[10]⟩ : ByteArray), .string (⟨#[46, 10]⟩ : ByteArray), .string (⟨#[46, 46, 46, 46, 46, 10]⟩ : ByteArray), .string (⟨#[46]⟩ : ByteArray)]) (ok := fun _ => True) (okp := fun _ => True) ?hr ?hp (fun _ hk => hk) trivial (Below.refl _ _) (Nat.le_refl _) (by simp) ?_; (case hd => rfl); (case hg => rfl); (case hr => first | (go_simp; done) | (go_simp; rfl)); (case hp => exact (Reps.one (show Kd.M Kd.string _ _ _ (⟨#[10]⟩ : ByteArray) [.string (⟨#[10]⟩ : ByteArray)] from rfl) (Reps.one (show Kd.M Kd.string _ _ _ (⟨#[46, 10]⟩ : ByteArray) [.string (⟨#[46, 10]⟩ : ByteArray)] from rfl) (Reps.one (show Kd.M Kd.string _ _ _ (⟨#[46, 46, 46, 46, 46, 10]⟩ : ByteArray) [.string (⟨#[46, 46, 46, 46, 46, 10]⟩ : ByteArray)] from rfl) (Reps.one (show Kd.M Kd.string _ _ _ (⟨#[46]⟩ : ByteArray) [.string (⟨#[46]⟩ : ByteArray)] from rfl) (Reps.none _ _)))))); intro v418 w44 ho45 hb hg_ hnew_; clear hg_ hnew_; (first | rw [← Ny417.out] at ho45 | (simp only [Int.reduceToNat] at ho45; rw [← Ny417.out] at ho45)); have n0_ := Aside0.mk (Kd.R_below (kR HO405.out) hb); have n1_ := Aside0.mk (Kd.R_lower ho45 (below_size (by repeat (first | (with_reducible first | exact HB.out | apply below_alloc | apply pw_below_drewN | apply below_drew1 | refine below_set ?_ (IsS94.ge HI401.out)) | exact HB.out)))); have n2_ := Aside0.mk (IsS94.below (by repeat (first | (with_reducible first | exact HI401.out | apply IsS94.alloc | apply IsS94.drewN | apply IsS94.drew | apply IsS94.set_1) | exact HI401.out)) hb); have n3_ := Aside0.mk (below_step (by repeat (first | (with_reducible first | exact HB.out | apply below_alloc | apply pw_below_drewN | apply below_drew1 | refine below_set ?_ (IsS94.ge HI401.out)) | exact HB.out)) hb); clear HO405; clear HI401; clear HB; have HO405 := n0_; have HO419 := n1_; have HI401 := n2_; have HB := n3_; clear n0_ n1_ n2_ n3_; clear hb ho45; obtain ⟨Ao46, co46, eo46⟩ := Kd.R_slice HO419.out; subst eo46) | ((with_reducible refine gate_callee (f := 47) rfl ?_); refine goesL_ (some 41) rfl rfl Try.func47 (by kernel_rfl) rfl #[.pointer (some ⟨g401, 0, none⟩), .slice Ao46 y417.length co46] rfl (by first | rfl | (simp only [List.map_toArray, List.map_cons, List.map_nil, List.length_drop, List.length_take]; try rfl)) ?_; (with_reducible refine (spec_l6Rd_of.calls k g401 t399 t411 _ _ y417 t420 t421 w _ ?side1 ?side2 ?side3 ?side4 ?side5 A36.out).mono ?_); (case side1 => repeat (first | (with_reducible first | exact HI401.out | apply IsS94.alloc | apply IsS94.drewN | apply IsS94.drew | apply IsS94.set_1) | exact HI401.out)); (case side2 => repeat (first | (with_reducible first | exact HB.out | apply below_alloc | apply pw_below_drewN | apply below_drew1 | refine below_set ?_ (IsS94.ge HI401.out)) | exact HB.out)); (case side3 => repeat (first | exact (Kd.R_reads' HO419.out).2.2 | (with_reducible refine Kd.C_alloc ?_ _) | (with_reducible refine Kd.C_drewN ?_ _) | (with_reducible refine Kd.C_drew ?_))); (case side4 => exact (Kd.R_reads' HO419.out).2.1); (case side5 => exact far_slice (IsS94.own_ne HI401.out HO419.out (by decide))); rintro e w47 ⟨rfl, hi, hb, hk⟩; refine ⟨_, rfl, ?_⟩; have n0_ := Aside0.mk (Kd.R_mono (Kd.R_keep (IsS94.apart (show IsS94 w _ g401 t399 t411 from by repeat (first | (with_reducible first | exact HI401.out | apply IsS94.alloc | apply IsS94.drewN | apply IsS94.drew | apply IsS94.set_1) | exact HI401.out)) (kR HO405.out) (by decide)) hk (fun _ h => h.2)) (fun _ h => h.1)); have n1_ := Aside0.mk (Kd.R_mono (Kd.R_keep (IsS94.apart (show IsS94 w _ g401 t399 t411 from by repeat (first | (with_reducible first | exact HI401.out | apply IsS94.alloc | apply IsS94.drewN | apply IsS94.drew | apply IsS94.set_1) | exact HI401.out)) (kR HO419.out) (by decide)) hk (fun _ h => h.2)) (fun _ h => h.1)); have n2_ := Aside0.mk (hb); have n3_ := Aside0.mk (hi); clear HO405; clear HO419; clear HB; clear HI401; have HO405 := n0_; have HO419 := n1_; have HB := n2_; have HI401 := n3_; clear n0_ n1_ n2_ n3_; (try clear hb); (try clear hb2); (try clear hk); (try clear hi)))
     go_ret
     exact ⟨by first | rfl | (simp [errW_none, errW_some] <;> rfl) | (simp [*, errW_none, errW_some] <;> rfl) | (exfalso; simp_all; done), by repeat (first | (with_reducible first | exact HB.out | apply below_alloc | apply pw_below_drewN | apply below_drew1 | refine below_set ?_ (IsS94.ge HI401.out)) | exact HB.out)⟩
    ·rw [if_neg c37] at H
     exact absurd H (by simp)
   ·rw [if_neg c35] at H
    have c35b0 : (t410 == 2) = false := beq_eq_false_iff_ne.mpr c35
    have c35b1 : (t410 != 2) = true := bne_iff_ne.mpr c35
    obtain rfl := Option.some.inj H
    go_enter Try.func25, Try.ntmps25
    go_wp2_with (first | ((with_reducible refine gate_callee (f := 40) rfl ?_); refine goesL_ (some 7) rfl rfl Try.func40 (by kernel_rfl) rfl #[.slice A0 l0.length c0] rfl (by first | rfl | (simp only [List.map_toArray, List.map_cons, List.map_nil, List.length_drop, List.length_take]; try rfl)) ?_; (with_reducible refine (spec_l6Open.calls _ _ l0 t399 t400 w _ ?side1 ?side2 ?side3 A2.out).mono ?_); (case side1 => repeat (first | (with_reducible first | exact HB.out | apply below_alloc | apply pw_below_drewN | apply below_drew1) | exact HB.out)); (case side2 => exact HR0.out); (case side3 => exact HC0.out); rintro e w48 ⟨g401, rfl, hi, hb, hb2⟩; refine ⟨_, rfl, ?_⟩; have n0_ := Aside0.mk (hb); have n1_ := Aside0.mk (hi); clear HB; have HB := n0_; have HI401 := n1_; clear n0_ n1_; (try clear hb); (try clear hb2); (try clear hk); (try clear hi)) | ((with_reducible refine gate_callee (f := 46) rfl ?_); refine goesL_ (some 9) rfl rfl Try.func46 (by kernel_rfl) rfl #[.pointer (some ⟨g401, 0, none⟩)] rfl (by first | rfl | (simp only [List.map_toArray, List.map_cons, List.map_nil, List.length_drop, List.length_take]; try rfl)) ?_; (with_reducible refine (spec_l71Grid.calls k g401 t399 t400 t402 t403 t406 w _ ?side1 ?side2 A3.out).mono ?_); (case side1 => repeat (first | (with_reducible first | exact HI401.out | apply IsS94.alloc | apply IsS94.drewN | apply IsS94.drew | apply IsS94.set_1) | exact HI401.out)); (case side2 => repeat (first | (with_reducible first | exact HB.out | apply below_alloc | apply pw_below_drewN | apply below_drew1 | refine below_set ?_ (IsS94.ge HI401.out)) | exact HB.out)); rintro e w49 ⟨v404, rfl, ho0, hi, hb, hk⟩; refine ⟨_, rfl, ?_⟩; have n0_ := Aside0.mk (Kd.R_lower ho0 (below_size (by repeat (first | (with_reducible first | exact HB.out | apply below_alloc | apply pw_below_drewN | apply below_drew1 | refine below_set ?_ (IsS94.ge HI401.out)) | exact HB.out)))); have n1_ := Aside0.mk (hb); have n2_ := Aside0.mk (hi); clear HB; clear HI401; have HO405 := n0_; have HB := n1_; have HI401 := n2_; clear n0_ n1_ n2_; (try clear hb); (try clear hb2); (try clear hk); (try clear hi); (try clear ho0); obtain ⟨Ao50, co50, eo50⟩ := Kd.R_slice HO405.out; subst eo50) | ((with_reducible refine gate_callee (f := 11) rfl ?_); refine goesL_ (some 10) rfl rfl Try.func11 (by kernel_rfl) rfl #[.agg #[.int .i64 t402, .slice Ao50 t403.length co50]] rfl (by first | rfl | (simp only [List.map_toArray, List.map_cons, List.map_nil, List.length_drop, List.length_take]; try rfl)) ?_; (with_reducible refine (spec_GridText.calls k t402 _ _ t403 t407 _ ?side1 ?side2 A4.out).mono ?_); (case side1 => repeat (first | exact (Kd.R_reads' HO405.out).2.2 | (with_reducible refine Kd.C_alloc ?_ _) | (with_reducible refine Kd.C_drewN ?_ _) | (with_reducible refine Kd.C_drew ?_))); (case side2 => exact (Kd.R_reads' HO405.out).2.1); rintro e w51 ⟨rfl, hb⟩; refine ⟨_, rfl, ?_⟩; have n0_ := Aside0.mk (Kd.R_below (kR HO405.out) hb); have n1_ := Aside0.mk (IsS94.below (by repeat (first | (with_reducible first | exact HI401.out | apply IsS94.alloc | apply IsS94.drewN | apply IsS94.drew | apply IsS94.set_1) | exact HI401.out)) hb); have n2_ := Aside0.mk (below_step (by repeat (first | (with_reducible first | exact HB.out | apply below_alloc | apply pw_below_drewN | apply below_drew1 | refine below_set ?_ (IsS94.ge HI401.out)) | exact HB.out)) hb); clear HO405; clear HI401; clear HB; have HO405 := n0_; have HI401 := n1_; have HB := n2_; clear n0_ n1_ n2_; (try clear hb); (try clear hb2); (try clear hk); (try clear hi)) | ((with_reducible refine gate_callee (f := 41) rfl ?_); refine goesL_ (some 15) rfl rfl Try.func41 (by kernel_rfl) rfl #[.pointer (some ⟨g401, 0, none⟩), .int .i64 (wrap64 ((t407.size : Int) + 1))] rfl (by first | rfl | (simp only [List.map_toArray, List.map_cons, List.map_nil, List.length_drop, List.length_take]; try rfl)) ?_; (with_reducible refine (spec_l6Rd_pick.calls k g401 t399 t406 (wrap64 ((t407.size : Int) + 1)) t408 t409 w _ ?side1 ?side2 A5.out).mono ?_); (case side1 => repeat (first | (with_reducible first | exact HI401.out | apply IsS94.alloc | apply IsS94.drewN | apply IsS94.drew | apply IsS94.set_1) | exact HI401.out)); (case side2 => repeat (first | (with_reducible first | exact HB.out | apply below_alloc | apply pw_below_drewN | apply below_drew1 | refine below_set ?_ (IsS94.ge HI401.out)) | exact HB.out)); rintro e w52 ⟨rfl, hi, hb, hk⟩; refine ⟨_, rfl, ?_⟩; have n0_ := Aside0.mk (Kd.R_mono (Kd.R_keep (IsS94.apart (show IsS94 w _ g401 t399 t406 from by repeat (first | (with_reducible first | exact HI401.out | apply IsS94.alloc | apply IsS94.drewN | apply IsS94.drew | apply IsS94.set_1) | exact HI401.out)) (kR HO405.out) (by decide)) hk (fun _ h => h.2)) (fun _ h => h.1)); have n1_ := Aside0.mk (hb); have n2_ := Aside0.mk (hi); clear HO405; clear HB; clear HI401; have HO405 := n0_; have HB := n1_; have HI401 := n2_; clear n0_ n1_ n2_; (try clear hb); (try clear hb2); (try clear hk); (try clear hi)) | ((with_reducible refine gate_callee (f := 41) rfl ?_); refine goesL_ (some 17) rfl rfl Try.func41 (by kernel_rfl) rfl #[.pointer (some ⟨g401, 0, none⟩), .int .i64 8] rfl (by first | rfl | (simp only [List.map_toArray, List.map_cons, List.map_nil, List.length_drop, List.length_take]; try rfl)) ?_; (with_reducible refine (spec_l6Rd_pick.calls k g401 t399 t409 8 t410 t411 w _ ?side1 ?side2 A6.out).mono ?_); (case side1 => repeat (first | (with_reducible first | exact HI401.out | apply IsS94.alloc | apply IsS94.drewN | apply IsS94.drew | apply IsS94.set_1) | exact HI401.out)); (case side2 => repeat (first | (with_reducible first | exact HB.out | apply below_alloc | apply pw_below_drewN | apply below_drew1 | refine below_set ?_ (IsS94.ge HI401.out)) | exact HB.out)); rintro e w53 ⟨rfl, hi, hb, hk⟩; refine ⟨_, rfl, ?_⟩; have n0_ := Aside0.mk (Kd.R_mono (Kd.R_keep (IsS94.apart (show IsS94 w _ g401 t399 t409 from by repeat (first | (with_reducible first | exact HI401.out | apply IsS94.alloc | apply IsS94.drewN | apply IsS94.drew | apply IsS94.set_1) | exact HI401.out)) (kR HO405.out) (by decide)) hk (fun _ h => h.2)) (fun _ h => h.1)); have n1_ := Aside0.mk (hb); have n2_ := Aside0.mk (hi); clear HO405; clear HB; clear HI401; have HO405 := n0_; have HB := n1_; have HI401 := n2_; clear n0_ n1_ n2_; (try clear hb); (try clear hb2); (try clear hk); (try clear hi)))
    go_ret
    exact ⟨by first | rfl | (simp [errW_none, errW_some] <;> rfl) | (simp [*, errW_none, errW_some] <;> rfl) | (exfalso; simp_all; done), by repeat (first | (with_reducible first | exact HB.out | apply below_alloc | apply pw_below_drewN | apply below_drew1 | refine below_set ?_ (IsS94.ge HI401.out)) | exact HB.out)⟩

end Go.Proofs.Ytpjdhpkfenohgaa.P
