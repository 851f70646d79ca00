/- PROVED: contracts of functions; No condition. -/
import Derived.Test.YteapnipnoadejaaPx0
import Derived.Test.YteapnipnoadejaaH1Cell
namespace Go.Proofs.Yteapnipnoadejaa.P
open Go.RowKit Go.Proofs.YteapnipnoadejaaW
set_option linter.unusedVariables false
set_option linter.unusedSimpArgs false
mutual
def Wq.j0 : Nat -> Bool -> Int -> List (S42) -> Option (Bool)
 | 0, _, _, _ => none
 | k + 1, x12, x205000, x205001 => if x12 = true then (some false) else (if (x205001.length : Int) = 0 then (Wq.j1 k true x205000 x205001) else (if (x205001.length : Int) > (wrap64 (x205000 * 5)) then (Wq.j1 k true x205000 x205001) else (if x205000 = 0 then (none) else (Wq.j1 k (((x205001.length : Int) % x205000) != 0) x205000 x205001))))
def Wq.j1 : Nat -> Bool -> Int -> List (S42) -> Option (Bool)
 | 0, _, _, _ => none
 | k + 1, x34, x205000, x205001 => if x34 = true then (some false) else (Wq.l0 k x205001 (x205001.length : Int) 0)
def Wq.l0 : Nat -> List (S42) -> Int -> Int -> Option (Bool)
 | 0, _, _, _ => none
 | k + 1, x36, x37, x38 => if x38 < x37 then (if 0 <= x38 then (if x38 < (x36.length : Int) then ((impl_CellOk.f ((Qx x36 x38).f0) ((Qx x36 x38).f1)).bind fun t207 => (if t207 = true then (Wq.l0 k x36 x37 (wrap64 (x38 + 1))) else (some false))) else (none)) else (none)) else (some true)
end
def Wq.f (k : Nat) (a0_0 : Int) (l0_1 : List (S42)) : Option (Bool) := if a0_0 < 1 then (Wq.j0 k true a0_0 l0_1) else (Wq.j0 k (decide (a0_0 > 5)) a0_0 l0_1)
set_option maxHeartbeats 8000000 in
set_option maxRecDepth 100000 in
theorem Wq.calls (k : Nat) (a0_0 : Int) (A0_1 : Option Addr) (c0_1 : Nat) (l0_1 : List (S42)) (r : Bool) (w : World) (hr0_1 : Kd.C k42 w A0_1 l0_1.length l0_1) (hc0_1 : l0_1.length <= c0_1) (h : Wq.f k a0_0 l0_1 = some r) :
  Calls Try.prog 36 #[.agg #[.int .i64 a0_0, .slice A0_1 l0_1.length c0_1]] w fun e w' => e = .returned (.bool r) ∧ Below w.heap.size w w' := by
 have hu25 := Try.underlying25
 have hu42 := Try.underlying42
 have HR0_1 := Qa.mk hr0_1
 have HC0_1 := Qa.mk hc0_1
 clear hr0_1 hc0_1
 have HB := Qa.mk (Below.refl w.heap.size w)
 have H : (if a0_0 < 1 then (Wq.j0 k true a0_0 l0_1) else (Wq.j0 k (decide (a0_0 > 5)) a0_0 l0_1)) = some r := h
 clear h
 have HC2 := Qa.mk H
 clear H
 go_enter Try.func36, Try.ntmps36
 go_upto_region 1 with (first | ((with_reducible refine We (N := 1) rfl ?_); (try (refine gate_guard (by rfl) ?_; dsimp only)); refine Qy rfl (N := 1) rfl (cs := #[.int .i64 a0_0, .slice A0_1 l0_1.length c0_1]) (t := 25) ?hr ?_; (case hr => first | (go_simp; done) | (go_simp; rfl)); intro gb204 hg w3 hbox hb; have n0_ := Qa.mk (Ql (by repeat first | exact HB.out | apply Qc | apply Qb) hb); have n1_ := Qa.mk (hbox); have n2_ := Qa.mk ((by rw [hg]; exact (Qr (by repeat first | exact HB.out | apply Qc | apply Qb)) : w.heap.size <= gb204)); have n3_ := n2_; clear HB; have HB := n0_; have BK204 := n1_; have GW204 := n2_; have GE204 := n3_; clear n0_ n1_ n2_ n3_; clear hb hbox hg))
 (try simp only [Act.put, List.setIfInBounds_toArray, List.set_cons_zero, List.set_cons_succ])
 go_cut [12] (fun v12 wc => ∃ (kq : Nat) (x12_1 : Bool), v12 = .bool x12_1 ∧ Qa (Wq.j0 kq x12_1 a0_0 l0_1 = some r) ∧ Qa (kq <= k) ∧ Qa (wc.heap[gb204]? = some (.cells #[.int .i64 a0_0, (.slice A0_1 l0_1.length c0_1)] 25 (0, 0))) ∧ Qa (Below w.heap.size w wc))
 case first =>
  have H := HC2.out
  clear HC2
  by_cases c4 : a0_0 < 1
  ·rw [if_pos c4] at H
   have c4b0 : decide (a0_0 < 1) = true := decide_eq_true c4
   clear c4
   (first | rw [c4b0] | (simp only [Wp, Ws]; rw [c4b0]) | skip)
   have H' := Qa.mk H
   clear H
   have hcz5_0 : w3.cell? ⟨gb204, 0, none⟩ = some (.int .i64 a0_0) := (Qe BK204.out 0).trans rfl
   have hcz5_1 : w3.cell? ⟨gb204, 1, none⟩ = some (.slice A0_1 l0_1.length c0_1) := (Qe BK204.out 1).trans rfl
   have hfz5_0 := Qf BK204.out 0
   have hfz5_1 := Qf BK204.out 1
   go_wp2
   go_meet
   case rel => exact ⟨_, (true), (by first | rfl | (simp; done) | (simp [*]; done)), H', ⟨by first | omega | exact Nat.le_refl _⟩, ⟨by (with_reducible repeat apply Qd); exact BK204.out⟩, ⟨by repeat first | exact HB.out | with_reducible refine Qh ?_ ‹_› | apply Qc | apply Qb⟩⟩
  ·rw [if_neg c4] at H
   have c4b0 : decide (a0_0 < 1) = false := decide_eq_false c4
   clear c4
   (first | rw [c4b0] | (simp only [Wp, Ws]; rw [c4b0]) | skip)
   have H' := Qa.mk H
   clear H
   have hcz6_0 : w3.cell? ⟨gb204, 0, none⟩ = some (.int .i64 a0_0) := (Qe BK204.out 0).trans rfl
   have hcz6_1 : w3.cell? ⟨gb204, 1, none⟩ = some (.slice A0_1 l0_1.length c0_1) := (Qe BK204.out 1).trans rfl
   have hfz6_0 := Qf BK204.out 0
   have hfz6_1 := Qf BK204.out 1
   go_wp2
   go_meet
   case rel => exact ⟨_, (decide (a0_0 > 5)), (by first | rfl | (simp; done) | (simp [*]; done)), H', ⟨by first | omega | exact Nat.le_refl _⟩, ⟨by (with_reducible repeat apply Qd); exact BK204.out⟩, ⟨by repeat first | exact HB.out | with_reducible refine Qh ?_ ‹_› | apply Qc | apply Qb⟩⟩
 case rest =>
  clear HC2
  try clear p2
  try clear c3
  try clear c4
  try clear c4b0
  try clear hcz5_0
  try clear hcz5_1
  try clear hcz6_0
  try clear hcz6_1
  try clear hfz5_0
  try clear hfz5_1
  try clear hfz6_0
  try clear hfz6_1
  obtain ⟨kq, x12_1, rfl, HA, HJ1, BK204, HB⟩ := hcut
  cases kq with
  | zero => exact absurd HA.out (by simp [Wq.j0])
  | succ kj1 =>
   have H := HA.out
   clear HA
   simp only [Wq.j0] at H
   by_cases c7 : x12_1 = true
   ·subst c7
    have H1 : (some false) = some r := by rw [if_pos rfl] at H; exact H
    clear H
    have H := H1
    clear H1
    obtain rfl := Option.some.inj H
    go_wp2
    go_ret
    exact ⟨by first | rfl | (simp [Qt, Qs] <;> rfl) | (simp [*, Qt, Qs] <;> rfl) | (exfalso; simp_all; done), by repeat first | exact HB.out | with_reducible refine Qh ?_ ‹_› | apply Qc | apply Qb⟩
   ·replace c7 := Bool.eq_false_iff.mpr c7
    subst c7
    have H1 : (if (l0_1.length : Int) = 0 then (Wq.j1 kj1 true a0_0 l0_1) else (if (l0_1.length : Int) > (wrap64 (a0_0 * 5)) then (Wq.j1 kj1 true a0_0 l0_1) else (if a0_0 = 0 then (none) else (Wq.j1 kj1 (((l0_1.length : Int) % a0_0) != 0) a0_0 l0_1)))) = some r := by rw [if_neg (show ¬ (false = true) by decide)] at H; exact H
    clear H
    have H := H1
    clear H1
    have HC8 := Qa.mk H
    clear H
    go_upto_region 3 with (fail)
    go_cut [34] (fun v34 wc => ∃ (kq : Nat) (x34_7 : Bool), v34 = .bool x34_7 ∧ Qa (Wq.j1 kq x34_7 a0_0 l0_1 = some r) ∧ Qa (kq <= kj1) ∧ Qa (wc.heap[gb204]? = some (.cells #[.int .i64 a0_0, (.slice A0_1 l0_1.length c0_1)] 25 (0, 0))) ∧ Qa (Below w.heap.size w wc))
    case first =>
     have H := HC8.out
     clear HC8
     by_cases c9 : (l0_1.length : Int) = 0
     ·rw [if_pos c9] at H
      have c9b0 : ((l0_1.length : Int) == 0) = true := beq_iff_eq.mpr c9
      have c9b1 : ((l0_1.length : Int) != 0) = false := bne_eq_false_iff_eq.mpr c9
      clear c9
      (first | rw [c9b0] | (simp only [Wp, Ws]; rw [c9b0]) | skip)
      have H' := Qa.mk H
      clear H
      have hcz10_0 : wc.cell? ⟨gb204, 0, none⟩ = some (.int .i64 a0_0) := (Qe BK204.out 0).trans rfl
      have hcz10_1 : wc.cell? ⟨gb204, 1, none⟩ = some (.slice A0_1 l0_1.length c0_1) := (Qe BK204.out 1).trans rfl
      have hfz10_0 := Qf BK204.out 0
      have hfz10_1 := Qf BK204.out 1
      go_wp2
      go_meet
      case rel => exact ⟨_, (true), (by first | rfl | (simp; done) | (simp [*]; done)), H', ⟨by have := HJ1.out; first | omega | exact Nat.le_refl _⟩, ⟨by (with_reducible repeat apply Qd); exact BK204.out⟩, ⟨by repeat first | exact HB.out | with_reducible refine Qh ?_ ‹_› | apply Qc | apply Qb⟩⟩
     ·rw [if_neg c9] at H
      have c9b0 : ((l0_1.length : Int) == 0) = false := beq_eq_false_iff_ne.mpr c9
      have c9b1 : ((l0_1.length : Int) != 0) = true := bne_iff_ne.mpr c9
      have c9b2 : ¬ (l0_1 = []) := fun h_ => c9 (by rw [h_]; rfl)
      (first | rw [c9b0] | (simp only [Wp, Ws]; rw [c9b0]) | skip)
      by_cases c11 : (l0_1.length : Int) > (wrap64 (a0_0 * 5))
      ·rw [if_pos c11] at H
       have c11b0 : decide ((wrap64 (a0_0 * 5)) < (l0_1.length : Int)) = true := decide_eq_true c11
       clear c11
       have H' := Qa.mk H
       clear H
       have hcz12_0 : wc.cell? ⟨gb204, 0, none⟩ = some (.int .i64 a0_0) := (Qe BK204.out 0).trans rfl
       have hcz12_1 : wc.cell? ⟨gb204, 1, none⟩ = some (.slice A0_1 l0_1.length c0_1) := (Qe BK204.out 1).trans rfl
       have hfz12_0 := Qf BK204.out 0
       have hfz12_1 := Qf BK204.out 1
       go_wp2
       go_meet
       case rel => exact ⟨_, (true), (by first | rfl | (simp; done) | (simp [*]; done)), H', ⟨by have := HJ1.out; first | omega | exact Nat.le_refl _⟩, ⟨by (with_reducible repeat apply Qd); exact BK204.out⟩, ⟨by repeat first | exact HB.out | with_reducible refine Qh ?_ ‹_› | apply Qc | apply Qb⟩⟩
      ·rw [if_neg c11] at H
       have c11b0 : decide ((wrap64 (a0_0 * 5)) < (l0_1.length : Int)) = false := decide_eq_false c11
       clear c11
       by_cases c13 : a0_0 = 0
       ·rw [if_pos c13] at H
        exact absurd H (by simp)
       ·rw [if_neg c13] at H
        have c13b0 : (a0_0 == 0) = false := beq_eq_false_iff_ne.mpr c13
        have c13b1 : (a0_0 != 0) = true := bne_iff_ne.mpr c13
        have H' := Qa.mk H
        clear H
        have hcz14_0 : wc.cell? ⟨gb204, 0, none⟩ = some (.int .i64 a0_0) := (Qe BK204.out 0).trans rfl
        have hcz14_1 : wc.cell? ⟨gb204, 1, none⟩ = some (.slice A0_1 l0_1.length c0_1) := (Qe BK204.out 1).trans rfl
        have hfz14_0 := Qf BK204.out 0
        have hfz14_1 := Qf BK204.out 1
        go_wp2
        go_meet
        case rel => exact ⟨_, ((((l0_1.length : Int) % a0_0) != 0)), (by first | rfl | (simp; done) | (simp [*]; done)), H', ⟨by have := HJ1.out; first | omega | exact Nat.le_refl _⟩, ⟨by (with_reducible repeat apply Qd); exact BK204.out⟩, ⟨by repeat first | exact HB.out | with_reducible refine Qh ?_ ‹_› | apply Qc | apply Qb⟩⟩
    case rest =>
     clear HC8
     try clear c1
     try clear p2
     try clear c3
     try clear c4
     try clear c4b0
     try clear p6
     try clear c7
     try clear c9
     try clear c9b0
     try clear c9b1
     try clear c9b2
     try clear c11
     try clear c11b0
     try clear c13
     try clear c13b0
     try clear c13b1
     try clear hcz10_0
     try clear hcz10_1
     try clear hcz12_0
     try clear hcz12_1
     try clear hcz14_0
     try clear hcz14_1
     try clear hcz5_0
     try clear hcz5_1
     try clear hcz6_0
     try clear hcz6_1
     try clear hfz10_0
     try clear hfz10_1
     try clear hfz12_0
     try clear hfz12_1
     try clear hfz14_0
     try clear hfz14_1
     try clear hfz5_0
     try clear hfz5_1
     try clear hfz6_0
     try clear hfz6_1
     try clear p2
     obtain ⟨kq, x34_7, rfl, HA, HJ7, BK204, HB⟩ := hcut
     cases kq with
     | zero => exact absurd HA.out (by simp [Wq.j1])
     | succ kj7 =>
      have H := HA.out
      clear HA
      simp only [Wq.j1] at H
      by_cases c15 : x34_7 = true
      ·subst c15
       have H1 : (some false) = some r := by rw [if_pos rfl] at H; exact H
       clear H
       have H := H1
       clear H1
       obtain rfl := Option.some.inj H
       go_wp2
       go_ret
       exact ⟨by first | rfl | (simp [Qt, Qs] <;> rfl) | (simp [*, Qt, Qs] <;> rfl) | (exfalso; simp_all; done), by repeat first | exact HB.out | with_reducible refine Qh ?_ ‹_› | apply Qc | apply Qb⟩
      ·replace c15 := Bool.eq_false_iff.mpr c15
       subst c15
       have H1 : (Wq.l0 kj7 l0_1 (l0_1.length : Int) 0) = some r := by rw [if_neg (show ¬ (false = true) by decide)] at H; exact H
       clear H
       have H := H1
       clear H1
       have H' := Qa.mk H
       clear H
       have hcz16_0 : wc.cell? ⟨gb204, 0, none⟩ = some (.int .i64 a0_0) := (Qe BK204.out 0).trans rfl
       have hcz16_1 : wc.cell? ⟨gb204, 1, none⟩ = some (.slice A0_1 l0_1.length c0_1) := (Qe BK204.out 1).trans rfl
       have hfz16_0 := Qf BK204.out 0
       have hfz16_1 := Qf BK204.out 1
       go_wp2
       go_loopg [38] kj7 (fun kq v38 w' => ∃ (x38_3 : Int), v38 = .int .i64 x38_3 ∧ Qa (Wq.l0 kq l0_1 (l0_1.length : Int) x38_3 = some r) ∧ Qa (kq <= kj7) ∧ Qa (w'.heap[gb204]? = some (.cells #[.int .i64 a0_0, (.slice A0_1 l0_1.length c0_1)] 25 (0, 0))) ∧ Qa (Below w.heap.size w w'))
       case atStart => exact ⟨(0), (by first | rfl | (simp; done) | (simp [*]; done)), H', ⟨Nat.le_refl _⟩, ⟨by (with_reducible repeat apply Qd); exact BK204.out⟩, ⟨by repeat first | exact HB.out | with_reducible refine Qh ?_ ‹_› | apply Qc | apply Qb⟩⟩
       case round =>
        clear H'
        try clear c1
        try clear p2
        try clear c3
        try clear c4
        try clear c4b0
        try clear p6
        try clear c7
        try clear c9
        try clear c9b0
        try clear c9b1
        try clear c9b2
        try clear c11
        try clear c11b0
        try clear c13
        try clear c13b0
        try clear c13b1
        try clear c15
        try clear hcz10_0
        try clear hcz10_1
        try clear hcz12_0
        try clear hcz12_1
        try clear hcz14_0
        try clear hcz14_1
        try clear hcz16_0
        try clear hcz16_1
        try clear hcz5_0
        try clear hcz5_1
        try clear hcz6_0
        try clear hcz6_1
        try clear hfz10_0
        try clear hfz10_1
        try clear hfz12_0
        try clear hfz12_1
        try clear hfz14_0
        try clear hfz14_1
        try clear hfz16_0
        try clear hfz16_1
        try clear hfz5_0
        try clear hfz5_1
        try clear hfz6_0
        try clear hfz6_1
        try clear p2
        try clear p6
        obtain ⟨x38_3, rfl, HA, HK3, BK204, HB⟩ := hrel
        cases gk with
        | zero => exact absurd HA.out (by simp [Wq.l0])
        | succ k3 =>
         have H := HA.out
         clear HA
         simp only [Wq.l0] at H
         by_cases c17 : x38_3 < (l0_1.length : Int)
         ·rw [if_pos c17] at H
          have c17b0 : decide (x38_3 < (l0_1.length : Int)) = true := decide_eq_true c17
          clear c17
          by_cases c18 : 0 <= x38_3
          ·rw [if_pos c18] at H
           have c18b0 : decide (0 <= x38_3) = true := decide_eq_true c18
           clear c18
           by_cases c19 : x38_3 < (l0_1.length : Int)
           ·rw [if_pos c19] at H
            have c19b0 : decide (x38_3 < (l0_1.length : Int)) = true := decide_eq_true c19
            clear c19
            replace H := Option.bind_eq_some_iff.mp H
            obtain ⟨t207, A200, H⟩ := H
            replace H : (if t207 = true then (Wq.l0 k3 l0_1 (l0_1.length : Int) (wrap64 (x38_3 + 1))) else (some false)) = some r := H
            have A20 := Qa.mk A200
            clear A200
            by_cases c21 : t207 = true
            ·subst c21
             have H1 : (Wq.l0 k3 l0_1 (l0_1.length : Int) (wrap64 (x38_3 + 1))) = some r := by rw [if_pos rfl] at H; exact H
             clear H
             have H := H1
             clear H1
             have H' := Qa.mk H
             clear H
             have p205 : 0 <= (x38_3 : Int) := of_decide_eq_true (by first | (with_reducible assumption) | assumption)
             have q205 : x38_3 < (l0_1.length : Int) := of_decide_eq_true (by first | (with_reducible assumption) | assumption)
             obtain ⟨ad205, e205, hx205_0, hx205_1⟩ := at_T42 HR0_1.out x38_3 p205 q205
             cases e205
             replace hx205_0 := (HB.out.cell (World.block_lt_of_cell? w _ hx205_0)).trans hx205_0
             replace hx205_1 := (HB.out.cell (World.block_lt_of_cell? w _ hx205_1)).trans hx205_1
             replace p205 := eq_true p205
             replace q205 := eq_true q205
             go_wp2_with (first | ((with_reducible refine We (N := 4) rfl ?_); (try (refine gate_guard (by rfl) ?_; dsimp only)); refine Qy rfl (N := 4) rfl (cs := #[.int .i64 0, .int .i64 0]) (t := 42) ?hr ?_; (case hr => first | (go_simp; done) | (go_simp; rfl)); intro gb206 hg w22 hbox hb; have n0_ := Qa.mk (Qk (bK BK204.out) hb); have n1_ := Qa.mk (Ql (by repeat first | exact HB.out | with_reducible refine Qh ?_ ‹_› | apply Qc | apply Qb) hb); have n2_ := Qa.mk (hbox); have n3_ := Qa.mk ((by rw [hg]; exact (Qr (by repeat first | exact HB.out | with_reducible refine Qh ?_ ‹_› | apply Qc | apply Qb)) : w.heap.size <= gb206)); have n4_ := n3_; have n5_ := Qa.mk ((by rw [hg]; exact Nat.ne_of_lt (Wl (bK BK204.out)) : gb204 ≠ gb206)); have n6_ := Qa.mk ((by rw [hg]; exact Nat.ne_of_gt (Wl (bK BK204.out)) : gb206 ≠ gb204)); clear BK204; clear HB; have BK204 := n0_; have HB := n1_; have BK206 := n2_; have GW206 := n3_; have GE206 := n4_; have NB204_206 := n5_; have NB206_204 := n6_; clear n0_ n1_ n2_ n3_ n4_ n5_ n6_; clear hb hbox hg; have hnb23 := NB206_204.out; have hnc23 := NB204_206.out; have hcz24_0 : w22.cell? ⟨gb206, 0, none⟩ = some (.int .i64 0) := (Qe BK206.out 0).trans rfl; have hcz24_1 : w22.cell? ⟨gb206, 1, none⟩ = some (.int .i64 0) := (Qe BK206.out 1).trans rfl; have hfz24_0 := Qf BK206.out 0; have hfz24_1 := Qf BK206.out 1) | ((with_reducible refine Wi (f := 53) rfl ?_); refine Zu (some 43) rfl rfl Try.func53 (by kernel_rfl) rfl #[.agg #[.int .i64 ((Qx l0_1 x38_3).f0), .int .i64 ((Qx l0_1 x38_3).f1)]] rfl (by first | rfl | (simp only [List.map_toArray, List.map_cons, List.map_nil, List.length_drop, List.length_take]; try rfl)) ?_; (with_reducible refine (impl_CellOk.calls ((Qx l0_1 x38_3).f0) ((Qx l0_1 x38_3).f1) true _ A20.out).mono ?_); rintro e w25 ⟨rfl, hb⟩; refine ⟨_, rfl, ?_⟩; have n0_ := Qa.mk (Qk (g := gb204) (o := .cells #[.int .i64 a0_0, .slice (some ad205) l0_1.length c0_1] 25 (0, 0)) (by (with_reducible repeat apply Qd); refine Qo ?_ NB204_206.out _; (with_reducible repeat apply Qd); refine Qo ?_ NB204_206.out _; (with_reducible repeat apply Qd); exact BK204.out) hb); have n1_ := Qa.mk (Qk (g := gb206) (o := .cells #[.int .i64 ((Qx l0_1 x38_3).f0), .int .i64 ((Qx l0_1 x38_3).f1)] 42 (0, 0)) (by (with_reducible repeat apply Qd); refine Wm (cs := #[.int .i64 ((Qx l0_1 x38_3).f0), .int .i64 0]) ?_ 1 _ rfl; (with_reducible repeat apply Qd); refine Wm (cs := #[.int .i64 0, .int .i64 0]) ?_ 0 _ rfl; (with_reducible repeat apply Qd); exact BK206.out) hb); have n2_ := Qa.mk (Ql (by repeat first | exact HB.out | with_reducible refine Qh ?_ ‹_› | apply Qc | apply Qb) hb); clear BK204; clear BK206; clear HB; have BK204 := n0_; have BK206 := n1_; have HB := n2_; clear n0_ n1_ n2_; (try clear hb); (try clear hb2); (try clear hk); (try clear hi)))
             go_roundg k3
             case measure => have := HJ1.out; have := HJ7.out; have := HK3.out; omega
             case rel => exact ⟨(wrap64 (x38_3 + 1)), (by first | rfl | (simp; done) | (simp [*]; done)), H', ⟨by have := HJ1.out; have := HJ7.out; have := HK3.out; omega⟩, ⟨by (with_reducible repeat apply Qd); exact BK204.out⟩, ⟨by repeat first | exact HB.out | with_reducible refine Qh ?_ ‹_› | apply Qc | apply Qb⟩⟩
            ·replace c21 := Bool.eq_false_iff.mpr c21
             subst c21
             have H1 : (some false) = some r := by rw [if_neg (show ¬ (false = true) by decide)] at H; exact H
             clear H
             have H := H1
             clear H1
             obtain rfl := Option.some.inj H
             have p205 : 0 <= (x38_3 : Int) := of_decide_eq_true (by first | (with_reducible assumption) | assumption)
             have q205 : x38_3 < (l0_1.length : Int) := of_decide_eq_true (by first | (with_reducible assumption) | assumption)
             obtain ⟨ad205, e205, hx205_0, hx205_1⟩ := at_T42 HR0_1.out x38_3 p205 q205
             cases e205
             replace hx205_0 := (HB.out.cell (World.block_lt_of_cell? w _ hx205_0)).trans hx205_0
             replace hx205_1 := (HB.out.cell (World.block_lt_of_cell? w _ hx205_1)).trans hx205_1
             replace p205 := eq_true p205
             replace q205 := eq_true q205
             go_wp2_with (first | ((with_reducible refine We (N := 4) rfl ?_); (try (refine gate_guard (by rfl) ?_; dsimp only)); refine Qy rfl (N := 4) rfl (cs := #[.int .i64 0, .int .i64 0]) (t := 42) ?hr ?_; (case hr => first | (go_simp; done) | (go_simp; rfl)); intro gb206 hg w26 hbox hb; have n0_ := Qa.mk (Qk (bK BK204.out) hb); have n1_ := Qa.mk (Ql (by repeat first | exact HB.out | with_reducible refine Qh ?_ ‹_› | apply Qc | apply Qb) hb); have n2_ := Qa.mk (hbox); have n3_ := Qa.mk ((by rw [hg]; exact (Qr (by repeat first | exact HB.out | with_reducible refine Qh ?_ ‹_› | apply Qc | apply Qb)) : w.heap.size <= gb206)); have n4_ := n3_; have n5_ := Qa.mk ((by rw [hg]; exact Nat.ne_of_lt (Wl (bK BK204.out)) : gb204 ≠ gb206)); have n6_ := Qa.mk ((by rw [hg]; exact Nat.ne_of_gt (Wl (bK BK204.out)) : gb206 ≠ gb204)); clear BK204; clear HB; have BK204 := n0_; have HB := n1_; have BK206 := n2_; have GW206 := n3_; have GE206 := n4_; have NB204_206 := n5_; have NB206_204 := n6_; clear n0_ n1_ n2_ n3_ n4_ n5_ n6_; clear hb hbox hg; have hnb27 := NB206_204.out; have hnc27 := NB204_206.out; have hcz28_0 : w26.cell? ⟨gb206, 0, none⟩ = some (.int .i64 0) := (Qe BK206.out 0).trans rfl; have hcz28_1 : w26.cell? ⟨gb206, 1, none⟩ = some (.int .i64 0) := (Qe BK206.out 1).trans rfl; have hfz28_0 := Qf BK206.out 0; have hfz28_1 := Qf BK206.out 1) | ((with_reducible refine Wi (f := 53) rfl ?_); refine Zu (some 43) rfl rfl Try.func53 (by kernel_rfl) rfl #[.agg #[.int .i64 ((Qx l0_1 x38_3).f0), .int .i64 ((Qx l0_1 x38_3).f1)]] rfl (by first | rfl | (simp only [List.map_toArray, List.map_cons, List.map_nil, List.length_drop, List.length_take]; try rfl)) ?_; (with_reducible refine (impl_CellOk.calls ((Qx l0_1 x38_3).f0) ((Qx l0_1 x38_3).f1) false _ A20.out).mono ?_); rintro e w29 ⟨rfl, hb⟩; refine ⟨_, rfl, ?_⟩; have n0_ := Qa.mk (Qk (g := gb204) (o := .cells #[.int .i64 a0_0, .slice (some ad205) l0_1.length c0_1] 25 (0, 0)) (by (with_reducible repeat apply Qd); refine Qo ?_ NB204_206.out _; (with_reducible repeat apply Qd); refine Qo ?_ NB204_206.out _; (with_reducible repeat apply Qd); exact BK204.out) hb); have n1_ := Qa.mk (Qk (g := gb206) (o := .cells #[.int .i64 ((Qx l0_1 x38_3).f0), .int .i64 ((Qx l0_1 x38_3).f1)] 42 (0, 0)) (by (with_reducible repeat apply Qd); refine Wm (cs := #[.int .i64 ((Qx l0_1 x38_3).f0), .int .i64 0]) ?_ 1 _ rfl; (with_reducible repeat apply Qd); refine Wm (cs := #[.int .i64 0, .int .i64 0]) ?_ 0 _ rfl; (with_reducible repeat apply Qd); exact BK206.out) hb); have n2_ := Qa.mk (Ql (by repeat first | exact HB.out | with_reducible refine Qh ?_ ‹_› | apply Qc | apply Qb) hb); clear BK204; clear BK206; clear HB; have BK204 := n0_; have BK206 := n1_; have HB := n2_; clear n0_ n1_ n2_; (try clear hb); (try clear hb2); (try clear hk); (try clear hi)))
             go_ret
             exact ⟨by first | rfl | (simp [Qt, Qs] <;> rfl) | (simp [*, Qt, Qs] <;> rfl) | (exfalso; simp_all; done), by repeat first | exact HB.out | with_reducible refine Qh ?_ ‹_› | apply Qc | apply Qb⟩
           ·rw [if_neg c19] at H
            exact absurd H (by simp)
          ·rw [if_neg c18] at H
           exact absurd H (by simp)
         ·rw [if_neg c17] at H
          have c17b0 : decide (x38_3 < (l0_1.length : Int)) = false := decide_eq_false c17
          clear c17
          obtain rfl := Option.some.inj H
          go_wp2
          go_ret
          exact ⟨by first | rfl | (simp [Qt, Qs] <;> rfl) | (simp [*, Qt, Qs] <;> rfl) | (exfalso; simp_all; done), by repeat first | exact HB.out | with_reducible refine Qh ?_ ‹_› | apply Qc | apply Qb⟩
end Go.Proofs.Yteapnipnoadejaa.P
