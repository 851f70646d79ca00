/- PROVED: the program's GridText returns the signs of a valid grid's cells, row by row, and no text for another. Condition: the grid has at most 2^40 cells. -/
import Derived.Test.YtpjdhpkfenohgaaQGrid
import Derived.Test.YtpjdhpkfenohgaaH1Builder
import Derived.Test.YtpjdhpkfenohgaaH1CellP
import Derived.Test.YtpjdhpkfenohgaaH1SignP
import Derived.Test.YtpjdhpkfenohgaaPx33
import Derived.Lib.VarintMem
namespace Go.Proofs.Ytpjdhpkfenohgaa.P
open Go.RowKit Go.Proofs.YtpjdhpkfenohgaaW.PrintWords Go.Proofs.YtpjdhpkfenohgaaW.PrintLast Go.Proofs.YtpjdhpkfenohgaaW.PrintMore
set_option linter.unusedVariables false
set_option linter.unusedSimpArgs false
/-- The sign of a cell. -/
def sgB (l : List S39) (q : Nat) : Nat := (signOf (rd_T39 l (q : Int)).f0 (rd_T39 l (q : Int)).f1).toNat
/-- The text of the first q cells. -/
def textL (n : Int) (l : List S39) : Nat → List UInt8
  | 0 => []
  | q + 1 => if (q : Int) % n = wrap64 (n - 1) then (textL n l q ++ [(sgB l q).toUInt8]) ++ [(10 : Nat).toUInt8] else textL n l q ++ [(sgB l q).toUInt8]
def textOf (n : Int) (l : List S39) : ByteArray := if gridOkB n l = true then ⟨(textL n l l.length).toArray⟩ else ⟨#[]⟩
theorem textL_le (n : Int) (l : List S39) : ∀ q, (textL n l q).length ≤ 2 * q
  | 0 => by simp [textL]
  | q + 1 => by
    have := textL_le n l q
    unfold textL
    split <;> simp <;> omega
theorem signOf_in {k x : Int} (h : cellOkB k x = true) : 0 ≤ signOf k x ∧ signOf k x < 256 := by
  rcases cellOkB_cases h with ⟨rfl, h1, h9⟩ | ⟨rfl, hk⟩
  · unfold signOf
    rw [if_pos rfl]
    omega
  · rcases hk with rfl | rfl | rfl | rfl | rfl | rfl | rfl <;> decide
def impl_GridText.f (k : Nat) (n : Int) (l : List S39) : Option ByteArray := if l.length + 20 ≤ k ∧ l.length ≤ 1099511627776 then some (textOf n l) else none
set_option maxHeartbeats 4000000 in
set_option maxRecDepth 100000 in
theorem impl_GridText_no (k : Nat) (a0 : Int) (A : Option Addr) (c : Nat) (l : List S39) (w : World) (hr0 : Kd.C k39 w A l.length l) (hc0 : l.length ≤ c) (hok : impl_GridOk.f k a0 l = some false) :
    Calls Try.prog 13 #[.agg #[.int .i64 a0, .slice A l.length c]] w fun e w' => e = .returned (.string ⟨#[]⟩) ∧ Below w.heap.size w w' := by
  have hu1 := Try.underlying29
  have HB := Below.refl w.heap.size w
  go_enter Try.func13, Try.ntmps13
  go_wp2_with (go_at_call 24; refine (impl_GridOk.calls k a0 A c l false _ (Kd.C_alloc hr0 _) hc0 hok).mono ?_)
  rintro e w1 ⟨rfl, b1⟩
  go_wp2
  go_ret
  exact ⟨rfl, below_step (below_alloc HB _) b1⟩
set_option maxHeartbeats 8000000 in
set_option maxRecDepth 100000 in
theorem impl_GridText_yes (k : Nat) (a0 : Int) (A : Option Addr) (c : Nat) (l : List S39) (w : World) (hr0 : Kd.C k39 w A l.length l) (hc0 : l.length ≤ c) (hl : l.length ≤ 1099511627776) (hn : 1 ≤ a0) (hall : l.all okCell = true) (hok : impl_GridOk.f k a0 l = some true) :
    Calls Try.prog 13 #[.agg #[.int .i64 a0, .slice A l.length c]] w fun e w' => e = .returned (.string ⟨(textL a0 l l.length).toArray⟩) ∧ Below w.heap.size w w' := by
  have hu1 := Try.underlying29
  have hu2 := Try.underlying39
  have HR0 := Aside0.mk hr0
  go_enter Try.func13, Try.ntmps13
  go_wp2_with (go_at_call 24; refine (impl_GridOk.calls k a0 A c l true _ (Kd.C_alloc hr0 _) hc0 hok).mono ?_)
  clear hr0
  rintro e w1 ⟨rfl, b1⟩
  have hg1 : w1.heap[w.heap.size]? = some (.cells #[.int .i64 a0, .slice A l.length c] 29 (0, 0)) := blk_below (blk_new w _) b1
  have HB1 : Below w.heap.size w w1 := below_step (below_alloc (Below.refl _ w) _) b1
  have hlt1 : w.heap.size < w1.heap.size := blk_lt hg1
  have hcz0 : w1.cell? ⟨w.heap.size, 0, none⟩ = some (.int .i64 a0) := (blk_cell hg1 0).trans rfl
  have hcz1 : w1.cell? ⟨w.heap.size, 1, none⟩ = some (.slice A l.length c) := (blk_cell hg1 1).trans rfl
  clear b1
  have hn0 : (a0 == 0) = false := beq_eq_false_iff_ne.mpr (by omega)
  go_wp2
  go_loopg [14] l.length (fun kq v14 wr => ∃ q : Nat, v14 = .int .i64 (q : Int) ∧ q + kq = l.length ∧ Aside0 (Lib.IsBuilder SB 5 w1.heap.size w1.heap.size (Lib.byteCells (textL a0 l q)) wr) ∧ Aside0 (wr.heap[w.heap.size]? = some (.cells #[.int .i64 a0, .slice A l.length c] 29 (0, 0))) ∧ Aside0 (Below w.heap.size w wr) ∧ Aside0 (w1.heap.size ≤ wr.heap.size))
  case atStart => exact ⟨0, rfl, by omega, ⟨Lib.fresh_isBuilder SB 5 w1⟩, ⟨blk_alloc hg1 _⟩, ⟨below_alloc HB1 _⟩, ⟨by simp⟩⟩
  case round =>
    clear hcz0 hcz1
    obtain ⟨q, rfl, hq, IB, BK, HB, HS⟩ := hrel
    have hz0 : wr.cell? ⟨w.heap.size, 0, none⟩ = some (.int .i64 a0) := (blk_cell BK.out 0).trans rfl
    have hz1 : wr.cell? ⟨w.heap.size, 1, none⟩ = some (.slice A l.length c) := (blk_cell BK.out 1).trans rfl
    cases gk with
    | zero =>
      obtain rfl : q = l.length := by omega
      have hd : decide ((l.length : Int) < (l.length : Int)) = false := decide_eq_false (by omega)
      go_wp2_with (go_at_call 33; refine (sb_String w1.heap.size w1.heap.size _ _ IB.out HS.out).mono ?_)
      rintro e w2 ⟨rfl, b2⟩
      go_wp2
      go_ret
      exact ⟨rfl, below_weaken HB.out HB1.size b2⟩
    | succ g =>
      have hlt : q < l.length := by omega
      have hd : decide ((q : Int) < (l.length : Int)) = true := decide_eq_true (by omega)
      have hp : 0 ≤ (q : Int) := Int.natCast_nonneg q
      have hqq : (q : Int) < (l.length : Int) := by omega
      obtain ⟨ad, e, hx0, hx1⟩ := at_T39 HR0.out (q : Int) hp hqq
      cases e
      replace hx0 := (HB.out.cell (World.block_lt_of_cell? w _ hx0)).trans hx0
      replace hx1 := (HB.out.cell (World.block_lt_of_cell? w _ hx1)).trans hx1
      rw [Int.toNat_natCast] at hx0 hx1
      have hcok : cellOkB (rd_T39 l (q : Int)).f0 (rd_T39 l (q : Int)).f1 = true := by
        rw [rd_at l q hlt]
        exact List.all_eq_true.1 hall _ (List.getElem_mem hlt)
      have hsg := signOf_in hcok
      have htyped : cellTypedP.f (rd_T39 l (q : Int)).f0 (rd_T39 l (q : Int)).f1 = some (((rd_T39 l (q : Int)).f0, (rd_T39 l (q : Int)).f1), true) := by
        unfold cellTypedP.f
        rw [hcok]
      have hsign : cellSignP.f ((rd_T39 l (q : Int)).f0, (rd_T39 l (q : Int)).f1) = some ((sgB l q : Nat) : Int) := by
        unfold cellSignP.f
        rw [if_pos hcok]
        unfold sgB
        rw [Int.toNat_of_nonneg hsg.1]
      have hsgl : sgB l q < 256 := by unfold sgB; omega
      have hp' : (0 ≤ (q : Int)) = True := eq_true hp
      have hqq' : ((q : Int) < (l.length : Int)) = True := eq_true hqq
      go_wp2_with (go_at_call 30; refine (cellTypedP.calls _ _ _ true _ htyped).mono ?_)
      rintro e w2 ⟨rfl, b2⟩
      go_wp2_with (go_at_call 32; refine (cellSignP.calls _ _ _ hsign).mono ?_)
      rintro e w3 ⟨rfl, b3⟩
      have HR3 : Below wr.heap.size wr w3 := below_step (below_step (below_alloc (Below.refl _ wr) _) b2) b3
      have IB3 := sb_below IB.out HR3
      have HS3 : w1.heap.size ≤ w3.heap.size := Nat.le_trans HS.out HR3.size
      have hle := textL_le a0 l q
      go_wp2_with (go_at_call 31; refine (sb_WriteByte w1.heap.size w1.heap.size _ _ _ IB3 (by rw [Lib.byteCells_length]; omega) HS3).mono ?_)
      rintro e w4 ⟨rfl, h4, b4⟩
      have BK4 : w4.heap[w.heap.size]? = some (.cells #[.int .i64 a0, .slice (some ad) l.length c] 29 (0, 0)) := (b4.block _ hlt1).trans (blk_below BK.out HR3)
      have hy0 : w4.cell? ⟨w.heap.size, 0, none⟩ = some (.int .i64 a0) := (blk_cell BK4 0).trans rfl
      have HB4 : Below w.heap.size w w4 := below_weaken (below_step HB.out HR3) HB1.size b4
      have HS4 : w1.heap.size ≤ w4.heap.size := Nat.le_trans HS3 b4.size
      rw [show Lib.byteCells (textL a0 l q) ++ [Value.int .u8 ((sgB l q : Nat) : Int)] = Lib.byteCells (textL a0 l q ++ [(sgB l q).toUInt8]) from (Lib.byteCells_snoc _ hsgl).symm] at h4
      clear b2 b3 b4 hx0 hx1 hz0 hz1 htyped hsign IB3 IB BK HB HS
      by_cases hm : (q : Int) % a0 = wrap64 (a0 - 1)
      · have hmb : ((q : Int) % a0 == wrap64 (a0 - 1)) = true := beq_iff_eq.mpr hm
        go_wp2
        go_quiet (fail)
        have HR5 : Below w4.heap.size w4 (w4.drewN nq) := by first | exact pw_below_drewN (Below.refl _ w4) _ | (apply pw_below_drewN; exact Below.refl _ w4)
        have BK5 := blk_below BK4 HR5
        have HS5 : w1.heap.size ≤ (w4.drewN nq).heap.size := Nat.le_trans HS4 HR5.size
        go_wp2_with (go_at_call 31; refine (sb_WriteByte w1.heap.size w1.heap.size _ _ _ (sb_below (.inr h4) HR5) (by rw [Lib.byteCells_length]; simp; omega) HS5).mono ?_)
        rintro e w6 ⟨rfl, h6, b6⟩
        rw [show Lib.byteCells (textL a0 l q ++ [(sgB l q).toUInt8]) ++ [Value.int .u8 10] = Lib.byteCells (textL a0 l (q + 1)) from by
          rw [textL, if_pos hm]
          exact (Lib.byteCells_snoc _ (a := 10) (by decide)).symm] at h6
        go_wp2
        have hw : wrap64 ((q : Int) + 1) = ((q + 1 : Nat) : Int) := by rw [w64 _ (by omega) (by omega)]; omega
        go_roundg g
        case measure => omega
        case rel => exact ⟨q + 1, by simp [hw], by omega, ⟨.inr h6⟩, ⟨(b6.block _ hlt1).trans BK5⟩, ⟨below_weaken (below_step HB4 HR5) HB1.size b6⟩, ⟨Nat.le_trans HS5 b6.size⟩⟩
      · have hmb : ((q : Int) % a0 == wrap64 (a0 - 1)) = false := beq_eq_false_iff_ne.mpr hm
        go_wp2
        go_quiet (fail)
        have HR5 : Below w4.heap.size w4 (w4.drewN nq) := by first | exact pw_below_drewN (Below.refl _ w4) _ | (apply pw_below_drewN; exact Below.refl _ w4)
        have BK5 := blk_below BK4 HR5
        rw [show Lib.byteCells (textL a0 l q ++ [(sgB l q).toUInt8]) = Lib.byteCells (textL a0 l (q + 1)) from by rw [textL, if_neg hm]] at h4
        go_wp2
        have hw : wrap64 ((q : Int) + 1) = ((q + 1 : Nat) : Int) := by rw [w64 _ (by omega) (by omega)]; omega
        go_roundg g
        case measure => omega
        case rel => exact ⟨q + 1, by simp [hw], by omega, ⟨sb_below (.inr h4) HR5⟩, ⟨BK5⟩, ⟨below_step HB4 HR5⟩, ⟨Nat.le_trans HS4 HR5.size⟩⟩
theorem impl_GridText.calls (k : Nat) (a0_0 : Int) (A0_1 : Option Addr) (c0_1 : Nat) (l0_1 : List S39) (r : ByteArray) (w : World) (hr0_1 : Kd.C k39 w A0_1 l0_1.length l0_1) (hc0_1 : l0_1.length ≤ c0_1) (h : impl_GridText.f k a0_0 l0_1 = some r) :
    Calls Try.prog 13 #[.agg #[.int .i64 a0_0, .slice A0_1 l0_1.length c0_1]] w fun e w' => e = .returned (.string r) ∧ Below w.heap.size w w' := by
  unfold impl_GridText.f at h
  by_cases hk : l0_1.length + 20 ≤ k ∧ l0_1.length ≤ 1099511627776
  · rw [if_pos hk] at h
    obtain rfl := Option.some.inj h
    have hok := impl_GridOk_some a0_0 l0_1 hk.2 k (by omega)
    unfold textOf
    cases hb : gridOkB a0_0 l0_1 with
    | false =>
      rw [hb] at hok
      rw [if_neg (by decide)]
      exact impl_GridText_no k a0_0 A0_1 c0_1 l0_1 w hr0_1 hc0_1 hok
    | true =>
      rw [hb] at hok
      rw [if_pos rfl]
      unfold gridOkB shapeB at hb
      simp only [Bool.and_eq_true, decide_eq_true_eq] at hb
      exact impl_GridText_yes k a0_0 A0_1 c0_1 l0_1 w hr0_1 hc0_1 hk.2 hb.1.1 hb.2 hok
  · rw [if_neg hk] at h
    cases h
end Go.Proofs.Ytpjdhpkfenohgaa.P
