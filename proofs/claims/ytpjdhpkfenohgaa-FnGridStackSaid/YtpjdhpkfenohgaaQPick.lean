/- PROVED: what a draw picks out of n is a number from 0 to n-1, and its place moves on by one. Conditions: the code is bytes, the place is below a thousand millions. -/
import Derived.Test.YtpjdhpkfenohgaaPx17
import Derived.Test.YtpjdhpkfenohgaaPx16
import Derived.Laws.BitsAllLaws
import Derived.Test.YtpjdhpkfenohgaaQBase
namespace Go.Proofs.Ytpjdhpkfenohgaa.P
open Go.RowKit Go.Proofs.YtpjdhpkfenohgaaW.PrintWords Go.Proofs.YtpjdhpkfenohgaaW.PrintLast Go.Proofs.YtpjdhpkfenohgaaW.PrintMore
set_option linter.unusedVariables false
set_option linter.unusedSimpArgs false

theorem xor_i64 (a b : Int) (h0 : 0 ≤ a) (h1 : a < 4611686018427387904) (h2 : 0 ≤ b) (h3 : b < 4611686018427387904) :
    0 ≤ Go.bits .xor .i64 a b ∧ Go.bits .xor .i64 a b < 4611686018427387904 := by
  obtain ⟨a, rfl⟩ := Int.eq_ofNat_of_zero_le h0
  obtain ⟨b, rfl⟩ := Int.eq_ofNat_of_zero_le h2
  have hx : a ^^^ b < 2 ^ 62 := Nat.xor_lt_two_pow (by omega) (by omega)
  have e1 : (BitVec.ofInt 64 (a : Int)).toNat = a := by
    rw [BitVec.ofInt_natCast, BitVec.toNat_ofNat]
    exact Nat.mod_eq_of_lt (by omega)
  have e2 : (BitVec.ofInt 64 (b : Int)).toNat = b := by
    rw [BitVec.ofInt_natCast, BitVec.toNat_ofNat]
    exact Nat.mod_eq_of_lt (by omega)
  have e : Go.bits .xor .i64 (a : Int) (b : Int) = ((a ^^^ b : Nat) : Int) := by
    show IntKind.i64.wrap ((BitVec.ofInt 64 (a : Int) ^^^ BitVec.ofInt 64 (b : Int)).toNat : Int) = _
    rw [BitVec.toNat_xor, e1, e2, IntKind.wrap_i64]
    omega
  rw [e]
  omega
/-- A code's bytes. -/
def Bytes (s : List Int) : Prop := ∀ x ∈ s, 0 ≤ x ∧ x ≤ 255
theorem Bytes.at_ {s : List Int} (h : Bytes s) (i : Int) : 0 ≤ rd s i ∧ rd s i ≤ 255 := by
  unfold rd
  rw [List.getD_eq_getElem?_getD]
  cases hh : s[i.toNat]? with
  | none => simp
  | some x => exact h x (List.mem_of_getElem? hh)
theorem Bytes.take {s : List Int} (h : Bytes s) (n : Nat) : Bytes (s.take n) := fun x hx => h x (List.mem_of_mem_take hx)
theorem bytes_of {l : List Int} (h : ∀ x ∈ l, (Lit.int .u8 x).wf = true) : Bytes l := by
  intro x hx
  have := h x hx
  simp [Lit.wf, IntKind.min, IntKind.max, IntKind.bits, IntKind.signed] at this
  omega
theorem pick_some (s : List Int) (hs : Bytes s) (p n : Int) (hp : 0 ≤ p) (hp1 : p ≤ 1000000000) (k : Nat) :
    ∃ v, spec_l6Rd_pick.f (k + 1) s p n = some (v, p + 1) ∧ 0 ≤ v ∧ (1 ≤ n → v < n) := by
  unfold spec_l6Rd_pick.f
  rw [w64 (p + 1) (by omega) (by omega)]
  by_cases hn : n < 1
  · rw [if_pos hn]
    exact ⟨0, by simp [spec_l6Rd_pick.j0], by omega, fun h => by omega⟩
  · rw [if_neg hn]
    by_cases hl : (s.length : Int) = 0
    · refine ⟨0, ?_, by omega, fun h => by omega⟩
      have e : ((s.length : Int) == 0) = true := by simpa using hl
      rw [e]
      simp [spec_l6Rd_pick.j0]
    · have e : ((s.length : Int) == 0) = false := by simpa using hl
      rw [e]
      simp only [spec_l6Rd_pick.j0]
      rw [if_neg (show ¬ (false = true) by decide)]
      have ep : p + 1 - 1 = p := by omega
      rw [ep, w64 p (by omega) (by omega)]
      by_cases hi : p < (s.length : Int)
      · rw [if_pos hi, if_pos hp, if_neg (show ¬ n = 0 by omega)]
        have hb := hs.at_ p
        rw [w64 (rd s p) (by omega) (by omega)]
        have := tmod_in (rd s p) n hb.1 (by omega)
        exact ⟨_, rfl, this.1, fun _ => this.2⟩
      · rw [if_neg hi, if_neg hl]
        have hlp : 1 ≤ (s.length : Int) := by omega
        have m1 := tmod_in p (s.length : Int) hp hlp
        rw [if_pos m1.1, if_pos m1.2]
        rw [w64 (p * 7) (by omega) (by omega), w64 (p * 7 + 3) (by omega) (by omega)]
        have m2 := tmod_in (p * 7 + 3) (s.length : Int) (by omega) hlp
        rw [if_pos m2.1, if_pos m2.2, if_neg (show ¬ n = 0 by omega)]
        have b1 := hs.at_ (Int.tmod p (s.length : Int))
        have b2 := hs.at_ (Int.tmod (p * 7 + 3) (s.length : Int))
        generalize rd s (Int.tmod p (s.length : Int)) = x1 at *
        generalize rd s (Int.tmod (p * 7 + 3) (s.length : Int)) = x2 at *
        have d1 : 0 ≤ Int.tdiv p (s.length : Int) ∧ Int.tdiv p (s.length : Int) ≤ p := by
          rw [Int.tdiv_eq_ediv_of_nonneg hp]
          exact ⟨Int.ediv_nonneg hp (by omega), Int.ediv_le_self _ hp⟩
        generalize Int.tdiv p (s.length : Int) = x3 at *
        rw [w64 x1 (by omega) (by omega), w64 x2 (by omega) (by omega), w64 x3 (by omega) (by omega), w64 (x1 * 131) (by omega) (by omega), w64 (x2 * 1117) (by omega) (by omega),
          w64 (p * 29) (by omega) (by omega), w64 (x3 * 53) (by omega) (by omega), w64 (x1 * 131 + x2 * 1117) (by omega) (by omega), w64 (x1 * 131 + x2 * 1117 + p * 29) (by omega) (by omega),
          w64 (x1 * 131 + x2 * 1117 + p * 29 + x3 * 53) (by omega) (by omega)]
        have hX : 0 ≤ x1 * 131 + x2 * 1117 + p * 29 + x3 * 53 ∧ x1 * 131 + x2 * 1117 + p * 29 + x3 * 53 < 4611686018427387904 := by omega
        generalize x1 * 131 + x2 * 1117 + p * 29 + x3 * 53 = X at *
        have d2 : 0 ≤ Int.tdiv X 64 ∧ Int.tdiv X 64 ≤ X := by
          rw [Int.tdiv_eq_ediv_of_nonneg hX.1]
          exact ⟨Int.ediv_nonneg hX.1 (by omega), Int.ediv_le_self _ hX.1⟩
        rw [w64 (Int.tdiv X 64) (by omega) (by omega)]
        have hY := xor_i64 X (Int.tdiv X 64) hX.1 hX.2 d2.1 (by omega)
        have := tmod_in _ n hY.1 (by omega)
        exact ⟨_, rfl, this.1, fun _ => this.2⟩
theorem l6Open_some (s : List Int) (hs : Bytes s) : ∃ s', spec_l6Open.f s = some (s', 0) ∧ Bytes s' := by
  unfold spec_l6Open.f
  by_cases h : (s.length : Int) > 2000
  · rw [if_pos h, if_pos (by omega)]
    exact ⟨_, rfl, hs.take 2000⟩
  · rw [if_neg h]
    exact ⟨s, rfl, hs⟩
end Go.Proofs.Ytpjdhpkfenohgaa.P
